/-
  UndoBack: walks and plain facts.
-/
import Derived.Test.YtbplamgacibdaaaGreatDoorPGC8
set_option linter.unusedVariables false
set_option linter.unusedSimpArgs false
set_option maxRecDepth 100000
set_option maxHeartbeats 4000000
namespace Go.Proofs.YtbplamgacibdaaaGreatDoor.Tr
open List
open Go.Proofs.Tryz
open Go.Lib (compareBytes)
variable {t:aF} {h:Nat} {k:K}
theorem By:∀{a b:List (K×Int)},a.Pairwise (fun x y=>bG x.1 y.1)->b.Pairwise (fun x y=>bG x.1 y.1)->(∀x,x∈a↔x∈b)->a=b
 | [],[],_,_,_=>rfl
 | [],y::b,_,_,h=>absurd ((h y).2 mem_cons_self) bq
 | x::a,[],_,_,h=>absurd ((h x).1 mem_cons_self) bq
 | x::a,y::b,ha,hb,h=>by
  obtain⟨a1,a2⟩:=pairwise_cons.1 ha;obtain⟨b1,b2⟩:=pairwise_cons.1 hb;have E:x=y:=by
   rcases mem_cons.1 ((h x).1 mem_cons_self) with e|e
   ·exact e
   rcases mem_cons.1 ((h y).2 mem_cons_self) with e2|e2
   ·exact e2.symm
   exact absurd (a1 y e2) (vt (b1 x e))
  subst E;congr 1;refine By a2 b2 fun z=>⟨fun hz=>?_,fun hz=>?_⟩
  ·rcases mem_cons.1 ((h z).1 (mem_cons_of_mem _ hz)) with e|e
   ·subst e;exact absurd (a1 z hz) (jS _)
   exact e
  rcases mem_cons.1 ((h z).2 (mem_cons_of_mem _ hz)) with e|e
  ·subst e;exact absurd (b1 z hz) (jS _)
  exact e

end Go.Proofs.YtbplamgacibdaaaGreatDoor.Tr
namespace Go.Proofs.YtbplamgacibdaaaGreatDoor.Ba
open List
open Go.Proofs.Tryz
open Go.RowKit V Pk Tr Vl Go.Proofs.YtbplamgacibdaaaGreatDoor.Nm Pc Cd Ex Tw
theorem ags(t:az):(cG t).all V.one=true:=rfl
variable {G:List (Nat×List Value)}

end Go.Proofs.YtbplamgacibdaaaGreatDoor.Ba
namespace Go.Proofs.YtbplamgacibdaaaGreatDoor.Ba
open List
open Go.Proofs.Tryz
open Go.RowKit V Pk Tr Vl Go.Proofs.YtbplamgacibdaaaGreatDoor.Nm Pc Cd Ex Tw
open Pa (bp aY)
variable {G:List (Nat×List Value)} {m:Int}
noncomputable def oM(l:List az)(nm:ByteArray):List (List Vl)×Int:=if aN l nm<0 then ([],8) else ((dg (l.getD (aN l nm).toNat ⟨nm,[],[],nL⟩).ix).map fun x=>rowAt (l.getD (aN l nm).toNat ⟨nm,[],[],nL⟩) x.2,0)
theorem P6:(Tryz.prog.info? 40).map (fun i=>(i.zero,i.size,i.bytes))=some (some (.slice none 0 0),1,24):=by kernel_rfl
theorem B0(hm:(3,marksC)∈G)(hw:(1,wordsC)∈G)(ht:(0,typesC)∈G)(hG:(2,[Value.int .i64 m])∈G)(l:List az){n:Nat}(g:lg l n)(nm:ByteArray):VP Tryz.prog G 10 [.agg [ap 5 cG (l)],bg nm] (.da [.list 1 ((oM l nm).1.flatMap ev) (oM l nm).1.length,ae (oM l nm).2]):=by
 exact z6

end Go.Proofs.YtbplamgacibdaaaGreatDoor.Ba
namespace Go.Proofs.YtbplamgacibdaaaGreatDoor.Ba
open List
open Go.Proofs.Tryz
open Go.RowKit V Pk Tr Vl Go.Proofs.YtbplamgacibdaaaGreatDoor.Nm Pc Cd Ex Tw
open Pa (bp aY dZ dA dH di dO ei dD cX bK Ph)
variable {G:List (Nat×List Value)} {m:Int}
variable {t:az} {n i:Nat}
theorem KV{v:Vl}(h:de v=0)(hk:v.k=2):gg [v]=(fW [v],0):=by
 exact YF
theorem Qz(g:cQ t n){i:Int}(h:fh t i):∃(v:Vl) (r:List Vl),rowAt t i=v::r/\r.length=3/\v.k=2/\v.s.size=0/\v.Ok/\de v=0/\cg (rowAt t i)=fW [v]:=by
 obtain⟨h4,aW⟩:=fh.ok g h;obtain⟨h0,h1,h2⟩:=h;have hf:=(g.row _ h1 h2).1;rw[<-iS h1] at hf;match hr:rowAt t i,h4 with
 | v::r,h4 =>
  rw[hr] at hf aW;obtain⟨hv,hc⟩:=aW v mem_cons_self;have hk:v.k=2:=by
   unfold Pc.dY at hf;rw[if_neg AJ,if_neg xM] at hf;unfold dF Pc.pA at hf;split at hf
   ·rename_i h1;exact absurd hf h1
   rename_i h1;have h1:=Decidable.not_not.1 h1;unfold Pc.l8 at h1;rw[if_neg (by rw[hc];decide)] at h1;split at h1
   ·cases h1
   rename_i h3;exact Decidable.not_not.1 fun e=>h3 ⟨e,.inl rfl⟩
  refine⟨v,r,rfl,by simpa using h4,hk,?_,hv,hc,?_⟩
  ·unfold de at hc;rw[if_neg w4,if_neg w4,if_pos hk] at hc;split at hc
   ·cases hc
   rename_i h3;exact Decidable.not_not.1 h3
  unfold cg;rw[show(v::r).take 1=[v] from rfl,KV hc hk]
noncomputable def jF(t:az):List (List Vl):=(dg t.ix).map fun x=>rowAt t x.2
theorem zH{l:List az}{nm:ByteArray}(h:aN l nm=(i:Int))(hi:i<l.length):oM l nm=(jF l[i],0):=by
 exact WO
theorem TJ(g:cQ t n)(h:i<(jF t).length):∃h':i<(dg t.ix).length,(jF t)[i]=rowAt t (dg t.ix)[i].2/\fh t (dg t.ix)[i].2/\(dg t.ix)[i].1=cg (rowAt t (dg t.ix)[i].2):=by
 exact Yv
theorem IT(g:cQ t n)(h:i<(jF t).length):∃(v:Vl) (r:List Vl),(jF t)[i]=v::r/\r.length=3/\v.k=2/\v.s.size=0/\v.Ok/\de v=0:=by
 exact WH
theorem J1(g:cQ t n):(jF t).length<=16000:=by
 have:=JU g.ix [] [];rw[Bw] at this;unfold jF;rwa [length_map]

theorem TH{α:Type}{a b:α}(h:gk a b=true):a=b:=by unfold gk at h;simpa using h
theorem E9(a b:List Vl)(ha:a.length<=1000000)(hb:b.length<=1000000):VP Tryz.prog G 19 [ap 3 cV a,ap 3 cV b] (bP (gk a b)):=by
 exact XY
theorem J2(a b:List (List Vl))(ha:a.length<=1000000)(hb:b.length<=1000000)(ra:∀r∈a,r.length<=1000000)(rb:∀r∈b,r.length<=1000000):VP Tryz.prog G 11 [ap 1 ev a,ap 1 ev b] (bP (gk a b)):=by
 exact XZ

theorem J3(g:cQ t n):∀r∈jF t,r.length<=1000000:=fun r hr=>by
 obtain⟨i,hi,rfl⟩:=mem_iff_getElem.1 hr;obtain⟨v,r,e,h,_⟩:=IT g hi;rw[e,length_cons,h];decide

theorem Tv{t:az}:∀(l:List (K×Int)) (acc:List Int),lK t [] acc l=(acc++l.map Prod.snd,0)
 | [],acc=>by simp[lK]
 | x::l,acc=>by rw[lK,if_neg w8,Tv l];simp
theorem BV(g:cQ t n):ax t []=((dg t.ix).map Prod.snd,0):=by
 unfold ax;have hb:je t.ay []=(([],[]),0):=(by rw[g.ay];decide +kernel)
 rw[hb,if_neg w8,Tv];show([]++(py t.ix [] []).map Prod.snd,0)=_;rw[Bw];rfl

end Go.Proofs.YtbplamgacibdaaaGreatDoor.Ba
namespace Go.Proofs.YtbplamgacibdaaaGreatDoor.Ba
open List
open Go.Proofs.Tryz
open Go.RowKit V Pk Tr Vl Go.Proofs.YtbplamgacibdaaaGreatDoor.Nm Pc Cd Ex Tw
open Pa (bp aY dZ dA dH di dO ei dD cX bK Ph)
variable {t:az} {n:Nat} {i j:Int} {L:List Int} {was:List (List Vl)} {x y:ByteArray}
theorem Jo(g:cQ t n)(h:fh t i):dg (mc t i).ix=(dg t.ix).filter fun x=>decide (x.2≠i):=by
 exact Yi
theorem J4(hi:0<=i)(hj:0<=j)(h:j≠i):rowAt (mc t i) j=rowAt t j:=by
 exact WG
theorem Bt{n:Nat}:∀{l:List Int} {t:az},cQ t n->l.Nodup->(∀i∈l,fh t i)->dg (kw t l).ix=(dg t.ix).filter (fun x=>decide (x.2∉l))/\∀j,0<=j->j∉l->rowAt (kw t l) j=rowAt t j
 | [],t,g,_,_=>⟨by rw[kw];exact(filter_eq_self.2 fun x _=>decide_eq_true bq).symm,fun j _ _=>rfl⟩
 | i::r,t,g,hn,hi=>by
  rw[nodup_cons] at hn;have h1:=hi i mem_cons_self;obtain⟨e1,e2⟩:=Bt (E6 g h1) hn.2 fun j hj=>FT (hi j (mem_cons_of_mem _ hj)) (fun e=>hn.1 (e ▸ hj)) h1.1;rw[kw];refine⟨?_,fun j hj hm=>?_⟩
  ·rw[e1,Jo g h1,filter_filter];refine filter_congr fun x _=>?_;by_cases a:x.2=i<;>by_cases b:x.2∈r<;>simp[a,b]
  rw[e2 j hj fun E=>hm (mem_cons_of_mem _ E),J4 h1.1 hj fun e=>hm (e ▸ mem_cons_self)]

theorem J6(g:cQ t n)(h:fh t i):Pc.dY dF (rowAt t i)=0/\∀v∈rowAt t i,v.Ok:=by
 obtain⟨h0,h1,h2⟩:=h;rw[iS h1];exact⟨(g.row _ h1 h2).1,(g.row _ h1 h2).2.1⟩

theorem BJ(t:az)(i:Int)(c:Nat)(v:Vl):(mJ t i c v).rows.length=t.rows.length:=length_set
theorem xj{c:Nat}{v:Vl}(hi:0<=i)(hj:0<=j)(hl:i.toNat<t.rows.length):rowAt (mJ t i c v) j=if j=i then (rowAt t i).set c v else rowAt t j:=by
 exact Yx
theorem E8{c:Nat}:∀(l:List Int) (vs:List Vl) (t:az),l.Nodup->l.length=vs.length->(∀i∈l,0<=i/\i.toNat<t.rows.length)->(eH c t l vs).ix=t.ix/\(∀j,0<=j->j∉l->rowAt (eH c t l vs) j=rowAt t j)/\∀k (h1:k<l.length) (h2:k<vs.length),rowAt (eH c t l vs) l[k]=(rowAt t l[k]).set c vs[k]
 | [],[],t,_,_,_=>⟨rfl,fun _ _ _=>rfl,fun k h=>absurd h (Nat.not_lt_zero _)⟩
 | i::r,v::s,t,hn,hl,hi=>by
  rw[nodup_cons] at hn;obtain⟨i0,i1⟩:=hi i mem_cons_self;obtain⟨e1,e2,O⟩:=E8 (c:=c) r s (mJ t i c v) hn.2 uI fun j hj=>by rw[BJ];exact hi j (mem_cons_of_mem _ hj)
  rw[eH];refine⟨e1.trans rfl,fun j hj hm=>?_,fun k h1 h2=>?_⟩
  ·rw[e2 j hj fun h=>hm (mem_cons_of_mem _ h),xj i0 hj i1,if_neg (fun e=>hm (by rw[e];exact mem_cons_self))]
  match k with
  | 0 =>
   show rowAt _ i=(rowAt t i).set c v;rw[e2 i i0 hn.1,xj i0 i0 i1,if_pos rfl]
  | k+1 =>
   have E:k<r.length:=(by simpa using h1)
   have I:k<s.length:=(by simpa using h2)
   show rowAt _ r[k]=(rowAt t r[k]).set c s[k];have hk:=getElem_mem E;rw[O k E I,xj i0 (hi _ (mem_cons_of_mem _ hk)).1 i1,if_neg (fun e=>hn.1 (by rw[<-e];exact hk))]

noncomputable def yc(t:az):List Int:=(dg t.ix).map Prod.snd
theorem ahP(g:cQ t n)(i:Int):i∈yc t↔fh t i:=by
 unfold yc;rw[mem_map];constructor
 ·rintro⟨x,hx,rfl⟩;obtain⟨x0,x1,E,_⟩:=g.gH x hx;exact⟨x0,x1,E⟩
 intro h;exact⟨_,h.gH g,rfl⟩
theorem aeT(g:cQ t n):(yc t).Pairwise (wB t):=by have:=Fv g [];rwa [BV g] at this
theorem aeU(t:az):jF t=(yc t).map (rowAt t):=by unfold jF yc;rw[map_map];rfl
theorem ac8(g:cQ t n)(hL:∀i,i∈L↔fh t i)(hp:L.Pairwise (wB t)):dg t.ix=L.map fun i=>(cg (rowAt t i),i):=by
 refine By (y7 g.ix.val) ?_ fun x=>?_
 ·rw[pairwise_map];exact hp
 rw[mem_map];constructor
 ·intro hx;obtain⟨x0,x1,E,x3⟩:=g.gH x hx;exact⟨x.2,(hL _).2 ⟨x0,x1,E⟩,by rw[iS x1,<-x3]⟩
 rintro⟨i,hi,rfl⟩;exact((hL i).1 hi).gH g
theorem ac9(g:cQ t n)(hL:∀i,i∈L↔fh t i)(hp:L.Pairwise (wB t)):jF t=L.map (rowAt t):=by
 unfold jF;rw[ac8 g hL hp,map_map];rfl
theorem BK{c:Nat}:∀(l:List Int) (vs:List Vl) (t t':az),t.rows=t'.rows->(eH c t l vs).rows=(eH c t' l vs).rows
 | [],_,t,t',h=>by unfold eH;exact h
 | _::_,[],t,t',h=>by unfold eH;exact h
 | i::r,v::s,t,t',h=>by
  rw[eH,eH];refine BK r s _ _ ?_;show t.rows.set i.toNat ((t.rows.getD i.toNat []).set c v)=t'.rows.set i.toNat ((t'.rows.getD i.toNat []).set c v);rw[h]
theorem EO:∀(l:List Int) (vs:List Vl) (t:az),(gd t l vs).2=0->(gd t l vs).1.rows=(eH 0 t l vs).rows
 | [],_,t,_=>by unfold gd eH;rfl
 | _::_,[],t,_=>by unfold gd eH;rfl
 | i::r,v::s,t,h=>by
  rw[gd] at h |-;cases gG:gS t.ix (cg (rowAt (mJ t i 0 v) i)) (c9 t.ix) with
  | true=>rw[gG,if_pos rfl] at h;cases h
  | false =>
   rw[gG,if_neg w8] at h;rw[if_neg w8,EO r s _ h,eH];exact BK r s _ _ rfl

noncomputable def fC(was now:List (List Vl))(n:Nat):List Int:=((range n).filter fun i=>(!(gk (now.getD i []) (was.getD i [])))||decide (was.length<=i)).map Int.ofNat
theorem tT(was now:List (List Vl))(n:Nat):fC was now (n+1)=fC was now n++(if ((!(gk (now.getD n []) (was.getD n [])))||decide (was.length<=n))=true then [(n:Int)] else []):=by
 exact Yt
theorem xk(was:List (List Vl)):∀n,n<=was.length->fC was was n=[]
 | 0,_=>rfl
 | n+1,h=>by
  rw[tT,xk was n w4,if_neg]
  ·rfl
  rw[nW rfl];simp;omega
theorem B3{now:List (List Vl)}(hl:now.length=was.length)(h:∀j:Nat,(j:Int)∉L->now.getD j []=was.getD j []):(fC was now now.length).length<=L.length:=by
 exact Yj
theorem KW(row:List Vl):fC was (was++[row]) (was++[row]).length=[(was.length:Int)]:=by
 exact Yl
theorem rf(t:az)(j:Nat):t.rows.getD j []=rowAt t (j:Int):=by unfold rowAt;rw[Int.toNat_natCast]
theorem BL:∀(l:List Int) (t:az),(kw t l).rows.length=t.rows.length
 | [],_=>rfl
 | i::r,t=>by rw[kw,BL r];show(t.rows.set _ _).length=_;rw[length_set]
theorem Bx(c:Nat):∀(l:List Int) (vs:List Vl) (t:az),(eH c t l vs).rows.length=t.rows.length
 | [],_,t=>by unfold eH;rfl
 | _::_,[],t=>by unfold eH;rfl
 | i::r,v::s,t=>by rw[eH,Bx c r s,BJ]
theorem J5(g:cQ t n)(s:bp)(hz:(eS t s).2.2=0):(eS t s).1.rows.length=t.rows.length/\(eS t s).2.1=((ax t s.aj).1.length:Int)/\(eS t s).1.nm=t.nm/\(eS t s).1.ay=t.ay/\∀j:Nat,(j:Int)∉(ax t s.aj).1->(eS t s).1.rows.getD j []=t.rows.getD j []:=by
 exact z12
theorem Jp{row:List Vl}(h:(fu t row).2=0):(fu t row).1.rows=t.rows++[row]:=by
 unfold fu at h |-;by_cases h1:Pc.dY t.ay row≠0
 ·exact CB
 rw[if_neg h1] at h |-;split at h
 ·cases h
 rename_i h2;rw[if_neg h2];split at h
 ·cases h
 rename_i h3;rw[if_neg h3]
theorem KX{l:List az}{a c:Nat}(gn:l7 l a c)(O:a+c<=30)(h:l.map az.nm=bK)(h0:0<l.length){s:bp}(hg:dH s)(ht:s.table=⟨#[116]⟩)(lA:3<=s.kind) :
  (∃e,kI l s=(([],(([],0),e)):List az×((List (List Vl)×Int)×Int))/\e≠0)\/∃t q a' E,kI l s=(l.set 0 t,(q,0))/\l7 (l.set 0 t) a' E/\(l.set 0 t).map az.nm=bK/\l[0].rows.length<=t.rows.length/\((fC l[0].rows t.rows t.rows.length).length:Int)<=(if s.kind=4 then 0 else q.2):=by
 have g:=gn.g.tb _ (getElem_mem h0);have wi:=hg.2.2.1;rcases KU l s with he|⟨he,hz⟩
 ·exact .inl he
 right;have cM:¬s.kind=1:=(by omega)
 obtain⟨a',E,_,g',_,wm⟩:=wZ gn O (dH.st hg) w4 (BZ hg) (fun e=>absurd e cM) hz;have gA:=(wm cM).trans h;have ha:aN l s.table=0:=(by rw[ht];exact x9 h)
 have iW:l.getD (0:Int).toNat (gW s)=l[0]:=(by show l.getD 0 _=_;rw[getD_eq_getElem?_getD,getElem?_eq_getElem h0];rfl)
 by_cases hk:s.kind=3
 ·have hr:eK l s=(l.set 0 (fu l[0] s.row).1,((([]:List (List Vl)),(1:Int)),(fu l[0] s.row).2)):=by
   unfold eK;rw[if_neg cM,ha,if_neg w4,if_pos hk,iW];rfl
  rw[hr] at he hz g' gA;have hq:=Jp hz;refine⟨_,_,a',E,he,g',gA,by rw[hq,length_append];omega,?_⟩;rw[hq,KW,if_neg w4];exact Int.le_refl _
 by_cases j8:s.kind=4
 ·have hr:eK l s=(l,oc l[0] s):=by
   unfold eK;rw[if_neg cM,ha,if_neg w4,if_neg hk,if_pos j8,iW]
  rw[hr] at he hz g' gA;have hs:l=l.set 0 l[0]:=(by rw[set_getElem_self])
  refine⟨l[0],(oc l[0] s).1,a',E,by rw[<-hs];exact he,by rw[<-hs];exact g',by rw[<-hs];exact gA,Nat.le_refl _,?_⟩;rw[xk _ _ (Nat.le_refl _),if_pos j8];exact Int.le_refl _
 by_cases I:s.kind=5
 ·have hr:eK l s=(l.set 0 (eS l[0] s).1,((([]:List (List Vl)),(eS l[0] s).2.1),(eS l[0] s).2.2)):=by
   unfold eK;rw[if_neg cM,ha,if_neg w4,if_neg hk,if_neg j8,if_pos I,iW];rfl
  rw[hr] at he hz g' gA;obtain⟨u1,u2,_,_,Z⟩:=J5 g s hz;refine⟨_,_,a',E,he,g',gA,by rw[u1];exact Nat.le_refl _,?_⟩;have:=B3 u1 Z;rw[if_neg j8];show _<=(eS l[0] s).2.1;rw[u2];omega
 have hr:eK l s=(l.set 0 (iT l[0] s.aj).1,((([]:List (List Vl)),(iT l[0] s.aj).2.1),(iT l[0] s.aj).2.2)):=by
  unfold eK;rw[if_neg cM,ha,if_neg w4,if_neg hk,if_neg j8,if_neg I,iW];rfl
 rw[hr] at he hz g' gA;have U:¬(ax l[0] s.aj).2≠0:=fun e=>by
  have:(iT l[0] s.aj).2.2=(ax l[0] s.aj).2:=(by unfold iT;rw[if_pos e])
  rw[this] at hz;exact e hz
 have hm:iT l[0] s.aj=(kw l[0] (ax l[0] s.aj).1,((ax l[0] s.aj).1.length:Int),(0:Int)):=(by unfold iT;rw[if_neg U])
 rw[hm] at he g' gA;obtain⟨_,e2⟩:=Bt g (wN g s.aj) (rq g s.aj);have hl:=BL (ax l[0] s.aj).1 l[0];refine⟨_,_,a',E,he,g',gA,by rw[hl];exact Nat.le_refl _,?_⟩;have:=B3 (L:=(ax l[0] s.aj).1) hl fun j hj=>by rw[rf,rf];exact e2 _ (Int.natCast_nonneg _) hj
 rw[if_neg j8];exact Int.ofNat_le.2 this

variable {G:List (Nat×List Value)} {m:Int}
theorem Ws(x y:cy):∀w,(Op.equalIn 10000 93 (.agg [.string x.n,.int .i64 x.k].toArray) (.agg [.string y.n,.int .i64 y.k].toArray)).run Tryz.prog w = .ok (x.n.toList==y.n.toList&&x.k==y.k) w:=fun w=>by
 have hS:Tryz.prog.underlying 93=some (.struct (Tryz.prog.fieldsOf 93)):=(by kernel_rfl)
 have hp:Tryz.prog.stoodInHeld 93=false:=(by kernel_rfl)
 rw[show(10000:Nat)=9999+1 from rfl,run_equalIn_agg w 9999 93 _ _ hS hp];have u:=underlying93;have E:=underlying3;have I:=underlying9;have O:=isAgg3;have U:=isAgg9;have Z:=sizeOf3;have z9:=sizeOf9;simp only[Program.fieldsOf,u];go_simp
 by_cases h1:x.n.toList=y.n.toList<;>by_cases h2:x.k=y.k<;>simp[h1,h2]
theorem TG{x y:cy}:(x.n.toList==y.n.toList&&x.k==y.k)=true↔x=y:=by
 exact Yn
theorem IV(a b:List cy)(ha:a.length<=1000000)(hb:b.length<=1000000):VP Tryz.prog G 35 [ap 2 cC a,ap 2 cC b] (bP (gk a b)):=by
 exact z24
theorem IW(a b:List Vl)(ha:a.length<=1000000)(hb:b.length<=1000000):VP Tryz.prog G 36 [ap 3 cV a,ap 3 cV b] (bP (gk a b)):=by
 exact z22
noncomputable def nI(was now:az):List Int×Int:=if now.nm=was.nm then (fC was.rows now.rows now.rows.length,0) else ([],11)
theorem zb(g:cQ t n){i:Nat}(h:i<t.rows.length):(t.rows[i]).length<=1000000:=by
 exact z119
theorem sB{L:List (List Vl)}{i:Nat}(h:i<L.length):L.getD i []=L[i]:=by rw[getD_eq_getElem?_getD,getElem?_eq_getElem h];rfl
theorem BM{L:List (List Vl)}{i:Nat}(h:¬i<L.length):L.getD i []=[]:=by rw[getD_eq_getElem?_getD,getElem?_eq_none w4];rfl
theorem Lu(h:(!(x.toList==y.toList))=false):x=y:=qC.1 (by unfold ja;simpa using h)
theorem VU(h:(!(x.toList==y.toList))=true):¬x=y:=fun e=>by rw[e] at h;simp at h
theorem EN:(Tryz.prog.info? 3).map (fun i=>(i.zero,i.size,i.bytes))=some (some (.int .i64 0),1,8):=by kernel_rfl
theorem y6(hm:(3,marksC)∈G)(hw:(1,wordsC)∈G)(ht:(0,typesC)∈G)(hG:(2,[Value.int .i64 m])∈G)(was now:az){k:Nat}(gw:cQ was n)(gn:cQ now k)(Hs:was.nm.size<=maxLen)(AK:now.nm.size<=maxLen)(hl:now.nm=was.nm->was.rows.length<=now.rows.length):VP Tryz.prog G 17 [.agg (cG was),.agg (cG now)] (.da [.list 1 ((nI was now).1.flatMap Tw.cI) (nI was now).1.length,ae (nI was now).2]):=by
 exact z4

theorem Ls(h:0<=j/\j<4):cx (2+j) 6=2+j:=by
 have:j=0\/j=1\/j=2\/j=3:=(by omega)
 rcases this with rfl|rfl|rfl|rfl<;>decide +kernel
theorem zZ{l:List az}(h:l.map az.nm=bK)(h1:1<l.length):(l[0]'w4).nm=⟨#[116]⟩/\l[1].nm=⟨#[117]⟩:=by
 exact Yw

end Go.Proofs.YtbplamgacibdaaaGreatDoor.Ba
namespace Go.Proofs.YtbplamgacibdaaaGreatDoor.Ba
open List
open Go.Proofs.Tryz
open Go.RowKit V Pk Tr Vl Go.Proofs.YtbplamgacibdaaaGreatDoor.Nm Pc Cd Ex Tw
open Pa (bp aY dZ dA dH di dO ei dD cX bK Ph)
variable {was now:List (List Vl)} {n:Nat}
def nH(was:List (List Vl)):List (List Vl)->List Int->List (List Vl)
 | rs,[]=>rs
 | rs,i::r=>nH was (rs.set i.toNat (was.getD i.toNat [])) r
theorem Fx(was:List (List Vl)):∀(l:List Int) (rs:List (List Vl)),(nH was rs l).length=rs.length
 | [],_=>rfl
 | i::r,rs=>by rw[nH,Fx was r,length_set]
theorem U5(was:List (List Vl)):∀(l:List Int) (rs:List (List Vl)) (j:Nat),(∀i∈l,0<=i)->j<rs.length->(nH was rs l).getD j []=if (j:Int)∈l then was.getD j [] else rs.getD j []
 | [],rs,j,_,_=>by rw[nH,if_neg bq]
 | i::r,rs,j,h0,hj=>by
  have hi:=h0 i mem_cons_self;rw[nH,U5 was r _ j (fun x hx=>h0 x (mem_cons_of_mem _ hx)) vX];by_cases h1:(j:Int)∈r
  ·rw[if_pos h1,if_pos (mem_cons_of_mem _ h1)]
  rw[if_neg h1];by_cases h2:(j:Int)=i
  ·rw[if_pos (by rw[h2];exact mem_cons_self)];have h3:i.toNat=j:=(by omega)
   rw[h3,getD_eq_getElem?_getD,getElem?_set_self hj];rfl
  rw[if_neg (by rw[mem_cons];rintro(h|h);exact h2 h;exact h1 h),getD_eq_getElem?_getD,getElem?_set_ne w4,<-getD_eq_getElem?_getD]
theorem agt{j:Nat}(hj:j<n):(j:Int)∈fC was now n↔¬(now.getD j []=was.getD j []/\j<was.length):=by
 unfold fC;rw[mem_map];constructor
 ·rintro⟨i,hi,e⟩;have e':i=j:=Int.ofNat.inj e;subst e';have:=(mem_filter.1 hi).2;rintro⟨h1,h2⟩;rw[nW h1] at this;simp at this;omega
 intro h;refine⟨j,mem_filter.2 ⟨mem_range.2 hj,?_⟩,rfl⟩;by_cases h1:now.getD j []=was.getD j []
 ·have:was.length<=j:=Nat.le_of_not_lt fun q=>h ⟨h1,q⟩;simp[this]
 rw[ug h1];rfl
theorem U6:∀i∈fC was now n,0<=i/\i<(n:Int):=fun i hi=>by
 unfold fC at hi;obtain⟨j,hj,rfl⟩:=mem_map.1 hi;have:=mem_range.1 (mem_filter.1 hj).1;exact⟨Int.natCast_nonneg _,Int.ofNat_lt.2 this⟩
theorem Ty(h:was.length<=now.length)(j:Nat)(hj:j<now.length):(nH was now (fC was now now.length)).getD j []=was.getD j []:=by
 rw[U5 was _ now j (fun i hi=>(U6 i hi).1) hj];split
 ·rfl
 rename_i hn;rw[agt hj] at hn;exact(Classical.not_not.1 hn).1
noncomputable def j5(rows:List (List Vl)):Nat->aF
 | 0=>nL
 | k+1=>if (rows.getD k []).length=0 then j5 rows k else gF (j5 rows k) (c9 (j5 rows k)) (cg (rows.getD k [])) (k:Int)
theorem FU{rows:List (List Vl)}(hd:∀i j:Nat,rows.getD i []≠[]->rows.getD j []≠[]->cg (rows.getD i [])=cg (rows.getD j [])->i=j)(hk:∀i:Nat,rows.getD i []≠[]->1<=(cg (rows.getD i [])).length/\(cg (rows.getD i [])).length<=100) :
  ∀k,k<=300->iJ (j5 rows k) k/\∀x,x∈dg (j5 rows k)↔∃i:Nat,i<k/\rows.getD i []≠[]/\x=(cg (rows.getD i []),(i:Int))
 | 0,_=>⟨Tc,fun x=>by
  rw[show j5 rows 0=nL from rfl,Td];exact⟨fun h=>(by cases h),fun ⟨i,h,_⟩=>absurd h (Nat.not_lt_zero _)⟩⟩
 | k+1,h3=>by
  obtain⟨g,he⟩:=FU hd hk k w4;rw[j5];by_cases h0:(rows.getD k []).length=0
  ·have E:=length_eq_zero_iff.1 h0;rw[if_pos h0];refine⟨g.mono w4,fun x=>(he x).trans ?_⟩;constructor
   ·rintro⟨i,h1,h2⟩;exact⟨i,by omega,h2⟩
   rintro⟨i,h1,h2,h4⟩;refine⟨i,?_,h2,h4⟩;by_cases e:i=k
   ·subst e;exact absurd E h2
   omega
  have hne:rows.getD k []≠[]:=fun e=>h0 (by rw[e];rfl);rw[if_neg h0];obtain⟨g1,_,g3⟩:=BH g w4 (fun x hx e=>by
   obtain⟨i,h1,h2,rfl⟩:=(he x).1 hx;have:=hd i k h2 hne e;omega) (hk k hne) (Int.natCast_nonneg k)
  refine⟨g1,fun x=>(g3 x).trans ?_⟩;constructor
  ·rintro(rfl|h)
   ·exact⟨k,by omega,hne,rfl⟩
   obtain⟨i,h1,h2⟩:=(he x).1 h;exact⟨i,by omega,h2⟩
  rintro⟨i,h1,h2,rfl⟩;by_cases e:i=k
  ·subst e;exact .inl rfl
  exact .inr ((he _).2 ⟨i,by omega,h2,rfl⟩)
theorem ahQ{rows:List (List Vl)}(hd:∀i j:Nat,rows.getD i []≠[]->rows.getD j []≠[]->cg (rows.getD i [])=cg (rows.getD j [])->i=j)(hk:∀i:Nat,rows.getD i []≠[]->1<=(cg (rows.getD i [])).length/\(cg (rows.getD i [])).length<=100){k:Nat}(h3:k<=300)(hne:rows.getD k []≠[]):gS (j5 rows k) (cg (rows.getD k [])) (c9 (j5 rows k))=false:=by
 obtain⟨g,he⟩:=FU hd hk k h3;refine(BI g).2 fun x hx e=>?_;obtain⟨i,h1,h2,rfl⟩:=(he x).1 hx;have:=hd i k h2 hne e;omega
noncomputable def jw(now was:az):az:={now with rows:=nH was.rows now.rows (fC was.rows now.rows now.rows.length),ix:=j5 (nH was.rows now.rows (fC was.rows now.rows now.rows.length)) now.rows.length}
theorem zx{t:az}{j:Nat}(h:t.rows.getD j []≠[]):fh t (j:Int):=by
 have hj:j<t.rows.length:=Classical.byContradiction fun q=>h (by rw[getD_eq_getElem?_getD,getElem?_eq_none w4];rfl);refine⟨Int.natCast_nonneg _,by rw[Int.toNat_natCast];exact hj,?_⟩;simp only[Int.toNat_natCast];rw[getD_eq_getElem?_getD,getElem?_eq_getElem hj] at h;exact h
theorem Tz{t:az}(g:cQ t n):(∀i j:Nat,t.rows.getD i []≠[]->t.rows.getD j []≠[]->cg (t.rows.getD i [])=cg (t.rows.getD j [])->i=j)/\∀i:Nat,t.rows.getD i []≠[]->1<=(cg (t.rows.getD i [])).length/\(cg (t.rows.getD i [])).length<=100:=by
 refine⟨fun i j h1 h2 h=>?_,fun i h1=>?_⟩
 ·have e1:=(zx h1).gH g;have e2:=(zx h2).gH g;rw[<-rf] at e1 e2;have:=BN g.ix e1 e2 h;simp only[Prod.mk.injEq] at this;omega
 have:=(J6 g (zx h1)).1;rw[<-rf] at this;exact vn this
theorem ada{was now:az}{m:Nat}(gw:cQ was n)(gn:cQ now m)(gA:now.nm=was.nm)(h:was.rows.length<=now.rows.length):cQ (jw now was) 40/\jF (jw now was)=jF was/\∀j:Nat,j<now.rows.length->(jw now was).rows.getD j []=was.rows.getD j []:=by
 have hb:=fun j hj=>Ty (was:=was.rows) (now:=now.rows) h j hj;have hlen:=Fx was.rows (fC was.rows now.rows now.rows.length) now.rows;have ek:∀j,(nH was.rows now.rows (fC was.rows now.rows now.rows.length)).getD j []=was.rows.getD j []:=fun j=>by
  exact z109
 obtain⟨k1,k2⟩:=Tz gw;have jg:=gn.ec;obtain⟨g1,e1⟩:=FU (rows:=nH was.rows now.rows (fC was.rows now.rows now.rows.length)) (fun i j=>by rw[ek,ek];exact k1 i j) (fun i=>by rw[ek];exact k2 i) now.rows.length w4;have E:∀j (hj:j<(jw now was).rows.length),(jw now was).rows[j]=was.rows.getD j []:=fun j hj=>by
  rw[<-ek j,getD_eq_getElem?_getD];show _=((jw now was).rows[j]?).getD [];rw[getElem?_eq_getElem hj];rfl
 have gp:(jw now was).rows.length=now.rows.length:=hlen;have gT:cQ (jw now was) 40:=by
  refine⟨gn.nm,gn.ay,by rw[gp];exact gn.ec,g1.mono jg,fun i hi hne=>?_,fun x hx=>?_⟩
  ·rw[E i hi] at hne |-;obtain⟨f1,f2⟩:=J6 gw (zx hne);rw[<-rf] at f1 f2;exact⟨f1,f2,(e1 _).2 ⟨i,by omega,by rw[ek];exact hne,by rw[ek]⟩⟩
  obtain⟨i,h1,h2,rfl⟩:=(e1 x).1 hx;have hi:i<(jw now was).rows.length:=(by omega)
  refine⟨Int.natCast_nonneg _,by rw[Int.toNat_natCast];exact hi,?_⟩;simp only[Int.toNat_natCast];rw[E i hi];rw[ek] at h2 |-;exact⟨h2,rfl⟩
 refine⟨gT,?_,fun j _=>ek j⟩;have kx:∀i:Int,rowAt (jw now was) i=rowAt was i:=fun i=>ek i.toNat;have hL:∀i,i∈yc was↔fh (jw now was) i:=fun i=>by
  rw[ahP gw];constructor
  ·rintro⟨i0,i1,i2⟩;have hi:i.toNat<(jw now was).rows.length:=(by omega)
   refine⟨i0,hi,?_⟩;rw[E _ hi,getD_eq_getElem?_getD,getElem?_eq_getElem i1];exact i2
  rintro⟨i0,i1,i2⟩;rw[E _ i1] at i2;have:=zx i2;rwa [Int.toNat_of_nonneg i0] at this
 have hp:(yc was).Pairwise (wB (jw now was)):=(aeT gw).imp fun {a b} q=>by
  show bG (cg (rowAt (jw now was) a)) (cg (rowAt (jw now was) b));rw[kx,kx];exact q
 rw[ac9 gT hL hp,aeU];exact map_congr_left fun i _=>kx i

variable {G:List (Nat×List Value)} {m:Int}
theorem ajk{was now:az}{m:Nat}(gw:cQ was n)(gn:cQ now m)(h:was.rows.length<=now.rows.length){R:List (List Vl)}(E:R=nH was.rows now.rows (fC was.rows now.rows now.rows.length)):R.length=now.rows.length/\(∀j,R.getD j []=was.rows.getD j [])/\(∀k,k<=300->iJ (j5 R k) k)/\(∀k,k<=300->R.getD k []≠[]->gS (j5 R k) (cg (R.getD k [])) (c9 (j5 R k))=false)/\(∀k,R.getD k []≠[]->(1<=(cg (R.getD k [])).length/\(cg (R.getD k [])).length<=100)/\(R.getD k []).length=4/\∀v∈R.getD k [],v.Ok):=by
 have hlen:=Fx was.rows (fC was.rows now.rows now.rows.length) now.rows;have hb:=fun j hj=>Ty (was:=was.rows) (now:=now.rows) h j hj;rw[<-E] at hlen hb;have ek:∀j,R.getD j []=was.rows.getD j []:=fun j=>by
  exact z109
 obtain⟨k1,k2⟩:=Tz gw;refine⟨hlen,ek,fun k hk=>(FU (fun i j=>by rw[ek,ek];exact k1 i j) (fun i=>by rw[ek];exact k2 i) k hk).1,fun k hk hne=>ahQ (fun i j=>by rw[ek,ek];exact k1 i j) (fun i=>by rw[ek];exact k2 i) hk hne,fun k hne=>?_⟩;rw[ek] at hne |-;obtain⟨f1,f2⟩:=J6 gw (zx hne);rw[<-rf] at f1 f2;exact⟨k2 k hne,oN f1,f2⟩
theorem Rz{E:List (List Vl)}{l:List Int}{i:Nat}(h:i<l.length):nH was E (l.drop i)=nH was (E.set l[i].toNat (was.getD l[i].toNat [])) (l.drop (i+1)):=by rw[drop_eq_getElem_cons h,nH]
theorem agu(was now:List (List Vl))(n:Nat):(fC was now n).length<=n:=by
 unfold fC;first|rw[length_map]|(show View _ _ (.list _ _ (length _));rw[length_map])|(show View _ _ (.agg [.list _ _ (length _)]);rw[length_map])
 exact Nat.le_trans (length_filter_le _ _) (by rw[length_range];exact Nat.le_refl _)
theorem set_set{α:Type}:∀(l:List α) (i:Nat) (a b:α),(l.set i a).set i b=l.set i b
 | [],_,_,_=>rfl
 | _::_,0,_,_=>rfl
 | x::l,i+1,a,b=>by rw[set_cons_succ,set_cons_succ,set_cons_succ,set_set l i a b]
theorem agv(hm:(3,marksC)∈G)(hw:(1,wordsC)∈G)(ht:(0,typesC)∈G)(hG:(2,[Value.int .i64 m])∈G)(was now:az){k:Nat}(gw:cQ was n)(gn:cQ now k)(Hs:was.nm.size<=maxLen)(AK:now.nm.size<=maxLen)(gA:now.nm=was.nm)(hle:was.rows.length<=now.rows.length):VP Tryz.prog G 18 [.agg (cG now),.agg (cG was),.list 1 ((fC was.rows now.rows now.rows.length).flatMap Tw.cI) (fC was.rows now.rows now.rows.length).length] (.da [.agg (cG (jw now was)),ae 0]):=by
 refine VC.body func18 rfl ntmps18 aU fun X0 w0 bj=>?_;have cR:=dI;have jK:=Bv hm hw ht hG now gn AK;have yj:=Bv hm hw ht hG was gw Hs;have rQ:=IV (G:=G) now.ay was.ay (by rw[gn.ay];decide) (by rw[gw.ay];decide);rw[nW (by rw[gn.ay,gw.ay])] at rQ;have hfn:=gn.ec;have Ht:=gw.ec;have Pq:=gn.small;have hb:(!(now.nm.toList==was.nm.toList))=false:=(by rw[gA];simp)
 have U:=U6 (was:=was.rows) (now:=now.rows) (n:=now.rows.length);obtain⟨hRl,hRw,hRg,hRt,hRk⟩:=ajk gw gn hle rfl;have nO:=Vx (G:=G);unfold jw;have hsf:=agu was.rows now.rows now.rows.length;generalize YM:fC was.rows now.rows now.rows.length=sl at *;generalize hR:nH was.rows now.rows sl=R at *;unfold Tw.cT at nO;unfold cG at jK yj |-;refine bS ?_;refine OD.box (ds:=[_,_,_,_,_]) aq rfl rfl ot rfl rfl (fun b3=>?_);refine OD.box (ds:=[_,_,_,_,_]) aq rfl rfl ot rfl rfl (fun b4=>?_);refine OD.alloc (ds:=[_,_,_,_,_]) aq rfl rfl zeroValue68 rfl (fun b6=>?_);refine an 116 [2,3,4,6] ?_;refine cz [2,3,4,6,39] ?_;refine cf (jK) ?_;refine cf (yj) ?_;refine cf (rQ) ?_;refine bA ?_;refine au ?_ ?_<;>intro aJ bz
 ·exact absurd aJ (by simp at aJ)
 refine af [2,3,4,6,41,42,43] ?_;refine ew [2,3,4,6,41,42] (fun aS _ (i:Nat) aE=>(i<=sl.length)/\aE=(⟨116,(43,ae (i:Nat))::aS,[⟨b6,68,5,[gh,cc,cc,cc,ae 0]⟩,⟨b4,68,5,[bg was.nm,ap 2 cC was.ay,ap 1 ev was.rows,ap 5 cP was.ix.ag,ae was.ix.root]⟩,⟨b3,68,5,[bg now.nm,ap 2 cC now.ay,ap 1 ev now.rows,ap 5 cP now.ix.ag,ae now.ix.root]⟩]⟩:St)) (fun (i:Nat)=>sl.length-i) 0 ⟨(Nat.zero_le _),rfl⟩ ?_;rintro i _ ⟨hi,rfl⟩;refine af [2,3,4,6,41,42,43,44] ?_;refine au ?_ ?_<;>intro aX cr
 ·have aa:i<sl.length:=(by omega)
  obtain⟨mj,pF⟩:=U (sl[i]'aa) (getElem_mem aa);have hd1:decide ((sl[i]'aa)<0)=false:=decide_eq_false w4;refine af [2,3,4,6,9,41,42,43] ?_;refine af [2,3,4,6,41,42,43,55] ?_;refine au ?_ ?_<;>intro bL cJ
  ·exact absurd bL (by (simp at bL;omega))
  refine bM [2,3,4,6,41,42,43] ?_;exact N2
 refine aB 1 ?_;refine OD.call aq rfl rfl rfl call37 (B9 now Pq) ⟨ot,trivial⟩ (eX _) ?_;rintro _ _ ⟨o,Il,rfl,yJ,rfl⟩;obtain⟨Sg,I,jr⟩:=IR yJ;refine OD.wk (jr _ _ [] _) ?_;clear jr;unfold gT;rw[Il] at I |-;generalize o.ad=ad at I |-;generalize o.cap=cap at I |-;refine OD.perm (perm_append_comm (l₁:=Sg)) ?_;refine OD.alloc (ds:=[_,_,_,_,_]) aq rfl rfl zeroValue68 rfl (fun jL=>?_);refine aP 0 [_,_,_,_,_] sizeOf68 ?_;refine an 116 [2,4,6,10] ?_;refine af [4,6,10,60,61,62] ?_;refine ew [4,6,10,60,61] (fun aS _ (aO:Nat×List (List Vl)×List ah) aE=>match aO with|(i,rs,Sr)=>(i<=sl.length)/\(nH was.rows rs (sl.drop i)=R)/\(rs.length=now.rows.length)/\(bn 40 1 (rs.flatMap ev) rs.length ad cap Sr)/\aE=(⟨116,(62,ae (i:Nat))::aS,(⟨jL,68,5,[bg now.nm,ap 2 cC now.ay,aT ad now.rows.length cap,ap 5 cP now.ix.ag,ae now.ix.root]⟩::⟨b6,68,5,[gh,cc,cc,cc,ae 0]⟩::⟨b4,68,5,[bg was.nm,ap 2 cC was.ay,ap 1 ev was.rows,ap 5 cP was.ix.ag,ae was.ix.root]⟩::⟨b3,68,5,[bg now.nm,ap 2 cC now.ay,ap 1 ev now.rows,ap 5 cP now.ix.ag,ae now.ix.root]⟩::Sr)⟩:St)) (fun (aO:Nat×List (List Vl)×List ah)=>match aO with|(i,rs,Sr)=>sl.length-i) (0,now.rows,Sg) ⟨(Nat.zero_le _),hR,rfl,I,rfl⟩ ?_;rintro⟨i,rs,Sr⟩ _ ⟨hi,Dy,gN,uW,rfl⟩;refine af [4,6,10,60,61,62,63] ?_;refine au ?_ ?_<;>intro cN en
 ·have aa:i<sl.length:=(by omega)
  obtain⟨mj,pF⟩:=U (sl[i]'aa) (getElem_mem aa);have HL:(sl[i]'aa).toNat<rs.length:=(by omega)
  obtain⟨br,rfl,rZ,qs,rfl⟩:=uW.pos w4;refine af [4,6,10,12,60,61,62] ?_;refine aB 3 ?_;refine bN (dL 1 (h:=by first|exact .l (j:=(sl[i]'aa).toNat) (Int.toNat_of_nonneg mj).symm w4|exact .r (j:=(sl[i]'aa).toNat) (Int.toNat_of_nonneg mj).symm w4)) ?_;refine OD.storeAt (k:=4) (cs':=(rs.flatMap ev).set (sl[i]'aa).toNat (cc)) aq rfl rfl ot rfl rfl bV rfl rfl sizeOf40 rfl (by show 0+(sl[i]'aa).toNat*1+1<=(rs.flatMap ev).length;rw[cm js];omega) (by show(rs.flatMap ev).set (0+(sl[i]'aa).toNat*1) _=_;rw[Nat.zero_add,Nat.mul_one]) ?_;refine OD.cells (k:=4) (cs':=(rs.set (sl[i]'aa).toNat []).flatMap ev) (S':=[_,_,_,_,_]) rfl (by have:=Kj (fP (sz:=3)) (rs.flatMap ev) (sl[i]'aa).toNat;rw[show(rs.flatMap ev).set (sl[i]'aa).toNat (.list 3 [] 0)=(rs.set (sl[i]'aa).toNat []).flatMap ev from by have:=nX js rs [] HL;rw[Nat.mul_one] at this;exact this] at this;exact this) rfl ?_;refine an 116 [4,6,10,12,60,61,62] ?_;refine af [4,6,10,12,60,61,62,74] ?_;refine au ?_ ?_<;>intro dW fB
  ·have E:(sl[i]'aa).toNat<was.rows.length:=(by omega)
   have fj:=IY (G:=G) (was.rows[(sl[i]'aa).toNat]'E) (zb gw E);refine nk 9 [4,6,10,60,61,62,76,77,83] ?_;refine aR 6 ?_ (h:=by exact(dL 1 (h:=by first|exact .l (j:=(sl[i]'aa).toNat) (Int.toNat_of_nonneg mj).symm E|exact .r (j:=(sl[i]'aa).toNat) (Int.toNat_of_nonneg mj).symm E)));refine cf (fj) ?_;refine iz ?_;refine bN (dL 1 (h:=by first|exact .l (j:=(sl[i]'aa).toNat) (Int.toNat_of_nonneg mj).symm w4|exact .r (j:=(sl[i]'aa).toNat) (Int.toNat_of_nonneg mj).symm w4)) ?_;refine OD.storeAt (k:=4) (cs':=((rs.set (sl[i]'aa).toNat []).set (sl[i]'aa).toNat (was.rows[(sl[i]'aa).toNat]'E)).flatMap ev) aq rfl rfl ot rfl rfl ot rfl rfl sizeOf40 rfl (by show 0+(sl[i]'aa).toNat*1+1<=((rs.set (sl[i]'aa).toNat []).flatMap ev).length;rw[cm js,length_set];omega) (by show((rs.set (sl[i]'aa).toNat []).flatMap ev).set (0+(sl[i]'aa).toNat*1) (.list 3 ((was.rows[(sl[i]'aa).toNat]'E).flatMap cV) (was.rows[(sl[i]'aa).toNat]'E).length)=_;have:=nX js (rs.set (sl[i]'aa).toNat []) (was.rows[(sl[i]'aa).toNat]'E) (i:=(sl[i]'aa).toNat) (by rw[length_set];exact HL);rw[Nat.mul_one] at this;rw[Nat.zero_add,Nat.mul_one];exact this) ?_;refine an 116 [4,6,10,60,61,62] ?_;refine bM [4,6,10,60,61,62] ?_
   refine⟨((i+1),((rs.set (sl[i]'aa).toNat []).set (sl[i]'aa).toNat (was.rows[(sl[i]'aa).toNat]'E)),[⟨br,40,cap*1,(((rs.set (sl[i]'aa).toNat []).set (sl[i]'aa).toNat (was.rows[(sl[i]'aa).toNat]'E))).flatMap ev⟩]),_,cn,aI,w4,(by rw[<-Dy,Rz aa,getD_eq_getElem?_getD,getElem?_eq_getElem E];rw[set_set];rfl),(by simp only[length_set];exact gN),(bJ (by simp only[length_set];exact rZ) qs),rfl⟩
  have E:¬(sl[i]'aa).toNat<was.rows.length:=(by omega)
  refine bM [4,6,10,60,61,62] ?_;refine⟨((i+1),(rs.set (sl[i]'aa).toNat []),[⟨br,40,cap*1,((rs.set (sl[i]'aa).toNat [])).flatMap ev⟩]),_,cn,aI,w4,(by rw[<-Dy,Rz aa,getD_eq_getElem?_getD,getElem?_eq_none w4];rfl),(by simp only[length_set];exact gN),(bJ (by simp only[length_set];exact rZ) qs),rfl⟩
 have j6:R=rs:=(by rw[<-Dy,drop_of_length_le w4];rfl)
 subst j6;refine bS ?_;refine OD.iD aq rfl rfl rfl call38 (nO) trivial ?_;refine aH 1 ?_;refine aP 0 [_,_,_,_,_] sizeOf66 ?_;refine an 116 [6,10] ?_;refine af [6,10,89,90,91] ?_;refine ew [6,10,89,90] (fun aS _ (k:Nat) aE=>(k<=now.rows.length)/\aE=(⟨116,(91,ae (k:Nat))::aS,(⟨jL,68,5,[bg now.nm,ap 2 cC now.ay,aT ad now.rows.length cap,.list 5 ((j5 R k).ag.flatMap cP) (j5 R k).ag.length,ae (j5 R k).root]⟩::⟨b6,68,5,[gh,cc,cc,cc,ae 0]⟩::⟨b4,68,5,[bg was.nm,ap 2 cC was.ay,ap 1 ev was.rows,ap 5 cP was.ix.ag,ae was.ix.root]⟩::⟨b3,68,5,[bg now.nm,ap 2 cC now.ay,ap 1 ev now.rows,ap 5 cP now.ix.ag,ae now.ix.root]⟩::Sr)⟩:St)) (fun (k:Nat)=>now.rows.length-k) 0 ⟨(Nat.zero_le _),rfl⟩ ?_;rintro k _ ⟨hk,rfl⟩;refine af [6,10,89,90,91,92] ?_;refine au ?_ ?_<;>intro fF gM
 ·have tK:k<now.rows.length:=(by omega)
  have Bc:k<R.length:=(by omega)
  have PB:R.getD k []=(R[k]'Bc):=(by rw[getD_eq_getElem?_getD,getElem?_eq_getElem Bc];rfl)
  obtain⟨br,rfl,rZ,qs,rfl⟩:=uW.pos w4;refine cz [6,10,13,14,89,90,91] ?_;refine aR 2 ?_ (h:=by exact(dz (mk:=Op.load 40) rfl ot (jj (k:=4) (i:=k) (ls:=R) js rfl rfl rfl isAgg40 Bc rfl)));refine bA ?_;refine af [6,10,13,14,89,90,91,98] ?_;refine au ?_ ?_<;>intro iw oS
  ·have qe:j5 R (k+1)=j5 R k:=(by rw[j5,if_pos (by rw[PB];omega)])
   rw[<-qe];refine bM [6,10,89,90,91] ?_;refine⟨(k+1),_,cn,aI,w4,rfl⟩
  have hne:R.getD k []≠[]:=fun e=>by rw[PB] at e;simp[e] at iw
  obtain⟨kW,j8,tM⟩:=hRk k hne;have td:=hRg k w4;have gG:=hRt k w4 hne;have qe:j5 R (k+1)=gF (j5 R k) (c9 (j5 R k)) (cg (R.getD k [])) (k:Int):=(by rw[j5,if_neg w4])
  have Z:=xz (G:=G) hG (R.getD k []) w4 w4 tM;have O:=JT (G:=G) td (cg (R.getD k [])) (k:Int);rw[Lg td w4 kW w4 gG,<-qe] at O;unfold Tw.cT at O;rw[PB] at Z O;refine CD.skip ?_;refine CD.seq ?_;refine qR 10 9 [6,10,15,89,90,91,106,107] ?_;refine cf (Z) ?_;refine cf (O) ?_;refine kK 3 ?_;refine mo ?_;refine iz ?_;refine⟨rfl,fun b15=>?_⟩;refine aP 0 [_,_] sizeOf66 ?_;refine an 116 [6,10,15,16,89,90,91] ?_;refine af [6,10,15,16,89,90,91,109] ?_;refine au ?_ ?_<;>intro iy mF
  ·exact absurd iy (by simp at iy)
  refine dw 2 ?_;refine aP 1 [_,_,_,_,_] sizeOf66 ?_;refine an 116 [6,10,89,90,91] ?_;refine bM [6,10,89,90,91] ?_;refine⟨(k+1),_,cn,aI,w4,rfl⟩
 refine CD.exit ?_;refine CD.seq ?_;have tK:k=now.rows.length:=(by omega)
 subst tK;refine CD.Fj (i:=2) (j:=0) (Sq:=Sr) (S':=⟨jL,68,5,[bg now.nm,ap 2 cC now.ay,ap 1 ev R,.list 5 ((j5 R now.rows.length).ag.flatMap cP) (j5 R now.rows.length).ag.length,ae (j5 R now.rows.length).root]⟩::⟨b6,68,5,[gh,cc,cc,cc,ae 0]⟩::⟨b4,68,5,[bg was.nm,ap 2 cC was.ay,ap 1 ev was.rows,ap 5 cP was.ix.ag,ae was.ix.root]⟩::⟨b3,68,5,[bg now.nm,ap 2 cC now.ay,ap 1 ev now.rows,ap 5 cP now.ix.ag,ae now.ix.root]⟩::[]) uW (cm js _) (cZ (A:=[_,_,_,_])) rfl (by rw[hRl];rfl) rfl rfl ?_;refine dw 1 ?_;refine aP 1 [_,_,_,_,_] sizeOf68 ?_;refine an 116 [6,7] ?_;exact nP

theorem aeV{l:List az}{a c O U:Nat}(gn:l7 l a c)(h:l.map az.nm=bK)(h0:0<l.length){t2:az}(E:l7 (l.set 0 t2) O U)(iO:(l.set 0 t2).map az.nm=bK)(hle:(l[0]'h0).rows.length<=t2.rows.length) :
  t2.nm=(l[0]'h0).nm/\cQ t2 (O*(1+U))/\t2.nm.size<=maxLen/\lg ((l.set 0 t2).set 0 (jw t2 (l[0]'h0))) (O*(1+U)+40)/\oM ((l.set 0 t2).set 0 (jw t2 (l[0]'h0))) ⟨#[116]⟩=(jF (l[0]'h0),0)/\(∀j:Nat,j<(jw t2 (l[0]'h0)).rows.length->(jw t2 (l[0]'h0)).rows.getD j []=(l[0]'h0).rows.getD j [])/\(jw t2 (l[0]'h0)).rows.length<=40:=by
 have hU:0<(l.set 0 t2).length:=(by rw[length_set];exact h0)
 have Z:(l.set 0 t2)[0]'hU=t2:=getElem_set_self _;have gp:=De h;obtain⟨a1,_⟩:=zZ h w4;obtain⟨b1,_⟩:=zZ iO uE;rw[Z] at b1;have g0:=gn.g.tb _ (getElem_mem h0);have g2:cQ t2 (O*(1+U)):=(by have:=E.g.tb _ (getElem_mem hU);rw[Z] at this;exact this)
 obtain⟨u1,u2,u3⟩:=ada g0 g2 (b1.trans a1.symm) hle;have I:(jw t2 (l[0]'h0)).rows.length=t2.rows.length:=Fx _ _ _;have hG:=(E.g.mono (Nat.le_add_right _ 40)).put hU (u1.mono (Nat.le_add_left _ _)) (show(jw t2 (l[0]'h0)).nm=((l.set 0 t2)[0]'hU).nm by rw[Z];rfl);refine⟨b1.trans a1.symm,g2,by rw[b1];decide,hG,?_,fun j hj=>u3 j (by rw[<-I];exact hj),by rw[I];exact g2.ec⟩;have hlp:0<((l.set 0 t2).set 0 (jw t2 (l[0]'h0))).length:=(by rw[length_set];exact hU)
 have mP:((l.set 0 t2).set 0 (jw t2 (l[0]'h0))).map az.nm=bK:=(by rw[F9 hU (by rw[Z];rfl)];exact iO)
 rw[zH (i:=0) (x9 mP) hlp,getElem_set_self,u2]
theorem set_drop{α:Type}{l:List α}{x:α}(h:0<l.length):l.set 0 x=x::l.drop 1:=by
 cases l with
 | nil=>cases h
 | cons a r=>rfl
theorem abz:(Tryz.prog.info? 68).map (fun i=>(i.zero,i.size,i.bytes))=some (some (.agg #[.string ⟨#[]⟩,.slice none 0 0,.slice none 0 0,.slice none 0 0,.int .i64 0]),5,96):=by kernel_rfl
theorem aaM(hm:(3,marksC)∈G)(hw:(1,wordsC)∈G)(ht:(0,typesC)∈G)(hG:(2,[Value.int .i64 m])∈G)(ps:List Ph)(gJ:∀p∈ps,p.Ok)(fx:ps.length<=maxLen)(p:Ph)(yY:p.Ok):VP Tryz.prog G 6 [.list 14 (ps.flatMap Ph.cs) ps.length,.agg p.cs] (bP true):=by
 refine VC.body func6 rfl ntmps6 aU fun X0 w0 bj=>?_;have cR:=dI;obtain⟨k,t,pa,pb,row,⟨x1,x2,x3,wJ⟩,⟨y1,y2,y3,wK⟩,bare⟩:=p;simp only[Ph.cs,Tw.cs,cons_append,nil_append];refine bS ?_;refine OD.box (ds:=[_,_,_,_,_,_,_,_,_,_,_,_,_,_]) aq rfl rfl ot rfl rfl (fun b3=>?_);refine an 157 [0,3] ?_;refine aB 1 ?_;refine OD.call aq rfl rfl rfl call7 (KS hm hw ht hG ps gJ fx) ⟨ot,trivial⟩ (eX _) ?_;rintro _ _ ⟨l,a,c,rfl,rfl,gn,uX,I⟩;refine OD.alloc (ds:=[_]) aq rfl rfl zeroValue31 rfl (fun b5=>?_);refine aP 0 [_] sizeOf31 ?_;refine an 157 [3,5] ?_;refine CD.seq ?_;have gp:=De I;have ow:0<l.length:=(by omega)
 have Is:1<l.length:=(by omega)
 have yQ:=jd k (show(1:Int)<=4 by decide);have yL:=kL G k 4 yY.k.1 yY.k.2 w8;generalize cx k 4=j at yQ yL;obtain⟨r8,tL,j3⟩:=Lp (2+j) 0 pa pb row ⟨x1,x2,x3,wJ⟩ ⟨y1,y2,y3,wK⟩ bare;rw[Nf] at j3;rw[Ls yQ] at tL;have eU:=Lq (G:=G) (Lr yY (k':=2+j) w4 w4);generalize Pa.pQ (2+j) 0 pa pb row ⟨x1,x2,x3,wJ⟩ ⟨y1,y2,y3,wK⟩ bare=s at eU r8 j3 tL;have hr:=KT hm hw ht hG gn uX I r8 j3;rw[show vR l s=kI l s from if_neg w4] at hr;have hd:=KX gn uX I ow r8 j3 w4;unfold tN at hr;generalize kI l s=R at hr hd;obtain⟨X,⟨rs,k1⟩,E⟩:=R;dsimp only at hr;refine dw 1 ?_;refine aP 1 [_,_,_,_,_,_,_,_,_,_,_,_,_,_] sizeOf3 ?_;refine an 157 [3,5] ?_;refine aB 2 ?_;refine ez call16 (yL) ?_;refine bN (dR (r:=.int .i64 (2+j)) rfl bV ot (kN (wrap_i64 w4 w4))) ?_;refine aH 1 ?_;refine aP 1 [_,_,_,_,_,_,_,_,_,_,_,_,_,_] sizeOf3 ?_;refine an 157 [3,5] ?_;refine CD.seq ?_;refine HV 10 9 8 [5,6,7,35,36,37] ?_;refine cf (eU) ?_;refine cf (hr) ?_;refine kK 4 ?_;refine mo ?_;refine mo ?_;refine iz ?_;refine⟨rfl,rfl,fun b7 b6=>?_⟩;refine aP 1 [_] sizeOf31 ?_;refine aP 0 [_,_] sizeOf35 ?_;refine an 157 [5,6,8] ?_;refine af [5,6,8,41] ?_;refine au ?_ ?_<;>intro aJ bz
 ·exact absurd aJ (by simp[gp] at aJ)
 refine CD.skip ?_;refine iH [5,6] (fun aS _ aE=>∃(X2:List az),∃(t2:az),∃(a2:Nat),∃(c2:Nat),(X2=(l.set 0 t2))/\(l7 (l.set 0 t2) a2 c2)/\((l.set 0 t2).map az.nm=bK)/\(l[0].rows.length<=t2.rows.length)/\aE=(⟨157,aS,[⟨b6,31,1,[ap 5 cG (X2)]⟩,⟨b5,31,1,[ap 5 cG (l)]⟩]⟩:St)) ?_ ?_
 ·refine af [5,6,43] ?_;refine au ?_ ?_<;>intro aX cr
  ·have iG:l.set 0 l[0]=l:=set_getElem_self ow;refine dw 1 ?_;refine aP 1 [_] sizeOf31 ?_;refine an 157 [5,6] ?_;refine⟨_,aI,l,l[0],a,c,iG.symm,(by rw[iG];exact gn),(by rw[iG];exact I),(Nat.le_refl _),rfl⟩
  have hE:E=0:=(by simpa using aX)
  obtain⟨t2,_,a2,c2,h1,tP,Df,hle,_⟩:=hd.resolve_left (fun ⟨e,h1,he⟩=>he ((congrArg (fun x=>x.2.2) h1).symm.trans hE));obtain rfl:X=l.set 0 t2:=congrArg (fun x=>x.1) h1;refine CD.skip ?_;refine⟨_,aI,_,t2,a2,c2,rfl,tP,Df,hle,rfl⟩
 rintro _ ⟨X2,t2,a2,c2,rfl,tP,Df,hle,rfl⟩;refine CD.seq ?_;have hU:0<(l.set 0 t2).length:=(by rw[length_set];exact ow)
 have e0:(l.set 0 t2)[0]=t2:=getElem_set_self _;obtain⟨u1,u2,u3,u4,u5,u6,u7⟩:=aeV gn I ow tP Df hle;have hg0:=gn.g.tb _ (getElem_mem ow);have It:=gn.g.sz _ (getElem_mem ow);have Z:=y6 hm hw ht hG l[0] ((l.set 0 t2)[0]'hU) hg0 (by rw[e0];exact u2) It (by rw[e0];exact u3) (fun _=>by rw[e0];exact hle);rw[show nI l[0] ((l.set 0 t2)[0]'hU)=(fC l[0].rows t2.rows t2.rows.length,0) from by rw[e0];exact if_pos u1] at Z;have j4:=agv hm hw ht hG l[0] ((l.set 0 t2)[0]'hU) hg0 (by rw[e0];exact u2) It (by rw[e0];exact u3) (by rw[e0];exact u1) (by rw[e0];exact hle);rw[show fC l[0].rows ((l.set 0 t2)[0]'hU).rows ((l.set 0 t2)[0]'hU).rows.length=fC l[0].rows t2.rows t2.rows.length from by rw[e0],show jw ((l.set 0 t2)[0]'hU) l[0]=jw t2 l[0] from by rw[e0]] at j4;have ya:=y6 hm hw ht hG l[0] l[0] hg0 hg0 It It (fun _=>Nat.le_refl _);rw[show nI l[0] l[0]=([],0) from by unfold nI;rw[if_pos rfl,xk _ _ (Nat.le_refl _)]] at ya;have Iu:=B0 hm hw ht hG l gn.g ⟨#[116]⟩;rw[zH (i:=0) (x9 I) ow] at Iu;dsimp only at Iu Z ya;have yX:=J1 hg0;have gN:=J3 hg0;have O:=B0 hm hw ht hG _ u4 ⟨#[116]⟩;rw[u5] at O;dsimp only at O;rw[set_drop hU] at O;generalize jF l[0]=was at Iu O yX gN;have hq:=J2 (G:=G) was was (Nat.le_trans yX w8) (Nat.le_trans yX w8) gN gN;rw[nW rfl] at hq
 generalize fC l[0].rows t2.rows t2.rows.length=C at Z j4;generalize jw t2 l[0]=U at *;unfold cG at j4;refine gl [5,6,9,10] ?_;refine aR 2 ?_ (h:=yd);refine aR 3 ?_ (h:=Nk);refine cf (Z) ?_;refine bA ?_;refine CD.seq ?_;refine qR 14 13 [5,6,10,11,68,69] ?_;refine aR 2 ?_ (h:=Nk);refine aR 3 ?_ (h:=yd);refine cf (j4) ?_;refine kK 3 ?_;refine mo ?_;refine iz ?_;refine⟨rfl,fun lS=>?_⟩;refine aP 0 [_,_,_,_,_] sizeOf68 ?_;refine an 157 [5,6,10,11,12] ?_;refine cz [5,6,10,11,12,13,14] ?_;refine aR 2 ?_ (h:=yd);refine aR 3 ?_ (h:=yd);refine cf (ya) ?_;refine bA ?_;refine af [5,6,11,96] ?_;refine au ?_ ?_<;>intro bL cJ
 ·exact absurd bL (by simp at bL)
 refine af [5,6,11,15] ?_;refine ew [5,6,11] (fun aS mQ (i:Nat) aE=>(i<=U.rows.length)/\aE=(⟨157,(15,ae (i:Nat))::aS,mQ⟩:St)) (fun (i:Nat)=>U.rows.length-i) 0 ⟨(Nat.zero_le _),rfl⟩ ?_;rintro i _ ⟨hi,rfl⟩;refine af [5,6,11,15,101] ?_;refine au ?_ ?_<;>intro cN en
 ·have aa:i<U.rows.length:=(by omega)
  have Ez:=u6 i aa;rw[sB aa] at Ez;refine af [5,6,11,15,16] ?_;refine cz [5,6,11,15,16,111] ?_;refine aR 3 ?_ (h:=yd);refine bA ?_;refine au ?_ ?_<;>intro dW fB
  ·have nK:i<l[0].rows.length:=(by omega)
   have HI:=E9 (G:=G) (U.rows[i]'aa) (l[0].rows[i]'nK) (by rw[Ez,sB nK];exact zb hg0 nK) (zb hg0 nK);rw[nW (by rw[Ez,sB nK])] at HI;refine gl [5,6,11,15,16] ?_;refine aR 2 ?_ (h:=by exact(nV (mk:=Op.indexAddr 29) rfl ot bV (by first|exact oF (j:=0) runUnderlying29 sizeOf68 rfl vZ|exact oI (j:=0) runUnderlying29 sizeOf68 rfl vZ)));refine bA ?_;exact z145
  have nK:¬i<l[0].rows.length:=(by omega)
  have HI:=VC.Hu (E9 (G:=G) (U.rows[i]'aa) [] (by rw[Ez,BM nK];exact Nat.zero_le _) (Nat.zero_le _)) (args':=[.list 3 ((U.rows[i]'aa).flatMap cV) (U.rows[i]'aa).length,cc]) ⟨eM,fP,trivial⟩;rw[nW (by rw[Ez,BM nK])] at HI;exact z145
 refine aB 1 ?_;refine OD.alloc (ds:=[_]) aq rfl rfl zeroValue31 rfl (fun b17=>?_);refine aP 0 [_] sizeOf31 ?_;refine an 157 [5,6,11,17] ?_;refine CD.seq ?_;refine gP 6 (av _) ?_ (fun _ h=>h);refine aD 0 rfl (GD 1 [_,_,_,_,_]) ?_;refine aD 2 rfl (dQ 0) ?_;refine aD 3 rfl (dS 2) ?_;refine aD 4 rfl (eE (l:=1) rfl ot ⟨_,bV⟩ trivial (by exact vf rfl jT (fun h=>by cases h) runUnderlying29 sizeOf68 w4)) ?_;refine dM.later rfl ?_;refine AD.one (i:=1) aC ?_;refine nq (cu 0 [_]) [.string ⟨#[]⟩,.slice none 0 0,.slice none 0 0,.slice none 0 0,.int .i64 0] [_,_,_,_,_] zeroValue68 runUnderlying29 sizeOf68 (fun M8=>?_);refine AD.perm (dU (S1:=[⟨M8,68,1*5,flatMap cG ([U])⟩]) (A:=[_,_,_,_])) ?_;refine AD.one (i:=5) aC ?_;refine bC.pn (ls:=([U])) (new:=((l.set 0 t2).drop 1)) (Sq:=[⟨M8,68,1*5,flatMap cG ([U])⟩]) jT ags rfl aq rfl rfl underlying29 abz rfl w8 runUnderlying29 sizeOf68 ot (bJ (g:=cG) (sz:=5) (e:=68) (ls:=[U]) (Nat.le_refl _) (show 1<=maxLen by decide)) (cZ (A:=[_,_,_,_])) ot (by simp only[maxLen,length_append,length_cons,length_nil,length_drop,length_set] at *;omega) (by simp only[maxLen,length_append,length_cons,length_nil,length_drop,length_set] at *;omega) (fun ap5 ap6 amm ajl=>?_);refine AD.perm (dU (A:=[_,_,_,_])) ?_;refine AD.gK (t:=134) (Sq:=amm) lk ajl (cm jT _) (cZ (A:=[_,_,_,_])) ?_
 refine fm ?_;refine aH 1 ?_;refine aP 0 [_] sizeOf29 ?_;refine an 157 [5,17] ?_;refine cL [17,18,19] (Iu) ?_;refine cL [18,19,20,21] (O) ?_;refine cL [4] (hq) ?_;exact z116
theorem walkUndoBack(l:List Ph)(v:Value)(ok:(∀x∈l,x.Ok)/\l.length<=maxLen)(p:Ph)(E:Value)(I:p.Ok)(w:World)(h1:MarksTab w)(h2:WordsTab w)(h3:TypesTab w){m:Int}(hm:Tab.l5 w 2 [Value.int .i64 m])(U:cq w (fun _=>False) (.list 14 (l.flatMap Ph.cs) l.length) v)(O:cq w (fun _=>False) (.agg p.cs) E):Calls Tryz.prog 6 #[v,E] w fun e w'=>e = .returned (.bool true)/\Below w.heap.size w w' :=
 (aaM (G:=wI m) Px Py Pz PA l ok.1 ok.2 p I).Mq (Nd h1 h2 h3 hm) (vs:=[v,E]) (cD.cons U (cD.cons O (cD.vs w _ [])))

end Go.Proofs.YtbplamgacibdaaaGreatDoor.Ba
namespace Go.Proofs.YtbplamgacibdaaaGreatDoor.Pa
open Go.Proofs.Tryz
open Go.RowKit V
theorem rd_phrase{H:Type}{enc:TypeId×Value->H}{w:World}{base E:Nat}{sp:Nat->Bool}{held:Bool}{v:Value}{d:DataW H}{p:List MemPlace}(hval:Value.okWide Tryz.prog w .any E 28 v)(h:DataW.Trod enc Tryz.prog w base sp held 28 v d p) :
  ∃t:Ph,cq w (fun _=>False) (.agg t.cs) v/\t.Ok/\True:=by
 unfold Value.okWide at hval;rw[underlying28] at hval;obtain⟨cs,rfl,_⟩:=hval;obtain⟨m,hm⟩:=h;obtain⟨a,h1,h2⟩:=aby m _ _ hm;exact⟨a,by
  have:=cq.agg (w:=w) (L:=fun _=>False) a.cs cs.toList h1.1 (fun i q1 q2=>h1.2 i q1 q2)
  simpa using this,h2,trivial⟩
end Go.Proofs.YtbplamgacibdaaaGreatDoor.Pa
