/-
  OtherStays: walks and plain facts.
-/
import Derived.Test.YtbplamgacibdaaaGreatDoorPGC8
set_option linter.unusedVariables false
set_option linter.unusedSimpArgs false
set_option maxRecDepth 100000
set_option maxHeartbeats 4000000
namespace Go.Proofs.YtbplamgacibdaaaGreatDoor.Ba
open List
open Go.Proofs.Tryz
open Go.RowKit V Pk Tr Vl Go.Proofs.YtbplamgacibdaaaGreatDoor.Nm Pc Cd Ex Tw
open Pa (bp aY)
variable {G:List (Nat×List Value)} {m:Int}
noncomputable def oM(l:List az)(nm:ByteArray):List (List Vl)×Int:=if aN l nm<0 then ([],8) else ((dg (l.getD (aN l nm).toNat ⟨nm,[],[],nL⟩).ix).map fun x=>rowAt (l.getD (aN l nm).toNat ⟨nm,[],[],nL⟩) x.2,0)
theorem P6:(Tryz.prog.info? 40).map (fun i=>(i.zero,i.size,i.bytes))=some (some (.slice none 0 0),1,24):=by kernel_rfl
theorem B0(hm:(3,marksC)∈G)(hw:(1,wordsC)∈G)(ht:(0,typesC)∈G)(hG:(2,[Value.int .i64 m])∈G)(l:List az){n:Nat}(g:lg l n)(nm:ByteArray):VP Tryz.prog G 10 [.agg [ap 5 cG (l)],bg nm] (.da [.list 1 ((oM l nm).1.flatMap ev) (oM l nm).1.length,ae (oM l nm).2]):=by
 exact z6

end Go.Proofs.YtbplamgacibdaaaGreatDoor.Ba
namespace Go.Proofs.YtbplamgacibdaaaGreatDoor.Ba
open List
open Go.Proofs.Tryz
open Go.RowKit V Pk Tr Vl Go.Proofs.YtbplamgacibdaaaGreatDoor.Nm Pc Cd Ex Tw
open Pa (bp aY dZ dA dH di dO ei dD cX bK Ph)
variable {G:List (Nat×List Value)} {m:Int}
variable {t:az} {n i:Nat} {l:List az}
theorem KV{v:Vl}(h:de v=0)(hk:v.k=2):gg [v]=(fW [v],0):=by
 exact YF
theorem Qz(g:cQ t n){i:Int}(h:fh t i):∃(v:Vl) (r:List Vl),rowAt t i=v::r/\r.length=3/\v.k=2/\v.s.size=0/\v.Ok/\de v=0/\cg (rowAt t i)=fW [v]:=by
 obtain⟨h4,aW⟩:=fh.ok g h;obtain⟨h0,h1,h2⟩:=h;have hf:=(g.row _ h1 h2).1;rw[<-iS h1] at hf;match hr:rowAt t i,h4 with
 | v::r,h4 =>
  rw[hr] at hf aW;obtain⟨hv,hc⟩:=aW v mem_cons_self;have hk:v.k=2:=by
   unfold Pc.dY at hf;rw[if_neg AJ,if_neg xM] at hf;unfold dF Pc.pA at hf;split at hf
   ·rename_i h1;exact absurd hf h1
   rename_i h1;have h1:=Decidable.not_not.1 h1;unfold Pc.l8 at h1;rw[if_neg (by rw[hc];decide)] at h1;split at h1
   ·cases h1
   rename_i h3;exact Decidable.not_not.1 fun e=>h3 ⟨e,.inl rfl⟩
  refine⟨v,r,rfl,by simpa using h4,hk,?_,hv,hc,?_⟩
  ·unfold de at hc;rw[if_neg w4,if_neg w4,if_pos hk] at hc;split at hc
   ·cases hc
   rename_i h3;exact Decidable.not_not.1 h3
  unfold cg;rw[show(v::r).take 1=[v] from rfl,KV hc hk]
noncomputable def jF(t:az):List (List Vl):=(dg t.ix).map fun x=>rowAt t x.2
theorem zH{nm:ByteArray}(h:aN l nm=(i:Int))(hi:i<l.length):oM l nm=(jF l[i],0):=by
 exact WO
theorem TJ(g:cQ t n)(h:i<(jF t).length):∃h':i<(dg t.ix).length,(jF t)[i]=rowAt t (dg t.ix)[i].2/\fh t (dg t.ix)[i].2/\(dg t.ix)[i].1=cg (rowAt t (dg t.ix)[i].2):=by
 exact Yv
theorem IT(g:cQ t n)(h:i<(jF t).length):∃(v:Vl) (r:List Vl),(jF t)[i]=v::r/\r.length=3/\v.k=2/\v.s.size=0/\v.Ok/\de v=0:=by
 exact WH
theorem J1(g:cQ t n):(jF t).length<=16000:=by
 have:=JU g.ix [] [];rw[Bw] at this;unfold jF;rwa [length_map]

theorem TH{α:Type}{a b:α}(h:gk a b=true):a=b:=by unfold gk at h;simpa using h
theorem E9(a b:List Vl)(ha:a.length<=1000000)(hb:b.length<=1000000):VP Tryz.prog G 19 [ap 3 cV a,ap 3 cV b] (bP (gk a b)):=by
 exact XY
theorem J2(a b:List (List Vl))(ha:a.length<=1000000)(hb:b.length<=1000000)(ra:∀r∈a,r.length<=1000000)(rb:∀r∈b,r.length<=1000000):VP Tryz.prog G 11 [ap 1 ev a,ap 1 ev b] (bP (gk a b)):=by
 exact XZ

theorem XQ(h:l.map az.nm=bK):aN l ⟨#[117]⟩=1:=by
 match l,h with
 | [],h=>exact absurd (congrArg length h) (by show ¬(0:Nat)=2;decide)
 | [_],h=>exact absurd (congrArg length h) (by show ¬(1:Nat)=2;decide)
 | a::b::r,h =>
  rw[map_cons,map_cons] at h;have ha:a.nm=⟨#[116]⟩:=(by injection h)
  have hb:b.nm=⟨#[117]⟩:=(by injection h with _ h;injection h)
  unfold aN;rw[tU (ls:=a::b::r) (k:=1) bq (fun x hx=>by rw[show(a::b::r).take 1=[a] from rfl,mem_singleton] at hx;rw[hx,ha];decide +kernel) (by show(b.nm.toList==_)=true;rw[hb];exact BEq.rfl)];rfl
theorem J3(g:cQ t n):∀r∈jF t,r.length<=1000000:=fun r hr=>by
 obtain⟨i,hi,rfl⟩:=mem_iff_getElem.1 hr;obtain⟨v,r,e,h,_⟩:=IT g hi;rw[e,length_cons,h];decide

theorem run_set(h:l.map az.nm=bK){s:bp}(hk:¬s.kind=1)(ht:s.table=⟨#[116]⟩):∃t,(eK l s).1=l.set 0 t:=by
 have ha:aN l s.table=0:=(by rw[ht];exact x9 h)
 have h0:0<l.length:=(by rw[De h];decide)
 unfold eK;rw[if_neg hk,ha,if_neg w4];split
 ·exact⟨_,rfl⟩
 split
 ·exact⟨l[0],by rw[set_getElem_self]⟩
 split
 ·exact⟨_,rfl⟩
 exact⟨_,rfl⟩
theorem ac6{a c:Nat}(gn:l7 l a c)(E:a+c<=30)(h:l.map az.nm=bK)(h1:1<l.length){s:bp}(hg:dH s)(ht:s.table=⟨#[116]⟩) :
  (∃e,vR l s=(([],(([],0),e)):List az×((List (List Vl)×Int)×Int))/\e≠0)\/∃L q n,vR l s=(L,(q,0))/\lg L n/\oM L ⟨#[117]⟩=(jF l[1],0):=by
 unfold vR;by_cases eD:s.kind=2
 ·rw[if_pos eD];have ha:aN l s.table=0:=(by rw[ht];exact x9 h)
  have hd:pz l s=(l.eraseIdx 0,(([],0),0)):=(by unfold pz;rw[ha,if_neg w4];rfl)
  unfold rO;by_cases hc:dA s≠0
  ·rw[if_pos hc];exact .inl ⟨_,rfl,hc⟩
  rw[if_neg hc,if_neg w4,hd,if_neg (fun e=>e rfl)];refine .inr ⟨_,_,_,rfl,gn.g.er 0,?_⟩;match l,h,h1 with
  | [],_,h1=>exact absurd h1 (Nat.not_lt_zero _)
  | [_],_,h1=>exact absurd h1 (by show ¬1<1;decide)
  | x::y::r,h,_ =>
   rw[map_cons,map_cons] at h;have hy:y.nm=⟨#[117]⟩:=(by injection h with _ h;injection h)
   have I:aN (y::r) ⟨#[117]⟩=((0:Nat):Int):=by
    unfold aN;exact tU (ls:=y::r) (k:=0) (Nat.succ_pos _) (fun x hx=>by cases hx) (by show(y.nm.toList==_)=true;rw[hy];exact BEq.rfl)
   exact zH (l:=y::r) I (Nat.succ_pos _)
 rw[if_neg eD];rcases KU l s with he|⟨he,hz⟩
 ·exact .inl he
 right;have cM:¬s.kind=1:=fun e=>by rw[Wq h e ht] at hz;cases hz
 obtain⟨a',c',_,g',_,wm⟩:=wZ gn E (dH.st hg) eD (BZ hg) (fun e=>absurd e cM) hz;obtain⟨t,e⟩:=run_set h cM ht;have gA:=(wm cM).trans h;rw[he];rw[e] at g' gA |-;have hl:1<(l.set 0 t).length:=(by rw[length_set];exact h1)
 exact⟨_,_,_,rfl,g'.g,by rw[zH (i:=1) (XQ gA) hl,getElem_set_ne w8]⟩

theorem aac(hm:(3,marksC)∈G)(hw:(1,wordsC)∈G)(ht:(0,typesC)∈G)(hG:(2,[Value.int .i64 m])∈G)(ps:List Ph)(gJ:∀p∈ps,p.Ok)(fx:ps.length<=maxLen)(p:Ph)(Z:p.Ok):VP Tryz.prog G 3 [.list 14 (ps.flatMap Ph.cs) ps.length,.agg p.cs] (bP true):=by
 refine VC.body func3 rfl ntmps3 aU fun X0 w0 bj=>?_;have cR:=dI;obtain⟨k,t,pa,pb,row,⟨x1,x2,x3,wJ⟩,⟨y1,y2,y3,wK⟩,bare⟩:=p;simp only[Ph.cs,Tw.cs,cons_append,nil_append];refine bS ?_;refine OD.box (ds:=[_,_,_,_,_,_,_,_,_,_,_,_,_,_]) aq rfl rfl ot rfl rfl (fun b3=>?_);refine an 59 [0,3] ?_;refine aB 1 ?_;refine OD.call aq rfl rfl rfl call7 (KS hm hw ht hG ps gJ fx) ⟨ot,trivial⟩ (eX _) ?_;rintro _ _ ⟨l,a,c,rfl,rfl,gn,uX,I⟩;refine OD.alloc (ds:=[_]) aq rfl rfl zeroValue31 rfl (fun b5=>?_);refine aP 0 [_] sizeOf31 ?_;refine an 59 [3,5] ?_;refine CD.seq ?_;refine CD.seq ?_;have gp:=De I;have Is:1<l.length:=(by omega)
 have hg1:=gn.g.tb _ (getElem_mem Is);have U:=B0 hm hw ht hG l gn.g ⟨#[117]⟩;rw[zH (i:=1) (XQ I) Is] at U;dsimp only at U;have yX:=J1 hg1;have gN:=J3 hg1;obtain⟨r8,_,j3⟩:=Lp k 0 pa pb row ⟨x1,x2,x3,wJ⟩ ⟨y1,y2,y3,wK⟩ bare;rw[Nf] at j3;have eU:=Lq (G:=G) (Lr (k':=k) Z Z.k.1 Z.k.2);generalize Pa.pQ k 0 pa pb row ⟨x1,x2,x3,wJ⟩ ⟨y1,y2,y3,wK⟩ bare=s at eU r8 j3;have hr:=KT hm hw ht hG gn uX I r8 j3;have hd:=ac6 gn uX I Is r8 j3;unfold tN at hr;generalize vR l s=R at hr hd;obtain⟨X,⟨rs,k1⟩,E⟩:=R;dsimp only at hr;generalize jF l[1]=was at U yX gN hd;have hq:=J2 (G:=G) was was (Nat.le_trans yX w8) (Nat.le_trans yX w8) gN gN;rw[nW rfl] at hq;refine bM [3,5,18] ?_;refine au ?_ ?_<;>intro aJ bz
 ·exact absurd aJ (by simp[gp] at aJ)
 refine aB 1 ?_;refine aP 1 [_,_,_,_,_,_,_,_,_,_,_,_,_,_] sizeOf3 ?_;refine an 59 [3,5] ?_;refine CD.seq ?_;refine HV 10 9 8 [5,6,7,25,26,27] ?_;refine cf (eU) ?_;refine cf (hr) ?_;refine kK 4 ?_;refine mo ?_;refine mo ?_;refine iz ?_;refine⟨rfl,rfl,fun b7 b6=>?_⟩;refine aP 1 [_] sizeOf31 ?_;refine aP 0 [_,_] sizeOf35 ?_;refine an 59 [5,6,8] ?_;refine cL [6,8,9,10] (U) ?_;refine af [6,9,10,34] ?_;refine au ?_ ?_<;>intro aX cr
 ·have hE:E≠0:=(by simpa using aX)
  obtain⟨e,h1,_⟩:=hd.resolve_right (fun ⟨L,q,n,h1,_⟩=>hE (congrArg (fun x=>x.2.2) h1));simp only[Prod.mk.injEq] at h1;obtain⟨rfl,⟨rfl,rfl⟩,rfl⟩:=h1;exact Mh
 have hE:E=0:=(by simpa using aX)
 obtain⟨L,q,n,h1,gB,Pd⟩:=hd.resolve_left (fun ⟨e,h1,h2⟩=>h2 ((congrArg (fun x=>x.2.2) h1).symm.trans hE));simp only[Prod.mk.injEq] at h1;obtain⟨rfl,_,rfl⟩:=h1;have O:=B0 hm hw ht hG X gB ⟨#[117]⟩;rw[Pd] at O;dsimp only at O;refine cL [9,10,11,12] (O) ?_;refine cL [4] (hq) ?_;exact z116
theorem walkOtherStays(l:List Ph)(v:Value)(ok:(∀x∈l,x.Ok)/\l.length<=maxLen)(p:Ph)(E:Value)(I:p.Ok)(w:World)(h1:MarksTab w)(h2:WordsTab w)(h3:TypesTab w){m:Int}(hm:Tab.l5 w 2 [Value.int .i64 m])(U:cq w (fun _=>False) (.list 14 (l.flatMap Ph.cs) l.length) v)(O:cq w (fun _=>False) (.agg p.cs) E):Calls Tryz.prog 3 #[v,E] w fun e w'=>e = .returned (.bool true)/\Below w.heap.size w w' :=
 (aac (G:=wI m) Px Py Pz PA l ok.1 ok.2 p I).Mq (Nd h1 h2 h3 hm) (vs:=[v,E]) (cD.cons U (cD.cons O (cD.vs w _ [])))

end Go.Proofs.YtbplamgacibdaaaGreatDoor.Ba
namespace Go.Proofs.YtbplamgacibdaaaGreatDoor.Pa
open Go.Proofs.Tryz
open Go.RowKit V
theorem rd_phrase{H:Type}{enc:TypeId×Value->H}{w:World}{base E:Nat}{sp:Nat->Bool}{held:Bool}{v:Value}{d:DataW H}{p:List MemPlace}(hval:Value.okWide Tryz.prog w .any E 28 v)(h:DataW.Trod enc Tryz.prog w base sp held 28 v d p) :
  ∃t:Ph,cq w (fun _=>False) (.agg t.cs) v/\t.Ok/\True:=by
 unfold Value.okWide at hval;rw[underlying28] at hval;obtain⟨cs,rfl,_⟩:=hval;obtain⟨m,hm⟩:=h;obtain⟨a,h1,h2⟩:=aby m _ _ hm;exact⟨a,by
  have:=cq.agg (w:=w) (L:=fun _=>False) a.cs cs.toList h1.1 (fun i q1 q2=>h1.2 i q1 q2)
  simpa using this,h2,trivial⟩
end Go.Proofs.YtbplamgacibdaaaGreatDoor.Pa
