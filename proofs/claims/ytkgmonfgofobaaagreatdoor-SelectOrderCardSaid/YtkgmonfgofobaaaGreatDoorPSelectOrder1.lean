/-
  SelectOrder: walks and plain facts.
-/
import Derived.Test.YtkgmonfgofobaaaGreatDoorPGB8
set_option linter.unusedVariables false
set_option linter.unusedSimpArgs false
set_option maxRecDepth 100000
set_option maxHeartbeats 4000000
namespace Go.Proofs.YtkgmonfgofobaaaGreatDoor.Ba
open List
open Go.Proofs.Tryz
open Go.RowKit V Pk Tr Vl Go.Proofs.YtkgmonfgofobaaaGreatDoor.Nm Pc Cd Ex Tw
open Pa (bJ bj eS dJ ec dS eC eP en dQ cj Ph)
variable {G:List (Nat×List Value)} {m:Int}
theorem SB{t:aH}:∀(l:List (K×Int)) (acc:List Int),lE t [] acc l=(acc++l.map Prod.snd,0)
 | [],acc=>by simp[lE]
 | x::l,acc=>by rw[lE,if_neg w8,SB l];simp
theorem wB{t:aH}{n:Nat}(g:dB t n):aq t []=((eu t.ix).map Prod.snd,0):=by
 unfold aq;have hb:iK t.ay []=(([],[]),0):=(by rw[g.ay];decide +kernel)
 rw[hb,if_neg w8,SB];show([]++(oZ t.ix [] []).map Prod.snd,0)=_;rw[EW];rfl
theorem acu(x:ByteArray):VP Tryz.prog G 20 [aZ x,bF] (.agg [ae 4,aZ x,bF,bF,bF,bI false,bF,fk,bI false,ae (-1),fk,bF]):=by
 exact VW

end Go.Proofs.YtkgmonfgofobaaaGreatDoor.Ba
namespace Go.Proofs.YtkgmonfgofobaaaGreatDoor.Ba
open List
open Go.Proofs.Tryz
open Go.RowKit V Pk Tr Vl Go.Proofs.YtkgmonfgofobaaaGreatDoor.Nm Pc Cd Ex Tw
open Pa (bJ bj eS dJ ec dS eC eP en dQ cj Ph)
variable {t:aH} {n:Nat}
noncomputable def uh(t:aH):List Int:=(eu t.ix).map Prod.snd
theorem BK(g:dB t n)(i:Int):i∈uh t↔eR t i:=by
 unfold uh;rw[mem_map];constructor
 ·rintro⟨x,hx,rfl⟩;obtain⟨x0,x1,E,_⟩:=g.gZ x hx;exact⟨x0,x1,E⟩
 intro h;exact⟨_,h.gZ g,rfl⟩
theorem acv(g:dB t n):(uh t).Nodup:=by have:=yK g [];rwa [wB g] at this
theorem af3(g:dB t n):(uh t).length≤40:=by have:=y8 g [];rwa [wB g] at this
theorem aet(t:aH):jf t=(uh t).map (rowAt t):=by unfold jf uh;rw[map_map];rfl

variable {G:List (Nat×List Value)} {m:Int}
theorem af4{α:Type}{a b:α}(h:oB a b=true):a=b:=by unfold oB at h;simpa using h
theorem aeu(a b:List (List Vl))(ha:a.length≤1000000)(hb:b.length≤1000000)(E:∀r∈a,r.length≤1000000)(I:∀r∈b,r.length≤1000000):VP Tryz.prog G 17 [au 1 gl a,au 1 gl b] (bI (oB a b)):=by
 refine VC.body func17 rfl ntmps17 aQ fun X0 w0 bf=>?_;have cY:=dN;refine af [0,1] ?_;refine af [0,1,10] ?_;refine ax ?_ ?_<;>intro aO bA
 ·exact z130
 have O:a.length=b.length:=(by simp at aO;omega)
 refine af [0,1,5] ?_;refine ez [0,1] (fun aR _ (i:Nat) aD=>(i≤a.length)∧(a.take i=b.take i)∧aD=(⟨27,(5,ae (i:Nat))::aR,[]⟩:St)) (fun (i:Nat)=>a.length-i) 0 ⟨(Nat.zero_le _),rfl,rfl⟩ ?_;rintro i _ ⟨hi,Hj,rfl⟩;refine af [0,1,5,14] ?_;refine ax ?_ ?_<;>intro aY cz
 ·have aa:i<a.length:=(by omega)
  have sK:i<b.length:=(by omega)
  refine cL [0,1,5,26] (R9 (a[i]'aa) (b[i]'sK) (E _ (getElem_mem aa)) (I _ (getElem_mem sK))) ?_;refine ax ?_ ?_<;>intro cc cN
  ·have hne:¬a[i]'aa=b[i]'sK:=fun e=>by rw[EI e] at cc;cases cc
   have fh:oB a b=false:=JF fun e=>hne (by subst e;rfl);refine af [4] ?_;exact xX
  have XI:a[i]'aa=b[i]'sK:=(by cases h3:oB (a[i]'aa) (b[i]'sK) with|false=>(rw[h3] at cc;cases cc)|true=>exact af4 h3)
  exact XH
 exact V1

theorem U9{r:List Vl}(h:0<r.length):fst r=r[0]:=by unfold fst;rw[getD_eq_getElem?_getD,getElem?_eq_getElem h];rfl

end Go.Proofs.YtkgmonfgofobaaaGreatDoor.Ba
namespace Go.Proofs.YtkgmonfgofobaaaGreatDoor.Ba
open List
open Go.Proofs.Tryz
open Go.RowKit V Pk Tr Vl Go.Proofs.YtkgmonfgofobaaaGreatDoor.Nm Pc Cd Ex Tw Go.Proofs.YtkgmonfgofobaaaGreatDoor.So
open Pa (bJ bj eS dJ ec dS eC eP en dQ cj Ph)
variable {t:aH} {n c:Nat} {dY:Int}
theorem aht{down:Bool}{o:Nat}{x y z:Int}(h:mL t down o z x):mL t down o z y∨mL t down o y x:=by
 have E:=EC t down o z y;rcases Int.lt_trichotomy (j5 t down o z y) 0 with h1|h1|h1
 ·exact .inl (.inl h1)
 ·have hc:=Bj h1;rcases h with h2|⟨h2,h3⟩
  ·exact .inr (.inl (by rw[←BC hc];exact h2))
  rcases u7 (cH (rowAt t z)) (cH (rowAt t y)) with h4|h4|h4
  ·exact .inl (.inr ⟨h1,h4⟩)
  ·exact .inr (.inr ⟨by rw[←BC hc];exact h2,by show bC _ _;rw[←h4];exact h3⟩)
  exact .inr (.inr ⟨by rw[←BC hc];exact h2,lR h4 h3⟩)
 have h5:j5 t down o y z<0:=(by omega)
 rcases h with h2|⟨h2,_⟩
 ·exact .inr (.inl (T2 h5 h2))
 exact .inr (.inl (by rw[←RW (Bj h2)];exact h5))
theorem af5(g:dB t n){down:Bool}{o:Nat}{x y:Int}(hx:eR t x)(hy:eR t y)(h:x≠y):mL t down o x y∨mL t down o y x:=by
 have E:=EC t down o x y;rcases Int.lt_trichotomy (j5 t down o x y) 0 with h1|h1|h1
 ·exact .inl (.inl h1)
 ·rcases u7 (cH (rowAt t x)) (cH (rowAt t y)) with h4|h4|h4
  ·exact .inl (.inr ⟨h1,h4⟩)
  ·have:=Fz g.ix (hx.gZ g) (hy.gZ g) h4;simp only[Prod.mk.injEq] at this;exact absurd this.2 h
  exact .inr (.inr ⟨by omega,h4⟩)
 exact .inr (.inl w4)
open Classical in
theorem aev(g:dB t n)(down:Bool)(o:Nat){l:List Int}(hn:l.Nodup)(hi:∀i∈l,eR t i):(vm t down o l).Perm l∧(vm t down o l).Pairwise (mL t down o):=by
 have hp:=mergeSort_perm l (fun x y=>decide (¬mL t down o y x));have hs:=pairwise_mergeSort (le:=fun x y=>decide (¬mL t down o y x)) (fun a b c h1 h2=>by
  simp only[decide_eq_true_eq] at h1 h2 ⊢;exact fun h=>(aht (y:=b) h).elim h2 h1) (fun a b=>by
  simp only[Bool.or_eq_true,decide_eq_true_eq];exact Classical.byContradiction fun h=>by
   have h1:=Classical.not_not.1 fun q=>h (.inl q);have h2:=Classical.not_not.1 fun q=>h (.inr q);exact RX h1 h2) l
 refine Classical.epsilon_spec (p:=fun lz:List Int=>lz.Perm l∧lz.Pairwise (mL t down o)) ⟨_,hp,?_⟩;have hnd:(l.mergeSort fun x y=>decide (¬mL t down o y x)).Nodup:=hp.nodup_iff.2 hn;refine pairwise_iff_getElem.2 fun i j h1 h2 h3=>?_;have h4:=pairwise_iff_getElem.1 hs i j h1 h2 h3;have h5:=pairwise_iff_getElem.1 hnd i j h1 h2 h3;simp only[decide_eq_true_eq] at h4;exact(af5 g (hi _ (hp.subset (getElem_mem h1))) (hi _ (hp.subset (getElem_mem h2))) h5).resolve_right h4
def kZ(c:Nat)(down:Bool)(dY:Int)(jj:Bool):bJ:={nA [] with order:=ko (c:Int),down:=down,gS:=dY,count:=jj}
theorem Va:∀c,c<4→(iQ (ko ((c:Nat):Int)) ⟨#[]⟩=false∧((ko (c:Int)).toList==(⟨#[]⟩:ByteArray).toList)=false∧bz bY (ko (c:Int))=(c:Int)):=by decide +kernel
theorem Ls(c:Nat)(down:Bool)(dY:Int)(jj:Bool):(kZ c down dY jj).kind=4:=rfl
theorem E5(hc:c<4)(down:Bool)(h1:-1≤dY)(h2:dY≤100)(jj:Bool):ec (kZ c down dY jj):=by
 have ht:cy ⟨#[116]⟩=0:=(by decide +kernel)
 have ho:=Rg (c:Int);refine⟨⟨⟨Nat.zero_le _,Nat.zero_le _,Nat.zero_le _,Nat.zero_le _,Nat.zero_le _⟩,Pa.small ht,(fun _ h=>by cases h),(fun _ h=>by cases h),Pa.small ho,Nat.zero_le _,(fun _ h=>by cases h),(fun _ h=>by cases h),(fun _ h=>by cases h)⟩,by show(1:Int)≤4;decide,by show(4:Int)≤6;decide,(by show dY≤9223372036854775807;omega),Pa.uS ht ?_ aB⟩;unfold Pa.eC;rw[if_neg (by rw[Ls];decide),if_neg (by rw[Ls];decide),if_pos (Ls c down dY jj)];unfold Pa.ox;rw[if_neg (show ¬(kZ c down dY jj).names.length>6 from Nat.not_lt_zero _),if_neg (show ¬(kZ c down dY jj).gS < -1 from by show ¬dY < -1;omega),if_neg,if_neg (show ¬Pa.jL cy (kZ c down dY jj).names≠0 from fun e=>e rfl),if_neg (show ¬Pa.mR (kZ c down dY jj).aj≠0 from fun e=>e rfl)]
 ·split
  ·rfl
  exact ho
 rintro(⟨_,h⟩|⟨_,h⟩)
 ·exact absurd h (Nat.not_lt_zero _)
 have h':iQ (ko (c:Int)) ⟨#[]⟩=true:=h;rw[(Va c hc).1] at h';cases h'
noncomputable def jO(t:aH)(down:Bool)(c:Nat):List Int:=vm t down c (uh t)
theorem E6(g:dB t n)(down:Bool)(c:Nat):(jO t down c).Perm (uh t)∧(jO t down c).Pairwise (mL t down c):=aev g down c (acv g) fun i hi=>(BK g i).1 hi
theorem aew(g:dB t n)(hc:c<4)(down:Bool)(dY:Int)(jj:Bool):lW t (kZ c down dY jj)=(if jj=true then (([[⟨2,((jF dY (jO t down c)).length:Int),⟨#[]⟩⟩]],((jF dY (jO t down c)).length:Int)),0) else (((jF dY (jO t down c)).map (rowAt t),((jF dY (jO t down c)).length:Int)),0):(List (List Vl)×Int)×Int):=by
 obtain⟨_,o2,o3⟩:=Va c hc;unfold lW;have ho:qd t (kZ c down dY jj)=(c:Int):=by
  unfold qd;rw[if_neg (show ¬((kZ c down dY jj).order.toList==(⟨#[]⟩:ByteArray).toList)=true from by show ¬((ko (c:Int)).toList==(⟨#[]⟩:ByteArray).toList)=true;rw[o2];decide),g.ay];exact o3
 have hm:aq t (kZ c down dY jj).aj=(uh t,0):=wB g;rw[if_neg (show ¬((kZ c down dY jj).names.any fun n=>decide (bz t.ay n<0))=true from fun h=>by cases h),ho,if_neg w4,hm,if_neg (fun e=>e rfl)];have hs:rB t (kZ c down dY jj)=jF dY (jO t down c):=by
  unfold rB;rw[ho,hm];rfl
 rw[hs];have ha:pM t (kZ c down dY jj).names=[0,1,2,3]:=by
  unfold pM;rw[if_pos (show(kZ c down dY jj).names.length=0 from rfl),g.ay];rfl
 have E:(jF dY (jO t down c)).map (vw t (pM t (kZ c down dY jj).names))=(jF dY (jO t down c)).map (rowAt t):=by
  rw[ha];refine map_congr_left fun i hi=>?_;have I:i∈jO t down c:=by
   unfold jF at hi;split at hi
   ·exact mem_of_mem_take hi
   exact hi
  exact Uo (eR.ok g ((BK g i).1 ((E6 g down c).1.subset I))).1
 rw[E];rfl
theorem Kr{l:List aH}{a:Nat}(E:lX l a c)(h:l.map aH.nm=cj)(h0:0<l.length){k:Nat}(hk:k<4)(down:Bool)(h1:-1≤dY)(h2:dY≤100)(jj:Bool) :
  iC l (kZ k down dY jj)=(l,(if jj=true then ([[⟨2,((jF dY (jO l[0] down k)).length:Int),⟨#[]⟩⟩]],((jF dY (jO l[0] down k)).length:Int)) else ((jF dY (jO l[0] down k)).map (rowAt l[0]),((jF dY (jO l[0] down k)).length:Int)):List (List Vl)×Int),0):=by
 have g:=E.g.tb _ (getElem_mem h0);rw[Um h rfl rfl (U7 (E5 hk down h1 h2 jj) rfl (Nat.zero_le _) (Nat.zero_le _)) h0,aew g hk];by_cases hc:jj=true
 ·rw[if_pos hc,if_pos hc,if_neg (fun e=>e rfl)]
 rw[if_neg hc,if_neg hc,if_neg (fun e=>e rfl)]
theorem J3(h:0≤dY)(l:List Int):((jF dY l).length:Int)=min dY l.length∧jF dY l=l.take (jF dY l).length:=by
 unfold jF;split
 ·rename_i hq;have e:(l.take dY.toNat).length=dY.toNat:=(by rw[length_take];omega)
  rw[e];refine⟨by omega,rfl⟩
 rename_i hq;exact⟨by omega,(take_of_length_le (Nat.le_refl _)).symm⟩
theorem aex(g:dB t n){down:Bool}(hc:c<4){i:Nat}(h0:0<i)(hi:i<(jO t down c).length) :
  ∃r q:List Vl,((jO t down c).map (rowAt t))[i-1]'Ae=r∧((jO t down c).map (rowAt t))[i]'Ae=q∧r.length=4∧q.length=4∧(∀v∈r,v.Ok∧cl v=0)∧(∀v∈q,v.Ok∧cl v=0) ∧
   ((if down=true then -(fg (r.getD c bu) (q.getD c bu)) else fg (r.getD c bu) (q.getD c bu))<0∨((if down=true then -(fg (r.getD c bu) (q.getD c bu)) else fg (r.getD c bu) (q.getD c bu))=0∧(fst r).n<(fst q).n)):=by
 obtain⟨hp,hs⟩:=E6 g down c;have E:i-1<(jO t down c).length:=(by omega)
 have O:=(BK g _).1 (hp.subset (getElem_mem hi));have U:=(BK g _).1 (hp.subset (getElem_mem E));have I:=pairwise_iff_getElem.1 hs (i-1) i E hi w4;refine⟨_,_,getElem_map _,getElem_map _,(eR.ok g U).1,(eR.ok g O).1,(eR.ok g U).2,(eR.ok g O).2,?_⟩;rcases I with I|⟨I,hK⟩
 ·exact .inl I
 refine .inr ⟨I,?_⟩;obtain⟨a1,a2,a3,a4,a5,_⟩:=E4 (uT g U).1 (uT g U).2;obtain⟨b1,b2,b3,b4,b5,_⟩:=E4 (uT g O).1 (uT g O).2;have hk:bC (cH (rowAt t (jO t down c)[i-1])) (cH (rowAt t (jO t down c)[i])):=hK;rw[a5,b5] at hk;exact(Un a4 a3 a1 a2 b4 b3 b1 b2).1 hk

end Go.Proofs.YtkgmonfgofobaaaGreatDoor.Ba
namespace Go.Proofs.YtkgmonfgofobaaaGreatDoor.Ba
open List
open Go.Proofs.Tryz
open Go.RowKit V Pk Tr Vl Go.Proofs.YtkgmonfgofobaaaGreatDoor.Nm Pc Cd Ex Tw
open Pa (bJ bj eS dJ ec dS eC eP en dQ cj Ph)
variable {G:List (Nat×List Value)} {m:Int}
theorem Ks:∀(j:Nat) (h:j<4),(bY[j]'h).n=ko (j:Int)
 | 0,_=>rfl
 | 1,_=>rfl
 | 2,_=>rfl
 | 3,_=>rfl
 | j+4,h=>absurd h (by show ¬j+4<4;omega)
theorem af6{t:aH}{down:Bool}{c:Nat}{n:Nat}(g:dB t n):((jO t down c).map (rowAt t)).length=(jf t).length∧(jf t).length≤40:=by
 rw[length_map,aet,length_map,((E6 g down c).1).length_eq];exact⟨rfl,af3 g⟩
theorem acw{l:List aH}{a c:Nat}(E:lX l a c)(h:l.map aH.nm=cj)(h0:0<l.length){k:Nat}(hk:k<4)(down:Bool){dY:Int}(h1:0≤dY)(h2:dY≤100) :
  ∃(rs:List (List Vl)) (n:Nat),iC l (kZ k down (-1) false)=(l,((rs,(rs.length:Int)),0))∧iC l (kZ k down dY false)=(l,((rs.take n,(n:Int)),0))∧iC l (kZ k down dY true)=(l,(([[(⟨2,((n:Nat):Int),⟨#[]⟩⟩:Vl)]],(n:Int)),0)) ∧
   rs.length=(jf l[0]).length∧(n:Int)=min dY rs.length∧rs.length≤40∧(∀r∈rs,r.length≤1000000) ∧
   ∀i,0<i→∀hi:i<rs.length,(rs[i-1]'w4).length=4∧rs[i].length=4∧(∀v∈rs[i-1]'w4,v.Ok∧cl v=0)∧(∀v∈rs[i],v.Ok∧cl v=0) ∧
    ((if down=true then -(fg ((rs[i-1]'w4).getD k bu) (rs[i].getD k bu)) else fg ((rs[i-1]'w4).getD k bu) (rs[i].getD k bu))<0∨((if down=true then -(fg ((rs[i-1]'w4).getD k bu) (rs[i].getD k bu)) else fg ((rs[i-1]'w4).getD k bu) (rs[i].getD k bu))=0∧(fst (rs[i-1]'w4)).n<(fst rs[i]).n)):=by
 have g:=E.g.tb _ (getElem_mem h0);obtain⟨e1,e2⟩:=af6 (down:=down) (c:=k) g;obtain⟨c1,c2⟩:=J3 h1 (jO l[0] down k);have hc:jF (-1) (jO l[0] down k)=jO l[0] down k:=(by unfold jF;rw[if_neg w4])
 have r1:=Kr E h h0 hk down (dY:=-1) w4 w4 false;have r2:=Kr E h h0 hk down (dY:=dY) w4 h2 false;have r3:=Kr E h h0 hk down (dY:=dY) w4 h2 true;rw[if_neg w8] at r1 r2;rw[if_pos rfl] at r3;refine⟨(jO l[0] down k).map (rowAt l[0]),(jF dY (jO l[0] down k)).length,by rw[r1,hc,length_map],?_,r3,e1,by rw[c1,length_map],by omega,fun r hr=>?_,fun i I hi=>?_⟩
 ·rw[r2,←List.map_take,←c2]
 ·obtain⟨i,hi,rfl⟩:=mem_map.1 hr;rw[(eR.ok g ((BK g i).1 ((E6 g down k).1.subset hi))).1];decide
 (first|rw[length_map] at hi|(unfold au at hi;rw[length_map] at hi))
 obtain⟨r,q,q1,q2,q3⟩:=aex g hk I hi;rw[q1,q2];exact q3
theorem Us{r:List Vl}{j:Nat}(h:j<r.length):r.getD j bu=r[j]:=by rw[getD_eq_getElem?_getD,getElem?_eq_getElem h];rfl
theorem Zn(hm:(3,marksC)∈G)(hw:(1,wordsC)∈G)(ht:(0,typesC)∈G)(hG:(2,[Value.int .i64 m])∈G)(ps:List Ph)(gK:∀p∈ps,p.Ok)(fE:ps.length≤maxLen)(x1:Int)(x11:-9223372036854775808≤x1)(x12:x1≤9223372036854775807)(U:Bool)(x3:Int)(x31:-9223372036854775808≤x3)(x32:x3≤9223372036854775807):VP Tryz.prog G 9 [.list 14 (ps.flatMap Ph.cs) ps.length,ae x1,bI U,ae x3] (bI true):=by
 refine VC.body func9 rfl ntmps9 aQ fun X0 w0 bf=>?_;have cY:=dN;refine af [0,1,2,3] ?_;refine aA 1 ?_;refine OD.call ap rfl rfl rfl call12 (Uk hm hw ht hG ps gK fE) ⟨ot,trivial⟩ (fa _) ?_;rintro _ _ ⟨l,a,c,rfl,rfl,gn,vU,Z⟩;refine OD.alloc (ds:=[_]) ap rfl rfl zeroValue25 rfl (fun b9=>?_);refine aM 0 [_] sizeOf25 ?_;refine an 189 [1,2,3,9] ?_;refine CD.seq ?_;have ir:=WV Z;have vV:0<l.length:=(by omega)
 have hg0:=gn.g.tb _ (getElem_mem vV);have yj:=iX x1 (show(1:Int)≤4 by decide);have HH:=kv G x1 4 x11 x12 w8;obtain⟨j,Aq⟩:=Int.eq_ofNat_of_zero_le yj.1;have E:j<4:=(by omega)
 have hj:j<bY.length:=E;rw[Aq] at HH;have Zc:=iX x3 (show(1:Int)≤12 by decide);have Zd:=kv G x3 12 x31 x32 w8;generalize dI x3 12=q at Zc Zd;have uL:=Kp hm hw ht hG l gn.g ⟨#[116]⟩;rw[KS (i:=0) (CL Z) vV] at uL;dsimp only at uL;obtain⟨rs,n,e1,e2,e3,ym,Gn,pG,al5,nf⟩:=acw gn Z vV E U (dY:=q) Zc.1 w4;have mh:=VC.xQ (wX hm hw ht hG gn vU (s:=kZ j U (-1) false) (ec.st (E5 E U w8 w8 false)) G2 (fun _=>(show cy ⟨#[116]⟩=0 by decide +kernel)) G3 (fun h=>by cases h)) (args':=[.agg [au 5 cX (l)],.agg [ae 4,aZ ⟨#[116]⟩,bF,bF,bF,bI false,bF,aZ (ko (j:Int)),bI U,ae (-1),fk,bF]]) ⟨cq,u0 ⟨cq,cq,ey,ey,ey,cq,ey,cq,cq,cq,cq,ey,trivial⟩,trivial⟩;rw[←Ks j E] at mh;unfold uK at mh;have mi:=VC.xQ (wX hm hw ht hG gn vU (s:=kZ j U q false) (ec.st (E5 E U w4 w4 false)) G2 (fun _=>(show cy ⟨#[116]⟩=0 by decide +kernel)) G3 (fun h=>by cases h)) (args':=[.agg [au 5 cX (l)],.agg [ae 4,aZ ⟨#[116]⟩,bF,bF,bF,bI false,bF,aZ (ko (j:Int)),bI U,ae q,fk,bF]]) ⟨cq,u0 ⟨cq,cq,ey,ey,ey,cq,ey,cq,cq,cq,cq,ey,trivial⟩,trivial⟩;rw[←Ks j E] at mi;unfold uK at mi
 have D5:=VC.xQ (wX hm hw ht hG gn vU (s:=kZ j U q true) (ec.st (E5 E U w4 w4 true)) G2 (fun _=>(show cy ⟨#[116]⟩=0 by decide +kernel)) G3 (fun h=>by cases h)) (args':=[.agg [au 5 cX (l)],.agg [ae 4,aZ ⟨#[116]⟩,bF,bF,bF,bI true,bF,aZ (ko (j:Int)),bI U,ae q,fk,bF]]) ⟨cq,u0 ⟨cq,cq,ey,ey,ey,cq,ey,cq,cq,cq,cq,ey,trivial⟩,trivial⟩;rw[←Ks j E] at D5;unfold uK at D5;rw[e1] at mh;rw[e2] at mi;rw[e3] at D5;dsimp only at mh mi D5;generalize jf l[0]=H6 at uL ym;have pI:n≤rs.length:=(by omega)
 have tq:(rs.take n).length=n:=(by rw[length_take];omega)
 have Y2:(((rs.length:Nat):Int)!=((H6.length:Nat):Int))=false:=(by rw[ym];simp)
 have n8:(((n:Nat):Int)!=((n:Nat):Int))=false:=(by simp)
 have hA:0<([[(⟨2,((n:Nat):Int),⟨#[]⟩⟩:Vl)]]:List (List Vl)).length:=Nat.zero_lt_succ 0;have hB:0<([[(⟨2,((n:Nat):Int),⟨#[]⟩⟩:Vl)]]:List (List Vl))[0].length:=Nat.zero_lt_succ 0;have rm:∀r∈rs.take n,r.length≤1000000:=fun r hr=>al5 r (mem_of_mem_take hr);refine gC [2,3,9,10] ?_;refine cJ (HH) ?_;refine bD ?_;refine bS ?_;refine dO call20 (acu ⟨#[116]⟩) ?_;refine OD.alloc (ds:=[_,_,_,_,_,_,_,_,_,_,_,_]) ap rfl rfl zeroValue46 rfl (fun kN=>?_);refine aM 0 [_,_,_,_,_,_,_,_,_,_,_,_] sizeOf46 ?_;refine an 189 [2,3,9,10,11] ?_;refine bS ?_;refine OD.gQ ap rfl rfl rfl call13 (Bc) trivial ?_;refine aG 5 ?_;refine aM 0 [_,_,_,_,_,_,_,_,_,_,_,_] sizeOf9 ?_;refine an 189 [2,3,9,10,11] ?_;refine aA 2 ?_;refine aM 0 [_,_,_,_,_,_,_,_,_,_,_,_] sizeOf4 ?_;refine an 189 [2,3,9,10,11] ?_;refine aA 2 ?_;refine dO call15 (mh) ?_;refine aG 4 ?_;refine OD.alloc (ds:=[_]) ap rfl rfl zeroValue25 rfl (fun uJ=>?_);refine OD.alloc (ds:=[_,_]) ap rfl rfl zeroValue39 rfl (fun lN=>?_);refine aM 1 [_] sizeOf25 ?_;refine aM 0 [_,_] sizeOf39 ?_;refine an 189 [2,3,9,10,11,13,14] ?_;refine cL [2,9,10,11,13,14,15] (Zd) ?_;refine aA 2 ?_;refine aM 2 [_,_,_,_,_,_,_,_,_,_,_,_] sizeOf3 ?_;refine an 189 [2,9,10,11,13,14,15] ?_;refine aA 2 ?_;refine dO call15 (mi) ?_;refine aG 4 ?_;refine OD.alloc (ds:=[_]) ap rfl rfl zeroValue25 rfl (fun b16=>?_);refine OD.alloc (ds:=[_,_]) ap rfl rfl zeroValue39 rfl (fun b17=>?_);refine aM 1 [_] sizeOf25 ?_
 refine aM 0 [_,_] sizeOf39 ?_;refine an 189 [2,9,10,11,13,14,15,17,18] ?_;refine aA 1 ?_;refine aM 4 [_,_,_,_,_,_,_,_,_,_,_,_] sizeOf4 ?_;refine an 189 [2,9,10,11,13,14,15,17,18] ?_;refine aA 2 ?_;refine dO call15 (D5) ?_;refine aG 4 ?_;refine OD.alloc (ds:=[_]) ap rfl rfl zeroValue25 rfl (fun b19=>?_);refine OD.alloc (ds:=[_,_]) ap rfl rfl zeroValue39 rfl (fun HB=>?_);refine aM 1 [_] sizeOf25 ?_;refine aM 0 [_,_] sizeOf39 ?_;refine an 189 [2,9,10,13,14,15,17,18,20,21] ?_;refine cL [2,10,13,14,15,17,18,20,21,22,23] (uL) ?_;refine cM [2,10,13,17,20,107] ?_;refine aP 28 ?_ (h:=by exact(OL (r:=.int .i64 (n:Nat)) rfl ot ot (fun cs w=>(UA cs w).trans (by split<;>(congr 3;omega)))));refine bD ?_;refine ax ?_ ?_<;>intro aO bA
 ·exact zI
 refine af [2,10,13,17,20,24] ?_;refine ez [2,10,13,17,20] (fun aR lK (i:Nat) aD=>(1≤i)∧(i≤rs.length+1)∧aD=(⟨189,(24,ae (i:Nat))::aR,lK⟩:St)) (fun (i:Nat)=>rs.length-i) 1 ⟨(Nat.le_refl _),w4,rfl⟩ ?_;rintro i _ ⟨j9,hi,rfl⟩;refine af [2,10,13,17,20,24,112] ?_;refine ax ?_ ?_<;>intro aY cz
 ·have aa:i<rs.length:=(by omega)
  have p8:i-1<rs.length:=(by omega)
  obtain⟨HX,Ze,Zf,Zg,I⟩:=nf i w4 aa;have uv:j<(rs[i-1]'p8).length:=(by rw[HX];exact E)
  have O:j<(rs[i]'aa).length:=(by rw[Ze];exact E)
  have Ao:0<(rs[i-1]'p8).length:=(by rw[HX];decide)
  have Ap:0<(rs[i]'aa).length:=(by rw[Ze];decide)
  rw[Us uv,Us O,U9 Ao,U9 Ap] at I;have eV:=O8 (G:=G) ((rs[i-1]'p8)[j]'uv) ((rs[i]'aa)[j]'O) (Zf _ (getElem_mem uv)).1 (Zg _ (getElem_mem O)).1;have Oh:lU ((rs[i-1]'p8)[j]'uv) ((rs[i]'aa)[j]'O)=0:=(by unfold lU;rw[if_neg (by simp[(Zf _ (getElem_mem uv)).2]),(Zg _ (getElem_mem O)).2])
  unfold Gz at eV;rw[Oh,if_neg w8] at eV;have AJ:=T3 ((rs[i-1]'p8)[j]'uv) ((rs[i]'aa)[j]'O);generalize fg ((rs[i-1]'p8)[j]'uv) ((rs[i]'aa)[j]'O)=d at eV AJ I;refine cM [2,10,13,17,20,24,25,26] ?_;refine aP 3 ?_ (h:=by exact(dj (r:=.int .i64 ((i:Nat)-1)) rfl ot bP (gN (wrap_i64 w4 w4))));refine aP 0 ?_ (h:=by exact(dw 1 (h:=by first|exact .l (j:=i-1) w4 p8|exact .r (j:=i-1) w4 p8)));refine cJ (eV) ?_;refine bD ?_;refine af [2,10,13,17,20,24,25,26,136] ?_;refine ax ?_ ?_<;>intro cc cN
  ·have mo:U=true:=cc;rw[if_pos mo,←Int.zero_sub] at I;have Mz:(0-d)<0∨((0-d)=0∧((rs[i-1]'p8)[0]'Ao).n<((rs[i]'aa)[0]'Ap).n):=I;refine gC [2,10,13,17,20,24,25,26] ?_;refine aP 1 ?_ (h:=by exact(Bm rfl ot (FE (wrap_i64 w4 w4))));refine bD ?_;refine CD.seq ?_;rcases Mz with h|⟨h,hk⟩
   ·have g1:decide ((0-d)>0)=false:=decide_eq_false w4;have g2:((0-d)==0)=false:=(by rw[beq_eq_false_iff_ne];omega)
    exact XG
   have g1:decide ((0-d)>0)=false:=decide_eq_false w4;have g2:((0-d)==0)=true:=(by rw[h];rfl)
   exact Xa
  have mo:¬U=true:=(by rw[cc];decide)
  rw[if_neg mo] at I;have Mz:d<0∨(d=0∧((rs[i-1]'p8)[0]'Ao).n<((rs[i]'aa)[0]'Ap).n):=I;refine CD.skip ?_;refine CD.seq ?_;rcases Mz with h|⟨h,hk⟩
  ·have g1:decide (d>0)=false:=decide_eq_false w4;have g2:(d==0)=false:=(by rw[beq_eq_false_iff_ne];omega)
   exact XG
  have g1:decide (d>0)=false:=decide_eq_false w4;have g2:(d==0)=true:=(by rw[h];rfl)
  exact Xa
 refine CD.exit ?_;refine CD.seq ?_;have hq:=aeu (G:=G) (rs.take n) (rs.take n) w4 w4 rm rm;rw[EI rfl] at hq;refine gC [8] ?_;refine aP 6 ?_ (h:=by exact(eE (l:=0) (h:=n) rfl ot trivial ⟨_,ot⟩ (by first|exact kO jW (fun h=>by cases h) runUnderlying37 sizeOf43 w4|exact kO wF (fun h=>by cases h) runUnderlying37 sizeOf43 w4|exact kO kg (fun h=>by cases h) runUnderlying37 sizeOf43 w4|exact kO eZ (fun h=>by cases h) runUnderlying37 sizeOf43 w4|exact kO lu (fun h=>by cases h) runUnderlying37 sizeOf43 w4|exact kO mQ (fun h=>by cases h) runUnderlying37 sizeOf43 w4|exact nO (fun h=>by cases h) runUnderlying37 sizeOf43 w4|exact nk (fun _=>rfl) (fun h=>by cases h) runUnderlying37 sizeOf43 w4 w4)));refine cJ (hq) ?_;refine aP 3 ?_ (h:=by exact(oe (mk:=Op.indexAddr 37) rfl ot bP (by first|exact oU runUnderlying37 sizeOf43 (j:=0) rfl hA|exact oV runUnderlying37 sizeOf43 (j:=0) rfl hA)));refine aP 1 ?_ (h:=by exact(oe (mk:=Op.indexAddr 43) rfl ot bP (by first|exact oU runUnderlying43 sizeOf33 (j:=0) rfl hB|exact oV runUnderlying43 sizeOf33 (j:=0) rfl hB)));refine aP 4 ?_ (h:=by exact(aa2 (us:=[_,_,_]) (xZ:=[_,_,_]) rfl ot ot eqGuardType33 (Vl.F7 ⟨2,(n:Nat),⟨#[]⟩⟩ ⟨2,(n:Nat),⟨#[]⟩⟩)));refine bD ?_;refine aK [] ?_;refine⟨?_,rfl⟩;first|rfl|(simp;done)
theorem walkSelectOrder(l:List Ph)(v:Value)(ok:(∀x∈l,x.Ok)∧l.length≤maxLen)(O:Int)(E:(Lit.int .i64 O).wf=true)(Z:Bool)(U:Int)(I:(Lit.int .i64 U).wf=true)(w:World)(h1:MarksTab w)(h2:WordsTab w)(h3:TypesTab w){m:Int}(hm:Tab.mw w 2 [Value.int .i64 m])(hv:cg w (fun _=>False) (.list 14 (l.flatMap Ph.cs) l.length) v) :Calls Tryz.prog 9 #[v,.int .i64 O,.bool Z,.int .i64 U] w fun e w'=>e = .returned (.bool true)∧Below w.heap.size w w' :=
 (Zn (G:=yD m) Y5 Y6 Y7 Y8 l ok.1 ok.2 O (BQ E).1 (BQ E).2 Z U (BQ I).1 (BQ I).2).V6 (WU h1 h2 h3 hm) (vs:=[v,_,_,_]) (cD.cons hv (cD.vs w _ [_,_,_]))

end Go.Proofs.YtkgmonfgofobaaaGreatDoor.Ba
