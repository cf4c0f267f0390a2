/-
  What the proof of GA leans on, part 8: walks of the program's functions at the level of values, and plain facts of what they compute.
-/
import Derived.Test.YtkgmonfgofobaaaGreatDoorPGA7
set_option linter.unusedVariables false
set_option linter.unusedSimpArgs false
set_option maxRecDepth 100000
set_option maxHeartbeats 4000000
namespace Go.Proofs.YtkgmonfgofobaaaGreatDoor.Ba
open List
open Go.Proofs.Tryz
open Go.RowKit V Pk Tr Vl Go.Proofs.YtkgmonfgofobaaaGreatDoor.Nm Pc Cd Ex Tw Go.Proofs.YtkgmonfgofobaaaGreatDoor.So
open Pa (bA bg)
variable {G:List (Nat×List Value)} {m:Int}
variable {p:(List (List Vl)×Int)×Int} {S:List ah} {t:az} {n i cap:Nat} {ad:Option Addr}
def CO(p:(List (List Vl)×Int)×Int)(r:D)(S:List ah):Prop:=∃(L:List cl) (ad:Option Addr) (cap:Nat) (Sx:List ah),r = .dD [.agg [aP ad L.length cap,ae p.1.2],ae p.2]∧th L ad cap Sx∧(∀o∈L,om o)∧L.map cl.r=p.1.1∧S=Sx++L.flatMap bR
theorem CO.view{r:D}(h:CO p r S):View S r (Bq p):=by
 obtain⟨L,ad,cap,Sx,rfl,ho,aT,hL,rfl⟩:=h;unfold Bq;rw[←hL];(first|rw[length_map]|(unfold au;rw[length_map]))
 exact Fy ⟨vl ⟨BG ho (F4 aT fun B E=>mem_append_right _ E) (by rw[cz j3,length_map]) (fun B E=>mem_append_left _ E),eW,trivial⟩,eW,trivial⟩
theorem ahN(l:List Vl):∀d∈l.flatMap cV,kZ d=true:=fun d hd=>by
 obtain⟨v,_,hv⟩:=mem_flatMap.1 hd;unfold cV at hv;simp only[mem_cons,not_mem_nil,or_false] at hv;rcases hv with rfl|rfl|rfl<;>rfl
theorem ahO(l:List cl):∀d∈l.flatMap gR,kZ d=true:=fun d hd=>by
 obtain⟨v,_,hv⟩:=mem_flatMap.1 hd;unfold gR at hv;rw[mem_singleton] at hv;subst hv;rfl
theorem CO.flat{r:D}(h:CO p r S):kZ r=true∧∀B∈S,∀d∈B.cs,kZ d=true:=by
 obtain⟨L,ad,cap,Sx,rfl,ho,aT,hL,rfl⟩:=h;refine⟨rfl,fun B E=>?_⟩;rcases mem_append.1 E with E|E
 ·rcases ho with ⟨_,_,_,_,rfl⟩|⟨b,_,_,_,rfl⟩
  ·cases E
  rw[mem_singleton] at E;subst E;exact ahO L
 obtain⟨o,I,E⟩:=mem_flatMap.1 E;have h1:=aT o I;unfold bR at E;rcases h1 with ⟨_,_,_,_,h2⟩|⟨b,_,_,_,h2⟩
 ·rw[h2] at E;cases E
 rw[h2,mem_singleton] at E;subst E;exact ahN o.r
theorem ahP(g:cA t n)(s:bA):rV t s<4:=by
 unfold rV;split
 ·decide
 have:=(LF (l:=t.ay) (nm:=s.order)).2;rw[g.ay] at this ⊢;exact this
theorem ajk(g:cA t n){names:List ByteArray}(h:∀n∈names,0≤bC t.ay n):∀c∈sA t names,0≤c∧c.toNat<4:=fun c hc=>by
 have h4:t.ay.length=4:=(by rw[g.ay];rfl)
 unfold sA at hc;split at hc
 ·obtain⟨i,hi,rfl⟩:=mem_map.1 hc;have:=mem_range.1 hi;constructor
  ·exact Int.natCast_nonneg i
  show i<4;omega
 obtain⟨x,hx,rfl⟩:=mem_map.1 hc;have:=(LF (l:=t.ay) (nm:=x)).2;have:=h x hx;omega
theorem ajl{L:List cl}{o:cl}(f:ah→Nat):(((L++[o]).flatMap bR).map f).sum=((L.flatMap bR).map f).sum+(o.S.map f).sum:=by
 rw[UI];simp only[bR,map_append,sum_append]
theorem Ry:(Tryz.prog.info? 3).map (fun i=>(i.zero,i.size,i.bytes))=some (some (.int .i64 0),1,8):=by kernel_rfl
theorem abf:(Tryz.prog.info? 33).map (fun i=>(i.zero,i.size,i.bytes))=some (some (.agg #[.int .i64 0,.int .i64 0,.string ⟨#[]⟩]),3,32):=by kernel_rfl
theorem abg:(Tryz.prog.info? 43).map (fun i=>(i.zero,i.size,i.bytes))=some (some (.slice none 0 0),1,24):=by kernel_rfl
theorem agl(hm:(3,marksC)∈G)(hw:(1,wordsC)∈G)(ht:(0,typesC)∈G)(hG:(2,[Value.int .i64 m])∈G)(t:az)(g:cA t n)(s:bA)(pL:s.names.length≤1000)(ho:∀o∈s.aj,o.nm.size≤maxLen)(gd:∀o∈s.aj,o.v.Ok):VC Tryz.prog G 57 [.agg (cU t),.agg (bg s)] [] (CO (mX t s)):=by
 refine VC.body func57 rfl ntmps57 aQ fun X0 w0 bf=>?_;have c8:=dV;have Br:=LC (G:=G) hm hw ht hG t g s.aj ho gd;have EJ:=zF g s.aj;have mM:=qP g s.aj;have Pq:=zu g s.aj;obtain⟨M,hM⟩:∃M,M=aq t s.aj:=⟨_,rfl⟩
 rw[←hM] at Br EJ mM Pq;obtain⟨sl,em⟩:=M;dsimp only at EJ mM Pq;have mb:=g.eO;have alW:t.ay.length=4:=(by rw[g.ay];rfl)
 unfold cU at Br;unfold cU bg;refine cf ?_;refine OD.box (ds:=[_,_,_,_,_]) ap rfl rfl ot rfl rfl (fun b2=>?_);refine OD.box (ds:=[_,_,_,_,_,_,_,_,_,_,_,_]) ap rfl rfl ot rfl rfl (fun b3=>?_);refine OD.alloc (ds:=[_,_]) ap rfl rfl zeroValue39 rfl (fun b4=>?_);refine an 135 [2,3,4] ?_;refine cf ?_;refine bp [2,3,4,6] ?_;refine af [2,3,4,6,21,22,23] ?_;refine eG [2,3,4,21,22] (fun aS _ (O:Nat×List Int×Option Addr×Nat×List ah) aE=>match O with|(i,acc,Z,oq,Sa)=>(i≤s.names.length)∧(acc=(s.names.take i).map (bC t.ay))∧(∀x∈s.names.take i,0≤bC t.ay x)∧(bn 3 1 ((acc).flatMap Tw.cI) (acc).length Z oq Sa)∧aE=(⟨135,(6,aP Z (acc).length oq)::(23,ae (i:Nat))::aS,(⟨b4,39,2,[bF,ae 0]⟩::⟨b3,46,12,bg s⟩::⟨b2,77,5,cU t⟩::Sa)⟩:St)) (fun (O:Nat×List Int×Option Addr×Nat×List ah)=>match O with|(i,acc,Z,oq,Sa)=>s.names.length-i) (0,([]:List Int),none,0,[]) ⟨(Nat.zero_le _),rfl,(fun x h=>by cases h),(bn.cast iW lu),rfl⟩ ?_;rintro⟨i,acc,Z,oq,Sa⟩ _ ⟨hi,rU,oS,oR,rfl⟩;refine af [2,3,4,6,21,22,23,24] ?_;refine av ?_ ?_<;>intro aL bB
 ·have aa:i<s.names.length:=(by omega)
  have fC:=Jq (G:=G) t w4 s.names[i];unfold cU at fC;have ru:acc.length=i:=(by rw[rU,length_map,length_take];omega)
  refine af [2,3,4,6,8,21,22,23] ?_;refine cL [2,3,4,6,9,21,22,23] (fC) ?_;refine af [2,3,4,6,9,21,22,23,31] ?_;refine av ?_ ?_<;>intro aY cD
  ·have Dt:bC t.ay s.names[i]<0:=(by simpa using aY)
   have aW:mX t s=(([],0),8):=if_pos (any_eq_true.2 ⟨s.names[i],getElem_mem _,decide_eq_true Dt⟩);refine aB 1 ?_;refine aO 0 [_,_] sizeOf39 ?_;exact N2
  have Dt:¬bC t.ay s.names[i]<0:=(by simpa using aY)
  have al4:∀x∈s.names.take (i+1),0≤bC t.ay x:=fun x hx=>by rw[take_succ_eq_append_getElem aa] at hx;rcases mem_append.1 hx with hx|hx;exact oS x hx;rw[mem_singleton] at hx;subst hx;omega
  refine dY 2 ?_;refine eD (cq 0 [_]) [.int .i64 0] [_] zeroValue3 runUnderlying70 sizeOf3 (fun b35=>?_);refine fT 0 35 1 1 ?_;refine OD.eL (ls:=(acc)) (new:=[bC t.ay s.names[i]]) (Sq:=Sa) Tw.eM Tw.nT ap rfl rfl underlying70 Ry rfl w7 ot oR (dI (A:=[_,_,_])) ot bj nH nI (fun Ih Ng al5 al6=>?_);refine OD.perm (ez (S1:=[⟨Ih,3,Ng*1,flatMap Tw.cI ((acc)++[bC t.ay s.names[i]])⟩]) (A:=[_,_,_])) ?_;refine an 135 [2,3,4,6,21,22,23] ?_;refine cc [2,3,4,6,21,22,23] ?_;refine⟨((i+1),(acc++[bC t.ay s.names[i]]),(some ⟨Ih,0,none⟩),Ng,[⟨Ih,3,Ng*1,flatMap Tw.cI ((acc)++[bC t.ay s.names[i]])⟩]),_,cr,aJ,w4,(by rw[rU,←pP aa,map_append];rfl),al4,(bn.cast (bQ al5 al6) lu),rfl⟩
 have wC:s.names.take i=s.names:=take_of_length_le w4;rw[wC] at rU oS;have Hu:¬(s.names.any fun n=>decide (bC t.ay n<0))=true:=fun h=>by obtain⟨x,h1,h2⟩:=any_eq_true.1 h;have:=oS x h1;have:=of_decide_eq_true h2;omega
 refine CD.exit ?_;refine iL [2,3,4] (fun aS _ aE=>∃(acc:List Int),∃(Z:Option Addr),∃(oq:Nat),∃(Sa:List ah),(acc=sA t s.names)∧(bn 3 1 (acc.flatMap Tw.cI) acc.length Z oq Sa)∧aE=(⟨135,(6,aP Z acc.length oq)::aS,(⟨b4,39,2,[bF,ae 0]⟩::⟨b3,46,12,bg s⟩::⟨b2,77,5,cU t⟩::Sa)⟩:St)) ?_ ?_
 ·refine af [2,3,4,6,41] ?_;refine av ?_ ?_<;>intro cm cR
  ·have gH:s.names.length=0:=(by simpa using cm)
   have al7:acc=[]:=(by rw[rU,length_eq_zero_iff.1 gH];rfl)
   refine af [2,3,4,6,44,45] ?_;refine eG [2,3,4,44] (fun aS _ (O:Nat×List Int×Option Addr×Nat×List ah) aE=>match O with|(j,U,Z,oq,Sa)=>(j≤t.ay.length)∧(U=(range j).map Int.ofNat)∧(bn 3 1 ((U).flatMap Tw.cI) (U).length Z oq Sa)∧aE=(⟨135,(6,aP Z (U).length oq)::(45,ae (j:Nat))::aS,(⟨b4,39,2,[bF,ae 0]⟩::⟨b3,46,12,bg s⟩::⟨b2,77,5,cU t⟩::Sa)⟩:St)) (fun (O:Nat×List Int×Option Addr×Nat×List ah)=>match O with|(j,U,Z,oq,Sa)=>t.ay.length-j) (0,acc,Z,oq,Sa) ⟨(Nat.zero_le _),al7,(bn.cast oR lu),rfl⟩ ?_;rintro⟨j,U,Z,oq,Sa⟩ _ ⟨hj,Mg,oR,rfl⟩;refine af [2,3,4,6,44,45,46] ?_;refine av ?_ ?_<;>intro da eA
   ·have arn:j<t.ay.length:=(by omega)
    have aro:U.length=j:=(by rw[Mg,length_map,length_range])
    refine af [2,3,4,6,10,44,45] ?_;refine dY 2 ?_;refine eD (cq 0 [_]) [.int .i64 0] [_] zeroValue3 runUnderlying70 sizeOf3 (fun yO=>?_);refine fT 0 50 1 1 ?_;refine OD.eL (ls:=(U)) (new:=[(j:Int)]) (Sq:=Sa) Tw.eM Tw.nT ap rfl rfl underlying70 Ry rfl w7 ot oR (dI (A:=[_,_,_])) ot bj nH nI (fun y4 Nh Ni Nj=>?_);refine OD.perm (ez (S1:=[⟨y4,3,Nh*1,flatMap Tw.cI ((U)++[(j:Int)])⟩]) (A:=[_,_,_])) ?_;refine an 135 [2,3,4,6,44,45] ?_;refine cc [2,3,4,6,44,45] ?_;refine⟨((j+1),(U++[(j:Int)]),(some ⟨y4,0,none⟩),Nh,[⟨y4,3,Nh*1,flatMap Tw.cI ((U)++[(j:Int)])⟩]),_,cr,aJ,w4,(by rw[Mg,range_succ,map_append];rfl),(bn.cast (bQ Ni Nj) lu),rfl⟩
   have hjf:U=sA t s.names:=(by unfold sA;rw[if_pos gH,Mg,show j=t.ay.length by omega])
   refine CD.exit ?_;refine⟨_,aJ,(U),Z,oq,Sa,hjf,oR,rfl⟩
  have gH:¬s.names.length=0:=(by simpa using cm)
  refine CD.skip ?_;refine⟨_,aJ,(acc),Z,oq,Sa,(by unfold sA;rw[if_neg gH];exact rU),oR,rfl⟩
 rintro _ ⟨acc,Z,oq,Sa,u0,oR,rfl⟩;refine CD.seq ?_;refine CD.iE (t:=6) (Sq:=Sa) lk oR (cz Tw.eM _) (dI (A:=[_,_,_])) ?_;refine tO ?_;refine OD.alloc (ds:=[_]) ap rfl rfl zeroValue3 rfl (fun lE=>?_);refine aO 0 [_] sizeOf3 ?_;refine an 135 [2,3,4,6,11] ?_;refine iL [2,3,4,6,11] (fun aS _ aE=>∃(ov:Int),(0≤ov)∧(ov=rV t s)∧aE=(⟨135,aS,[⟨lE,3,1,[ae ov]⟩,⟨b4,39,2,[bF,ae 0]⟩,⟨b3,46,12,bg s⟩,⟨b2,77,5,cU t⟩]⟩:St)) ?_ ?_
 ·refine af [2,3,4,6,11,55] ?_;refine av ?_ ?_<;>intro dR fH
  ·have Bs:¬(s.order.toList==(⟨#[]⟩:ByteArray).toList)=true:=(by rw[fH];decide)
   have Xv:=Jq (G:=G) t w4 s.order;unfold cU at Xv;have EO:rV t s=bC t.ay s.order:=if_neg Bs;refine aB 3 ?_;refine ec call109 (Xv) ?_;refine aO 0 [_] sizeOf3 ?_;refine an 135 [2,3,4,6,11] ?_;refine af [2,3,4,6,11,61] ?_;refine av ?_ ?_<;>intro fM gW
   ·have Dt:rV t s<0:=(by rw[EO];simpa using fM)
    have aW:mX t s=(([],0),8):=(by unfold mX;rw[if_neg Hu,if_pos Dt])
    refine aB 1 ?_;refine aO 1 [_,_] sizeOf39 ?_;exact N2
   have Dt:¬rV t s<0:=(by rw[EO];simpa using fM)
   refine CD.skip ?_;refine⟨_,aJ,(bC t.ay s.order),w4,EO.symm,rfl⟩
  have Bs:(s.order.toList==(⟨#[]⟩:ByteArray).toList)=true:=fH;have EO:rV t s=0:=if_pos Bs;refine CD.skip ?_;refine⟨_,aJ,0,(Int.le_refl 0),EO.symm,rfl⟩
 rintro _ ⟨ov,al8,nj,rfl⟩;refine aB 3 ?_;refine OD.call ap rfl rfl rfl call110 Br ⟨ot,ot,trivial⟩ (fg _) ?_;rintro _ Sx ⟨dN,dg,rfl,ey⟩;refine OD.perm (ez (A:=[_,_,_,_])) ?_;refine an 135 [2,3,4,6,11,12,13] ?_;refine af [2,3,4,6,11,12,13,71] ?_;refine av ?_ ?_<;>intro jb px
 ·have Iz:em≠0:=(by simpa using jb)
  have aW:mX t s=(([],0),em):=(by unfold mX;rw[if_neg Hu,if_neg w4,←hM];exact if_pos Iz)
  refine aB 2 ?_;refine aO 1 [_,_] sizeOf39 ?_;exact N2
 have Iz:¬em≠0:=(by simpa using jb)
 refine CD.skip ?_;refine iL [2,3,4,6] (fun aS _ aE=>∃(on:Nat),∃(lz:List Int),((on:Int)=rV t s)∧(lz=CN t s.down on sl)∧(lz.length=sl.length)∧(∀x∈lz,eo t x)∧aE=(⟨135,(12,au 1 Tw.cI lz)::aS,[⟨lE,3,1,[ae (on:Nat)]⟩,⟨b4,39,2,[bF,ae 0]⟩,⟨b3,46,12,bg s⟩,⟨b2,77,5,cU t⟩]⟩:St)) ?_ ?_
 ·obtain⟨on,rfl⟩:=Int.eq_ofNat_of_zero_le al8;have jU:on<4:=(by have:=ahP g s;omega)
  rcases ey with ⟨hn,dy,rfl,rfl,rfl⟩|⟨bx,rfl,qC,oo,rfl⟩
  ·obtain rfl:=length_eq_zero_iff.1 hn;refine dY 1 ?_;refine bV (pR (ds:=[_,_,_]) rfl ⟨ot,ot,ot,trivial⟩) ?_;refine ec call111 (aeB _) ?_;refine OD.wk (Wk.ue (t:=12) (sz:=1) lk) ?_;refine an 135 [2,3,4,6,12] ?_;refine⟨_,aJ,on,[],nj,(K2 ⟨Perm.refl _,Pairwise.nil⟩),rfl,(fun x h=>by cases h),rfl⟩
  refine dY 1 ?_;refine bV (pR (ds:=[_,_,_]) rfl ⟨ot,ot,ot,trivial⟩) ?_;refine OD.call (Sf:=⟨bx,3,dg*1,sl.flatMap Tw.cI⟩::[⟨b2,77,5,cU t⟩,⟨lE,3,1,[ae (on:Nat)]⟩,⟨b3,46,12,bg s⟩]) (R:=[⟨b4,39,2,[bF,ae 0]⟩]) ap rfl rfl rfl call111 (agc sl.length dg bx 112 [cZ b2,cZ lE,cZ b3] [⟨b2,77,5,cU t⟩,⟨lE,3,1,[ae (on:Nat)]⟩,⟨b3,46,12,bg s⟩] (lp t s.down on) (eo t) (qA t) (fun x y hx hy=>agf t g s on jU b2 lE b3 x y hx hy) call112 (fun h1 h2=>ahL t s.down on h1 h2) (fun x y h=>by have:=Rv t s.down on x y;omega) qC oo EJ sl Pq rfl mM) ⟨ot,ot,trivial⟩ (show([⟨lE,3,1,[ae (on:Nat)]⟩,⟨b4,39,2,[bF,ae 0]⟩,⟨b3,46,12,bg s⟩,⟨b2,77,5,cU t⟩]++[⟨bx,3,dg*1,sl.flatMap Tw.cI⟩]:List ah).Perm ((⟨bx,3,dg*1,sl.flatMap Tw.cI⟩::[⟨b2,77,5,cU t⟩,⟨lE,3,1,[ae (on:Nat)]⟩,⟨b3,46,12,bg s⟩])++[⟨b4,39,2,[bF,ae 0]⟩]) from(jS fun mD=>by simp only[map_append,map_cons,map_nil,sum_append,sum_cons,sum_nil];omega)) ?_;rintro _ _ ⟨rfl,lz,yR,rfl⟩;have lC:=yR.1.length_eq;refine OD.perm (S':=⟨lE,3,1,[ae (on:Nat)]⟩::⟨b4,39,2,[bF,ae 0]⟩::⟨b3,46,12,bg s⟩::⟨b2,77,5,cU t⟩::[⟨bx,3,dg*1,lz.flatMap Tw.cI⟩]) (show((⟨bx,3,dg*1,lz.flatMap Tw.cI⟩::[⟨b2,77,5,cU t⟩,⟨lE,3,1,[ae (on:Nat)]⟩,⟨b3,46,12,bg s⟩])++[⟨b4,39,2,[bF,ae 0]⟩]:List ah).Perm _ from(jS fun mD=>by simp only[map_append,map_cons,map_nil,sum_append,sum_cons,sum_nil];omega)) ?_;rw[←lC]
  refine OD.iE (t:=12) (Sq:=[⟨bx,3,dg*1,lz.flatMap Tw.cI⟩]) lk (bQ (by rw[lC];exact qC) oo) (cz Tw.eM _) (dI (A:=[_,_,_,_])) ?_;refine an 135 [2,3,4,6,12] ?_;refine⟨_,aJ,on,lz,nj,(K2 yR),(by first|exact lC|rfl),(fun x hx=>mM x (yR.1.subset hx)),rfl⟩
 rintro _ ⟨on,lz,nj,Wm,lC,Wn,rfl⟩;refine iL [2,3,4,6] (fun aS kV aE=>∃(E:List Int),(E=uo t s)∧(∀x∈E,eo t x)∧(E.length≤40)∧aE=(⟨135,(12,au 1 Tw.cI E)::aS,kV⟩:St)) ?_ ?_
 ·refine aB 4 ?_;refine bY 80 (fun MX GN=>?_) (fun MX GN=>?_)
  ·refine bp [2,3,4,6,12,86] ?_;refine av ?_ ?_<;>intro iS mY
   ·have oN:0≤s.iD∧s.iD<lz.length:=⟨GN,mY⟩
    refine iU [2,3,4,6,12] ?_;refine aR 3 ?_ (h:=by exact(eJ (l:=0) (h:=s.iD.toNat) rfl ot trivial ⟨_,by rw[Int.toNat_of_nonneg oN.1];exact ot⟩ (by exact nS Tw.eM (fun h=>by cases h) runUnderlying70 sizeOf3 w4)));refine bH ?_;refine⟨_,aJ,(lz.take s.iD.toNat),(by unfold uo vQ;rw[←nj,Int.toNat_natCast,←hM,←Wm,if_pos oN]),(fun x hx=>Wn x (mem_of_mem_take hx)),pA,rfl⟩
   exact Yi
  refine bp [2,3,4,6,12,86] ?_;refine gq ?_;exact Yi
 rintro _ ⟨E,Xw,yJ,arp,rfl⟩;refine aB 3 ?_;refine OD.alloc (ds:=[_,_]) ap rfl rfl zeroValue39 rfl (fun Ec=>?_);refine aO 0 [_,_] sizeOf39 ?_;refine an 135 [2,3,4,6,12,14] ?_;refine af [2,4,6,12,14,95] ?_;refine av ?_ ?_<;>intro qo Ay
 ·have C9:s.count=true:=qo;have aW:mX t s=(([[⟨2,((E.length:Nat):Int),⟨#[]⟩⟩]],((E.length:Nat):Int)),0):=(by unfold mX;rw[if_neg Hu,if_neg w4,←hM,if_neg Iz,if_pos C9,←Xw])
  refine aB 3 ?_;refine eD (cq 0 [_]) [.int .i64 0,.int .i64 0,.string ⟨#[]⟩] [_,_,_] zeroValue33 runUnderlying43 sizeOf33 (fun Pr=>?_);refine eD (cq 0 [_]) [.slice none 0 0] [_] zeroValue43 runUnderlying37 sizeOf43 (fun Xx=>?_);refine aH 1 ?_;refine aO 2 [_,_] sizeOf37 ?_;refine an 135 [4,14] ?_;refine aB 1 ?_;refine aO 4 [_,_] sizeOf39 ?_;refine an 135 [4,5] ?_;refine aM [_,_] ?_;rw[aW];exact⟨[⟨[⟨2,(E.length:Nat),⟨#[]⟩⟩],some ⟨Pr,0,none⟩,1,[⟨Pr,33,1*3,[⟨2,(E.length:Nat),⟨#[]⟩⟩].flatMap cV⟩]⟩],some ⟨Xx,0,none⟩,1,[_],rfl,.inr ⟨Xx,rfl,Nat.le_refl _,(show 1≤maxLen by decide),rfl⟩,(fun o ho=>by rw[mem_singleton] at ho;subst ho;exact .inr ⟨Pr,rfl,Nat.le_refl _,(show 1≤maxLen by decide),rfl⟩),rfl,rfl⟩
 have C9:¬s.count=true:=(by rw[qo];decide)
 have aW:mX t s=((E.map (x8 t acc),((E.length:Nat):Int)),0):=(by unfold mX;rw[if_neg Hu,if_neg w4,←hM,if_neg Iz,if_neg C9,←Xw,←u0])
 have Xy:=ajk g oS;rw[←u0] at Xy;have arq:acc.length≤1000:=(by rw[u0];unfold sA;split;(rw[length_map,length_range];omega);(rw[length_map];omega))
 refine af [2,4,6,14,103,104,105] ?_;refine eG [2,4,6,14,103,104] (fun aS _ (O:Nat×List cl×Option Addr×Nat×List ah) aE=>match O with|(i,L,dN,dg,Sx)=>(i≤E.length)∧(L.map cl.r=(E.take i).map (x8 t acc))∧(∀o∈L,om o)∧(th L dN dg Sx)∧aE=(⟨135,(105,ae (i:Nat))::aS,(⟨Ec,39,2,[aP dN L.length dg,ae (E.length:Nat)]⟩::⟨lE,3,1,[ae (on:Nat)]⟩::⟨b4,39,2,[bF,ae 0]⟩::⟨b3,46,12,bg s⟩::⟨b2,77,5,cU t⟩::(Sx++L.flatMap bR))⟩:St)) (fun (O:Nat×List cl×Option Addr×Nat×List ah)=>match O with|(i,L,dN,dg,Sx)=>E.length-i) (0,([]:List cl),none,0,[]) ⟨(Nat.zero_le _),rfl,(fun o h=>by cases h),iW,rfl⟩ ?_;rintro⟨i,L,dN,dg,Sx⟩ _ ⟨hi,hL,aT,ey,rfl⟩;refine af [2,4,6,14,103,104,105,106] ?_;refine av ?_ ?_<;>intro uZ C4
 ·have aa:i<E.length:=(by omega)
  obtain⟨fO,qC,oo⟩:=yJ _ (getElem_mem aa);have sC:=oE (g.row _ qC oo).1;have so:L.length=i:=(by have:=congrArg length hL;rw[length_map,length_map,length_take] at this;omega)
  refine af [2,4,6,14,16,103,104,105] ?_;refine cf ?_;refine bp [2,4,6,14,16,17,103,104,105] ?_;refine af [2,4,6,14,16,17,103,104,105,109,110,111] ?_;refine eG [2,4,6,14,16,103,104,105,109,110] (fun aS _ (O:Nat×List Vl×Option Addr×Nat×List ah) aE=>match O with|(j,I,iQ,iR,Sy)=>(j≤acc.length)∧(I=(acc.take j).map fun c=>(rowAt t (E[i]'aa)).getD c.toNat bw)∧(bn 33 3 (I.flatMap cV) I.length iQ iR Sy)∧aE=(⟨135,(17,aP iQ I.length iR)::(111,ae (j:Nat))::aS,(⟨Ec,39,2,[aP dN L.length dg,ae (E.length:Nat)]⟩::⟨lE,3,1,[ae (on:Nat)]⟩::⟨b4,39,2,[bF,ae 0]⟩::⟨b3,46,12,bg s⟩::⟨b2,77,5,cU t⟩::(Sy++(Sx++L.flatMap bR)))⟩:St)) (fun (O:Nat×List Vl×Option Addr×Nat×List ah)=>match O with|(j,I,iQ,iR,Sy)=>acc.length-j) (0,([]:List Vl),none,0,[]) ⟨(Nat.zero_le _),rfl,iW,rfl⟩ ?_;rintro⟨j,I,iQ,iR,Sy⟩ _ ⟨hj,Mh,EF,rfl⟩;refine af [2,4,6,14,16,17,103,104,105,109,110,111,112] ?_;refine av ?_ ?_<;>intro Hh GM
  ·have jQ:j<acc.length:=(by omega)
   obtain⟨Xz,art⟩:=Xy _ (getElem_mem jQ);have Ps:(acc[j]'jQ).toNat<(t.rows[(E[i]'aa).toNat]'qC).length:=(by omega)
   have ajm:(rowAt t (E[i]'aa)).getD (acc[j]'jQ).toNat bw=(t.rows[(E[i]'aa).toNat]'qC)[(acc[j]'jQ).toNat]:=(by rw[fV qC,getD_eq_getElem?_getD,getElem?_eq_getElem Ps];rfl)
   have aru:I.length=j:=(by rw[Mh,length_map,length_take];omega)
   refine af [2,4,6,14,16,17,19,103,104,105,109,110,111] ?_;refine dY 4 ?_;refine bV (dO 1 (h:=by first|exact .l (j:=(E[i]'aa).toNat) (Int.toNat_of_nonneg fO).symm qC|exact .r (j:=(E[i]'aa).toNat) (Int.toNat_of_nonneg fO).symm qC)) ?_;refine aH 2 ?_;refine bV (dO 3 (h:=by first|exact .l (j:=(acc[j]'jQ).toNat) (Int.toNat_of_nonneg Xz).symm Ps|exact .r (j:=(acc[j]'jQ).toNat) (Int.toNat_of_nonneg Xz).symm Ps)) ?_;refine aH 1 ?_;refine eD (cq 0 [_]) [.int .i64 0,.int .i64 0,.string ⟨#[]⟩] [_,_,_] zeroValue33 runUnderlying43 sizeOf33 (fun arv=>?_);refine fT 0 124 3 1 ?_;refine OD.eL (ls:=I) (new:=[(t.rows[(E[i]'aa).toNat]'qC)[(acc[j]'jQ).toNat]]) (Sq:=Sy) fq Gi ap rfl rfl underlying43 abf rfl w7 ot EF (JK (A:=[_,_,_,_,_])) ot bj nH nI (fun Nk Mi ajn ajo=>?_);refine OD.perm (RU (S1:=[⟨Nk,33,Mi*3,flatMap cV (I++[(t.rows[(E[i]'aa).toNat]'qC)[(acc[j]'jQ).toNat]])⟩]) (A:=[_,_,_,_,_])) ?_;refine an 135 [2,4,6,14,16,17,103,104,105,109,110,111] ?_;refine cc [2,4,6,14,16,17,103,104,105,109,110,111] ?_;refine⟨((j+1),(I++[(t.rows[(E[i]'aa).toNat]'qC)[(acc[j]'jQ).toNat]]),(some ⟨Nk,0,none⟩),Mi,[⟨Nk,33,Mi*3,flatMap cV (I++[(t.rows[(E[i]'aa).toNat]'qC)[(acc[j]'jQ).toNat]])⟩]),_,cr,aJ,w4,(by rw[Mh,←ajm,←pP jQ,map_append];rfl),(bQ ajn ajo),rfl⟩
  have wm:(L++[(⟨I,iQ,iR,Sy⟩:cl)]).map cl.r=(E.take (i+1)).map (x8 t acc):=(by rw[map_append,hL,←pP aa,map_append];congr 1;show[I]=[x8 t acc (E[i]'aa)];rw[Mh,take_of_length_le w4];rfl)
  have j8:∀o∈L++[(⟨I,iQ,iR,Sy⟩:cl)],om o:=fun o ho=>by rcases mem_append.1 ho with ho|ho;exact aT o ho;rw[mem_singleton] at ho;subst ho;exact EF
  refine dY 3 ?_;refine eD (cq 0 [_]) [.slice none 0 0] [_] zeroValue43 runUnderlying37 sizeOf43 (fun arw=>?_);refine fT 0 130 1 1 ?_;refine OD.eL (ls:=L) (new:=[(⟨I,iQ,iR,Sy⟩:cl)]) (Sq:=Sx) vA VB ap rfl rfl underlying37 abg rfl w7 ot ey (tW (A:=[_,_,_,_,_])) ot bj nH nI (fun Hv GW ajp ajq=>?_);refine OD.perm (wU (S2:=[⟨Hv,43,GW*1,flatMap gR (L++[(⟨I,iQ,iR,Sy⟩:cl)])⟩]) (A:=[_,_,_,_,_])) ?_;refine OD.perm (S':=⟨Ec,39,2,[aP dN L.length dg,ae (E.length:Nat)]⟩::⟨lE,3,1,[ae (on:Nat)]⟩::⟨b4,39,2,[bF,ae 0]⟩::⟨b3,46,12,bg s⟩::⟨b2,77,5,cU t⟩::([⟨Hv,43,GW*1,flatMap gR (L++[(⟨I,iQ,iR,Sy⟩:cl)])⟩]++(L++[(⟨I,iQ,iR,Sy⟩:cl)]).flatMap bR)) (jS fun mD=>by simp only[map_append,map_cons,map_nil,sum_append,sum_cons,sum_nil,ajl];omega) ?_;refine aH 1 ?_;refine aO 0 [_,_] sizeOf37 ?_;refine an 135 [2,4,6,14,103,104,105] ?_;refine cc [2,4,6,14,103,104,105] ?_;refine⟨((i+1),(L++[(⟨I,iQ,iR,Sy⟩:cl)]),(some ⟨Hv,0,none⟩),GW,[⟨Hv,43,GW*1,flatMap gR (L++[(⟨I,iQ,iR,Sy⟩:cl)])⟩]),_,cr,aJ,w4,wm,j8,(bQ ajp ajq),rfl⟩
 have pO:L.map cl.r=E.map (x8 t acc):=(by rw[hL,take_of_length_le w4])
 refine aB 1 ?_;refine aO 2 [_,_] sizeOf39 ?_;refine an 135 [4,5] ?_;refine aM (Sx++L.flatMap bR) ?_;rw[aW];exact⟨L,dN,dg,Sx,rfl,ey,aT,pO,rfl⟩

abbrev iA(bo:Nat)(ad:Option Addr)(n cap:Nat):ah:=⟨bo,25,1,[aP ad n cap]⟩
def gM(s:bA):az:=⟨s.table,s.ay,[],qi⟩
def ya(s:bA):aV:=⟨gM s,[],none,0,[],[]⟩
theorem agm(s:bA):qy (ya s):=⟨[],rfl,rfl,(fun o h=>by cases h),rfl,iW⟩
def qD(l:List az)(s:bA):List az×Int:=if 0≤aU l s.table then (l,9) else if l.length=4 then (l,10) else (l++[gM s],0)
def GX(l:List az)(bo:Nat)(S:List ah):Prop:=∃(L:List aV) (ad:Option Addr) (cap:Nat) (Sx:List ah),x7 L ad cap Sx∧(∀o∈L,okW o)∧L.map aV.t=l∧S.Perm (iA bo ad L.length cap::(Sx++L.flatMap bT))
theorem abh:(Tryz.prog.info? 77).map (fun i=>(i.zero,i.size,i.bytes))=some (some (.agg #[.string ⟨#[]⟩,.slice none 0 0,.slice none 0 0,.slice none 0 0,.int .i64 0]),5,96):=by kernel_rfl
theorem acP(L:List aV)(aT:∀o∈L,qy o)(hL:L.length≤4)(s:bA)(kD:s.ay.length≤1000)(bo:Nat)(ad:Option Addr)(cap:Nat)(Sx:List ah)(O:x7 L ad cap Sx):VC Tryz.prog G 54 [cZ bo,.agg (bg s)] (iA bo ad L.length cap::(Sx++L.flatMap bT)) (fun r S=>r=ae (qD (L.map aV.t) s).2∧((qD (L.map aV.t) s).2=0→GX (qD (L.map aV.t) s).1 bo S)):=by
 refine VC.body func54 rfl ntmps54 aQ fun X0 w0 bf=>?_;have c8:=dV;have U:=fun o ho=>(aT o ho).w;have fE:=qK (G:=G) (L.map aV.t) HI s.table
 (first|rw[length_map] at fE|(unfold au at fE;rw[length_map] at fE))
 unfold bg;refine cf ?_;refine OD.box (ds:=[_,_,_,_,_,_,_,_,_,_,_,_]) ap rfl rfl ot rfl rfl (fun b3=>?_);refine an 37 [0,3] ?_;refine cM [0,3,5] ?_;refine mI 6 ?_;refine Aw (fE) (ha:=by exact⟨⟨_,ot,(Gq O U (fun B hB=>by repeat (first|exact hB|apply mem_append_right|apply mem_cons_of_mem)))⟩,⟨_,ot,eW⟩,trivial⟩) (K:=?_);refine bH ?_;refine av ?_ ?_<;>intro aL bB
 ·have h0:0≤aU (L.map aV.t) s.table:=(by simpa using aL)
  have aW:qD (L.map aV.t) s=(L.map aV.t,9):=if_pos h0;refine af [4] ?_;exact HR
 have h0:¬0≤aU (L.map aV.t) s.table:=(by simpa using aL)
 refine af [0,3,14] ?_;refine av ?_ ?_<;>intro aY cD
 ·have h4:L.length=4:=(by have:=aY;simp at this;omega)
  have aW:qD (L.map aV.t) s=(L.map aV.t,10):=(by unfold qD;rw[if_neg h0,if_pos (by rw[length_map];exact h4)])
  refine af [4] ?_;exact HR
 have h4:¬L.length=4:=(by have:=aY;simp at this;omega)
 have aW:qD (L.map aV.t) s=(L.map aV.t++[gM s],0):=(by unfold qD;rw[if_neg h0,if_neg (by rw[length_map];exact h4)])
 have pD:=ahv (G:=G);refine CD.skip ?_;refine CD.seq ?_;refine mE 13 [21,25,33] ?_;refine cN (Ro s.ay w4) ?_;refine cN (pD) ?_;refine bH ?_;refine OD.eL (ls:=L) (new:=[ya s]) (Sq:=Sx) vt VD ap rfl rfl underlying23 abh rfl w7 ot O (pc (A:=[_,_])) ot bj nH nI (fun I E Z al9=>?_);refine OD.perm (kp (S1:=[⟨I,77,E*5,flatMap gT (L++[ya s])⟩]) (A:=[_,_])) ?_;refine aH 2 ?_;refine aO 1 [_] sizeOf23 ?_;refine an 37 [] ?_;refine af [4] ?_;refine aM (⟨bo,25,1,[_]⟩::([⟨I,77,E*5,flatMap gT (L++[ya s])⟩]++L.flatMap bT)) ?_;rw[aW];exact⟨rfl,fun _=>⟨L++[ya s],some ⟨I,0,none⟩,E,[⟨I,77,E*5,flatMap gT (L++[ya s])⟩],bQ Z al9,(fun o ho=>by rcases mem_append.1 ho with ho|ho;exact U o ho;rw[mem_singleton] at ho;subst ho;exact(agm s).w),by rw[map_append];rfl,by rw[UJ,show bT (ya s)=[] from rfl,append_nil]⟩⟩

noncomputable def fp(l:List az)(s:bA):List az×((List (List Vl)×Int)×Int) :=
 if s.kind=1 then ((qD l s).1,(([],0),(qD l s).2))
 else if aU l s.table<0 then (l,(([],0),8))
 else if s.kind=3 then (l.set (aU l s.table).toNat (gQ (l.getD (aU l s.table).toNat (gM s)) s.row).1,(([],1),(gQ (l.getD (aU l s.table).toNat (gM s)) s.row).2))
 else if s.kind=4 then (l,mX (l.getD (aU l s.table).toNat (gM s)) s)
 else if s.kind=5 then (l.set (aU l s.table).toNat (dH (l.getD (aU l s.table).toNat (gM s)) s).1,(([],(dH (l.getD (aU l s.table).toNat (gM s)) s).2.1),(dH (l.getD (aU l s.table).toNat (gM s)) s).2.2))
 else (l.set (aU l s.table).toNat (j4 (l.getD (aU l s.table).toNat (gM s)) s.aj).1,(([],(j4 (l.getD (aU l s.table).toNat (gM s)) s.aj).2.1),(j4 (l.getD (aU l s.table).toNat (gM s)) s.aj).2.2))
theorem Qw:∀(c:List D) {S:List ah},gU S c c
 | [],_=>trivial
 | _::c,_=>⟨eW,Qw c⟩
theorem aeE(L:List aV)(h:i<L.length):L.flatMap gT=(L.take i).flatMap gT++(gT L[i]++(L.drop (i+1)).flatMap gT):=by
 conv=>lhs;rw[←take_append_drop i L,drop_eq_getElem_cons h]
 rw[flatMap_append,flatMap_cons]
theorem ahQ(L:List aV)(h:i<L.length)(o:aV):(L.set i o).flatMap gT=(L.take i).flatMap gT++(gT o++(L.drop (i+1)).flatMap gT):=by
 rw[set_eq_take_append_cons_drop,if_pos h,flatMap_append,flatMap_cons]
theorem LG(f:ah→Nat):∀(L:List aV) (i:Nat) (o:aV) (h:i<L.length),(((L.set i o).flatMap bT).map f).sum=((bT o).map f).sum+(((L.eraseIdx i).flatMap bT).map f).sum
 | [],_,_,h=>absurd h (Nat.not_lt_zero _)
 | x::L,0,o,_=>by simp
 | x::L,i+1,o,h=>by
  have:=LG f L i o (Nat.lt_of_succ_lt_succ h);simp only[set_cons_succ,flatMap_cons,map_append,sum_append,eraseIdx_cons_succ,this];omega
theorem Jv{A:List ah}{L:List aV}{bx z:Nat}(h:i<L.length):(A++([(⟨bx,77,z,L.flatMap gT⟩:ah)]++L.flatMap bT)).Perm (A++((⟨bx,77,z,(L.take i).flatMap gT++(gT L[i]++(L.drop (i+1)).flatMap gT)⟩:ah)::(bT L[i]++(L.eraseIdx i).flatMap bT))):=by
 rw[←aeE L h];exact jS fun f=>by
  have:=LG f L i L[i] h;rw[set_getElem_self] at this;simp only[map_cons,sum_cons,map_append,sum_append,map_nil,sum_nil,this];omega
theorem K7{L:List aV}{bx E:Nat}(h:i<L.length)(h1:L.length≤cap)(h2:cap≤maxLen)(aT:∀o∈L,okW o){o:aV}(ho:okW o)(hS:S.Perm (iA E (some ⟨bx,0,none⟩) L.length cap::((⟨bx,77,cap*5,(L.take i).flatMap gT++(gT o++(L.drop (i+1)).flatMap gT)⟩::bT o)++(L.eraseIdx i).flatMap bT))):GX ((L.map aV.t).set i o.t) E S:=by
 refine⟨L.set i o,some ⟨bx,0,none⟩,cap,[⟨bx,77,cap*5,(L.set i o).flatMap gT⟩],bQ (by rw[length_set];exact h1) h2,fun x hx=>?_,by rw[map_set],?_⟩
 ·rcases mem_or_eq_of_mem_set hx with hx|hx
  ·exact aT x hx
  rw[hx];exact ho
 rw[length_set,ahQ L h];refine hS.trans (jS fun f=>?_);have:=LG f L i o h;simp only[map_cons,sum_cons,map_append,sum_append,map_nil,sum_nil,this];omega
theorem UU{E:List ah}(h:vV t ad cap E):okW ⟨t,t.rows.flatMap gG,ad,cap,E,[]⟩:=⟨h,fun S _=>Qw _⟩
theorem aeF{L:List cl}{E:List ah}(h:Hr t L ad cap E):okW ⟨t,L.flatMap gR,ad,cap,E,L.flatMap bR⟩:=qy.w ⟨L,rfl,rfl,h.2.1,h.1,h.2.2⟩
theorem Qx{o:aV}(h:qy o):∃U,vV o.t o.ad o.cap U∧∀(n:Nat) (env:List (Nat×D)) (A R:List ah),Wk ⟨n,env,A++(bT o++R)⟩ ⟨n,env,A++(U++R)⟩:=by
 obtain⟨L,h1,h2,h3,h4,h5⟩:=h;have hv:=F4 (S:=L.flatMap bR) h3 (fun B h=>h);have E:L.length=o.t.rows.length:=(by rw[←h4];(first|rw[length_map]|(unfold au;rw[length_map])))
 rcases h5 with ⟨e1,e2,I,O,Z⟩|⟨b,e1,e2,I,O⟩
 ·have hL:L=[]:=length_eq_zero_iff.1 e1;subst hL;have hr:o.t.rows=[]:=(by rw[←h4];rfl)
  refine⟨[],.inl ⟨by rw[hr];rfl,by rw[hr];rfl,I,O,rfl⟩,fun n env A R=>?_⟩;have hb:bT o=[]:=(by unfold bT;rw[Z,h2];rfl)
  rw[hb];exact Wk.refl _
 refine⟨[⟨b,43,o.cap*1,o.t.rows.flatMap gG⟩],.inr ⟨b,e1,by rw[←E];exact e2,I,rfl⟩,fun n env A R=>?_⟩;have hb:bT o=⟨b,43,o.cap*1,L.flatMap gR⟩::L.flatMap bR:=(by unfold bT;rw[O,h2];rfl)
 rw[hb,←h4];have hc:=Wk.cover (n:=n) (l:=env) (S:=A++((⟨b,43,o.cap*1,L.flatMap gR⟩::L.flatMap bR)++R)) (A:=⟨b,43,o.cap*1,L.flatMap gR⟩) (R:=A++R) (Sd:=L.flatMap bR) (cs':=(L.map cl.r).flatMap gG) (jS fun f=>by simp only[map_cons,sum_cons,map_append,sum_append,map_nil,sum_nil];omega) hv;refine hc.trans (Wk.perm (jS fun f=>by simp only[map_cons,sum_cons,map_append,sum_append,map_nil,sum_nil];omega))
theorem ahR(hm:(3,marksC)∈G)(hw:(1,wordsC)∈G)(ht:(0,typesC)∈G)(hG:(2,[Value.int .i64 m])∈G)(L:List aV)(aT:∀o∈L,qy o)(hL:L.length≤4)(hg:∀o∈L,∃n,n≤260∧cA o.t n)(s:bA)(fF:¬s.kind=2)(kD:s.ay.length≤1000)(oT:s.row.length≤1000)(MY:∀v∈s.row,v.Ok)(pL:s.names.length≤1000)(ho:∀o∈s.aj,o.nm.size≤maxLen)(gd:∀o∈s.aj,o.v.Ok)(rB:∀o∈s.bJ,o.nm.size≤maxLen)(Ht:∀o∈s.bJ,o.v.Ok)(I:Nat)(ad:Option Addr)(cap:Nat)(Sx:List ah)(jz:x7 L ad cap Sx):VC Tryz.prog G 30 [cZ I,.agg (bg s)] (iA I ad L.length cap::(Sx++L.flatMap bT)) (fun r S=>r=Bq (fp (L.map aV.t) s).2∧((fp (L.map aV.t) s).2.2=0→GX (fp (L.map aV.t) s).1 I S)):=by
 refine VC.body func30 rfl ntmps30 aQ fun X0 w0 bf=>?_;have c8:=dV;have O:=fun o ho=>(aT o ho).w;have fE:=qK (G:=G) (L.map aV.t) HI s.table
 (first|rw[length_map] at fE|(unfold au at fE;rw[length_map] at fE))
 have tD:=xo (fun t:az=>t.nm.toList==s.table.toList) (L.map aV.t);rw[show dP (fun t:az=>t.nm.toList==s.table.toList) (L.map aV.t)=(aU (L.map aV.t) s.table) from rfl,length_map] at tD;refine cf ?_;refine OD.box (ds:=[_,_,_,_,_,_,_,_,_,_,_,_]) ap rfl rfl ot rfl rfl (fun b3=>?_);refine OD.alloc (ds:=[_,_]) ap rfl rfl zeroValue39 rfl (fun U=>?_);refine aH 1 ?_;first|refine OD.cells (k:=0) (cs':=[.list 1 [] 0,_]) rfl ⟨eu,bN,trivial⟩ rfl ?_|skip
 refine an 87 [0,3,4] ?_;refine af [0,3,4,14] ?_;refine av ?_ ?_<;>intro aL bB
 ·have ei:s.kind=1:=(by simpa using aL)
  have aW:fp (L.map aV.t) s=((qD (L.map aV.t) s).1,(([],0),(qD (L.map aV.t) s).2)):=(by unfold fp;rw[if_pos ei])
  refine aB 3 ?_;refine OD.call (Sf:=iA I ad L.length cap::(Sx++L.flatMap bT)) (R:=[⟨U,39,2,[.list 1 [] 0,ae 0]⟩,⟨b3,46,12,bg s⟩]) ap rfl rfl rfl call54 (acP L aT hL s kD I ad cap Sx jz) ⟨ot,ot,trivial⟩ (show(⟨U,39,2,[.list 1 [] 0,ae 0]⟩::⟨b3,46,12,bg s⟩::iA I ad L.length cap::(Sx++L.flatMap bT):List ah).Perm (iA I ad L.length cap::(Sx++L.flatMap bT)++[⟨U,39,2,[.list 1 [] 0,ae 0]⟩,⟨b3,46,12,bg s⟩]) from(jS fun mD=>by simp only[map_append,map_cons,map_nil,sum_append,sum_cons,sum_nil];omega)) ?_;rintro _ Z ⟨rfl,h9⟩;refine OD.perm (S':=⟨U,39,2,[.list 1 [] 0,ae 0]⟩::⟨b3,46,12,bg s⟩::Z) (show(Z++[⟨U,39,2,[.list 1 [] 0,ae 0]⟩,⟨b3,46,12,bg s⟩]:List ah).Perm _ from(jS fun mD=>by simp only[map_append,map_cons,map_nil,sum_append,sum_cons,sum_nil];omega)) ?_;refine aO 0 [_,_] sizeOf39 ?_;refine aH 1 ?_;first|refine OD.cells (k:=0) (cs':=[.list 1 [] 0,_]) rfl ⟨eu,bN,trivial⟩ rfl ?_|skip
  refine an 87 [4,5] ?_;refine aM Z ?_;rw[aW];exact⟨rfl,fun h=>h9 h⟩
 have ei:¬s.kind=1:=(by simpa using aL)
 refine cM [0,3,4,6] ?_;refine mI 6 ?_;refine Aw (fE) (ha:=by exact⟨⟨_,ot,(Gq jz O (fun B hB=>by repeat (first|exact hB|apply mem_append_right|apply mem_cons_of_mem)))⟩,⟨_,ot,eW⟩,trivial⟩) (K:=?_);refine bH ?_;refine af [0,3,4,6,27] ?_;refine av ?_ ?_<;>intro aY cD
 ·have h0:(aU (L.map aV.t) s.table)<0:=(by simpa using aY)
  have aW:fp (L.map aV.t) s=(L.map aV.t,(([],0),8)):=(by unfold fp;rw[if_neg ei,if_pos h0])
  refine aB 1 ?_;refine aO 0 [_,_] sizeOf39 ?_;refine aH 1 ?_;first|refine OD.cells (k:=0) (cs':=[.list 1 [] 0,_]) rfl ⟨eu,bN,trivial⟩ rfl ?_|skip
  refine an 87 [4,5] ?_;exact HR
 have h0:¬(aU (L.map aV.t) s.table)<0:=(by simpa using aY)
 have E:(aU (L.map aV.t) s.table).toNat<L.length:=(by omega)
 obtain⟨bx,rfl,jd,oh,rfl⟩:=jz.pos w4;have ic:(L.map aV.t).getD (aU (L.map aV.t) s.table).toNat (gM s)=(L[(aU (L.map aV.t) s.table).toNat]'E).t:=(by rw[getD_eq_getElem?_getD,getElem?_map,getElem?_eq_getElem E];rfl)
 refine cM [0,3,4,6,7] ?_;refine aR 5 ?_ (h:=by exact(dO 5 (h:=by first|exact .l (j:=(aU (L.map aV.t) s.table).toNat) (Int.toNat_of_nonneg w4).symm E|exact .r (j:=(aU (L.map aV.t) s.table).toNat) (Int.toNat_of_nonneg w4).symm E)));refine bH ?_;refine af [0,3,4,6,7,36] ?_;refine af [0,3,4,6,7,36,37] ?_;refine av ?_ ?_<;>intro cm cR
 ·exact absurd cm (by exact absurd (by simpa using cm) fF)
 refine af [3,4,7,36,51] ?_;refine av ?_ ?_<;>intro da eA
 ·have mg:s.kind=3:=(by simpa using da)
  have aW:fp (L.map aV.t) s=((L.map aV.t).set (aU (L.map aV.t) s.table).toNat (gQ (L[(aU (L.map aV.t) s.table).toNat]'E).t s.row).1,(([],1),(gQ (L[(aU (L.map aV.t) s.table).toNat]'E).t s.row).2)):=(by unfold fp;rw[ic,if_neg ei,if_neg h0,if_pos mg])
  obtain⟨n,hn,g⟩:=hg (L[(aU (L.map aV.t) s.table).toNat]'E) (getElem_mem E);obtain⟨Sg,Pt,jR⟩:=Qx (aT (L[(aU (L.map aV.t) s.table).toNat]'E) (getElem_mem E));refine CD.perm (Jv (A:=[_,_,_]) E) ?_;refine CD.wk (jR _ _ [_,_,_,_] _) ?_;refine aB 4 ?_
  refine OD.call (Sf:=(⟨bx,77,cap*5,(L.take (aU (L.map aV.t) s.table).toNat).flatMap gT++(gT (L[(aU (L.map aV.t) s.table).toNat]'E)++(L.drop ((aU (L.map aV.t) s.table).toNat+1)).flatMap gT)⟩:ah)::Sg) (R:=⟨U,39,2,[.list 1 [] 0,ae 0]⟩::⟨b3,46,12,bg s⟩::iA I (some ⟨bx,0,none⟩) L.length cap::((L.eraseIdx (aU (L.map aV.t) s.table).toNat).flatMap bT)) ap rfl rfl rfl call56 (Jp hm hw ht hG (L[(aU (L.map aV.t) s.table).toNat]'E).t g w4 s.row oT MY bx (0+(aU (L.map aV.t) s.table).toNat*5) (cap*5) ((L.take (aU (L.map aV.t) s.table).toNat).flatMap gT) ((L.drop ((aU (L.map aV.t) s.table).toNat+1)).flatMap gT) NR (L[(aU (L.map aV.t) s.table).toNat]'E).ad (L[(aU (L.map aV.t) s.table).toNat]'E).cap Sg Pt) ⟨ot,ot,trivial⟩ (show(⟨U,39,2,[.list 1 [] 0,ae 0]⟩::⟨b3,46,12,bg s⟩::iA I (some ⟨bx,0,none⟩) L.length cap::(⟨bx,77,cap*5,(L.take (aU (L.map aV.t) s.table).toNat).flatMap gT++(gT (L[(aU (L.map aV.t) s.table).toNat]'E)++(L.drop ((aU (L.map aV.t) s.table).toNat+1)).flatMap gT)⟩:ah)::(Sg++(L.eraseIdx (aU (L.map aV.t) s.table).toNat).flatMap bT):List ah).Perm (((⟨bx,77,cap*5,(L.take (aU (L.map aV.t) s.table).toNat).flatMap gT++(gT (L[(aU (L.map aV.t) s.table).toNat]'E)++(L.drop ((aU (L.map aV.t) s.table).toNat+1)).flatMap gT)⟩:ah)::Sg)++(⟨U,39,2,[.list 1 [] 0,ae 0]⟩::⟨b3,46,12,bg s⟩::iA I (some ⟨bx,0,none⟩) L.length cap::((L.eraseIdx (aU (L.map aV.t) s.table).toNat).flatMap bT))) from(jS fun mD=>by simp only[map_append,map_cons,map_nil,sum_append,sum_cons,sum_nil];omega)) ?_
  rintro _ Z ⟨rfl,h9⟩;refine OD.perm (S':=⟨U,39,2,[.list 1 [] 0,ae 0]⟩::⟨b3,46,12,bg s⟩::iA I (some ⟨bx,0,none⟩) L.length cap::(Z++(L.eraseIdx (aU (L.map aV.t) s.table).toNat).flatMap bT)) (show(Z++(⟨U,39,2,[.list 1 [] 0,ae 0]⟩::⟨b3,46,12,bg s⟩::iA I (some ⟨bx,0,none⟩) L.length cap::((L.eraseIdx (aU (L.map aV.t) s.table).toNat).flatMap bT)):List ah).Perm _ from(jS fun mD=>by simp only[map_append,map_cons,map_nil,sum_append,sum_cons,sum_nil];omega)) ?_;refine aO 0 [_,_] sizeOf39 ?_;refine aH 1 ?_;first|refine OD.cells (k:=0) (cs':=[.list 1 [] 0,_]) rfl ⟨eu,bN,trivial⟩ rfl ?_|skip
  refine an 87 [4,5] ?_;refine aM (iA I (some ⟨bx,0,none⟩) L.length cap::(Z++(L.eraseIdx (aU (L.map aV.t) s.table).toNat).flatMap bT)) ?_;rw[aW];refine⟨rfl,fun h=>?_⟩;obtain⟨og,kP,oW,Nl,rfl⟩:=h9 h;exact K7 E jd oh O (UU Nl) (by rw[show bT (⟨_,_,og,kP,oW,[]⟩:aV)=oW from append_nil _];exact Perm.refl _)
 have mg:¬s.kind=3:=(by simpa using da)
 refine af [3,4,7,36,58] ?_;refine av ?_ ?_<;>intro dR fH
 ·have yu:s.kind=4:=(by simpa using dR)
  have aW:fp (L.map aV.t) s=(L.map aV.t,(mX (L[(aU (L.map aV.t) s.table).toNat]'E).t s)):=(by unfold fp;rw[ic,if_neg ei,if_neg h0,if_neg mg,if_pos yu])
  obtain⟨n,hn,g⟩:=hg (L[(aU (L.map aV.t) s.table).toNat]'E) (getElem_mem E);refine CD.seq ?_;refine mE 7 [4,65,66] ?_;refine aR 2 ?_ (h:=by exact(cW (mk:=Op.load 77) rfl ot (dL (k:=3) (i:=(aU (L.map aV.t) s.table).toNat) (ls:=L) vt rfl rfl rfl isAgg77 sizeOf77 E)));refine mI 1 ?_;refine Av (agl hm hw ht hG (L[(aU (L.map aV.t) s.table).toNat]'E).t g s pL ho gd) (fun r S h=>h.flat) (fun r S h=>(by have h9:=h.view;unfold Bq at h9;exact h9)) (ha:=by exact⟨⟨_,ot,(UG (O _ (getElem_mem E)) (fun B hB=>by have h9:=mem_flatMap.2 ⟨_,getElem_mem E,hB⟩;repeat (first|exact h9|apply mem_append_right|apply mem_cons_of_mem)):View _ (.agg (gT (L[(aU (L.map aV.t) s.table).toNat]'E))) _)⟩,⟨_,ot,eW⟩,trivial⟩) (K:=?_);refine bH ?_;refine aO 0 [_,_] sizeOf39 ?_;refine aH 1 ?_;first|refine OD.cells (k:=0) (cs':=[.list 1 [] 0,_]) rfl ⟨eu,bN,trivial⟩ rfl ?_|skip
  refine an 87 [4,5] ?_;refine aM (iA I (some ⟨bx,0,none⟩) L.length cap::([⟨bx,77,cap*5,L.flatMap gT⟩]++L.flatMap bT)) ?_;rw[aW];exact⟨rfl,fun _=>⟨L,_,cap,_,jz,O,rfl,Perm.refl _⟩⟩
 have yu:¬s.kind=4:=(by simpa using dR)
 refine af [3,4,7,67] ?_;refine av ?_ ?_<;>intro fM gW
 ·have D6:s.kind=5:=(by simpa using fM)
  have aW:fp (L.map aV.t) s=((L.map aV.t).set (aU (L.map aV.t) s.table).toNat (dH (L[(aU (L.map aV.t) s.table).toNat]'E).t s).1,(([],(dH (L[(aU (L.map aV.t) s.table).toNat]'E).t s).2.1),(dH (L[(aU (L.map aV.t) s.table).toNat]'E).t s).2.2)):=(by unfold fp;rw[ic,if_neg ei,if_neg h0,if_neg mg,if_neg yu,if_pos D6])
  obtain⟨n,hn,g⟩:=hg (L[(aU (L.map aV.t) s.table).toNat]'E) (getElem_mem E);obtain⟨LR,q1,q2,q3,q4,q5⟩:=aT (L[(aU (L.map aV.t) s.table).toNat]'E) (getElem_mem E);refine CD.perm (Jv (A:=[_,_,_]) E) ?_;refine aB 2 ?_
  refine OD.call (Sf:=(⟨bx,77,cap*5,(L.take (aU (L.map aV.t) s.table).toNat).flatMap gT++(gT (L[(aU (L.map aV.t) s.table).toNat]'E)++(L.drop ((aU (L.map aV.t) s.table).toNat+1)).flatMap gT)⟩:ah)::((L[(aU (L.map aV.t) s.table).toNat]'E).sr++LR.flatMap bR)) (R:=⟨U,39,2,[.list 1 [] 0,ae 0]⟩::⟨b3,46,12,bg s⟩::iA I (some ⟨bx,0,none⟩) L.length cap::((L.eraseIdx (aU (L.map aV.t) s.table).toNat).flatMap bT)) ap rfl rfl rfl call58 (acO hm hw ht hG (L[(aU (L.map aV.t) s.table).toNat]'E).t g s ho gd rB Ht hn bx (0+(aU (L.map aV.t) s.table).toNat*5) (cap*5) ((L.take (aU (L.map aV.t) s.table).toNat).flatMap gT) ((L.drop ((aU (L.map aV.t) s.table).toNat+1)).flatMap gT) NR LR (L[(aU (L.map aV.t) s.table).toNat]'E).ad (L[(aU (L.map aV.t) s.table).toNat]'E).cap (L[(aU (L.map aV.t) s.table).toNat]'E).sr q4 q3 q5) ⟨ot,ot,trivial⟩ (show(⟨U,39,2,[.list 1 [] 0,ae 0]⟩::⟨b3,46,12,bg s⟩::iA I (some ⟨bx,0,none⟩) L.length cap::(⟨bx,77,cap*5,(L.take (aU (L.map aV.t) s.table).toNat).flatMap gT++(gT (L[(aU (L.map aV.t) s.table).toNat]'E)++(L.drop ((aU (L.map aV.t) s.table).toNat+1)).flatMap gT)⟩:ah)::((bT (L[(aU (L.map aV.t) s.table).toNat]'E))++(L.eraseIdx (aU (L.map aV.t) s.table).toNat).flatMap bT):List ah).Perm (((⟨bx,77,cap*5,(L.take (aU (L.map aV.t) s.table).toNat).flatMap gT++(gT (L[(aU (L.map aV.t) s.table).toNat]'E)++(L.drop ((aU (L.map aV.t) s.table).toNat+1)).flatMap gT)⟩:ah)::((L[(aU (L.map aV.t) s.table).toNat]'E).sr++LR.flatMap bR))++(⟨U,39,2,[.list 1 [] 0,ae 0]⟩::⟨b3,46,12,bg s⟩::iA I (some ⟨bx,0,none⟩) L.length cap::((L.eraseIdx (aU (L.map aV.t) s.table).toNat).flatMap bT))) from by rw[show bT (L[(aU (L.map aV.t) s.table).toNat]'E)=((L[(aU (L.map aV.t) s.table).toNat]'E).sr++LR.flatMap bR) from by unfold bT;rw[q2]];exact(jS fun mD=>by simp only[map_append,map_cons,map_nil,sum_append,sum_cons,sum_nil];omega)) ?_
  rintro _ Z ⟨rfl,h9⟩;refine OD.perm (S':=⟨U,39,2,[.list 1 [] 0,ae 0]⟩::⟨b3,46,12,bg s⟩::iA I (some ⟨bx,0,none⟩) L.length cap::(Z++(L.eraseIdx (aU (L.map aV.t) s.table).toNat).flatMap bT)) (show(Z++(⟨U,39,2,[.list 1 [] 0,ae 0]⟩::⟨b3,46,12,bg s⟩::iA I (some ⟨bx,0,none⟩) L.length cap::((L.eraseIdx (aU (L.map aV.t) s.table).toNat).flatMap bT)):List ah).Perm _ from(jS fun mD=>by simp only[map_append,map_cons,map_nil,sum_append,sum_cons,sum_nil];omega)) ?_;refine an 87 [4,8,9] ?_;refine aB 3 ?_;refine aO 0 [_,_] sizeOf39 ?_;refine aH 1 ?_;first|refine OD.cells (k:=0) (cs':=[.list 1 [] 0,_]) rfl ⟨eu,bN,trivial⟩ rfl ?_|skip
  refine an 87 [4,5] ?_;refine aM (iA I (some ⟨bx,0,none⟩) L.length cap::(Z++(L.eraseIdx (aU (L.map aV.t) s.table).toNat).flatMap bT)) ?_;rw[aW];refine⟨rfl,fun h=>?_⟩;obtain⟨L',og,kP,oW,ama,rfl⟩:=h9 h;exact K7 E jd oh O (aeF ama) (Perm.refl _)
 have D6:¬s.kind=5:=(by simpa using fM)
 have aW:fp (L.map aV.t) s=((L.map aV.t).set (aU (L.map aV.t) s.table).toNat (j4 (L[(aU (L.map aV.t) s.table).toNat]'E).t s.aj).1,(([],(j4 (L[(aU (L.map aV.t) s.table).toNat]'E).t s.aj).2.1),(j4 (L[(aU (L.map aV.t) s.table).toNat]'E).t s.aj).2.2)):=(by unfold fp;rw[ic,if_neg ei,if_neg h0,if_neg mg,if_neg yu,if_neg D6])
 obtain⟨n,hn,g⟩:=hg (L[(aU (L.map aV.t) s.table).toNat]'E) (getElem_mem E);obtain⟨Sg,Pt,jR⟩:=Qx (aT (L[(aU (L.map aV.t) s.table).toNat]'E) (getElem_mem E));refine CD.perm (Jv (A:=[_,_,_]) E) ?_;refine CD.wk (jR _ _ [_,_,_,_] _) ?_;refine aB 2 ?_
 refine OD.call (Sf:=(⟨bx,77,cap*5,(L.take (aU (L.map aV.t) s.table).toNat).flatMap gT++(gT (L[(aU (L.map aV.t) s.table).toNat]'E)++(L.drop ((aU (L.map aV.t) s.table).toNat+1)).flatMap gT)⟩:ah)::Sg) (R:=⟨U,39,2,[.list 1 [] 0,ae 0]⟩::⟨b3,46,12,bg s⟩::iA I (some ⟨bx,0,none⟩) L.length cap::((L.eraseIdx (aU (L.map aV.t) s.table).toNat).flatMap bT)) ap rfl rfl rfl call59 (acL hm hw ht hG (L[(aU (L.map aV.t) s.table).toNat]'E).t g s ho gd bx (0+(aU (L.map aV.t) s.table).toNat*5) (cap*5) ((L.take (aU (L.map aV.t) s.table).toNat).flatMap gT) ((L.drop ((aU (L.map aV.t) s.table).toNat+1)).flatMap gT) NR (L[(aU (L.map aV.t) s.table).toNat]'E).ad (L[(aU (L.map aV.t) s.table).toNat]'E).cap Sg Pt) ⟨ot,ot,trivial⟩ (show(⟨U,39,2,[.list 1 [] 0,ae 0]⟩::⟨b3,46,12,bg s⟩::iA I (some ⟨bx,0,none⟩) L.length cap::(⟨bx,77,cap*5,(L.take (aU (L.map aV.t) s.table).toNat).flatMap gT++(gT (L[(aU (L.map aV.t) s.table).toNat]'E)++(L.drop ((aU (L.map aV.t) s.table).toNat+1)).flatMap gT)⟩:ah)::(Sg++(L.eraseIdx (aU (L.map aV.t) s.table).toNat).flatMap bT):List ah).Perm (((⟨bx,77,cap*5,(L.take (aU (L.map aV.t) s.table).toNat).flatMap gT++(gT (L[(aU (L.map aV.t) s.table).toNat]'E)++(L.drop ((aU (L.map aV.t) s.table).toNat+1)).flatMap gT)⟩:ah)::Sg)++(⟨U,39,2,[.list 1 [] 0,ae 0]⟩::⟨b3,46,12,bg s⟩::iA I (some ⟨bx,0,none⟩) L.length cap::((L.eraseIdx (aU (L.map aV.t) s.table).toNat).flatMap bT))) from(jS fun mD=>by simp only[map_append,map_cons,map_nil,sum_append,sum_cons,sum_nil];omega)) ?_
 rintro _ Z ⟨rfl,h9⟩;refine OD.perm (S':=⟨U,39,2,[.list 1 [] 0,ae 0]⟩::⟨b3,46,12,bg s⟩::iA I (some ⟨bx,0,none⟩) L.length cap::(Z++(L.eraseIdx (aU (L.map aV.t) s.table).toNat).flatMap bT)) (show(Z++(⟨U,39,2,[.list 1 [] 0,ae 0]⟩::⟨b3,46,12,bg s⟩::iA I (some ⟨bx,0,none⟩) L.length cap::((L.eraseIdx (aU (L.map aV.t) s.table).toNat).flatMap bT)):List ah).Perm _ from(jS fun mD=>by simp only[map_append,map_cons,map_nil,sum_append,sum_cons,sum_nil];omega)) ?_;refine an 87 [4,10,11] ?_;refine aB 3 ?_;refine aO 0 [_,_] sizeOf39 ?_;refine aH 1 ?_;first|refine OD.cells (k:=0) (cs':=[.list 1 [] 0,_]) rfl ⟨eu,bN,trivial⟩ rfl ?_|skip
 refine an 87 [4,5] ?_;refine aM (iA I (some ⟨bx,0,none⟩) L.length cap::(Z++(L.eraseIdx (aU (L.map aV.t) s.table).toNat).flatMap bT)) ?_;rw[aW];refine⟨rfl,fun h=>?_⟩;obtain⟨og,kP,oW,Nl,rfl⟩:=h9 h;exact K7 E jd oh O (UU Nl) (by rw[show bT (⟨_,_,og,kP,oW,[]⟩:aV)=oW from append_nil _];exact Perm.refl _)

end Go.Proofs.YtkgmonfgofobaaaGreatDoor.Ba
namespace Go.Proofs.YtkgmonfgofobaaaGreatDoor.Ba
open List
open Go.Proofs.Tryz
open Go.RowKit V Pk Tr Vl Go.Proofs.YtkgmonfgofobaaaGreatDoor.Nm Pc Cd Ex Tw
open Pa (bA bg)
variable {G:List (Nat×List Value)} {m:Int}
variable {n:Nat}
def vW(t:az)(i:Nat):Nat:=((range i).filter fun j=>decide ((t.rows.getD j []).length≠0)).length
theorem Fs(t:az)(i:Nat):vW t (i+1)=vW t i+if (t.rows.getD i []).length≠0 then 1 else 0:=by
 unfold vW;rw[range_succ,filter_append,length_append];congr 1;by_cases h:(t.rows.getD i []).length≠0
 ·rw[if_pos h,filter_cons_of_pos pC];rfl
 rw[if_neg h,filter_cons_of_neg pC];rfl
theorem VH(t:az)(i:Nat):vW t i≤i:=by
 unfold vW;exact Nat.le_trans (length_filter_le _ _) (by rw[length_range];exact Nat.le_refl _)
theorem J7{t:az}{i:Nat}(h:i<t.rows.length):t.rows.getD i []=t.rows[i]:=by rw[getD_eq_getElem?_getD,getElem?_eq_getElem h];rfl
theorem UW{t:az}(g:cA t n):vW t t.rows.length=(dh t.ix).length:=by
 unfold vW;have hA:((dh t.ix).map fun x=>x.2.toNat).Nodup:=by
  have hr:(dh t.ix).Pairwise (fun a b=>bu a.1 b.1):=zc g.ix.val;rw[Nodup,pairwise_map];refine hr.imp_of_mem fun {a b} ha hb h e=>?_;obtain⟨a0,a1,a2,a3⟩:=g.gj a ha;obtain⟨b0,b1,b2,b3⟩:=g.gj b hb;refine jl a.1 ?_;have:a.1=b.1:=(by rw[a3,b3];simp only[e])
  rw[←this] at h;exact h
 have Z:((range t.rows.length).filter fun j=>decide ((t.rows.getD j []).length≠0)).Nodup:=List.nodup_range.filter _;have h1:=hA.length_le_of_subset (l₂:=(range t.rows.length).filter fun j=>decide ((t.rows.getD j []).length≠0)) fun i hi=>by
  obtain⟨x,hx,rfl⟩:=mem_map.1 hi;obtain⟨x0,x1,x2,x3⟩:=g.gj x hx;refine mem_filter.2 ⟨mem_range.2 x1,decide_eq_true ?_⟩;rw[J7 x1];exact fun h=>x2 (length_eq_zero_iff.1 h)
 have h2:=Z.length_le_of_subset (l₂:=(dh t.ix).map fun x=>x.2.toNat) fun i hi=>by
  obtain⟨O,U⟩:=mem_filter.1 hi;have E:=mem_range.1 O;have I:=of_decide_eq_true U;rw[J7 E] at I;exact mem_map.2 ⟨_,(g.row i E (fun h=>I (by rw[h];rfl))).2.2,by simp⟩
 (first|rw[length_map] at h1|(unfold au at h1;rw[length_map] at h1));(first|rw[length_map] at h2|(unfold au at h2;rw[length_map] at h2))
 omega
theorem aeG(hm:(3,marksC)∈G)(hw:(1,wordsC)∈G)(ht:(0,typesC)∈G)(hG:(2,[Value.int .i64 m])∈G)(t:az)(g:cA t n)(pL:t.nm.size≤maxLen):VP Tryz.prog G 45 [.agg (cU t)] (bG true):=by
 refine VC.body func45 rfl ntmps45 aQ fun X0 w0 bf=>?_;have c8:=dV;have mb:=g.eO;have pD:=vo (G:=G) hm hw t.nm pL;rw[g.nm] at pD;have fC:=Pc.FZ (G:=G) hm hw ht t.ay yg yf;have hco:Pc.fW t.ay=0:=(by rw[g.ay];exact Ki)
 rw[hco] at fC;have wG:=af5 (G:=G) g.ix;have Z:=UF (G:=G) g.ix;rw[FI] at Z;unfold Tw.cT at wG Z;have ZE:=UW g;unfold cU;refine cf ?_;refine OD.box (ds:=[_,_,_,_,_]) ap rfl rfl ot rfl rfl (fun b1=>?_);refine an 76 [1] ?_;refine aB 2 ?_;refine ec call82 (pD) ?_;refine aH 2 ?_;refine bY 14 (fun E ajr=>?_) (fun E ajr=>?_)
 ·exact absurd E (by simp at E)
 refine aH 2 ?_;refine OD.iC iJ rfl rfl rfl call67 (fC) ⟨ot,trivial⟩ ?_;refine aH 3 ?_;refine bY 20 (fun I LZ=>?_) (fun I LZ=>?_)
 ·exact absurd I (by simp at I)
 refine aH 6 ?_;refine bY 26 (fun O L9=>?_) (fun O L9=>?_)
 ·exact absurd O (by (simp at O;omega))
 refine aH 2 ?_;refine OD.iC iJ rfl rfl rfl call62 (wG) ⟨ot,trivial⟩ ?_;refine an 76 [1,31] ?_;refine av ?_ ?_<;>intro aL bB
 ·exact absurd aL (by simp at aL)
 refine af [1,3] ?_;refine af [1,3,33,34,35] ?_;refine CD.block ?_;refine nq (fun (i:Nat) aE=>(i≤t.rows.length)∧aE=(⟨76,[(1,cZ b1),(3,ae (vW t i:Nat)),(33,au 1 gG t.rows),(34,ae (t.rows.length:Nat)),(35,ae (i:Nat))],[⟨b1,77,5,cU t⟩]⟩:St)) (fun (i:Nat)=>t.rows.length-i) 0 ⟨(Nat.zero_le _),rfl⟩ (aJ (h:=by repeat (first|exact trivial|refine⟨(by (repeat (first|exact fP|(apply gi;focus (first|rfl|(rw[Fs,if_neg Ar];rfl)|(rw[Fs,if_pos Ar];rfl)|(simp;done)|(congr 2;omega)))|(apply fU;focus rfl)));done),?_⟩))) ?_;rintro i _ ⟨hi,rfl⟩;refine af [1,3,33,34,35,36] ?_;refine av ?_ ?_<;>intro aY cD
 ·have aa:i<t.rows.length:=(by omega)
  have ic:t.rows.getD i []=(t.rows[i]'aa):=J7 aa;have kD:=VH t i;refine af [1,3,4,5,33,34,35] ?_;refine af [1,3,4,5,33,34,35,42] ?_;refine av ?_ ?_<;>intro cm cR
  ·have Ar:¬(t.rows.getD i []).length≠0:=(by rw[ic];simpa using cm)
   exact Yd
  have Ar:(t.rows.getD i []).length≠0:=(by rw[ic];simpa using cm)
  have hne:(t.rows[i]'aa)≠[]:=fun h=>Ar (by rw[ic,h];rfl);obtain⟨p1,p2,p3⟩:=g.row i aa hne;have p4:=oE p1;have yX:=Lo (G:=G) hm hw ht t.ay yg yf (t.rows[i]'aa) w4;have Zw:Pc.dQ t.ay (t.rows[i]'aa)=0:=(by rw[g.ay];exact p1)
  rw[Zw] at yX;have hyv:=zP (G:=G) hG (t.rows[i]'aa) w4 w4 p2;have fE:=Ly (G:=G) g.ix (bU (t.rows[i]'aa));rw[Tf g.ix (sN p1) p3] at fE;unfold Tw.cT at fE;refine af [1,3,4,5,33,34,35] ?_;refine cL [1,3,4,5,33,34,35,49] (yX) ?_;refine av ?_ ?_<;>intro da eA
  ·exact absurd da (by simp at da)
  refine cM [1,3,4,6,7,33,34,35] ?_;refine cN (hyv) ?_;refine cN (fE) ?_;refine bH ?_;refine aB 3 ?_;refine bY 60 (fun U L1=>?_) (fun U L1=>?_)
  ·exact absurd U (by simp at U)
  refine bp [1,3,33,34,35,64] ?_;refine av ?_ ?_<;>intro dR fH
  ·exact absurd dR (by simp at dR)
  exact Yd
 have uF:i=t.rows.length:=(by omega)
 subst uF;refine cL [3,8] (Z) ?_;refine af [2] ?_;refine aM [] ?_;refine⟨?_,rfl⟩;first|rfl|(rw[ZE];simp)

structure qc (l:List az) (n:Nat):Prop where
 eO:l.length≤4
 tb:∀t∈l,cA t n
 sz:∀t∈l,t.nm.size≤maxLen
 IA:l.Pairwise fun a b=>a.nm.toList≠b.nm.toList
theorem qc.no{l:List az}(g:qc l n){i:Nat}(h:i<l.length):aU (l.take i) l[i].nm<0:=by
 unfold aU;rw[vf (k:=(l.take i).length) w4 (fun x hx=>?_)]
 ·decide
 rw[take_of_length_le (Nat.le_refl _)] at hx;obtain⟨j,hj,rfl⟩:=mem_iff_getElem.1 hx;rw[length_take] at hj;rw[getElem_take];have:=pairwise_iff_getElem.1 g.IA j i w4 h w4;simpa using this
noncomputable def vK(l:List az)(nm:ByteArray):List (List Vl)×Int:=if aU l nm<0 then ([],8) else ((dh (l.getD (aU l nm).toNat ⟨nm,[],[],qi⟩).ix).map fun x=>rowAt (l.getD (aU l nm).toNat ⟨nm,[],[],qi⟩) x.2,0)
theorem Rz(hm:(3,marksC)∈G)(hw:(1,wordsC)∈G)(ht:(0,typesC)∈G)(hG:(2,[Value.int .i64 m])∈G)(l:List az)(g:qc l n):VP Tryz.prog G 27 [.agg [au 5 cU (l)]] (ae 0):=by
 refine VC.body func27 rfl ntmps27 aQ fun X0 w0 bf=>?_;have c8:=dV;have U:=g.eO;refine cf ?_;refine OD.box (ds:=[_]) ap rfl rfl ot rfl rfl (fun b1=>?_);refine an 31 [1] ?_;refine af [1,8] ?_;refine av ?_ ?_<;>intro aL bB
 ·exact absurd aL (by (simp at aL;omega))
 refine af [1,10,11,12] ?_;refine eG [1,10,11] (fun aS _ (i:Nat) aE=>(i≤l.length)∧aE=(⟨31,(12,ae (i:Nat))::aS,[⟨b1,25,1,[au 5 cU (l)]⟩]⟩:St)) (fun (i:Nat)=>l.length-i) 0 ⟨(Nat.zero_le _),rfl⟩ ?_;rintro i _ ⟨hi,rfl⟩;refine af [1,10,11,12,13] ?_;refine av ?_ ?_<;>intro aY cD
 ·have aa:i<l.length:=(by omega)
  have O:=aeG hm hw ht hG (l[i]'aa) (g.tb _ (getElem_mem aa)) (g.sz _ (getElem_mem aa));have fE:=qK (G:=G) (l.take i) pA (l[i]'aa).nm;have lA:=g.no aa;unfold cU at O;refine aB 3 ?_;refine OD.alloc (ds:=[_,_,_,_,_]) ap rfl rfl zeroValue77 rfl (fun Z=>?_);refine aH 1 ?_;refine aO 0 [_,_,_,_,_] sizeOf77 ?_;refine an 31 [1,3,4,10,11,12] ?_;refine CD.seq ?_;refine iv 10 (ax _) ?_ (fun _ h=>h);refine aD 0 rfl (cW (mk:=Op.load 77) rfl ot (by first|exact qJ (k:=0) (ds:=[_,_,_,_,_]) rfl rfl isAgg77 sizeOf77 rfl rfl|exact ku jT isAgg77 sizeOf77 w5|exact dL (k:=0) jT rfl rfl rfl isAgg77 sizeOf77 w5|exact dL (k:=1) jT rfl rfl rfl isAgg77 sizeOf77 w5|exact qR (ds:=[_,_,_,_,_]) isAgg77 sizeOf77 rfl rfl)) ?_;refine dZ.later rfl ?_;refine AD.one (i:=1) aC ?_;refine qq call45 (O) ?_;refine dj 2 rfl lB ?_;refine dj 3 rfl bI ?_;refine AD.split (t:=20) lk (fun E=>?_) (fun E=>?_)
  ·exact absurd E (by simp at E)
  have I:=E;(try simp only[V.nL,ne_eq] at I)
  refine dj 4 rfl (dX 0) ?_;refine dj 6 rfl bI ?_;refine dj 8 rfl (dX 0) ?_;refine AD.two (i:=5) (j:=9) aC ?_ ?_
  ·refine at_ rfl (ee 1) ?_;refine dj 7 rfl (eJ (l:=0) (h:=i) rfl ot trivial ⟨_,ot⟩ (by exact nS jT (fun h=>by cases h) runUnderlying23 sizeOf77 w4)) ?_;refine AD.one (i:=9) aC ?_;refine at_ rfl (ee 0) ?_;exact z75
  refine at_ rfl (ee 0) ?_;refine AD.one (i:=5) aC ?_;refine at_ rfl (ee 1) ?_;refine dj 7 rfl (eJ (l:=0) (h:=i) rfl ot trivial ⟨_,ot⟩ (by exact nS jT (fun h=>by cases h) runUnderlying23 sizeOf77 w4)) ?_;exact z75
 refine af [2] ?_;exact z46
theorem abi:(Tryz.prog.info? 43).map (fun i=>(i.zero,i.size,i.bytes))=some (some (.slice none 0 0),1,24):=by kernel_rfl
theorem zG(hm:(3,marksC)∈G)(hw:(1,wordsC)∈G)(ht:(0,typesC)∈G)(hG:(2,[Value.int .i64 m])∈G)(l:List az)(g:qc l n)(nm:ByteArray):VP Tryz.prog G 16 [.agg [au 5 cU (l)],aZ nm] (.dD [.list 1 ((vK l nm).1.flatMap gG) (vK l nm).1.length,ae (vK l nm).2]):=by
 refine VC.body func16 rfl ntmps16 aQ fun X0 w0 bf=>?_;have c8:=dV;have mb:=g.eO;have q9:=Rz hm hw ht hG l g;have fE:=qK (G:=G) l w4 nm;have tD:=xo (fun t:az=>t.nm.toList==nm.toList) l;rw[show dP (fun t:az=>t.nm.toList==nm.toList) l=aU l nm from rfl] at tD;refine cf ?_;refine OD.box (ds:=[_]) ap rfl rfl ot rfl rfl (fun b2=>?_);refine an 54 [1,2] ?_;refine cL [1,2,6] (q9) ?_;refine af [1,2,6,17] ?_;refine av ?_ ?_<;>intro aL bB
 ·exact absurd aL (by simp at aL)
 refine cL [2,7] (fE) ?_;refine af [2,7,24] ?_;refine av ?_ ?_<;>intro aY cD
 ·have h0:aU l nm<0:=(by simpa using aY)
  have aW:vK l nm=([],8):=if_pos h0;refine af [4,5] ?_;refine CD.wk (Wk.ue (t:=4) (sz:=1) lk) ?_;exact oO
 have h0:¬aU l nm<0:=(by simpa using aY)
 have E:(aU l nm).toNat<l.length:=(by omega)
 have O:=g.tb (l[(aU l nm).toNat]'E) (getElem_mem E);have ic:l.getD (aU l nm).toNat ⟨nm,[],[],qi⟩=(l[(aU l nm).toNat]'E):=(by rw[getD_eq_getElem?_getD,getElem?_eq_getElem E];rfl)
 have aW:vK l nm=((dh (l[(aU l nm).toNat]'E).ix).map fun x=>rowAt (l[(aU l nm).toNat]'E) x.2,0):=(by unfold vK;rw[if_neg h0,ic])
 have Bp:=UF (G:=G) O.ix;rw[FI] at Bp;unfold Tw.cT at Bp;have ZE:=UW O;have kD:=VH (l[(aU l nm).toNat]'E) (l[(aU l nm).toNat]'E).rows.length;have O1:=O.eO;refine aB 3 ?_;refine bV (dO 5 (h:=by first|exact .l (j:=(aU l nm).toNat) (Int.toNat_of_nonneg w4).symm E|exact .r (j:=(aU l nm).toNat) (Int.toNat_of_nonneg w4).symm E)) ?_;refine aH 1 ?_;refine OD.alloc (ds:=[_,_,_,_,_]) ap rfl rfl zeroValue77 rfl (fun b8=>?_);refine aO 0 [_,_,_,_,_] sizeOf77 ?_;refine an 54 [8] ?_;refine cL [8,9] (Bp) ?_;refine cf ?_;refine bp [8,9,11] ?_;refine af [8,11,36,37,38] ?_;refine eG [8,36,37] (fun aS _ (U:Nat×List (List Vl)×Option Addr×Nat×List ah) aE=>match U with|(i,acc,dN,dg,Sx)=>(i≤(dh (l[(aU l nm).toNat]'E).ix).length)∧(acc=((dh (l[(aU l nm).toNat]'E).ix).take i).map fun x=>rowAt (l[(aU l nm).toNat]'E) x.2)∧(bn 43 1 ((acc).flatMap gG) (acc).length dN dg Sx)∧aE=(⟨54,(11,aP dN (acc).length dg)::(38,ae (i:Nat))::aS,(⟨b8,77,5,cU (l[(aU l nm).toNat]'E)⟩::⟨b2,25,1,[au 5 cU (l)]⟩::Sx)⟩:St)) (fun (U:Nat×List (List Vl)×Option Addr×Nat×List ah)=>match U with|(i,acc,dN,dg,Sx)=>(dh (l[(aU l nm).toNat]'E).ix).length-i) (0,([]:List (List Vl)),none,0,[]) ⟨(Nat.zero_le _),rfl,(bn.cast iW lu),rfl⟩ ?_;rintro⟨i,acc,dN,dg,Sx⟩ _ ⟨hi,rU,ey,rfl⟩;refine af [8,11,36,37,38,39] ?_;refine av ?_ ?_<;>intro cm cR
 ·have aa:i<(dh (l[(aU l nm).toNat]'E).ix).length:=(by omega)
  obtain⟨fO,I,oo,Oa⟩:=O.gj _ (getElem_mem aa);have hra:rowAt (l[(aU l nm).toNat]'E) ((dh (l[(aU l nm).toNat]'E).ix)[i]'aa).2=((l[(aU l nm).toNat]'E).rows[((dh (l[(aU l nm).toNat]'E).ix)[i]'aa).2.toNat]'I):=fV I;have h4:=oE (O.row _ I oo).1;have fC:=Rn (G:=G) ((l[(aU l nm).toNat]'E).rows[((dh (l[(aU l nm).toNat]'E).ix)[i]'aa).2.toNat]'I) w4;have ru:acc.length=i:=(by rw[rU,length_map,length_take];omega)
  refine aB 2 ?_;refine OD.alloc (ds:=[_,_]) ap rfl rfl zeroValue92 rfl (fun mK=>?_);refine aO 0 [_,_] sizeOf92 ?_;refine an 54 [8,11,13,36,37,38] ?_;refine dY 5 ?_;refine bV (dO 1 (h:=by first|exact .l (j:=((dh (l[(aU l nm).toNat]'E).ix)[i]'aa).2.toNat) (Int.toNat_of_nonneg fO).symm I|exact .r (j:=((dh (l[(aU l nm).toNat]'E).ix)[i]'aa).2.toNat) (Int.toNat_of_nonneg fO).symm I)) ?_;refine aH 1 ?_;refine ec call33 (fC) ?_;refine eD (cq 0 [_]) [.slice none 0 0] [_] zeroValue43 runUnderlying37 sizeOf43 (fun yO=>?_);refine fT 0 50 1 1 ?_;refine OD.eL (ls:=(acc)) (new:=[((l[(aU l nm).toNat]'E).rows[((dh (l[(aU l nm).toNat]'E).ix)[i]'aa).2.toNat]'I)]) (Sq:=Sx) j3 Ti ap rfl rfl underlying37 abi rfl w7 ot ey (dI (A:=[_,_,_])) ot bj nH nI (fun y4 Z Ni Nj=>?_);refine OD.perm (ez (S1:=[⟨y4,43,Z*1,flatMap gG ((acc)++[((l[(aU l nm).toNat]'E).rows[((dh (l[(aU l nm).toNat]'E).ix)[i]'aa).2.toNat]'I)])⟩]) (A:=[_,_,_])) ?_;refine an 54 [8,11,36,37,38] ?_;refine cc [8,11,36,37,38] ?_
  refine⟨((i+1),(acc++[((l[(aU l nm).toNat]'E).rows[((dh (l[(aU l nm).toNat]'E).ix)[i]'aa).2.toNat]'I)]),(some ⟨y4,0,none⟩),Z,[⟨y4,43,Z*1,flatMap gG ((acc)++[((l[(aU l nm).toNat]'E).rows[((dh (l[(aU l nm).toNat]'E).ix)[i]'aa).2.toNat]'I)])⟩]),_,cr,aJ,w4,(by rw[rU,←hra,←pP aa,map_append];rfl),(bn.cast (bQ Ni Nj) lu),rfl⟩
 have nF:acc=(dh (l[(aU l nm).toNat]'E).ix).map fun x=>rowAt (l[(aU l nm).toNat]'E) x.2:=(by rw[rU,take_of_length_le w4])
 refine af [4,5] ?_;refine CD.iE (t:=4) (Sq:=Sx) lk ey (cz j3 _) (dI (A:=[_,_])) ?_;refine aM [] ?_;rw[aW,←nF];exact⟨rfl,rfl⟩

end Go.Proofs.YtkgmonfgofobaaaGreatDoor.Ba
namespace Go.Proofs.YtkgmonfgofobaaaGreatDoor.Ba
open List
open Go.Proofs.Tryz
open Go.RowKit V Pk Tr Vl Go.Proofs.YtkgmonfgofobaaaGreatDoor.Nm Pc Cd Ex Tw
open Pa (bA bg eI cX)
variable {G:List (Nat×List Value)} {m:Int}
noncomputable def gA(l:List az)(s:bA):List az×((List (List Vl)×Int)×Int) :=
 if cX s≠0 then ([],(([],0),cX s)) else if 7≤s.kind then ([],(([],0),2)) else if (fp l s).2.2≠0 then ([],(([],0),(fp l s).2.2)) else ((fp l s).1,((fp l s).2.1,0))
noncomputable def vX(rr:List az×((List (List Vl)×Int)×Int))(s:bA):List az×((List (List Vl)×Int)×Int) :=
 if cX s≠0 then ([],(([],0),cX s)) else if 7≤s.kind then ([],(([],0),2)) else if rr.2.2≠0 then ([],(([],0),rr.2.2)) else (rr.1,(rr.2.1,0))
def sD(p:List az×((List (List Vl)×Int)×Int)):D:=.dD [.agg [au 5 cU p.1],.agg [au 1 gG p.2.1.1,ae p.2.1.2],ae p.2.2]
theorem agn(hm:(3,marksC)∈G)(hw:(1,wordsC)∈G)(ht:(0,typesC)∈G)(hG:(2,[Value.int .i64 m])∈G)(l:List az){n:Nat}(g:qc l n)(s:bA)(hf:eI s)(E:List az×((List (List Vl)×Int)×Int))(nY:∀(L:List aV),L.map aV.t=l→(∀o∈L,qy o)→∀(bo:Nat) (ad:Option Addr) (cap:Nat) (Sx:List ah),x7 L ad cap Sx→VC Tryz.prog G 30 [cZ bo,.agg (bg s)] (iA bo ad L.length cap::(Sx++L.flatMap bT)) (fun r S=>r=Bq E.2∧(E.2.2=0→GX E.1 bo S)))(Bo:E.2.2=0→E.1.length≤1000∧∀t∈E.1,zS t):VP Tryz.prog G 15 [.agg [au 5 cU (l)],.agg (bg s)] (sD (vX E s)):=by
 refine VC.body func15 rfl ntmps15 aQ fun X0 w0 bf=>?_;have c8:=dV;have mb:=g.eO;have q9:=Rz hm hw ht hG l g;have fC:=Pa.Su (G:=G) hm hw ht s hf;refine cf ?_;refine OD.box (ds:=[_]) ap rfl rfl ot rfl rfl (fun b2=>?_);refine OD.box (ds:=[_,_,_,_,_,_,_,_,_,_,_,_]) ap rfl rfl ot rfl rfl (fun b3=>?_);refine OD.alloc (ds:=[_]) ap rfl rfl zeroValue25 rfl (fun I=>?_);refine OD.alloc (ds:=[_,_]) ap rfl rfl zeroValue39 rfl (fun b5=>?_);refine aH 1 ?_;first|refine OD.cells (k:=0) (cs':=[.list 1 [] 0,_]) rfl ⟨eu,bN,trivial⟩ rfl ?_|skip
 first|refine OD.cells (k:=1) (cs':=[.list 1 [] 0,_]) rfl ⟨eu,bN,trivial⟩ rfl ?_|skip
 first|refine OD.cells (k:=1) (cs':=[.list 5 [] 0]) rfl ⟨eu,trivial⟩ rfl ?_|skip
 first|refine OD.cells (k:=2) (cs':=[.list 5 [] 0]) rfl ⟨eu,trivial⟩ rfl ?_|skip
 refine an 46 [2,3,4,5] ?_;refine cL [2,3,4,5,7] (q9) ?_;refine af [2,3,4,5,7,15] ?_;refine av ?_ ?_<;>intro aL bB
 ·exact absurd aL (by simp at aL)
 refine cL [2,3,4,5,8] (fC) ?_;refine af [2,3,4,5,8,22] ?_;refine av ?_ ?_<;>intro aY cD
 ·have h1:cX s≠0:=(by simpa using aY)
  have aW:vX E s=([],(([],0),cX s)):=if_pos h1;refine aB 3 ?_;refine aO 1 [_] sizeOf25 ?_;refine aO 0 [_,_] sizeOf39 ?_;exact NX
 have h1:¬cX s≠0:=(by simpa using aY)
 refine af [2,3,4,5,28] ?_;refine av ?_ ?_<;>intro cm cR
 ·have h2:7≤s.kind:=(by simpa using cm)
  have aW:vX E s=([],(([],0),2)):=(by unfold vX;rw[if_neg h1,if_pos h2])
  refine aB 2 ?_;refine aO 1 [_] sizeOf25 ?_;refine aO 0 [_,_] sizeOf39 ?_;exact NX
 have h2:¬7≤s.kind:=(by simpa using cm)
 refine aB 1 ?_;refine OD.call ap rfl rfl rfl call29 (Rq l w4 (fun t h=>(g.tb t h).small)) ⟨ot,trivial⟩ (fg _) ?_;rintro _ _ ⟨L,ad,cap,Sx,rfl,jz,aT,pO,rfl⟩;refine OD.perm (S':=⟨b5,39,2,[.list 1 [] 0,ae 0]⟩::⟨I,25,1,[.list 5 [] 0]⟩::⟨b3,46,12,bg s⟩::⟨b2,25,1,[au 5 cU (l)]⟩::(Sx++L.flatMap bT)) (show((Sx++L.flatMap bT)++(⟨b5,39,2,[.list 1 [] 0,ae 0]⟩::⟨I,25,1,[.list 5 [] 0]⟩::⟨b3,46,12,bg s⟩::[⟨b2,25,1,[au 5 cU (l)]⟩]):List ah).Perm _ from(jS fun mD=>by simp only[map_append,map_cons,map_nil,sum_append,sum_cons,sum_nil];omega)) ?_;refine OD.alloc (ds:=[_]) ap rfl rfl zeroValue25 rfl (fun b9=>?_);refine aO 0 [_] sizeOf25 ?_;refine an 46 [3,4,5,9] ?_;refine aB 1 ?_;have so:L.length=l.length:=(by rw[←pO];(first|rw[length_map]|(unfold au;rw[length_map])))
 refine OD.call (Sf:=iA b9 ad L.length cap::(Sx++L.flatMap bT)) (R:=⟨b5,39,2,[.list 1 [] 0,ae 0]⟩::⟨I,25,1,[.list 5 [] 0]⟩::⟨b3,46,12,bg s⟩::[⟨b2,25,1,[au 5 cU (l)]⟩]) ap rfl rfl rfl call30 (nY L pO aT b9 ad cap Sx jz) ⟨ot,ot,trivial⟩ (show(iA b9 ad L.length cap::⟨b5,39,2,[.list 1 [] 0,ae 0]⟩::⟨I,25,1,[.list 5 [] 0]⟩::⟨b3,46,12,bg s⟩::⟨b2,25,1,[au 5 cU (l)]⟩::(Sx++L.flatMap bT):List ah).Perm ((iA b9 ad L.length cap::(Sx++L.flatMap bT))++(⟨b5,39,2,[.list 1 [] 0,ae 0]⟩::⟨I,25,1,[.list 5 [] 0]⟩::⟨b3,46,12,bg s⟩::[⟨b2,25,1,[au 5 cU (l)]⟩])) from(jS fun mD=>by simp only[map_append,map_cons,map_nil,sum_append,sum_cons,sum_nil];omega)) ?_;rintro _ S9 ⟨rfl,h9⟩;refine OD.perm (S':=⟨b5,39,2,[.list 1 [] 0,ae 0]⟩::⟨I,25,1,[.list 5 [] 0]⟩::⟨b3,46,12,bg s⟩::⟨b2,25,1,[au 5 cU (l)]⟩::S9) (show(S9++(⟨b5,39,2,[.list 1 [] 0,ae 0]⟩::⟨I,25,1,[.list 5 [] 0]⟩::⟨b3,46,12,bg s⟩::[⟨b2,25,1,[au 5 cU (l)]⟩]):List ah).Perm _ from(jS fun mD=>by simp only[map_append,map_cons,map_nil,sum_append,sum_cons,sum_nil];omega)) ?_;unfold Bq;refine aH 3 ?_;refine OD.alloc (ds:=[_,_]) ap rfl rfl zeroValue39 rfl (fun kf=>?_);refine aO 0 [_,_] sizeOf39 ?_;refine an 46 [4,5,9,10,11] ?_;refine af [4,5,9,10,11,39] ?_;refine av ?_ ?_<;>intro da eA
 ·have h3:E.2.2≠0:=(by simpa using da)
  have aW:vX E s=([],(([],0),E.2.2)):=(by unfold vX;rw[if_neg h1,if_neg h2,if_pos h3])
  refine aB 3 ?_;refine aO 2 [_] sizeOf25 ?_;refine aO 1 [_,_] sizeOf39 ?_;exact NX
 have h3:¬E.2.2≠0:=(by simpa using da)
 have aW:vX E s=(E.1,(E.2.1,0)):=(by unfold vX;rw[if_neg h1,if_neg h2,if_neg h3])
 obtain⟨L',O,kP,U,Z,ajs,amb,hS⟩:=h9 (Classical.not_not.1 h3);obtain⟨Bm,sb⟩:=Bo (Classical.not_not.1 h3);have yp:=acG (G:=G) E.1 Bm sb;refine CD.perm (S':=⟨kf,39,2,[au 1 gG E.2.1.1,ae E.2.1.2]⟩::⟨b5,39,2,[.list 1 [] 0,ae 0]⟩::⟨I,25,1,[.list 5 [] 0]⟩::⟨b3,46,12,bg s⟩::⟨b2,25,1,[au 5 cU (l)]⟩::(iA b9 O L'.length kP::(U++L'.flatMap bT))) (show((⟨kf,39,2,[au 1 gG E.2.1.1,ae E.2.1.2]⟩::⟨b5,39,2,[.list 1 [] 0,ae 0]⟩::⟨I,25,1,[.list 5 [] 0]⟩::⟨b3,46,12,bg s⟩::[⟨b2,25,1,[au 5 cU (l)]⟩])++S9:List ah).Perm ((⟨kf,39,2,[au 1 gG E.2.1.1,ae E.2.1.2]⟩::⟨b5,39,2,[.list 1 [] 0,ae 0]⟩::⟨I,25,1,[.list 5 [] 0]⟩::⟨b3,46,12,bg s⟩::[⟨b2,25,1,[au 5 cU (l)]⟩])++(iA b9 O L'.length kP::(U++L'.flatMap bT))) from Perm.append_left ((⟨kf,39,2,[au 1 gG E.2.1.1,ae E.2.1.2]⟩::⟨b5,39,2,[.list 1 [] 0,ae 0]⟩::⟨I,25,1,[.list 5 [] 0]⟩::⟨b3,46,12,bg s⟩::[⟨b2,25,1,[au 5 cU (l)]⟩]):List ah) hS) ?_
 refine CD.wk (Wk.cover (A:=iA b9 O L'.length kP) (R:=⟨kf,39,2,[au 1 gG E.2.1.1,ae E.2.1.2]⟩::⟨b5,39,2,[.list 1 [] 0,ae 0]⟩::⟨I,25,1,[.list 5 [] 0]⟩::⟨b3,46,12,bg s⟩::[⟨b2,25,1,[au 5 cU (l)]⟩]) (Sd:=U++L'.flatMap bT) (cs':=[au 5 cU (E.1)]) (show(⟨kf,39,2,[au 1 gG E.2.1.1,ae E.2.1.2]⟩::⟨b5,39,2,[.list 1 [] 0,ae 0]⟩::⟨I,25,1,[.list 5 [] 0]⟩::⟨b3,46,12,bg s⟩::⟨b2,25,1,[au 5 cU (l)]⟩::(iA b9 O L'.length kP::(U++L'.flatMap bT)):List ah).Perm _ from(jS fun mD=>by simp only[map_append,map_cons,map_nil,sum_append,sum_cons,sum_nil];omega)) ⟨by rw[←amb];(first|rw[length_map]|(unfold au;rw[length_map]));exact Gq Z ajs (fun B h=>h),trivial⟩) ?_;refine CD.skip ?_;refine CD.seq ?_;refine iv 4 (ax (eraseIdx _ 3)) ?_ (fun _ h=>(Sublist.map _ (eraseIdx_sublist _ 3)).subset h)
 refine aD 0 rfl (cW (mk:=Op.load 25) rfl ot (by first|exact qJ (k:=0) (ds:=[_]) rfl rfl isAgg25 sizeOf25 rfl rfl|exact ku jT isAgg25 sizeOf25 w5|exact ku j3 isAgg25 sizeOf25 w5|exact dL (k:=0) jT rfl rfl rfl isAgg25 sizeOf25 w5|exact dL (k:=1) jT rfl rfl rfl isAgg25 sizeOf25 w5|exact dL (k:=2) jT rfl rfl rfl isAgg25 sizeOf25 w5|exact dL (k:=3) jT rfl rfl rfl isAgg25 sizeOf25 w5|exact dL (k:=4) jT rfl rfl rfl isAgg25 sizeOf25 w5|exact dL (k:=5) jT rfl rfl rfl isAgg25 sizeOf25 w5|exact dL (k:=0) j3 rfl rfl rfl isAgg25 sizeOf25 w5|exact dL (k:=1) j3 rfl rfl rfl isAgg25 sizeOf25 w5|exact dL (k:=2) j3 rfl rfl rfl isAgg25 sizeOf25 w5|exact dL (k:=3) j3 rfl rfl rfl isAgg25 sizeOf25 w5|exact dL (k:=4) j3 rfl rfl rfl isAgg25 sizeOf25 w5|exact dL (k:=5) j3 rfl rfl rfl isAgg25 sizeOf25 w5|exact qR (ds:=[_]) isAgg25 sizeOf25 rfl rfl)) ?_
 refine aD 2 rfl (cW (mk:=Op.load 39) rfl ot (by first|exact qJ (k:=1) (ds:=[_,_]) rfl rfl isAgg39 sizeOf39 rfl rfl|exact ku jT isAgg39 sizeOf39 w5|exact ku j3 isAgg39 sizeOf39 w5|exact dL (k:=0) jT rfl rfl rfl isAgg39 sizeOf39 w5|exact dL (k:=1) jT rfl rfl rfl isAgg39 sizeOf39 w5|exact dL (k:=2) jT rfl rfl rfl isAgg39 sizeOf39 w5|exact dL (k:=3) jT rfl rfl rfl isAgg39 sizeOf39 w5|exact dL (k:=4) jT rfl rfl rfl isAgg39 sizeOf39 w5|exact dL (k:=5) jT rfl rfl rfl isAgg39 sizeOf39 w5|exact dL (k:=0) j3 rfl rfl rfl isAgg39 sizeOf39 w5|exact dL (k:=1) j3 rfl rfl rfl isAgg39 sizeOf39 w5|exact dL (k:=2) j3 rfl rfl rfl isAgg39 sizeOf39 w5|exact dL (k:=3) j3 rfl rfl rfl isAgg39 sizeOf39 w5|exact dL (k:=4) j3 rfl rfl rfl isAgg39 sizeOf39 w5|exact dL (k:=5) j3 rfl rfl rfl isAgg39 sizeOf39 w5|exact qR (ds:=[_,_]) isAgg39 sizeOf39 rfl rfl)) ?_;refine dZ.later rfl ?_;refine AD.one (i:=1) aC ?_;refine qq call29 (yp) ?_;refine AD.one (i:=3) aC ?_;refine er 3 [_] sizeOf25 ?_;refine fB ?_;refine aO 2 [_,_] sizeOf39 ?_;refine aH 1 ?_;first|refine OD.cells (k:=0) (cs':=[.list 1 [] 0,_]) rfl ⟨eu,bN,trivial⟩ rfl ?_|skip
 first|refine OD.cells (k:=1) (cs':=[.list 1 [] 0,_]) rfl ⟨eu,bN,trivial⟩ rfl ?_|skip
 first|refine OD.cells (k:=1) (cs':=[.list 5 [] 0]) rfl ⟨eu,trivial⟩ rfl ?_|skip
 first|refine OD.cells (k:=2) (cs':=[.list 5 [] 0]) rfl ⟨eu,trivial⟩ rfl ?_|skip
 refine an 46 [4,5,6] ?_;exact uR
theorem VJ(hm:(3,marksC)∈G)(hw:(1,wordsC)∈G)(ht:(0,typesC)∈G)(hG:(2,[Value.int .i64 m])∈G)(l:List az){n:Nat}(hn:n≤260)(g:qc l n)(s:bA)(hf:eI s)(fF:¬s.kind=2)(I:∀v∈s.row,v.Ok)(ho:∀o∈s.aj,o.nm.size≤maxLen)(gd:∀o∈s.aj,o.v.Ok)(Z:∀o∈s.bJ,o.nm.size≤maxLen)(O:∀o∈s.bJ,o.v.Ok)(Bo:(fp l s).2.2=0→(fp l s).1.length≤1000∧∀t∈(fp l s).1,zS t):VP Tryz.prog G 15 [.agg [au 5 cU (l)],.agg (bg s)] (sD (gA l s)) :=
 agn hm hw ht hG l g s hf (fp l s) (fun L pO aT bo ad cap Sx U=>by
  subst pO;have E:=g.eO
  (first|rw[length_map] at E|(unfold au at E;rw[length_map] at E))
  exact ahR hm hw ht hG L aT w4 (fun o ho=>⟨n,hn,g.tb _ (mem_map_of_mem ho)⟩) s fF (by have:=hf.ok.1;omega) (by have:=hf.ok.2.1;omega) I (by have:=hf.ok.2.2.1;omega) ho gd Z O bo ad cap Sx U) Bo

end Go.Proofs.YtkgmonfgofobaaaGreatDoor.Ba
namespace Go.Proofs.YtkgmonfgofobaaaGreatDoor.Ba
open List
open Go.Proofs.Tryz
open Go.RowKit V Pk Tr Vl Go.Proofs.YtkgmonfgofobaaaGreatDoor.Nm Pc Cd Ex Tw
open Pa (bA bg)
variable {t:az} {n:Nat} {i:Int}
theorem cA.mono{t:az}{a b:Nat}(g:cA t a)(h:a≤b):cA t b:=⟨g.nm,g.ay,g.eO,g.ix.mono h,g.row,g.gj⟩
structure kN (t:az) (n:Nat) (D:List Int):Prop where
 nm:cy t.nm=0
 ay:t.ay=bL
 eO:t.rows.length≤40
 ix:ja t.ix n
 row:∀i (h:i<t.rows.length),t.rows[i]≠[]→Pc.dQ bL t.rows[i]=0∧(∀v∈t.rows[i],v.Ok)∧((i:Int)∉D→(bU t.rows[i],(i:Int))∈dh t.ix)
 gj:∀x∈dh t.ix,0≤x.2∧x.2∉D∧∃h:x.2.toNat<t.rows.length,t.rows[x.2.toNat]≠[]∧x.1=bU t.rows[x.2.toNat]
theorem cA.d(g:cA t n):kN t n []:=⟨g.nm,g.ay,g.eO,g.ix,fun i h hn=>⟨(g.row i h hn).1,(g.row i h hn).2.1,fun _=>(g.row i h hn).2.2⟩,fun x hx=>⟨(g.gj x hx).1,not_mem_nil,(g.gj x hx).2⟩⟩
theorem kN.tb(g:kN t n []):cA t n:=⟨g.nm,g.ay,g.eO,g.ix,fun i h hn=>⟨(g.row i h hn).1,(g.row i h hn).2.1,(g.row i h hn).2.2 not_mem_nil⟩,fun x hx=>⟨(g.gj x hx).1,(g.gj x hx).2.2⟩⟩
theorem acQ(g:cA t n)(hn:n≤300){row:List Vl}(aT:∀v∈row,v.Ok)(h:(gQ t row).2=0):cA (gQ t row).1 (n+1)∧(gQ t row).1.rows.length=t.rows.length+1:=by
 unfold gQ at h ⊢;by_cases h1:Pc.dQ t.ay row=0
 ·rw[if_neg (fun e=>e h1)] at h ⊢;cases h2:gl t.ix (bU row) (cQ t.ix) with
  | true=>rw[h2,if_pos rfl] at h;cases h
  | false =>
   rw[h2,if_neg w7] at h;rw[if_neg w7];by_cases h3:t.rows.length=40
   ·rw[if_pos h3] at h;cases h
   rw[if_neg h3];have h4:Pc.dQ bL row=0:=(by rw[←g.ay];exact h1)
   obtain⟨g1,g2,g3⟩:=xj g.ix hn ((sK g.ix).1 h2) (sN h4) (Int.natCast_nonneg t.rows.length);have I:=g.eO;refine⟨⟨g.nm,g.ay,by show(t.rows++[row]).length≤40;rw[length_append,length_singleton];omega,g1,fun i hi hne=>?_,fun x hx=>?_⟩,by show(t.rows++[row]).length=_;rw[length_append,length_singleton]⟩
   ·simp only at hi hne ⊢;rw[length_append,length_singleton] at hi;by_cases hl:i<t.rows.length
    ·have e:(t.rows++[row])[i]'Dx=t.rows[i]:=getElem_append_left hl;rw[e] at hne ⊢;obtain⟨p1,p2,p3⟩:=g.row i hl hne;exact⟨p1,p2,(g3 _).2 (.inr p3)⟩
    have E:i=t.rows.length:=(by omega)
    subst E;have e:(t.rows++[row])[t.rows.length]'Dx=row:=(by rw[getElem_append_right (Nat.le_refl _)];simp)
    rw[e] at hne ⊢;exact⟨h4,aT,(g3 _).2 (.inl rfl)⟩
   rcases(g3 x).1 hx with rfl|hx
   ·refine⟨Int.natCast_nonneg _,by show t.rows.length<(t.rows++[row]).length;rw[length_append,length_singleton];omega,?_⟩;have e:(t.rows++[row])[t.rows.length]'Dx=row:=(by rw[getElem_append_right (Nat.le_refl _)];simp)
    show(t.rows++[row])[t.rows.length]'_≠[]∧bU row=bU ((t.rows++[row])[t.rows.length]'_);rw[e];exact⟨fun e=>(by have:=oE h4;rw[e] at this;cases this),rfl⟩
   obtain⟨x0,x1,x2,x3⟩:=g.gj x hx;have e:(t.rows++[row])[x.2.toNat]'Dx=t.rows[x.2.toNat]:=getElem_append_left x1;refine⟨x0,by show _<(t.rows++[row]).length;rw[length_append,length_singleton];omega,?_⟩;show(t.rows++[row])[x.2.toNat]'_≠[]∧x.1=bU ((t.rows++[row])[x.2.toNat]'_);rw[e];exact⟨x2,x3⟩
 rw[if_pos h1] at h;exact absurd h h1
theorem RA{n:Nat}:∀{l:List Int} {t:az},cA t n→l.Nodup→(∀i∈l,eo t i)→cA (kx t l) n∧(kx t l).rows.length=t.rows.length
 | [],_,g,_,_=>⟨g,rfl⟩
 | i::r,t,g,hn,hi=>by
  rw[nodup_cons] at hn;have h1:=RA (Ju g (hi i mem_cons_self)) hn.2 fun j hj=>K3 (hi j (mem_cons_of_mem _ hj)) (fun e=>hn.1 (e ▸ hj)) (hi i mem_cons_self).1;refine⟨h1.1,h1.2.trans ?_⟩;show(t.rows.set _ _).length=_;rw[length_set]
theorem Z9(g:cA t n)(w:List aK):cA (j4 t w).1 n∧(j4 t w).1.rows.length=t.rows.length:=by
 unfold j4;split
 ·exact⟨g,rfl⟩
 exact RA g (zh g w) (qP g w)
theorem UX{r:List Vl}{c:Nat}(hc:c≠0)(v:Vl):bU (r.set c v)=bU r:=by
 unfold bU;cases r with
 | nil=>rfl
 | cons a r=>cases c with
  | zero=>exact absurd rfl hc
  | succ c=>rfl
theorem zW{D:List Int}(g:kN t n D)(hi:eo t i){c:Nat}(hc:c<bL.length){v:Vl}(hv:jM (bL[c]'hc).k v)(gd:v.Ok)(h0:c=0→v.k≠0∧i∈D):kN (iI t i c v) n D∧(∀j,eo t j→eo (iI t i c v) j):=by
 obtain⟨q0,q1,q2⟩:=hi;obtain⟨p1,p2,p3⟩:=g.row _ q1 q2;have U:=fV (t:=t) q1;have Z:Pc.dQ bL ((rowAt t i).set c v)=0:=(by rw[U];exact UR p1 hc hv fun h=>(h0 h).1)
 have j9:(rowAt t i).set c v≠[]:=fun e=>by have:=oE Z;rw[e] at this;cases this
 have hlen:(iI t i c v).rows.length=t.rows.length:=length_set;have I:∀j (h:j<t.rows.length),(iI t i c v).rows[j]'(by rw[hlen];exact h)=if i.toNat=j then (rowAt t i).set c v else t.rows[j]:=fun j h=>getElem_set ..
 refine⟨⟨g.nm,g.ay,by rw[hlen];exact g.eO,g.ix,fun j hj hne=>?_,fun x hx=>?_⟩,fun j ⟨j0,j1,j2⟩=>⟨j0,by rw[hlen];exact j1,?_⟩⟩
 ·rw[hlen] at hj;rw[I j hj] at hne ⊢;by_cases E:i.toNat=j
  ·rw[if_pos E];refine⟨Z,fun w hw=>?_,fun hd=>?_⟩
   ·rcases mem_or_eq_of_mem_set hw with hw|hw
    ·rw[U] at hw;exact p2 w hw
    rw[hw];exact gd
   have sg:(j:Int)=i:=(by omega)
   by_cases O:c=0
   ·exact absurd (sg ▸ (h0 O).2) hd
   rw[UX O,U];subst E;exact p3 hd
  rw[if_neg E] at hne ⊢;exact g.row j hj hne
 ·obtain⟨x0,xd,x1,x2,x3⟩:=g.gj x hx;refine⟨x0,xd,by rw[hlen];exact x1,?_⟩;rw[I _ x1];by_cases E:i.toNat=x.2.toNat
  ·rw[if_pos E];refine⟨j9,?_⟩;have sg:x.2=i:=(by omega)
   by_cases O:c=0
   ·exact absurd (sg ▸ (h0 O).2) xd
   rw[UX O,U,x3];simp only[E]
  rw[if_neg E];exact⟨x2,x3⟩
 rw[I _ j1];split
 ·exact j9
 exact j2
theorem ajt{x:aG}{D:List Int}(g:kN {t with ix:=x} n D)(hi:eo t i)(hd:i∉D):kN {t with ix:=hU x (cQ x) (bU (rowAt t i))} n (i::D):=by
 obtain⟨q0,q1,q2⟩:=hi;obtain⟨p1,p2,p3⟩:=g.row _ q1 q2;have E:=fV (t:=t) q1;have dc:(bU (rowAt t i),i)∈dh x:=by
  have:=p3 (by rw[Int.toNat_of_nonneg q0];exact hd);rw[Int.toNat_of_nonneg q0] at this;rw[E];exact this
 obtain⟨d1,d2⟩:=J2 g.ix ((BK g.ix.val _).2 ⟨i,dc⟩);refine⟨g.nm,g.ay,g.eO,d1,fun j hj hne=>?_,fun y hy=>?_⟩
 ·obtain⟨r1,r2,O⟩:=g.row j hj hne;refine⟨r1,r2,fun hd2=>?_⟩;have I:(j:Int)≠i:=fun e=>hd2 (e ▸ mem_cons_self);refine(d2 _).2 ⟨O fun e=>hd2 (mem_cons_of_mem _ e),fun e=>I ?_⟩;have:=Ch g.ix (O fun e=>hd2 (mem_cons_of_mem _ e)) dc e;simp only[Prod.mk.injEq] at this;exact this.2
 obtain⟨y1,y2⟩:=(d2 y).1 hy;obtain⟨z0,zd,z1,z2,z3⟩:=g.gj y y1;refine⟨z0,fun hm=>?_,z1,z2,z3⟩;rcases mem_cons.1 hm with e|hm
 ·refine y2 ?_;rw[z3,E];simp only[e]
 exact zd hm
theorem Kn{t:az}{n:Nat}:∀(l:List Int) (x:aG) (D:List Int),kN {t with ix:=x} n D→l.Nodup→(∀i∈l,eo t i∧i∉D)→∃D',kN {t with ix:=iG t x l} n D'∧∀i,i∈D'↔i∈l∨i∈D
 | [],x,D,g,_,_=>⟨D,g,fun i=>by simp⟩
 | i::r,x,D,g,hn,hi=>by
  rw[nodup_cons] at hn;obtain⟨D',h1,h2⟩:=Kn r _ (i::D) (ajt g (hi i mem_cons_self).1 (hi i mem_cons_self).2) hn.2 fun j hj=>⟨(hi j (mem_cons_of_mem _ hj)).1,fun e=>by
   rcases mem_cons.1 e with e|e
   ·exact hn.1 (e ▸ hj)
   exact(hi j (mem_cons_of_mem _ hj)).2 e⟩
  refine⟨D',h1,fun j=>(h2 j).trans ?_⟩;simp only[mem_cons];constructor
  ·rintro(h|h|h)
   ·exact .inl (.inr h)
   ·exact .inl (.inl h)
   exact .inr h
  rintro((h|h)|h)
  ·exact .inr (.inl h)
  ·exact .inl h
  exact .inr (.inr h)
theorem kN.Nn{D D':List Int}(g:kN t n D)(h:∀i,i∈D↔i∈D'):kN t n D':=⟨g.nm,g.ay,g.eO,g.ix,fun i hi hne=>⟨(g.row i hi hne).1,(g.row i hi hne).2.1,fun hd=>(g.row i hi hne).2.2 fun e=>hd ((h _).1 e)⟩,fun x hx=>⟨(g.gj x hx).1,fun e=>(g.gj x hx).2.1 ((h _).2 e),(g.gj x hx).2.2⟩⟩
theorem Hw{D:List Int}(g:kN t n D)(hn:n≤300)(hi:eo t i)(hd:i∈D)(lA:gl t.ix (bU (rowAt t i)) (cQ t.ix)=false):kN {t with ix:=gb t.ix (cQ t.ix) (bU (rowAt t i)) i} (n+1) (D.filter (·≠i)):=by
 obtain⟨q0,q1,q2⟩:=hi;obtain⟨p1,p2,p3⟩:=g.row _ q1 q2;have E:=fV (t:=t) q1;obtain⟨g1,_,g3⟩:=xj g.ix hn ((sK g.ix).1 lA) (by rw[E];exact sN p1) q0;have hf:∀j,j∈D.filter (·≠i)↔j∈D∧j≠i:=fun j=>by rw[mem_filter];simp
 refine⟨g.nm,g.ay,g.eO,g1,fun j hj hne=>?_,fun y hy=>?_⟩
 ·obtain⟨r1,r2,O⟩:=g.row j hj hne;refine⟨r1,r2,fun hd2=>(g3 _).2 ?_⟩;by_cases e:(j:Int)=i
  ·left;have I:i.toNat=j:=(by omega)
   subst I;rw[E,Int.toNat_of_nonneg q0]
  right;exact O fun hm=>hd2 ((hf _).2 ⟨hm,e⟩)
 rcases(g3 y).1 hy with rfl|hy
 ·exact⟨q0,fun hm=>((hf _).1 hm).2 rfl,q1,q2,by rw[E]⟩
 obtain⟨z0,zd,z1,z2,z3⟩:=g.gj y hy;exact⟨z0,fun hm=>zd ((hf _).1 hm).1,z1,z2,z3⟩
theorem Gs:∀(l:List Int) (vs:List Vl) (t:az) (n:Nat) (D:List Int),kN t n D→n+l.length≤300→l.Nodup→vs.length=l.length→(∀i∈l,eo t i∧i∈D)→(∀v∈vs,v.Ok∧jM (bL[0]'w7).k v∧v.k≠0)→(eT t l vs).2=0 →
  ∃D',kN (eT t l vs).1 (n+l.length) D'∧(eT t l vs).1.rows.length=t.rows.length∧∀i,i∈D'↔i∈D∧i∉l
 | [],[],t,n,D,g,_,_,_,_,_,_=>⟨D,g,rfl,fun i=>by simp⟩
 | [],_::_,_,_,_,_,_,_,h,_,_,_=>by cases h
 | _::_,[],_,_,_,_,_,_,h,_,_,_=>by cases h
 | i::r,v::s,t,n,D,g,hn,hnd,hl,hi,hv,h=>by
  rw[nodup_cons] at hnd;rw[length_cons] at hn hl;rw[length_cons] at hl;obtain⟨E,hid⟩:=hi i mem_cons_self;obtain⟨v1,v2,v3⟩:=hv v mem_cons_self;obtain⟨g1,dc⟩:=zW g E (c:=0) w7 v2 v1 fun _=>⟨v3,hid⟩
  rw[eT] at h ⊢;cases fK:gl t.ix (bU (rowAt (iI t i 0 v) i)) (cQ t.ix) with
  | true=>rw[fK,if_pos rfl] at h;cases h
  | false =>
   rw[fK,if_neg w7] at h;rw[if_neg w7];have g2:=Hw g1 w4 (dc i E) hid fK;obtain⟨D',h1,h2,h3⟩:=Gs r s _ (n+1) _ g2 w4 hnd.2 w4 (fun j hj=>⟨dc j (hi j (mem_cons_of_mem _ hj)).1,by rw[mem_filter];exact⟨(hi j (mem_cons_of_mem _ hj)).2,by simp;exact fun e=>hnd.1 (e ▸ hj)⟩⟩) (fun w hw=>hv w (mem_cons_of_mem _ hw)) h;refine⟨D',by rw[length_cons,show n+(r.length+1)=n+1+r.length by omega];exact h1,h2.trans (by show(t.rows.set _ _).length=_;rw[length_set]),fun j=>(h3 j).trans ?_⟩;rw[mem_filter,mem_cons];simp only[decide_eq_true_eq,ne_eq,not_or,and_assoc]
theorem UY{n:Nat}{c:Nat}(hc:c<bL.length)(aL:c≠0):∀(l:List Int) (vs:List Vl) (t:az),cA t n→(∀i∈l,eo t i)→(∀v∈vs,v.Ok∧jM (bL[c]'hc).k v)→cA (eU c t l vs) n∧(eU c t l vs).rows.length=t.rows.length
 | [],_,t,g,_,_=>by unfold eU;exact⟨g,rfl⟩
 | _::_,[],t,g,_,_=>by unfold eU;exact⟨g,rfl⟩
 | i::r,v::s,t,g,hi,hv=>by
  rw[eU];obtain⟨v1,v2⟩:=hv v mem_cons_self;obtain⟨g1,dc⟩:=zW g.d (hi i mem_cons_self) hc v2 v1 fun e=>absurd e aL;have h1:=UY hc aL r s _ g1.tb (fun j hj=>dc j (hi j (mem_cons_of_mem _ hj))) fun w hw=>hv w (mem_cons_of_mem _ hw);exact⟨h1.1,h1.2.trans (by show(t.rows.set _ _).length=_;rw[length_set])⟩
theorem ago{k:Int}{c:Int}{v:Vl}(h:jM k v)(hk:¬(k≠c∧k≠0)):jM c v:=by
 refine⟨h.1,?_⟩;have:=h.2;omega
theorem acR(g:cA t n)(s:bA)(lA:∀o∈s.bJ,o.nm.size≤maxLen)(gd:∀o∈s.bJ,o.v.Ok)(hn:n≤260):cA (dH t s).1 (n+t.rows.length)∧(dH t s).1.rows.length=t.rows.length:=by
 have hz:cA t (n+t.rows.length)∧t.rows.length=t.rows.length:=⟨g.mono w4,rfl⟩
 unfold dH;by_cases hA:bC t.ay s.set<0
 ·rw[if_pos hA];exact hz
 rw[if_neg hA];by_cases hB:(dU t.ay s.bJ).2≠0
 ·rw[if_pos hB];exact hz
 rw[if_neg hB];by_cases hC:(dU t.ay s.bJ).1≠(t.ay.getD (bC t.ay s.set).toNat ⟨⟨#[]⟩,0⟩).k∧(dU t.ay s.bJ).1≠0
 ·rw[if_pos hC];exact hz
 rw[if_neg hC];by_cases hD:(aq t s.aj).2≠0
 ·rw[if_pos hD];exact hz
 rw[if_neg hD];by_cases hN:(eX t (bC t.ay s.set) s.bJ [] (aq t s.aj).1).2≠0
 ·rw[if_pos hN];exact hz
 rw[if_neg hN];have U:=Classical.not_not.1 hN;have hkz:(dU bL s.bJ).2=0:=(by rw[←g.ay];exact Classical.not_not.1 hB)
 have E:=J6 g lA gd hkz (aq t s.aj).1 [] (qP g s.aj) U (fun v hv=>by cases hv);have hlen:=Tz (t:=t) (c:=bC t.ay s.set) (e:=s.bJ) (aq t s.aj).1 [] U;have Zy:=(LF (l:=t.ay) (nm:=s.set)).2;have Pu:t.ay.length=bL.length:=(by rw[g.ay])
 have O:(bC t.ay s.set).toNat<bL.length:=(by omega)
 have Z:∀v,jM (dU bL s.bJ).1 v→jM (bL[(bC t.ay s.set).toNat]'O).k v:=fun v hv=>by
  refine ago hv ?_;rw[g.ay] at hC;have e:bL.getD (bC bL s.set).toNat ⟨⟨#[]⟩,0⟩=bL[(bC t.ay s.set).toNat]'O:=by
   rw[getD_eq_getElem?_getD];rw[show(bC bL s.set).toNat=(bC t.ay s.set).toNat by rw[g.ay]];rw[getElem?_eq_getElem O];rfl
  rw[e] at hC;exact hC
 by_cases hP:0<bC t.ay s.set
 ·rw[if_pos hP];have h1:=UY (c:=(bC t.ay s.set).toNat) O w4 (aq t s.aj).1 (eX t (bC t.ay s.set) s.bJ [] (aq t s.aj).1).1 t g (qP g s.aj) fun v hv=>⟨(E v hv).1,Z v (E v hv).2.1⟩
  exact⟨h1.1.mono w4,h1.2⟩
 rw[if_neg hP];have u9:bC t.ay s.set=0:=(by omega)
 by_cases hM:(eT {t with ix:=iG t t.ix (aq t s.aj).1} (aq t s.aj).1 (eX t (bC t.ay s.set) s.bJ [] (aq t s.aj).1).1).2≠0
 ·rw[if_pos hM];exact hz
 rw[if_neg hM];have hnd:=zh g s.aj;have I:=qP g s.aj;have mb:=zF g s.aj;obtain⟨D,d1,d2⟩:=Kn (aq t s.aj).1 t.ix [] g.d hnd fun i hi=>⟨I i hi,not_mem_nil⟩
 obtain⟨D',e1,e2,e3⟩:=Gs (aq t s.aj).1 (eX t (bC t.ay s.set) s.bJ [] (aq t s.aj).1).1 _ n D d1 w4 hnd (by rw[hlen];simp) (fun i hi=>⟨I i hi,(d2 i).2 (.inl hi)⟩) (fun v hv=>⟨(E v hv).1,by have:=Z v (E v hv).2.1;simp only[u9] at this;exact this,(E v hv).2.2 u9⟩) (Classical.not_not.1 hM);have hD':cA _ _:=(e1.Nn (D':=[]) fun i=>by rw[e3,d2];simp).tb;have hle:(aq t s.aj).1.length≤t.rows.length:=by
  have h1:((aq t s.aj).1.map Int.toNat).Nodup:=by
   rw[Nodup,pairwise_map];refine(Pairwise.and_mem.1 hnd).imp fun {a b} h e=>h.2.2 ?_;have:=(I a h.1).1;have:=(I b h.2.1).1;omega
  have h2:=h1.length_le_of_subset (l₂:=range t.rows.length) fun x hx=>by
   obtain⟨y,hy,rfl⟩:=mem_map.1 hx;exact mem_range.2 (I y hy).2.1
  rwa [length_map,length_range] at h2
 exact⟨hD'.mono w4,e2⟩

end Go.Proofs.YtkgmonfgofobaaaGreatDoor.Ba
namespace Go.Proofs.YtkgmonfgofobaaaGreatDoor.Pa
open List
open Go.Proofs.Tryz
open Go.RowKit V Pk Vl Go.Proofs.YtkgmonfgofobaaaGreatDoor.Nm Pc
variable {t:ByteArray}
theorem agp{s:ByteArray}(h:cy s=0):oB s=true∧s.size≤8:=by
 unfold cy at h;split at h
 ·cases h
 split at h
 ·cases h
 rename_i h1 h2;rw[Bool.or_eq_true,Bool.not_eq_true'] at h2;refine⟨?_,by omega⟩;cases hw:oB s with
 | true=>rfl
 | false=>exact absurd (.inl hw) h2
variable {G:List (Nat×List Value)}
def uk:List Vl→ByteArray
 | []=>⟨#[120]⟩
 | v::_=>v.s
def di(s:bA):Prop:=eI s∧1≤s.kind∧s.kind≤6∧s.iD≤9223372036854775807∧dM s=0
structure qE (w:List aK):Prop where
 l:w.length≤40
 f:ny w=0
 b:∀o∈w,o.nm.size≤maxLen∧-9223372036854775808≤o.v.n∧o.v.n≤9223372036854775807
theorem Ci:qE []:=⟨Nat.zero_le _,rfl,fun _ h=>by cases h⟩
theorem acS(t:Tw):∀o∈iF 3 t,-20≤o.v.n∧o.v.n≤40:=by
 have hz:∀j nm,-20≤(⟨j,bw,nm⟩:aK).v.n∧(⟨j,bw,nm⟩:aK).v.n≤40:=fun _ _=>⟨by show(-20:Int)≤0;decide,by show(0:Int)≤40;decide⟩
 have O:∀n s,-20≤(sR n s).v.n∧(sR n s).v.n≤40:=fun n s=>by
  show -20≤(pW ⟨n,ev n 40-20,s⟩).n∧(pW ⟨n,ev n 40-20,s⟩).n≤40;have U:=jZ n (show(1:Int)≤40 by decide);have h2:=jZ (ev n 40-20) (show(1:Int)≤2 by decide);unfold pW;split
  ·dsimp only;omega
  split
  ·dsimp only;omega
  split
  ·dsimp only;omega
  exact⟨by show(-20:Int)≤0;decide,by show(0:Int)≤40;decide⟩
 have E:∀k n s,∀o∈mQ k n s,-20≤o.v.n∧o.v.n≤40:=fun k n s o ho=>by
  unfold mQ at ho;split at ho<;>(simp only[mem_singleton] at ho;subst ho)
  ·exact hz _ _
  exact O _ _
 have key:∀(r:Nat) (t:Tw),∀o∈iF r t,-20≤o.v.n∧o.v.n≤40:=by
  intro r;induction r with
  | zero=>intro t;obtain⟨k,n,s,ts⟩:=t;exact E k n s
  | succ r ih =>
   intro t o ho;obtain⟨k,n,s,ts⟩:=t;have I:∀i:Nat,∀o∈gX r ts n s i,-20≤o.v.n∧o.v.n≤40:=fun i o ho=>by
    unfold gX at ho;split at ho
    ·exact ih _ o ho
    exact E _ _ _ o ho
   rw[wR] at ho;split at ho
   ·simp only[mem_singleton] at ho;subst ho;exact O _ _
   split at ho
   ·simp only[mem_singleton] at ho;subst ho;exact hz _ _
   split at ho
   ·rcases mem_append.1 ho with ho|ho
    ·exact I 0 o ho
    simp only[mem_singleton] at ho;subst ho;exact hz _ _
   rcases mem_append.1 ho with ho|ho
   ·rcases mem_append.1 ho with ho|ho
    ·exact I 0 o ho
    exact I 1 o ho
   simp only[mem_singleton] at ho;subst ho;exact hz _ _
 exact key 3 t
theorem K8(t:Tw):qE (iF 3 t):=by
 have h:=Jb t;refine⟨by omega,?_,fun o ho=>⟨adI (adH t) o ho,?_⟩⟩
 ·unfold ny;rw[if_neg w4];exact QZ t
 have:=acS t o ho;omega
theorem acT(s:bA):eE s s=true:=by
 unfold eE;simp only[Bool.and_eq_true,beq_iff_eq,xn,and_self]
theorem wS{s:bA}(ht:cy s.table=0)(he:ew s=0)(hb:dW s=s):dM s=0:=by
 unfold dM;rw[if_neg (fun h=>h.2 ht),hb,if_neg (fun h=>by rw[acT] at h;cases h.2),he]
theorem small{x:ByteArray}(h:cy x=0):x.size≤maxLen:=Nat.le_trans (agp h).2 w7
def tr(s:bA):Prop:=s.aj=[]∧∀w,qE w→(4≤s.kind∨w=[])→di {s with aj:=w}
theorem tr.xV{s:bA}(h:tr s):di s:=by
 have:=h.2 [] Ci (.inr rfl);rw[←h.1] at this;exact this
theorem Qy(ht:cy t=0):tr {dz with kind:=1,table:=t,ay:=bL}:=⟨rfl,fun w hw h=>by
 have E:w=[]:=h.resolve_left (by show ¬(4:Int)≤1;decide);subst E;exact⟨⟨⟨by show 4≤6;decide,Nat.zero_le _,Nat.zero_le _,Nat.zero_le _,Nat.zero_le _⟩,small ht,by show ∀c∈bL,c.n.size≤maxLen;decide,(fun _ h=>by cases h),Nat.zero_le _,Nat.zero_le _,(fun _ h=>by cases h),(fun _ h=>by cases h),(fun _ h=>by cases h)⟩,by show(1:Int)≤1;decide,by show(1:Int)≤6;decide,AN,
  wS ht (show fW bL=0 by decide +kernel) aC⟩⟩
theorem aeH(ht:cy t=0):tr {dz with kind:=2,table:=t}:=⟨rfl,fun w hw h=>by
 have E:w=[]:=h.resolve_left (by show ¬(4:Int)≤2;decide);subst E;exact⟨⟨⟨Nat.zero_le _,Nat.zero_le _,Nat.zero_le _,Nat.zero_le _,Nat.zero_le _⟩,small ht,(fun _ h=>by cases h),(fun _ h=>by cases h),Nat.zero_le _,Nat.zero_le _,(fun _ h=>by cases h),(fun _ h=>by cases h),(fun _ h=>by cases h)⟩,by show(1:Int)≤2;decide,by show(2:Int)≤6;decide,AN,
  wS ht aC aC⟩⟩
theorem UZ{x:Int}(h0:0≤x):jf ⟨2,x,⟨#[]⟩⟩=0:=by
 unfold jf;rw[if_neg (by intro h;have:=h.2;dsimp only at this;omega)];kernel_rfl
theorem agq{s:ByteArray}(h:s.size≤20):jf ⟨3,0,s⟩=0:=by
 unfold jf;rw[if_neg (by intro h;exact absurd h.1 (by show ¬(3:Int)=2;decide))];unfold cg;rw[if_neg (by show ¬(3:Int)=0;decide),if_neg (by show ¬(3:Int)=1;decide),if_neg (by show ¬(3:Int)=2;decide),if_pos rfl,if_neg (fun h=>h rfl),if_neg (by show ¬s.size>20;omega)]
theorem acU(n:Int):jf (qN n)=0∧-9223372036854775808≤(qN n).n∧(qN n).n≤9223372036854775807:=by
 have h:=jZ n (show(1:Int)≤3 by decide);unfold qN;split
 ·exact⟨by decide,by decide,by decide⟩
 have h2:ev n 3=0∨ev n 3=1:=(by omega)
 rcases h2 with h2|h2<;>rw[h2]<;>exact⟨by decide,by decide,by decide⟩
theorem abj(ht:cy t=0){x y b:Int}(hx:0≤x∧x<12)(hy:0≤y∧y<9){u:ByteArray}(U:u.size≤6):tr {dz with kind:=3,table:=t,row:=[⟨2,x,⟨#[]⟩⟩,⟨2,y,⟨#[]⟩⟩,⟨3,0,u⟩,qN b]}:=⟨rfl,fun w hw h=>by
 have E:w=[]:=h.resolve_left (by show ¬(4:Int)≤3;decide);subst E;have l1:=UZ hx.1;have l2:=UZ hy.1;have l3:jf ⟨3,0,u⟩=0:=agq w4;obtain⟨l4,I,O⟩:=acU b;refine⟨⟨⟨Nat.zero_le _,by show 4≤6;decide,Nat.zero_le _,Nat.zero_le _,Nat.zero_le _⟩,small ht,(fun _ h=>by cases h),(fun _ h=>by cases h),Nat.zero_le _,Nat.zero_le _,fun v hv=>?_,(fun _ h=>by cases h),(fun _ h=>by cases h)⟩,by show(1:Int)≤3;decide,by show(3:Int)≤6;decide,AN,wS ht ?_ aC⟩
 ·simp only[mem_cons,not_mem_nil,or_false] at hv;rcases hv with rfl|rfl|rfl|rfl
  ·dsimp only;omega
  ·dsimp only;omega
  ·dsimp only;omega
  exact⟨I,O⟩
 show dQ [⟨2,x,⟨#[]⟩⟩,⟨2,y,⟨#[]⟩⟩,⟨3,0,u⟩,qN b]=0;unfold dQ;rw[if_neg bj];simp[j5,l1,l2,l3,l4]⟩
theorem Qz(ht:cy t=0){N:List ByteArray}(E:N.length≤6∧∀x∈N,cy x=0){c:Bool}(hc:c=true→N=[]){o:ByteArray}(ho:o=⟨#[]⟩∨cy o=0){d:Bool}(hd:o=⟨#[]⟩→d=false){m:Int}(hm:-1≤m∧m≤7):tr {dz with kind:=4,table:=t,names:=N,count:=c,order:=o,down:=d,iD:=m}:=⟨rfl,fun w hw h=>by
 have I:o.size≤maxLen:=(by rcases ho with rfl|h;exact Nat.zero_le _;exact small h)
 refine⟨⟨⟨Nat.zero_le _,Nat.zero_le _,E.1,hw.l,Nat.zero_le _⟩,small ht,(fun _ h=>by cases h),fun x hx=>small (E.2 x hx),I,Nat.zero_le _,(fun _ h=>by cases h),hw.b,(fun _ h=>by cases h)⟩,by show(1:Int)≤4;decide,by show(4:Int)≤6;decide,(by show _≤(9223372036854775807:Int);dsimp only;omega),wS ht ?_ aC⟩;show pp {dz with kind:=4,table:=t,names:=N,count:=c,aj:=w,order:=o,down:=d,iD:=m}=0;have gH:j5 cy N=0:=by
  have key:∀l:List ByteArray,(∀x∈l,cy x=0)→j5 cy l=0:=by
   intro l;induction l with
   | nil=>intro _;rfl
   | cons a r ih=>intro h;rw[j5,if_neg (by rw[h a mem_cons_self];decide)];exact ih fun x hx=>h x (mem_cons_of_mem _ hx)
  exact key N E.2
 unfold pp;dsimp only;rw[if_neg w4,if_neg w4,if_neg (by
  rintro(⟨h1,h2⟩|⟨h1,h2⟩)
  ·rw[hc h1] at h2;simp at h2
  rw[hd (xn.1 h2)] at h1;cases h1),if_neg (by rw[gH];decide),if_neg (by rw[hw.f];decide)]
 split
 ·rfl
 rename_i h2;exact ho.resolve_left fun h=>h2 (xn.2 h)⟩
theorem abk(ht:cy t=0){c:ByteArray}(hc:cy c=0)(E:Tw):tr {dz with kind:=5,table:=t,set:=c,bJ:=iF 3 E}:=⟨rfl,fun w hw h=>by
 have ho:=K8 E;refine⟨⟨⟨Nat.zero_le _,Nat.zero_le _,Nat.zero_le _,hw.l,ho.l⟩,small ht,(fun _ h=>by cases h),(fun _ h=>by cases h),Nat.zero_le _,small hc,(fun _ h=>by cases h),hw.b,ho.b⟩,by show(1:Int)≤5;decide,by show(5:Int)≤6;decide,AN,wS ht ?_ aC⟩;show(if cy c=0 then (if gN (iF 3 E)=0 then ny w else gN (iF 3 E)) else cy c)=0;rw[if_pos hc,if_pos (QZ E),hw.f]⟩
theorem QA(ht:cy t=0):tr {dz with kind:=6,table:=t}:=⟨rfl,fun w hw h=>by
 refine⟨⟨⟨Nat.zero_le _,Nat.zero_le _,Nat.zero_le _,hw.l,Nat.zero_le _⟩,small ht,(fun _ h=>by cases h),(fun _ h=>by cases h),Nat.zero_le _,Nat.zero_le _,(fun _ h=>by cases h),hw.b,(fun _ h=>by cases h)⟩,by show(1:Int)≤6;decide,by show(6:Int)≤6;decide,AN,wS ht hw.f aC⟩⟩
def bM:List ByteArray:=[⟨#[116]⟩,⟨#[117]⟩]
def gB:List ByteArray:=[⟨#[]⟩,⟨#[110]⟩,⟨#[115]⟩,⟨#[105,100]⟩]
def Bt:List ByteArray:=[⟨#[110]⟩,⟨#[110]⟩,⟨#[115]⟩,⟨#[98]⟩,⟨#[105,100]⟩]
theorem GY:∀x∈bM,cy x=0:=by decide +kernel
theorem aju:∀x∈gB,x.size=0∨cy x=0:=by decide +kernel
theorem Mj:∀x∈Bt,cy x=0:=by decide +kernel
theorem BQ(n:Int)(h1:-9223372036854775808≤n)(h2:n≤9223372036854775807):VP Tryz.prog G 42 [ae n] (.agg [ae (qN n).k,ae (qN n).n,aZ (qN n).s]):=by
 refine VC.body func42 rfl ntmps42 aQ fun X0 w0 bf=>?_;refine cf ?_;refine OD.alloc (ds:=[_,_,_]) ap rfl rfl zeroValue33 rfl (fun b2=>?_);refine an 10 [0,2] ?_;refine cL [0,2,5] (kH G n 3 h1 h2 w7) ?_;refine av ?_ ?_<;>intro aL bB
 ·refine aB 1 ?_;refine aO 0 [_,_,_] sizeOf33 ?_;refine an 10 [2] ?_;refine aM [] ?_;refine⟨?_,rfl⟩;unfold qN bw;simp_all
 refine aB 1 ?_;refine ec call14 (kH G n 3 h1 h2 w7) ?_;refine aH 1 ?_;refine aO 0 [_,_,_] sizeOf33 ?_;refine an 10 [2] ?_;refine aM [] ?_;refine⟨?_,rfl⟩;unfold qN bw;simp_all

theorem ahS{s:ByteArray}(h:s.size=0):s=⟨#[]⟩:=by
 obtain⟨d⟩:=s;have:d = #[]:=Array.eq_empty_of_size_eq_zero h;rw[this]
theorem acV(k t a b:Int)(row:List Vl)(x1 x2:Int)(x3:ByteArray)(E:List Tw)(y1 y2:Int)(O:ByteArray)(I:List Tw)(bare:Bool):VP Tryz.prog G 41 [.agg [ae k,ae t,ae a,ae b,au 3 cV row,ae x1,ae x2,aZ x3,.list 4 (Tw.nP E) E.length,ae y1,ae y2,aZ O,.list 4 (Tw.nP I) I.length,bG bare]] (aZ (uk row)):=by
 refine VC.body func41 rfl ntmps41 aQ fun X0 w0 bf=>?_;refine cf ?_;refine OD.box (ds:=[_,_,_,_,_,_,_,_,_,_,_,_,_,_]) ap rfl rfl ot rfl rfl (fun b1=>?_);refine an 12 [1] ?_;refine af [1,6] ?_;refine av ?_ ?_<;>intro aL bB
 ·obtain⟨v,r,rfl⟩:∃v r,row=v::r:=(by (cases row;simp at aL;exact⟨_,_,rfl⟩))
  refine cM [2] ?_;refine aR 2 ?_ (h:=by exact(o9 (mk:=Op.indexAddr 63) rfl ot bP (by first|exact pU runUnderlying63 sizeOf125 (j:=0) rfl bj|exact pY runUnderlying63 sizeOf125 (j:=0) rfl bj)));refine aR 1 ?_ (h:=by exact(cW (mk:=Op.load 9) rfl ot (by exact vC (i:=0) (j:=2) fq isAgg9 bj rfl)));refine bH ?_;refine aM [] ?_;exact⟨rfl,rfl⟩
 obtain rfl:row=[]:=eq_nil_of_length_eq_zero (by simp at aL;simp[aL]);refine af [2] ?_;exact z46
theorem aaa(k t a b:Int)(row:List Vl)(x1 x2:Int)(x3:ByteArray)(E:List Tw)(y1 y2:Int)(y3:ByteArray)(I:List Tw)(bare:Bool)(ei:-9223372036854775808≤k)(fF:k≤9223372036854775807)(ht1:-9223372036854775808≤t)(ht2:t≤9223372036854775807)(O:-9223372036854775808≤a)(ql:a≤9223372036854775807)(jd:-9223372036854775808≤b)(oh:b≤9223372036854775807)(vT:∀v∈row,v.s.size≤maxLen)(hto:(Tw.mk x1 x2 x3 E).Ok)(OK:(Tw.mk y1 y2 y3 I).Ok):VC Tryz.prog G 23 [.agg [ae k,ae t,ae a,ae b,au 3 cV row,ae x1,ae x2,aZ x3,.list 4 (Tw.nP E) E.length,ae y1,ae y2,aZ y3,.list 4 (Tw.nP I) I.length,bG bare]] [] (fun r S'=>∃s,r = .agg (bg s)∧S'=[]∧di s∧s.kind=1+ev k 6∧s.table=bM.getD (ev t 2).toNat ⟨#[]⟩):=by
 refine VC.body func23 rfl ntmps23 aQ fun X0 w0 bf=>?_;have arx:=jZ k (show(1:Int)≤6 by decide);have amc:=kH G k 6 ei fF w7;generalize ev k 6=ki at *;have amd:=jZ t (show(1:Int)≤2 by decide);have ame:=kH G t 2 ht1 ht2 w7;generalize ev t 2=ti at *;obtain⟨tj,rfl⟩:=Int.eq_ofNat_of_zero_le amd.1;have IB:tj<bM.length:=(by show tj<2;omega)
 have U:=GY bM[tj] (getElem_mem IB);have Pv:bM[tj]=bM.getD ((tj:Nat):Int).toNat ⟨#[]⟩:=(by rw[Int.toNat_natCast,getD_eq_getElem?_getD,getElem?_eq_getElem IB];rfl)
 generalize amf:bM[tj]=tn at *;refine cf ?_;refine OD.box (ds:=[_,_,_,_,_,_,_,_,_,_,_,_,_,_]) ap rfl rfl ot rfl rfl (fun b1=>?_);refine OD.alloc (ds:=[_,_,_,_,_,_,_,_,_,_,_,_]) ap rfl rfl zeroValue46 rfl (fun b2=>?_);refine an 111 [1,2] ?_;refine CD.seq ?_;refine tJ 12 11 [1,2,3,14] ?_;refine cN (amc) ?_;refine cN (ame) ?_;refine aR 1 ?_ (h:=by exact(cW (mk:=Op.load 9) rfl ot (by exact rJ (g:=cS) (ls:=bM) (i:=tj) (d:=aZ tn) jJ isAgg9 IB (by show some (D.v (.string (bM[tj]'IB)))=some (D.v (.string tn));rw[amf]))));refine mI 1 ?_;refine pF ?_;refine jP ?_;refine⟨rfl,fun b3=>?_⟩;refine aO 0 [_,_,_,_,_,_,_,_,_,_,_,_] sizeOf46 ?_;refine an 111 [1,2,3] ?_;refine iL [1,2,3] (fun aS _ aE=>∃(s:bA),(tr s)∧(s.kind=1+ki)∧(s.table=tn)∧aE=(⟨111,aS,[⟨b3,46,12,[ae s.kind,aZ s.table,au 2 cC s.ay,au 3 cV s.row,au 1 cS s.names,bG s.count,au 5 cO s.aj,aZ s.order,bG s.down,ae s.iD,aZ s.set,au 5 cO s.bJ]⟩,⟨b2,46,12,[ae 0,fj,bF,bF,bF,bG false,bF,fj,bG false,ae 0,fj,bF]⟩,⟨b1,65,14,[ae k,ae t,ae a,ae b,au 3 cV row,ae x1,ae x2,aZ x3,.list 4 (Tw.nP E) E.length,ae y1,ae y2,aZ y3,.list 4 (Tw.nP I) I.length,bG bare]⟩]⟩:St)) ?_ ?_
 ·refine CD.seq ?_;refine CD.cells (k:=0) (cs':=[_,_,.list 2 [] 0,.list 3 [] 0,.list 1 [] 0,_,.list 5 [] 0,_,_,_,_,.list 5 [] 0]) (S':=[_,_,_]) rfl (by repeat (first|exact trivial|exact⟨bN,trivial⟩|exact⟨eu,trivial⟩|refine⟨bN,?_⟩|refine⟨eu,?_⟩)) rfl ?_;refine cc [1,2,3,16] ?_;refine af [1,2,3,16,17] ?_;refine av ?_ ?_<;>intro aL bB
  ·obtain rfl:ki=0:=(by simp at aL;omega)
   refine tO ?_;refine OD.iC ap rfl rfl rfl call13 (Je) trivial ?_;refine aH 1 ?_;refine aO 0 [_,_,_,_,_,_,_,_,_,_,_,_] sizeOf29 ?_;refine an 111 [1,2,3] ?_;refine⟨_,aJ,{dz with kind:=1+0,table:=tn,ay:=bL},(Qy U),Dw,rfl,rfl⟩
  refine af [1,2,3,16,21] ?_;refine av ?_ ?_<;>intro aY cD
  ·obtain rfl:ki=2:=(by simp at aY;omega)
   have amg:=jZ a (show(1:Int)≤12 by decide);have amh:=kH G a 12 O ql w7;generalize ev a 12=xa at *;have ami:=jZ b (show(1:Int)≤9 by decide);have amj:=kH G b 9 jd oh w7;generalize ev b 9=xb at *;have Ig:(uk row).size≤maxLen:=(by (cases row;decide;exact vT _ mem_cons_self))
   have u9:(n8 (uk row) 2).size≤maxLen:=(by rw[Ja];exact Nat.le_trans (Nat.min_le_left _ _) Ig)
   have dy:((⟨#[]⟩:ByteArray)++n8 (uk row) 2).size≤maxLen:=(by rw[ByteArray.size_append];show 0+_≤_;omega)
   have tF:(⟨#[]⟩:ByteArray).size+(n8 (uk row) 2).size≤9223372036854775807:=(by (have:=u9;unfold maxLen at this;show 0+_≤_;omega))
   have hu6:=(aaN ((⟨#[]⟩:ByteArray)++n8 (uk row) 2)).2;refine mE 18 [1,2,3,40] ?_;refine cN (amh) ?_;refine cN (amj) ?_;refine cN (acV k t a b row x1 x2 x3 E y1 y2 y3 I bare) ?_;refine cN (Ge (uk row) 2 Ig) ?_;refine aR 0 ?_ (h:=by exact(dA rfl bP ot (Kw tF)));refine cN (Nm.rH ((⟨#[]⟩:ByteArray)++n8 (uk row) 2) dy) ?_;refine cN (BQ b jd oh) ?_;refine bH ?_;refine aH 1 ?_;refine aO 0 [_,_,_,_,_,_,_,_,_,_,_,_] sizeOf43 ?_;refine an 111 [1,2,3] ?_;refine⟨_,aJ,{dz with kind:=1+2,table:=tn,row:=[⟨2,xa,⟨#[]⟩⟩,⟨2,xb,⟨#[]⟩⟩,⟨3,0,xF ((⟨#[]⟩:ByteArray)++n8 (uk row) 2)⟩,qN b]},(abj U amg ami hu6),Dw,rfl,rfl⟩
  refine af [1,2,3,16,42] ?_;refine av ?_ ?_<;>intro cm cR
  ·obtain rfl:ki=3:=(by simp at cm;omega)
   refine iL [1,2,3] (fun aS _ aE=>∃(N:List ByteArray),((N.length≤6∧∀x∈N,cy x=0))∧aE=(⟨111,aS,[⟨b3,46,12,[ae (1+3),aZ tn,.list 2 [] 0,.list 3 [] 0,au 1 cS N,bG false,.list 5 [] 0,fj,bG false,ae (-1),fj,.list 5 [] 0]⟩,⟨b2,46,12,[ae 0,fj,bF,bF,bF,bG false,bF,fj,bG false,ae 0,fj,bF]⟩,⟨b1,65,14,[ae k,ae t,ae a,ae b,au 3 cV row,ae x1,ae x2,aZ x3,.list 4 (Tw.nP E) E.length,ae y1,ae y2,aZ y3,.list 4 (Tw.nP I) I.length,bG bare]⟩]⟩:St)) ?_ ?_
   ·refine CD.seq ?_;have ary:=jZ a (show(1:Int)≤3 by decide);have amk:=kH G a 3 O ql w7;generalize ev a 3=xc at *;refine iU [1,2,3,47] ?_;refine cN (amk) ?_;refine bH ?_;refine av ?_ ?_<;>intro da eA
    ·have pyb:=jZ b (show(1:Int)≤3 by decide);have Pw:=kH G b 3 jd oh w7;generalize ev b 3=yb at *;have hyb:yb=0∨yb=1∨yb=2:=(by omega)
     rcases hyb with rfl|rfl|rfl
     ·refine tO ?_;refine eD (cq 0 [_,_,_]) [.string ⟨#[]⟩,.string ⟨#[]⟩,.string ⟨#[]⟩] [_,_,_] zeroValue9 runUnderlying44 sizeOf9 (fun Pf=>?_);refine fT 0 48 1 3 ?_;refine aH 2 ?_;refine ec call14 (Pw) ?_;refine aH 1 ?_;refine bV (eJ (l:=0) (h:=1) rfl ot trivial ⟨_,ot⟩ Nx) ?_;refine aH 1 ?_;refine aO 0 [_,_,_,_,_,_,_,_,_,_,_,_] sizeOf44 ?_;refine an 111 [1,2,3] ?_;refine⟨_,aJ,[⟨#[115]⟩],⟨by decide,by decide +kernel⟩,rfl⟩
     ·refine tO ?_;refine eD (cq 0 [_,_,_]) [.string ⟨#[]⟩,.string ⟨#[]⟩,.string ⟨#[]⟩] [_,_,_] zeroValue9 runUnderlying44 sizeOf9 (fun Pf=>?_);refine fT 0 48 1 3 ?_;refine aH 2 ?_;refine ec call14 (Pw) ?_;refine aH 1 ?_;refine bV (eJ (l:=0) (h:=2) rfl ot trivial ⟨_,ot⟩ Nx) ?_;refine aH 1 ?_;refine aO 0 [_,_,_,_,_,_,_,_,_,_,_,_] sizeOf44 ?_;refine an 111 [1,2,3] ?_;refine⟨_,aJ,[⟨#[115]⟩,⟨#[105,100]⟩],⟨by decide,by decide +kernel⟩,rfl⟩
     refine tO ?_;refine eD (cq 0 [_,_,_]) [.string ⟨#[]⟩,.string ⟨#[]⟩,.string ⟨#[]⟩] [_,_,_] zeroValue9 runUnderlying44 sizeOf9 (fun Pf=>?_);refine fT 0 48 1 3 ?_;refine aH 2 ?_;refine ec call14 (Pw) ?_;refine aH 1 ?_;refine bV (eJ (l:=0) (h:=3) rfl ot trivial ⟨_,ot⟩ Nx) ?_;refine aH 1 ?_;refine aO 0 [_,_,_,_,_,_,_,_,_,_,_,_] sizeOf44 ?_;refine an 111 [1,2,3] ?_;refine⟨_,aJ,[⟨#[115]⟩,⟨#[105,100]⟩,⟨#[110]⟩],⟨by decide,by decide +kernel⟩,rfl⟩
    refine CD.skip ?_;refine⟨_,aJ,[],⟨by simp,fun _ h=>by cases h⟩,rfl⟩
   rintro _ ⟨N,hN,rfl⟩;refine CD.seq ?_;have arz:=jZ a (show(1:Int)≤5 by decide);have aml:=kH G a 5 O ql w7;generalize ev a 5=xd at *;refine dY 2 ?_;refine ec call14 (aml) ?_;refine aH 2 ?_;refine aO 0 [_,_,_,_,_,_,_,_,_,_,_,_] sizeOf4 ?_;refine an 111 [1,2,3] ?_;refine iL [1,2,3] (fun aS _ aE=>∃(N:List ByteArray),∃(ct:Bool),((N.length≤6∧∀x∈N,cy x=0))∧(ct=true→N=[])∧aE=(⟨111,aS,[⟨b3,46,12,[ae (1+3),aZ tn,.list 2 [] 0,.list 3 [] 0,au 1 cS N,bG ct,.list 5 [] 0,fj,bG false,ae (-1),fj,.list 5 [] 0]⟩,⟨b2,46,12,[ae 0,fj,bF,bF,bF,bG false,bF,fj,bG false,ae 0,fj,bF]⟩,⟨b1,65,14,[ae k,ae t,ae a,ae b,au 3 cV row,ae x1,ae x2,aZ x3,.list 4 (Tw.nP E) E.length,ae y1,ae y2,aZ y3,.list 4 (Tw.nP I) I.length,bG bare]⟩]⟩:St)) ?_ ?_
   ·refine af [1,2,3,61] ?_;refine av ?_ ?_<;>intro dR fH
    ·refine dY 1 ?_;refine aO 0 [_,_,_,_,_,_,_,_,_,_,_,_] sizeOf44 ?_;refine an 111 [1,2,3] ?_;refine⟨_,(Wk.cells (k:=0) (cs':=[_,_,_,_,.list 1 [] 0,_,_,_,_,_,_,_]) rfl (by repeat (first|exact trivial|exact⟨bN,trivial⟩|exact⟨eu,trivial⟩|refine⟨bN,?_⟩|refine⟨eu,?_⟩)) rfl).trans (aJ),[],(xd==3),⟨Nat.zero_le _,fun _ h=>by cases h⟩,(fun _=>rfl),rfl⟩
    refine CD.skip ?_;refine⟨_,aJ,N,(xd==3),hN,(fun h=>absurd h (by rw[dR];decide)),rfl⟩
   rintro _ ⟨N,ct,hN,hcn,rfl⟩;refine CD.seq ?_;have amm:=jZ b (show(1:Int)≤4 by decide);have amn:=kH G b 4 jd oh w7;generalize ev b 4=xe at *;obtain⟨ej,rfl⟩:=Int.eq_ofNat_of_zero_le amm.1;have Px:ej<gB.length:=(by show ej<4;omega)
   have jU:=aju gB[ej] (getElem_mem Px);generalize amo:gB[ej]=od at *;refine tO ?_;refine eD (cq 0 [_,_,_,_]) [.string ⟨#[]⟩,.string ⟨#[]⟩,.string ⟨#[]⟩,.string ⟨#[]⟩] [_,_,_,_] zeroValue9 runUnderlying44 sizeOf9 (fun EE=>?_);refine fT 0 63 1 4 ?_;refine aH 2 ?_;refine ec call14 (amn) ?_;refine aH 1 ?_;refine bV (cW (mk:=Op.load 9) rfl ot (by exact rJ (g:=cS) (ls:=gB) (i:=ej) (d:=aZ od) jJ isAgg9 Px (by show some (D.v (.string (gB[ej]'Px)))=some (D.v (.string od));rw[amo]))) ?_;refine aH 1 ?_;refine aO 0 [_,_,_,_,_,_,_,_,_,_,_,_] sizeOf9 ?_;refine an 111 [1,2,3] ?_;refine iL [1,2,3] (fun aS _ aE=>∃(dn:Bool),(od=⟨#[]⟩→dn=false)∧aE=(⟨111,aS,[⟨b3,46,12,[ae (1+3),aZ tn,.list 2 [] 0,.list 3 [] 0,au 1 cS N,bG ct,.list 5 [] 0,aZ od,bG dn,ae (-1),fj,.list 5 [] 0]⟩,⟨b2,46,12,[ae 0,fj,bF,bF,bF,bG false,bF,fj,bG false,ae 0,fj,bF]⟩,⟨b1,65,14,[ae k,ae t,ae a,ae b,au 3 cV row,ae x1,ae x2,aZ x3,.list 4 (Tw.nP E) E.length,ae y1,ae y2,aZ y3,.list 4 (Tw.nP I) I.length,bG bare]⟩]⟩:St)) ?_ ?_
   ·have arA:=jZ a (show(1:Int)≤2 by decide);have amq:=kH G a 2 O ql w7;generalize ev a 2=xf at *;refine dY 4 ?_;refine bY 73 (fun Z ajv=>?_) (fun Z ajv=>?_)
    ·refine aH 2 ?_;refine OD.iC iJ rfl rfl rfl call14 (amq) ⟨ot,bP,trivial⟩ ?_;refine aH 3 ?_;refine aO 0 [_,_,_,_,_,_,_,_,_,_,_,_] sizeOf4 ?_;refine an 111 [1,2,3] ?_;refine⟨_,aJ,(xf==1),(fun h=>by rw[h] at Z;exact absurd Z yl),rfl⟩
    refine yG 4 ?_;refine aH 2 ?_;refine aO 0 [_,_,_,_,_,_,_,_,_,_,_,_] sizeOf4 ?_;refine an 111 [1,2,3] ?_;refine⟨_,aJ,false,(fun _=>rfl),rfl⟩
   rintro _ ⟨dn,A4,rfl⟩;have arB:=jZ a (show(1:Int)≤9 by decide);have amr:=kH G a 9 O ql w7;generalize ev a 9=xg at *;refine dY 2 ?_;refine ec call14 (amr) ?_;refine aH 2 ?_;refine aO 0 [_,_,_,_,_,_,_,_,_,_,_,_] sizeOf3 ?_;refine an 111 [1,2,3] ?_;refine⟨_,aJ,{dz with kind:=1+3,table:=tn,names:=N,count:=ct,order:=od,down:=dn,iD:=xg-1},(Qz U hN hcn (jU.imp (fun h=>ahS h) id) A4 w4),Dw,rfl,rfl⟩
  refine af [1,2,3,85] ?_;refine av ?_ ?_<;>intro fM gW
  ·obtain rfl:ki=4:=(by simp at fM;omega)
   refine CD.seq ?_;have ams:=jZ a (show(1:Int)≤5 by decide);have amt:=kH G a 5 O ql w7;generalize ev a 5=xh at *;obtain⟨hj,rfl⟩:=Int.eq_ofNat_of_zero_le ams.1;have Py:hj<Bt.length:=(by show hj<5;omega)
   have hsn:=Mj Bt[hj] (getElem_mem Py);generalize amu:Bt[hj]=sn at *;refine tO ?_;refine eD (cq 0 [_,_,_,_,_]) [.string ⟨#[]⟩,.string ⟨#[]⟩,.string ⟨#[]⟩,.string ⟨#[]⟩,.string ⟨#[]⟩] [_,_,_,_,_] zeroValue9 runUnderlying44 sizeOf9 (fun pN=>?_);refine fT 0 87 1 5 ?_;refine aH 2 ?_;refine ec call14 (amt) ?_;refine aH 1 ?_;refine bV (cW (mk:=Op.load 9) rfl ot (by exact rJ (g:=cS) (ls:=Bt) (i:=hj) (d:=aZ sn) jJ isAgg9 Py (by show some (D.v (.string (Bt[hj]'Py)))=some (D.v (.string sn));rw[amu]))) ?_;refine aH 1 ?_;refine aO 0 [_,_,_,_,_,_,_,_,_,_,_,_] sizeOf9 ?_;refine an 111 [1,2,3] ?_;refine dY 2 ?_;refine ec call19 (Lq (.mk x1 x2 x3 E) hto) ?_;refine aH 1 ?_;refine aO 0 [_,_,_,_,_,_,_,_,_,_,_,_] sizeOf36 ?_;refine an 111 [1,2,3] ?_;refine⟨_,aJ,{dz with kind:=1+4,table:=tn,set:=sn,bJ:=iF 3 (.mk x1 x2 x3 E)},(abk U hsn (.mk x1 x2 x3 E)),Dw,rfl,rfl⟩
  have amv:ki=1∨ki=5:=(by simp at aL aY cm fM;omega)
  refine CD.skip ?_;refine⟨_,aJ,{dz with kind:=1+ki,table:=tn},(by (rcases amv with rfl|rfl;exact aeH U;exact QA U)),Dw,rfl,rfl⟩
 rintro _ ⟨s,No,Np,Nq,rfl⟩;refine aB 4 ?_;refine bY 101 (fun Wf ahT=>?_) (fun Wf ahT=>?_)
 ·refine bp [1,2,3,105] ?_;refine av ?_ ?_<;>intro jb px
  ·have hg4:4≤s.kind∧bare=false:=(by (have q1:=jb;simp at q1;first|exact⟨by simpa using Wf,by simpa using q1⟩|simp_all))
   have oF:=No.2 (iF 3 (.mk y1 y2 y3 I)) (K8 _) (.inl hg4.1);refine dY 2 ?_;refine ec call19 (Lq (.mk y1 y2 y3 I) OK) ?_;refine aH 1 ?_;refine aO 0 [_,_,_,_,_,_,_,_,_,_,_,_] sizeOf36 ?_;refine an 111 [2,3] ?_;refine aB 1 ?_;refine aO 1 [_,_,_,_,_,_,_,_,_,_,_,_] sizeOf46 ?_;refine an 111 [2] ?_;refine aM [] ?_;exact⟨{s with aj:=iF 3 (.mk y1 y2 y3 I)},rfl,rfl,oF,Np,Nq.trans Pv⟩
  have oF:=No.xV;refine aB 1 ?_;refine aO 1 [_,_,_,_,_,_,_,_,_,_,_,_] sizeOf46 ?_;refine an 111 [2] ?_;refine aM [] ?_;exact⟨s,rfl,rfl,oF,Np,Nq.trans Pv⟩
 refine bp [1,2,3,105] ?_;refine gq ?_;have oF:=No.xV;refine aB 1 ?_;refine aO 1 [_,_,_,_,_,_,_,_,_,_,_,_] sizeOf46 ?_;refine an 111 [2] ?_;refine aM [] ?_;exact⟨s,rfl,rfl,oF,Np,Nq.trans Pv⟩

end Go.Proofs.YtkgmonfgofobaaaGreatDoor.Pa
namespace Go.Proofs.YtkgmonfgofobaaaGreatDoor.Ba
open List
open Go.Proofs.Tryz
open Go.RowKit V Pk Tr Vl Go.Proofs.YtkgmonfgofobaaaGreatDoor.Nm Pc Cd Ex Tw
open Pa (bA bg eI cX di dM ew eE dW)
variable {l:List az} {a c:Nat}
theorem Mk{v:Vl}(h:cg v=0)(h1:-9223372036854775808≤v.n)(h2:v.n≤9223372036854775807):v.Ok:=by
 unfold cg at h;have hk:(0≤v.k∧v.k≤3)∧v.s.size≤20:=by
  repeat' split at h
  all_goals first|(cases h;done)|omega
 exact⟨by omega,by omega,h1,h2,Nat.le_trans hk.2 w7⟩
theorem RB{α:Type}{f:α→Int}:∀{l:List α},Pa.j5 f l=0→∀a∈l,f a=0
 | [],_,a,ha=>by cases ha
 | x::r,h,a,ha=>by
  rw[Pa.j5] at h;split at h
  ·rename_i hx;exact absurd h hx
  rename_i hx;rcases mem_cons.1 ha with rfl|ha
  ·exact Classical.not_not.1 hx
  exact RB h a ha
theorem J8{w:List aK}(h:Pa.ny w=0):∀o∈w,cg o.v=0:=fun o ho=>by
 unfold Pa.ny at h;split at h
 ·rename_i h0;rw[length_eq_zero_iff.1 h0] at ho;cases ho
 obtain⟨h',h1⟩:=FJ w 0 (xp h).2 o ho;exact Fh (wX h1).2.2.1
theorem agr{w:List aK}(h:gN w=0):∀o∈w,cg o.v=0:=fun o ho=>by
 obtain⟨h',h1⟩:=FJ w 0 (xp h).2 o ho;exact Fh (wX h1).2.2.1
structure Du (s:bA):Prop where
 fin:eI s
 row:∀v∈s.row,v.Ok
 wnm:∀o∈s.aj,o.nm.size≤maxLen
 wok:∀o∈s.aj,o.v.Ok
 ZF:∀o∈s.bJ,o.nm.size≤maxLen
 ZG:∀o∈s.bJ,o.v.Ok
theorem Mj{s:bA}(hf:eI s)(ei:1≤s.kind)(A3:s.kind≤6)(hc:dM s=0):Du s:=by
 unfold dM at hc;split at hc
 ·rename_i h1;exact absurd hc h1.2
 split at hc
 ·cases hc
 rename_i h1 h2;have hb:eE s (dW s)=true:=by
  cases h:eE s (dW s) with
  | true=>rfl
  | false=>exact absurd ⟨hc,h⟩ h2
 unfold eE at hb;simp only[Bool.and_eq_true,beq_iff_eq] at hb;have hr:∀v∈s.row,cg v=0:=by
  by_cases h3:s.kind=3
  ·unfold ew at hc;rw[if_neg w4,if_pos h3] at hc;unfold Pa.dQ at hc;split at hc
   ·cases hc
   exact fun v hv=>Fh (RB hc v hv)
  have E:(s.row.length:Int)=((dW s).row.length:Int):=hb.2.2.1;have h0:(dW s).row=[]:=(by unfold dW;split;rfl;split;rfl;split;rfl;split;rfl;rfl)
  rw[h0] at E;have:s.row=[]:=length_eq_zero_iff.1 (by simpa using E);rw[this];intro v hv;cases hv
 have hw:∀o∈s.aj,cg o.v=0:=by
  by_cases h3:4≤s.kind
  ·unfold ew at hc;rw[if_neg w4,if_neg w4] at hc;by_cases h4:s.kind=4
   ·rw[if_pos h4] at hc;unfold Pa.pp at hc;split at hc
    ·cases hc
    split at hc
    ·cases hc
    split at hc
    ·cases hc
    split at hc
    ·rename_i I;exact absurd hc I
    split at hc
    ·rename_i I;exact absurd hc I
    rename_i I;exact J8 (Classical.not_not.1 I)
   rw[if_neg h4] at hc;by_cases h5:s.kind=5
   ·rw[if_pos h5] at hc;split at hc
    ·split at hc
     ·exact J8 hc
     rename_i I;exact absurd hc I
    rename_i I;exact absurd hc I
   rw[if_neg h5,if_pos w4] at hc;exact J8 hc
  have E:(s.aj.length:Int)=((dW s).aj.length:Int):=hb.2.2.2.2.2.1;have h0:(dW s).aj=[]:=(by unfold dW;split;rfl;split;rfl;rw[if_neg w4,if_neg w4,if_neg w4];rfl)
  rw[h0] at E;have:s.aj=[]:=length_eq_zero_iff.1 (by simpa using E);rw[this];intro v hv;cases hv
 have hx:∀o∈s.bJ,cg o.v=0:=by
  by_cases h5:s.kind=5
  ·unfold ew at hc;rw[if_neg w4,if_neg w4,if_neg w4,if_pos h5] at hc;split at hc
   ·split at hc
    ·rename_i I;exact agr I
    rename_i I;exact absurd hc I
   rename_i I;exact absurd hc I
  have E:(s.bJ.length:Int)=((dW s).bJ.length:Int):=(by simpa using hb.2.2.2.2.2.2.2.2.2.2)
  have h0:(dW s).bJ=[]:=(by unfold dW;split;rfl;split;rfl;split;rfl;split;rfl;rfl)
  rw[h0] at E;have:s.bJ=[]:=length_eq_zero_iff.1 (by simpa using E);rw[this];intro v hv;cases hv
 exact⟨hf,fun v hv=>Mk (hr v hv) (hf.r v hv).1 (hf.r v hv).2,fun o ho=>(hf.w o ho).1,fun o ho=>Mk (hw o ho) (hf.w o ho).2.1 (hf.w o ho).2.2,fun o ho=>(hf.x o ho).1,fun o ho=>Mk (hx o ho) (hf.x o ho).2.1 (hf.x o ho).2.2⟩
theorem di.st{s:bA}(h:di s):Du s:=Mj h.1 h.2.1 h.2.2.1 h.2.2.2.2
structure jq (l:List az) (a c:Nat):Prop where
 g:qc l (a*(1+c))
 r:∀t∈l,t.rows.length≤a
theorem aeI(s:bA)(h:cy s.table=0)(hc:s.ay=bL):cA (gM s) 0:=⟨h,hc,Nat.zero_le _,aek,fun i h=>absurd h (Nat.not_lt_zero _),fun x hx=>by
 have:dh qi=[]:=ael;rw[show(gM s).ix=qi from rfl,this] at hx;cases hx⟩
theorem qc.mono{l:List az}{n m:Nat}(g:qc l n)(h:n≤m):qc l m:=⟨g.eO,fun t ht=>(g.tb t ht).mono h,g.sz,g.IA⟩
theorem qc.put{n:Nat}(g:qc l n){i:Nat}(hi:i<l.length){t:az}(ht:cA t n)(hn:t.nm=l[i].nm):qc (l.set i t) n:=by
 refine⟨by rw[length_set];exact g.eO,fun x hx=>?_,fun x hx=>?_,?_⟩
 ·rcases mem_or_eq_of_mem_set hx with h|h
  ·exact g.tb x h
  rw[h];exact ht
 ·rcases mem_or_eq_of_mem_set hx with h|h
  ·exact g.sz x h
  rw[h,hn];exact g.sz _ (getElem_mem hi)
 have hm:(l.set i t).map az.nm=l.map az.nm:=by
  exact z105
 have h1:∀l:List az,(l.Pairwise fun a b=>a.nm.toList≠b.nm.toList)↔(l.map az.nm).Pairwise fun a b=>a.toList≠b.toList:=fun l=>by rw[pairwise_map]
 rw[h1,hm,←h1];exact g.IA

theorem VK(t:az)(row:List Vl):(gQ t row).1.nm=t.nm:=by
 unfold gQ;by_cases h1:Pc.dQ t.ay row≠0
 ·rw[if_pos h1]
 rw[if_neg h1];cases gl t.ix (bU row) (cQ t.ix) with
 | true=>rw[if_pos rfl]
 | false =>
  rw[if_neg w7];by_cases h3:t.rows.length=40
  ·rw[if_pos h3]
  rw[if_neg h3]
theorem U0:∀(l:List Int) (t:az),(kx t l).nm=t.nm
 | [],_=>rfl
 | _::l,t=>(U0 l _).trans rfl
theorem VL(t:az)(w:List aK):(j4 t w).1.nm=t.nm:=by unfold j4;split;rfl;exact U0 _ _
theorem U1{c:Nat}:∀(l:List Int) (vs:List Vl) (t:az),(eU c t l vs).nm=t.nm
 | [],_,t=>by unfold eU;rfl
 | _::_,[],t=>by unfold eU;rfl
 | _::l,_::vs,t=>(U1 l vs _).trans rfl
theorem TA:∀(l:List Int) (vs:List Vl) (t:az),(eT t l vs).1.nm=t.nm
 | [],_,t=>by unfold eT;rfl
 | _::_,[],t=>by unfold eT;rfl
 | _::l,_::vs,t=>by
  rw[eT];split
  ·rfl
  exact(TA l vs _).trans rfl
theorem VM(t:az)(s:bA):(dH t s).1.nm=t.nm:=by
 unfold dH;repeat' split
 all_goals first|rfl|exact U1 _ _ _|exact(TA _ _ _).trans rfl
theorem ahU{nm:ByteArray}(h:aU l nm<0):∀t∈l,t.nm.toList≠nm.toList:=fun t ht e=>by
 unfold aU dP at h;split at h
 ·omega
 rename_i h1;have:=findIdx?_eq_none_iff.1 h1 t ht;rw[e] at this;simp at this
theorem B3(h:a+c≤30):a*(1+c)≤260:=by
 have key:∀a<31,∀c<31,a+c≤30→a*(1+c)≤260:=(by decide +kernel)
 exact key a w4 c w4 h
theorem Wg:a*(1+c)+1≤(a+1)*(1+c):=by rw[Nat.add_mul];omega
theorem Wh:a*(1+c)+a=a*(1+(c+1)):=by rw[←Nat.add_assoc,Nat.mul_add a (1+c) 1,Nat.mul_one]
theorem jq.put{l:List az}{a c a' E:Nat}(g:jq l a c)(h:a*(1+c)≤a'*(1+E))(ha:a≤a'){i:Nat}(hi:i<l.length){t:az}(ht:cA t (a'*(1+E)))(hr:t.rows.length≤a')(hn:t.nm=l[i].nm):jq (l.set i t) a' E:=by
 refine⟨(g.g.mono h).put hi ht hn,fun x hx=>?_⟩;rcases mem_or_eq_of_mem_set hx with hx|hx
 ·exact Nat.le_trans (g.r x hx) ha
 rw[hx];exact hr
theorem LH{i:Nat}(hi:i<l.length){t:az}(hn:t.nm=l[i].nm):(l.set i t).map az.nm=l.map az.nm:=by
 exact z105
theorem zv(g:jq l a c)(O:a+c≤30){s:bA}(hs:Du s)(fF:¬s.kind=2)(U:cy s.table=0)(I:s.kind=1→s.ay=bL)(h0:(fp l s).2.2=0) :
  ∃a' Z,a'+Z≤a+c+1∧jq (fp l s).1 a' Z∧(s.kind=1→(fp l s).1=l++[gM s]∧a'=a∧Z=c)∧(¬s.kind=1→(fp l s).1.map az.nm=l.map az.nm):=by
 have hb:=B3 O;have jd:=xo (fun t:az=>t.nm.toList==s.table.toList) l;rw[show dP (fun t:az=>t.nm.toList==s.table.toList) l=aU l s.table from rfl] at jd;unfold fp at h0 ⊢;by_cases ei:s.kind=1
 ·rw[if_pos ei] at h0 ⊢;dsimp only at h0;unfold qD at h0 ⊢;by_cases h1:0≤aU l s.table
  ·rw[if_pos h1] at h0;cases h0
  rw[if_neg h1] at h0 ⊢;by_cases h2:l.length=4
  ·rw[if_pos h2] at h0;cases h0
  rw[if_neg h2] at h0 ⊢;have Bu:=aeI s U (I ei);have hf:=g.g.eO;refine⟨a,c,by omega,⟨⟨by rw[length_append,length_singleton];omega,fun t ht=>?_,fun t ht=>?_,?_⟩,fun t ht=>?_⟩,fun _=>⟨rfl,rfl,rfl⟩,fun h=>absurd ei h⟩
  ·rcases mem_append.1 ht with ht|ht
   ·exact g.g.tb t ht
   rw[mem_singleton] at ht;rw[ht];exact Bu.mono (Nat.zero_le _)
  ·rcases mem_append.1 ht with ht|ht
   ·exact g.g.sz t ht
   rw[mem_singleton] at ht;rw[ht];exact hs.fin.t
  ·refine pairwise_append.2 ⟨g.g.IA,pairwise_singleton _ _,fun x hx y hy=>?_⟩;rw[mem_singleton] at hy;subst hy;exact ahU (show aU l s.table<0 by omega) x hx
  rcases mem_append.1 ht with ht|ht
  ·exact g.r t ht
  rw[mem_singleton] at ht;rw[ht];exact Nat.zero_le _
 rw[if_neg ei] at h0 ⊢;by_cases h1:aU l s.table<0
 ·rw[if_pos h1] at h0;cases h0
 rw[if_neg h1] at h0 ⊢;have E:(aU l s.table).toNat<l.length:=(by omega)
 have ic:l.getD (aU l s.table).toNat (gM s)=l[(aU l s.table).toNat]:=(by rw[getD_eq_getElem?_getD,getElem?_eq_getElem E];rfl)
 rw[ic] at h0 ⊢;have gt:=g.g.tb _ (getElem_mem E);have gr:=g.r _ (getElem_mem E);by_cases h3:s.kind=3
 ·rw[if_pos h3] at h0 ⊢;obtain⟨q1,q2⟩:=acQ gt w4 hs.row h0;exact⟨a+1,c,by omega,g.put (Nat.le_trans (Nat.le_succ _) Wg) (Nat.le_succ _) E (q1.mono Wg) w4 (VK _ _),fun h=>absurd h ei,fun _=>LH E (VK _ _)⟩
 rw[if_neg h3] at h0 ⊢;by_cases h4:s.kind=4
 ·rw[if_pos h4];exact⟨a,c,by omega,g,fun h=>absurd h ei,fun _=>rfl⟩
 rw[if_neg h4] at h0 ⊢;by_cases h5:s.kind=5
 ·rw[if_pos h5];obtain⟨q1,q2⟩:=acR gt s hs.ZF hs.ZG hb;exact⟨a,c+1,by omega,g.put (by rw[←Wh];omega) (Nat.le_refl _) E (q1.mono (by rw[←Wh];omega)) w4 (VM _ _),fun h=>absurd h ei,fun _=>LH E (VM _ _)⟩
 rw[if_neg h5];obtain⟨q1,q2⟩:=Z9 gt s.aj;exact⟨a,c,by omega,g.put (Nat.le_refl _) (Nat.le_refl _) E q1 w4 (VL _ _),fun h=>absurd h ei,fun _=>LH E (VL _ _)⟩

end Go.Proofs.YtkgmonfgofobaaaGreatDoor.Ba

namespace Go.Proofs.YtkgmonfgofobaaaGreatDoor.Pa
open List
open Go.Proofs.Tryz
open Go.RowKit V Pk Go.Proofs.YtkgmonfgofobaaaGreatDoor.Vl Go.Proofs.YtkgmonfgofobaaaGreatDoor.Nm Go.Proofs.YtkgmonfgofobaaaGreatDoor.Pc
section
variable {H:Type} {enc:TypeId×Value→H} {P:Program} {w:World} {base:Nat} {sp:Nat→Bool} {held:Bool}
theorem abl {fuel:Nat} {t:TypeId} {f0 f1 f2 f3 f4 f5 f6 f7:Field} {E I O U Z α5 α6 α7:Type} {g0:E→List D} {k0:E→Prop} {g1:I→List D} {k1:I→Prop} {g2:O→List D} {k2:O→Prop} {g3:U→List D} {k3:U→Prop} {g4:Z→List D} {k4:Z→Prop} {g5:α5→List D} {k5:α5→Prop} {g6:α6→List D} {k6:α6→Prop} {g7:α7→List D} {k7:α7→Prop} {n0 n1 n2 n3 n4 n5 n6 n7:Nat}
  (ht:P.underlying t=some (.struct #[f0,f1,f2,f3,f4,f5,f6,f7])) (hc:P.cellsOf t=n0+n1+n2+n3+n4+n5+n6+n7) (o0:f0.offset=0) (c0:P.cellsOf f0.type=n0) (o1:f1.offset=n0) (c1:P.cellsOf f1.type=n1) (o2:f2.offset=n0+n1) (c2:P.cellsOf f2.type=n2) (o3:f3.offset=n0+n1+n2) (c3:P.cellsOf f3.type=n3) (o4:f4.offset=n0+n1+n2+n3) (c4:P.cellsOf f4.type=n4) (o5:f5.offset=n0+n1+n2+n3+n4) (c5:P.cellsOf f5.type=n5) (o6:f6.offset=n0+n1+n2+n3+n4+n5) (c6:P.cellsOf f6.type=n6) (o7:f7.offset=n0+n1+n2+n3+n4+n5+n6) (c7:P.cellsOf f7.type=n7)
  (r0:∀n,n+1=fuel→l9 n enc P w base sp held f0.type g0 k0) (r1:∀n,n+1=fuel→l9 n enc P w base sp held f1.type g1 k1) (r2:∀n,n+1=fuel→l9 n enc P w base sp held f2.type g2 k2) (r3:∀n,n+1=fuel→l9 n enc P w base sp held f3.type g3 k3) (r4:∀n,n+1=fuel→l9 n enc P w base sp held f4.type g4 k4) (r5:∀n,n+1=fuel→l9 n enc P w base sp held f5.type g5 k5) (r6:∀n,n+1=fuel→l9 n enc P w base sp held f6.type g6 k6) (r7:∀n,n+1=fuel→l9 n enc P w base sp held f7.type g7 k7) :
  l9 fuel enc P w base sp held t (fun a:E × I × O × U × Z × α5 × α6 × α7=>(g0 (a.1)++(g1 (a.2.1)++(g2 (a.2.2.1)++(g3 (a.2.2.2.1)++(g4 (a.2.2.2.2.1)++(g5 (a.2.2.2.2.2.1)++(g6 (a.2.2.2.2.2.2.1)++g7 (a.2.2.2.2.2.2.2))))))))) (fun a=>k0 (a.1)∧k1 (a.2.1)∧k2 (a.2.2.1)∧k3 (a.2.2.2.1)∧k4 (a.2.2.2.2.1)∧k5 (a.2.2.2.2.2.1)∧k6 (a.2.2.2.2.2.2.1)∧k7 (a.2.2.2.2.2.2.2)):=fun cs x h=>by
 obtain⟨xs,n,hn,_,hl,gp,hf⟩:=DataW.trod_struct ht h;have e0:=hf 0 f0 rfl;have e1:=hf 1 f1 rfl;have e2:=hf 2 f2 rfl;have e3:=hf 3 f3 rfl;have e4:=hf 4 f4 rfl;have e5:=hf 5 f5 rfl;have e6:=hf 6 f6 rfl;have e7:=hf 7 f7 rfl;rw[o0,c0,drop_zero] at e0;rw[o1,c1] at e1;rw[o2,c2] at e2;rw[o3,c3] at e3;rw[o4,c4] at e4;rw[o5,c5] at e5;rw[o6,c6] at e6;rw[o7,c7] at e7;have hx8:xs.length=8:=gp;rw[getElem?_eq_getElem w4] at e0 e1 e2 e3 e4 e5 e6 e7;obtain⟨a0,p0,q0⟩:=r0 n hn.symm _ _ e0;obtain⟨a1,p1,q1⟩:=r1 n hn.symm _ _ e1;obtain⟨a2,p2,q2⟩:=r2 n hn.symm _ _ e2;obtain⟨a3,p3,q3⟩:=r3 n hn.symm _ _ e3;obtain⟨a4,p4,q4⟩:=r4 n hn.symm _ _ e4;obtain⟨a5,p5,q5⟩:=r5 n hn.symm _ _ e5;obtain⟨a6,p6,q6⟩:=r6 n hn.symm _ _ e6;obtain⟨a7,p7,q7⟩:=r7 n hn.symm _ _ e7;refine⟨(a0,a1,a2,a3,a4,a5,a6,a7),?_,q0,q1,q2,q3,q4,q5,q6,q7⟩;have dy:cs=(cs.take n0++((cs.drop (n0)).take n1++((cs.drop (n0+n1)).take n2++((cs.drop (n0+n1+n2)).take n3++((cs.drop (n0+n1+n2+n3)).take n4++((cs.drop (n0+n1+n2+n3+n4)).take n5++((cs.drop (n0+n1+n2+n3+n4+n5)).take n6++((cs.drop (n0+n1+n2+n3+n4+n5+n6)).take n7)))))))):=by
  rw[take_of_length_le (l:=drop (n0+n1+n2+n3+n4+n5+n6) cs) Dy];have d2:cs.drop (n0+n1)=(cs.drop (n0)).drop n1:=(by rw[drop_drop])
  have d3:cs.drop (n0+n1+n2)=(cs.drop (n0+n1)).drop n2:=(by rw[drop_drop])
  have d4:cs.drop (n0+n1+n2+n3)=(cs.drop (n0+n1+n2)).drop n3:=(by rw[drop_drop])
  have d5:cs.drop (n0+n1+n2+n3+n4)=(cs.drop (n0+n1+n2+n3)).drop n4:=(by rw[drop_drop])
  have d6:cs.drop (n0+n1+n2+n3+n4+n5)=(cs.drop (n0+n1+n2+n3+n4)).drop n5:=(by rw[drop_drop])
  have d7:cs.drop (n0+n1+n2+n3+n4+n5+n6)=(cs.drop (n0+n1+n2+n3+n4+n5)).drop n6:=(by rw[drop_drop])
  rw[d7,take_append_drop,d6,take_append_drop,d5,take_append_drop,d4,take_append_drop,d3,take_append_drop,d2,take_append_drop,take_append_drop]
 rw[dy];exact(p0.append (p1.append (p2.append (p3.append (p4.append (p5.append (p6.append p7)))))))
end


structure Ph where
 k:Int
 t:Int
 a:Int
 b:Int
 row:List Vl
 bJ:Tw
 wh:Tw
 bare:Bool
def Ph.cs(p:Ph):List D:=[ae p.k]++([ae p.t]++([ae p.a]++([ae p.b]++([au 3 cV p.row]++(p.bJ.cs++(p.wh.cs++[bG p.bare]))))))
structure Ph.Ok (p:Ph):Prop where
 k:-9223372036854775808≤p.k∧p.k≤9223372036854775807
 t:-9223372036854775808≤p.t∧p.t≤9223372036854775807
 a:-9223372036854775808≤p.a∧p.a≤9223372036854775807
 b:-9223372036854775808≤p.b∧p.b≤9223372036854775807
 row:∀v∈p.row,v.s.size≤maxLen
 bJ:p.bJ.Ok
 wh:p.wh.Ok
theorem ags{H:Type}{enc:TypeId×Value→H}{w:World}{base:Nat}{sp:Nat→Bool}{held:Bool}:pH enc Tryz.prog w base sp held 125 cV (fun v:Vl=>v.s.size≤maxLen) :=
 (aaF (n0:=1) (n1:=1) (n2:=1) underlying125 aC rfl rfl rfl aC aC aC (vy underlying3) (vy underlying3) (QI underlying9)).map (fun a=>(⟨a.1,a.2.1,a.2.2⟩:Vl)) (fun _=>rfl) (fun _ h=>h.2.2)
theorem abm{H:Type}{enc:TypeId×Value→H}{w:World}{base:Nat}{sp:Nat→Bool}{held:Bool}(n:Nat):l9 n enc Tryz.prog w base sp held 65 Ph.cs Ph.Ok:=fun cs x h=>by
 obtain⟨⟨a0,a1,a2,a3,a4,a5,a6,a7⟩,h1,q0,q1,q2,E,I,O,U,_⟩:=abl (fuel:=n) (n0:=1) (n1:=1) (n2:=1) (n3:=1) (n4:=1) (n5:=4) (n6:=4) (n7:=1) underlying65 aC rfl aC rfl aC rfl aC rfl aC rfl aC rfl aC rfl aC rfl aC
  (fun q _=>(vy underlying3).at q) (fun q _=>(vy underlying3).at q) (fun q _=>(vy underlying3).at q) (fun q _=>(vy underlying3).at q) (fun q _=>QM (sz:=3) underlying63 aC w7 (fun z _=>ags.at z) fq) (fun q _=>JO q) (fun q _=>JO q) (fun q _=>(ae8 underlying4).at q) cs x h
 exact⟨⟨a0,a1,a2,a3,a4,a5,a6,a7⟩,h1,⟨q0,q1,q2,E,I.1,O,U⟩⟩
end Go.Proofs.YtkgmonfgofobaaaGreatDoor.Pa

namespace Go.Proofs.YtkgmonfgofobaaaGreatDoor.Ba
open List
open Go.Proofs.Tryz
open Go.RowKit V Pk Tr Vl Go.Proofs.YtkgmonfgofobaaaGreatDoor.Nm Pc Cd Ex Tw
open Pa (bA bg eI cX di dM ew eE dW dz bM Ph)
variable {G:List (Nat×List Value)} {m:Int}
variable {l:List az}
theorem VC.uM{P:Program}{f:FuncId}{args args':List D}{S:List ah}{post:D→List ah→Prop}(h:VC P G f args S post)(k:qv args' args):VC P G f args' S post:=by
 obtain⟨h1,h2⟩:=k.spec;exact h.args h1.symm fun w L i q1 q2 v hr=>h2 i q2 q1 _ _ _ hr
theorem ahV(hm:(3,marksC)∈G)(hw:(1,wordsC)∈G)(ht:(0,typesC)∈G)(hG:(2,[Value.int .i64 m])∈G)(p:Ph)(h:p.Ok):VC Tryz.prog G 23 [.agg p.cs] [] (fun r S'=>∃s,r = .agg (bg s)∧S'=[]∧di s∧s.kind=1+ev p.k 6∧s.table=bM.getD (ev p.t 2).toNat ⟨#[]⟩):=by
 obtain⟨k,t,a,b,row,⟨x1,x2,x3,E⟩,⟨y1,y2,y3,I⟩,bare⟩:=p;exact Pa.aaa k t a b row x1 x2 x3 E y1 y2 y3 I bare h.k.1 h.k.2 h.t.1 h.t.2 h.a.1 h.a.2 h.b.1 h.b.2 h.row h.bJ h.wh
theorem Va(hm:(3,marksC)∈G)(hw:(1,wordsC)∈G)(ht:(0,typesC)∈G)(hG:(2,[Value.int .i64 m])∈G)(p:Ph)(h:p.Ok):VC Tryz.prog G 23 [.agg p.cs] [] (fun r S'=>∃s,r = .agg (bg s)∧S'=[]∧di s∧s.kind=1+ev p.k 6):=(ahV hm hw ht hG p h).mono fun r S' ⟨s,h1,h2,h3,h4,_⟩=>⟨s,h1,h2,h3,h4⟩
theorem vL(hm:(3,marksC)∈G)(hw:(1,wordsC)∈G)(ht:(0,typesC)∈G)(hG:(2,[Value.int .i64 m])∈G){a c:Nat}(g:jq l a c)(E:a+c≤30){s:bA}(hs:Du s)(fF:¬s.kind=2)(O:s.kind≤6→cy s.table=0)(A3:s.kind≤6)(I:s.kind=1→s.ay=bL):VP Tryz.prog G 15 [.agg [au 5 cU (l)],.agg (bg s)] (sD (gA l s)):=by
 refine VJ hm hw ht hG l (B3 E) g.g s hs.fin fF hs.row hs.wnm hs.wok hs.ZF hs.ZG fun h0=>?_;obtain⟨a',c',_,g',_⟩:=zv g E hs fF (O A3) I h0;exact⟨Nat.le_trans g'.g.eO w7,fun t ht=>(g'.g.tb t ht).small⟩
theorem U2{s:bA}(h:(gA l s).2.2=0):(fp l s).2.2=0∧(gA l s).1=(fp l s).1:=by
 unfold gA at h ⊢;by_cases h1:cX s≠0
 ·rw[if_pos h1] at h;exact absurd h h1
 rw[if_neg h1] at h ⊢;by_cases h2:7≤s.kind
 ·rw[if_pos h2] at h;cases h
 rw[if_neg h2] at h ⊢;by_cases h3:(fp l s).2.2≠0
 ·rw[if_pos h3] at h;exact absurd h h3
 rw[if_neg h3];exact⟨Classical.not_not.1 h3,rfl⟩
def ko(x:ByteArray):bA:={dz with kind:=1,table:=x,ay:=bL}
theorem aeJ:∀x∈bM,cX (ko x)=0:=by decide +kernel
theorem U3{x:ByteArray}(hx:x∈bM):Du (ko x):=di.st (Pa.tr.xV (Pa.Qy (Pa.GY x hx)))
def XA:List az:=bM.map fun x=>gM (ko x)
theorem VN:∀i (h:i<bM.length),gA ((bM.take i).map fun x=>gM (ko x)) (ko bM[i])=((bM.take (i+1)).map (fun x=>gM (ko x)),(([],0),0)):=by
 intro i h;have hx:bM[i]∈bM:=getElem_mem h;unfold gA;rw[if_neg (by rw[aeJ _ hx];decide),if_neg (by show ¬(7:Int)≤1;decide)];have h1:fp ((bM.take i).map fun x=>gM (ko x)) (ko bM[i])=((bM.take (i+1)).map (fun x=>gM (ko x)),(([],0),0)):=by
  have h2:i=0∨i=1:=(by have:bM.length=2:=rfl;omega)
  rcases h2 with rfl|rfl
  ·exact(show fp ((bM.take 0).map fun x=>gM (ko x)) (ko (bM[0]'w7))=((bM.take 1).map (fun x=>gM (ko x)),(([],0),0)) by kernel_rfl)
  exact(show fp ((bM.take 1).map fun x=>gM (ko x)) (ko (bM[1]'w7))=((bM.take 2).map (fun x=>gM (ko x)),(([],0),0)) by kernel_rfl)
 rw[h1];rfl
theorem vu(p:Ph):p.cs.length=14:=by
 obtain⟨k,t,a,b,row,⟨x1,x2,x3,E⟩,⟨y1,y2,y3,I⟩,bare⟩:=p;rfl
theorem acW:jq [] 0 0:=⟨⟨by decide,(fun t h=>by cases h),(fun t h=>by cases h),Pairwise.nil⟩,(fun t h=>by cases h)⟩
theorem Vb:(Nm.Tw.mk 0 0 ⟨#[]⟩ []).Ok:=by constructor<;>first|decide|(simp;done)|trivial
theorem F8{s:bA}(h:di s):cy s.table=0:=by
 have hc:=h.2.2.2.2;have h6:=h.2.2.1;unfold dM at hc;split at hc
 ·rename_i h1;exact absurd hc h1.2
 rename_i h1;exact Classical.not_not.1 fun e=>h1 ⟨by omega,e⟩
theorem XB:∀i,i≤2→jq ((bM.take i).map fun x=>gM (ko x)) 0 0:=by
 intro i;induction i with
 | zero=>intro _;exact acW
 | succ i ih =>
  intro hi;have aa:i<bM.length:=(by have:bM.length=2:=rfl;omega)
  have hr:=VN i aa;have h0:(gA ((bM.take i).map fun x=>gM (ko x)) (ko bM[i])).2.2=0:=(by rw[hr])
  obtain⟨h1,h2⟩:=U2 h0;obtain⟨a',c',_,g',h4,_⟩:=zv (ih w4) w7 (U3 (getElem_mem aa)) (show ¬(1:Int)=2 by decide) (Pa.GY _ (getElem_mem aa)) (fun _=>rfl) h1;obtain⟨_,rfl,rfl⟩:=h4 rfl;rw[←h2,hr] at g';exact g'
theorem K9(hm:(3,marksC)∈G)(hw:(1,wordsC)∈G)(ht:(0,typesC)∈G)(hG:(2,[Value.int .i64 m])∈G)(ps:List Ph)(gL:∀p∈ps,p.Ok)(fD:ps.length≤maxLen):VC Tryz.prog G 12 [.list 14 (ps.flatMap Ph.cs) ps.length] [] (fun r S=>∃l a c,r = .agg [au 5 cU (l)]∧S=[]∧jq l a c∧a+c≤30∧l.map az.nm=bM):=by
 refine VC.body func12 rfl ntmps12 aQ fun X0 w0 bf=>?_;have c8:=dV;have uS:bM.length=2:=rfl;skip;refine cf ?_;refine OD.alloc (ds:=[_]) ap rfl rfl zeroValue25 rfl (fun b2=>?_);refine an 88 [0,2] ?_;refine cf ?_;refine OD.alloc (ds:=[_]) ap rfl rfl zeroValue25 rfl (fun b3=>?_);refine OD.cells (k:=0) (cs':=[.list 5 [] 0]) rfl ⟨eu,trivial⟩ rfl ?_;refine an 88 [0,2,3] ?_;refine af [0,2,3,4] ?_;refine eG [0,2,3] (fun aS _ (i:Nat) aE=>(i≤2)∧aE=(⟨88,(4,ae (i:Nat))::aS,[⟨b3,25,1,[.list 5 ((((bM.take i).map fun x=>gM (ko x))).flatMap cU) (((bM.take i).map fun x=>gM (ko x))).length]⟩,⟨b2,25,1,[bF]⟩]⟩:St)) (fun (i:Nat)=>2-i) 0 ⟨(Nat.zero_le _),rfl⟩ ?_;rintro i _ ⟨hi,rfl⟩;refine af [0,2,3,4,14] ?_;refine av ?_ ?_<;>intro aL bB
 ·have aa:i<bM.length:=(by omega)
  have O:=VC.uM (vL hm hw ht hG (l:=((bM.take i).map fun x=>gM (ko x))) (a:=0) (c:=0) (s:=ko (bM[i]'aa)) (XB i w4) w7 (U3 (getElem_mem aa)) (show ¬(1:Int)=2 by decide) (fun _=>Pa.GY _ (getElem_mem aa)) (show(1:Int)≤6 by decide) (fun _=>rfl)) (args':=[.agg [.list 5 ((((bM.take i).map fun x=>gM (ko x))).flatMap cU) (((bM.take i).map fun x=>gM (ko x))).length],.agg [ae 1,aZ (bM[i]'aa),au 2 cC bL,bF,bF,bG false,bF,fj,bG false,ae (-1),fj,bF]]) ⟨bN,sO ⟨bN,bN,bN,eu,eu,bN,eu,bN,bN,bN,bN,eu,trivial⟩,trivial⟩;rw[VN i aa] at O;unfold sD at O;refine CD.skip ?_;refine CD.seq ?_;refine CD.block ?_;refine CD.seq ?_;refine YY 14 13 12 [0,2,3,4,5,6,26,27,28] ?_;refine mI 1 ?_;refine Ot (g:=cS) (bM) ?_;refine cN (Je) ?_;refine cN (O) ?_;refine mI 4 ?_;refine pF ?_;refine pF ?_;refine jP ?_;refine⟨rfl,rfl,fun b6 b5=>?_⟩;refine aO 1 [_] sizeOf25 ?_;refine aO 0 [_,_] sizeOf39 ?_;refine an 88 [0,2,3,4,5,7] ?_;refine af [0,2,3,4,5,30] ?_;refine av ?_ ?_<;>intro aY cD
  ·refine dY 1 ?_;refine aO 2 [_] sizeOf25 ?_;refine an 88 [0,2,3,4] ?_;refine cc [0,2,3,4] ?_;refine⟨(i+1),_,cr,aJ,w4,rfl⟩
  exact absurd aY (by simp at aY)
 have lQ:i=2:=(by omega)
 subst lQ;have htw:((bM.take 2).map fun x=>gM (ko x))=XA:=rfl;refine af [0,2,3,8] ?_;refine eG [0,2,3] (fun aS _ (U:Nat×List az×Nat×Nat) aE=>match U with|(k,l,a,c)=>(k≤30)∧(k≤ps.length)∧(a+c≤k)∧(jq l a c)∧((l).map az.nm=bM)∧aE=(⟨88,(8,ae (k:Nat))::aS,[⟨b3,25,1,[au 5 cU (l)]⟩,⟨b2,25,1,[bF]⟩]⟩:St)) (fun (U:Nat×List az×Nat×Nat)=>match U with|(k,l,a,c)=>30-k) (0,XA,0,0) ⟨(Nat.zero_le _),(Nat.zero_le _),(Nat.le_refl _),(XB 2 (Nat.le_refl _)),rfl,rfl⟩ ?_;rintro⟨k,l,a,c⟩ _ ⟨mg,hkp,vc,gn,I,rfl⟩;refine aB 5 ?_;refine bY 36 (fun amw ajw=>?_) (fun amw ajw=>?_)
 ·refine bp [0,2,3,8,39] ?_;refine av ?_ ?_<;>intro cm cR
  ·have aa:k<ps.length:=(by first|omega|(simp at *;omega))
   have arC:k<30:=(by first|omega|(simp at *;omega))
   have rY:=gL (ps[k]'aa) (getElem_mem aa);refine aB 3 ?_;refine bV (cW (mk:=Op.load 65) rfl ot (ku (g:=Ph.cs) (ls:=ps) (i:=k) vu isAgg65 sizeOf65 aa)) ?_;refine OD.call ap rfl rfl rfl call23 (Va hm hw ht hG (ps[k]'aa) rY) ⟨ot,trivial⟩ (fg _) ?_;rintro _ _ ⟨s,rfl,rfl,Z,Iv⟩;refine OD.alloc (ds:=[_,_,_,_,_,_,_,_,_,_,_,_]) ap rfl rfl zeroValue46 rfl (fun b9=>?_);refine aO 0 [_,_,_,_,_,_,_,_,_,_,_,_] sizeOf46 ?_;refine an 88 [0,2,3,8,9] ?_;refine iL [0,2,3,8,9] (fun aS _ aE=>∃(s:bA),(di s)∧(¬s.kind=1∧¬s.kind=2)∧aE=(⟨88,aS,[⟨b9,46,12,bg s⟩,⟨b3,25,1,[au 5 cU (l)]⟩,⟨b2,25,1,[bF]⟩]⟩:St)) ?_ ?_
   ·refine aB 4 ?_;refine bY 50 (fun XC ajx=>?_) (fun XC ajx=>?_)
    ·refine bp [0,2,3,8,9,54] ?_;refine eY ?_;exact z20
    refine bp [0,2,3,8,9,54] ?_;refine av ?_ ?_<;>intro da eA
    ·exact z20
    have E:¬s.kind=1∧¬s.kind=2:=(by first|exact⟨by simpa using XC,by simpa using da⟩|(simp at *;omega))
    refine CD.skip ?_;refine⟨_,aJ,s,Z,E,rfl⟩
   rintro _ ⟨s,Z,E,rfl⟩;refine CD.seq ?_;have Bs:=di.st Z;have Bg:=F8 Z;have O:=vL hm hw ht hG gn w4 Bs E.2 (fun _=>Bg) Z.2.2.1 (fun h=>absurd h E.1);unfold sD at O;refine dY 2 ?_;refine ec call15 (O) ?_;refine aH 4 ?_;refine OD.alloc (ds:=[_]) ap rfl rfl zeroValue25 rfl (fun kf=>?_);refine OD.alloc (ds:=[_,_]) ap rfl rfl zeroValue39 rfl (fun lE=>?_);refine aO 1 [_] sizeOf25 ?_;refine aO 0 [_,_] sizeOf39 ?_;refine an 88 [0,2,3,8,10,12] ?_;refine af [0,2,3,8,10,85] ?_;refine av ?_ ?_<;>intro dR fH
   ·have h0:(gA l s).2.2=0:=(by simpa using dR)
    obtain⟨h1,h2⟩:=U2 h0;obtain⟨a',c',arD,gn1,_,gI⟩:=zv gn w4 Bs E.2 Bg (fun h=>absurd h E.1) h1;have wI:jq (gA l s).1 a' c':=(by rw[h2];exact gn1)
    have ajy:(gA l s).1.map az.nm=bM:=(by rw[h2,gI E.1];exact I)
    refine dY 1 ?_;refine aO 3 [_] sizeOf25 ?_;refine an 88 [0,2,3,8] ?_;refine cc [0,2,3,8] ?_;refine⟨((k+1),(gA l s).1,a',c'),_,cr,aJ,w4,w4,w4,wI,ajy,rfl⟩
   refine cc [0,2,3,8] ?_;refine⟨((k+1),l,a,c),_,cr,aJ,w4,w4,w4,gn,I,rfl⟩
  refine aB 1 ?_;refine aO 1 [_] sizeOf25 ?_;refine an 88 [2] ?_;refine aM [] ?_;exact⟨l,a,c,rfl,rfl,gn,by omega,I⟩
 refine bp [0,2,3,8,39] ?_;refine gq ?_;refine aB 1 ?_;refine aO 1 [_] sizeOf25 ?_;refine an 88 [2] ?_;refine aM [] ?_;exact⟨l,a,c,rfl,rfl,gn,by omega,I⟩

theorem uy(h:l.map az.nm=bM):aU l ⟨#[116]⟩=0:=by
 match l,h with
 | a::r,h =>
  rw[map_cons] at h;have ha:a.nm=⟨#[116]⟩:=(by injection h)
  unfold aU;rw[wQ (ls:=a::r) (k:=0) bj (fun x hx=>by cases hx) (by show(a.nm.toList==_)=true;rw[ha];exact BEq.rfl)];rfl

end Go.Proofs.YtkgmonfgofobaaaGreatDoor.Ba
namespace Go.Proofs.YtkgmonfgofobaaaGreatDoor.Ba
open List
open Go.Proofs.Tryz
open Go.RowKit V Pk Tr Vl Go.Proofs.YtkgmonfgofobaaaGreatDoor.Nm Pc Cd Ex Tw
open Pa (Ph)
variable {m:Int}
def wJ(m:Int):List (Nat×List Value):=[(3,marksC),(1,wordsC),(0,typesC),(2,[Value.int .i64 m])]
theorem Pz:(3,marksC)∈wJ m:=mem_cons_self
theorem PA:(1,wordsC)∈wJ m:=mem_cons_of_mem _ mem_cons_self
theorem PB:(0,typesC)∈wJ m:=mem_cons_of_mem _ (mem_cons_of_mem _ mem_cons_self)
theorem PC:(2,[Value.int .i64 m])∈wJ m:=mem_cons_of_mem _ (mem_cons_of_mem _ (mem_cons_of_mem _ mem_cons_self))
theorem Nr{w:World}(h1:MarksTab w)(h2:WordsTab w)(h3:TypesTab w)(h4:Tab.l5 w 2 [Value.int .i64 m]):∀g∈wJ m,g.2≠[]∧CX w g.1 g.2:=fun g hg=>by
 rcases mem_cons.1 hg with rfl|hg
 ·exact⟨by decide,.of h1 rfl⟩
 rcases mem_cons.1 hg with rfl|hg
 ·exact⟨by decide,.of h2 rfl⟩
 rcases mem_cons.1 hg with rfl|hg
 ·exact⟨by decide,.of h3 rfl⟩
 rw[mem_singleton] at hg;subst hg;exact⟨by simp,.of h4 rfl⟩
theorem rd_phrases{H:Type}{enc:TypeId×Value→H}{w:World}{base E:Nat}{sp:Nat→Bool}{held:Bool}{v:Value}{d:DataW H}{p:List MemPlace}(hval:Value.okWide Tryz.prog w .any E 22 v)(h:DataW.Trod enc Tryz.prog w base sp held 22 v d p) :
  ∃l:List Ph,cn w (fun _=>False) (.list 14 (l.flatMap Ph.cs) l.length) v∧((∀x∈l,x.Ok)∧l.length≤maxLen)∧True:=by
 obtain⟨l,h1,h2,h3⟩:=ada (g:=Ph.cs) (ok:=Ph.Ok) (sz:=14) underlying22 aC w7 (fun n cs x hn=>Pa.abm n cs x hn) vu hval h;exact⟨l,h1,⟨h2,h3⟩,trivial⟩

end Go.Proofs.YtkgmonfgofobaaaGreatDoor.Ba
namespace Go.Proofs.YtkgmonfgofobaaaGreatDoor.Ba
open List
open Go.Proofs.Tryz
open Go.RowKit V Pk Tr Vl Go.Proofs.YtkgmonfgofobaaaGreatDoor.Nm Pc Cd Ex Tw
open Pa (bA bg eI cX di dM ew eE dW dz bM Ph)
variable {G:List (Nat×List Value)} {m:Int}
variable {t:az} {n i:Nat}
theorem U4{v:Vl}(h:cg v=0)(hk:v.k=2):gm [v]=(cY [v],0):=by
 unfold gm;rw[if_neg bj,FW (fun x hx=>by rw[mem_singleton] at hx;rw[hx];exact h),if_neg bj,if_neg];show ¬(cY [v]).length>100;unfold cY Cd.nD s8;simp[hk,lM]
theorem acX(g:cA t n){i:Int}(h:eo t i):∃(v:Vl) (r:List Vl),rowAt t i=v::r∧r.length=3∧v.k=2∧v.s.size=0∧v.Ok∧cg v=0∧bU (rowAt t i)=cY [v]:=by
 obtain⟨h4,aT⟩:=eo.ok g h;obtain⟨h0,h1,h2⟩:=h;have hf:=(g.row _ h1 h2).1;rw[←fV h1] at hf;match hr:rowAt t i,h4 with
 | v::r,h4 =>
  rw[hr] at hf aT;obtain⟨hv,hc⟩:=aT v mem_cons_self;have hk:v.k=2:=by
   unfold Pc.dQ at hf;rw[if_neg AV,if_neg yj] at hf;unfold bL Pc.py at hf;split at hf
   ·rename_i h1;exact absurd hf h1
   rename_i h1;have h1:=Decidable.not_not.1 h1;unfold Pc.l7 at h1;rw[if_neg (by rw[hc];decide)] at h1;split at h1
   ·cases h1
   rename_i h3;exact Decidable.not_not.1 fun e=>h3 ⟨e,.inl rfl⟩
  refine⟨v,r,rfl,by simpa using h4,hk,?_,hv,hc,?_⟩
  ·unfold cg at hc;rw[if_neg w4,if_neg w4,if_pos hk] at hc;split at hc
   ·cases hc
   rename_i h3;exact Decidable.not_not.1 h3
  unfold bU;rw[show(v::r).take 1=[v] from rfl,U4 hc hk]
noncomputable def dB(t:az):List (List Vl):=(dh t.ix).map fun x=>rowAt t x.2
theorem zT{l:List az}{nm:ByteArray}(h:aU l nm=(i:Int))(hi:i<l.length):vK l nm=(dB l[i],0):=by
 unfold vK;rw[h,if_neg w4,Int.toNat_natCast,getD_eq_getElem?_getD,getElem?_eq_getElem hi];rfl
theorem agt(g:cA t n)(h:i<(dB t).length):∃h':i<(dh t.ix).length,(dB t)[i]=rowAt t (dh t.ix)[i].2∧eo t (dh t.ix)[i].2∧(dh t.ix)[i].1=bU (rowAt t (dh t.ix)[i].2):=by
 have h':i<(dh t.ix).length:=(by unfold dB at h;rwa [length_map] at h)
 obtain⟨h0,h1,h2,h3⟩:=g.gj _ (getElem_mem h');exact⟨h',by show((dh t.ix).map fun x=>rowAt t x.2)[i]=_;exact getElem_map _,⟨h0,h1,h2⟩,by rw[fV h1];exact h3⟩
theorem y9(g:cA t n)(h:i<(dB t).length):∃(v:Vl) (r:List Vl),(dB t)[i]=v::r∧r.length=3∧v.k=2∧v.s.size=0∧v.Ok∧cg v=0:=by
 obtain⟨h',e,dc,_⟩:=agt g h;obtain⟨v,r,h1,h2,h3,h4,h5,h6,_⟩:=acX g dc;exact⟨v,r,e.trans h1,h2,h3,h4,h5,h6⟩
theorem J9(g:cA t n):(dB t).length≤16000:=by
 have:=Tj g.ix [] [];rw[FI] at this;unfold dB;rwa [length_map]
theorem Ns{l:List az}(h:l.map az.nm=bM):l.length=2:=by have:=congrArg length h;(first|rw[length_map] at this|(unfold au at this;rw[length_map] at this));rw[this];decide

theorem TB{t:az}:∀(l:List (K×Int)) (acc:List Int),kR t [] acc l=(acc++l.map Prod.snd,0)
 | [],acc=>by simp[kR]
 | x::l,acc=>by rw[kR,if_neg w7,TB l];simp
theorem qL(g:cA t n):aq t []=((dh t.ix).map Prod.snd,0):=by
 unfold aq;have hb:iO t.ay []=(([],[]),0):=(by rw[g.ay];decide +kernel)
 rw[hb,if_neg w7,TB];show([]++(oH t.ix [] []).map Prod.snd,0)=_;rw[FI];rfl

end Go.Proofs.YtkgmonfgofobaaaGreatDoor.Ba
namespace Go.Proofs.YtkgmonfgofobaaaGreatDoor.Ba

open List
open Go.Proofs.Tryz
open Go.RowKit V Pk Tr Vl Go.Proofs.YtkgmonfgofobaaaGreatDoor.Nm Pc Cd Ex Tw
open Pa (bA bg eI cX di dM ew eE dW dz bM Ph)
def fst(r:List Vl):Vl:=r.getD 0 bw
theorem oZ{r:List Vl}(hf:Pc.dQ bL r=0)(aT:∀v∈r,v.Ok):(fst r).k=2∧(fst r).s.size=0∧(fst r).Ok∧cg (fst r)=0∧bU r=cY [fst r]∧r.length=4:=by
 have h4:=oE hf;have hz:=J4 hf;match r,h4 with
 | v::r,h4 =>
  have hv:=aT v mem_cons_self;have hc:=hz v mem_cons_self;have hk:v.k=2:=by
   unfold Pc.dQ at hf;rw[if_neg AV,if_neg yj] at hf;unfold bL Pc.py at hf;split at hf
   ·rename_i h1;exact absurd hf h1
   rename_i h1;have h1:=Decidable.not_not.1 h1;unfold Pc.l7 at h1;rw[if_neg (by rw[hc];decide)] at h1;split at h1
   ·cases h1
   rename_i h3;exact Decidable.not_not.1 fun e=>h3 ⟨e,.inl rfl⟩
  refine⟨hk,?_,hv,hc,?_,h4⟩
  ·show v.s.size=0;unfold cg at hc;rw[if_neg w4,if_neg w4,if_pos hk] at hc;split at hc
   ·cases hc
   rename_i h3;exact Decidable.not_not.1 h3
  unfold bU;rw[show(v::r).take 1=[v] from rfl,U4 hc hk];rfl

theorem mr{t:az}{n:Nat}(g:cA t n){i:Int}(h:eo t i):Pc.dQ bL (rowAt t i)=0∧∀v∈rowAt t i,v.Ok:=by
 obtain⟨h0,h1,h2⟩:=h;rw[fV h1];exact⟨(g.row _ h1 h2).1,(g.row _ h1 h2).2.1⟩

end Go.Proofs.YtkgmonfgofobaaaGreatDoor.Ba
namespace Go.Proofs.YtkgmonfgofobaaaGreatDoor.Ba

open List
open Go.Proofs.Tryz
open Go.RowKit V Pk Tr Vl Go.Proofs.YtkgmonfgofobaaaGreatDoor.Nm Pc Cd Ex Tw
open Pa (bA bg eI cX di dM ew eE dW dz bM Ph)
noncomputable def bZ(t:az):List Int:=(dh t.ix).map Prod.snd
theorem mS{t:az}{n:Nat}(g:cA t n)(i:Int):i∈bZ t↔eo t i:=by
 unfold bZ;rw[mem_map];constructor
 ·rintro⟨x,hx,rfl⟩;obtain⟨x0,x1,x2,_⟩:=g.gj x hx;exact⟨x0,x1,x2⟩
 intro h;exact⟨_,h.gj g,rfl⟩
theorem zb{t:az}{n:Nat}(g:cA t n):(bZ t).Nodup:=by have:=zh g [];rwa [qL g] at this
theorem ph(t:az):dB t=(bZ t).map (rowAt t):=by unfold dB bZ;rw[map_map];rfl

end Go.Proofs.YtkgmonfgofobaaaGreatDoor.Ba
namespace Go.Proofs.YtkgmonfgofobaaaGreatDoor.Ba





open List
open Go.Proofs.Tryz
open Go.RowKit V Pk Tr Vl Go.Proofs.YtkgmonfgofobaaaGreatDoor.Nm Pc Cd Ex Tw
open Pa (bA bg eI cX di dM ew eE dW dz bM Ph)
variable {G:List (Nat×List Value)} {m:Int}
variable {α:Type}
open Classical in
noncomputable def qb(a b:α):Bool:=decide (a=b)
theorem BR{a b:α}(h:a=b):qb a b=true:=by unfold qb;simp[h]
theorem Kq{a b:α}(h:¬a=b):qb a b=false:=by unfold qb;simp[h]
theorem Ka(a b:List Vl)(ha:a.length≤1000000)(hb:b.length≤1000000):VP Tryz.prog G 18 [au 3 cV a,au 3 cV b] (bG (qb a b)):=by
 refine VC.body func18 rfl ntmps18 aQ fun X0 w0 bf=>?_;have c8:=dV;refine af [0,1] ?_;refine af [0,1,10] ?_;refine av ?_ ?_<;>intro aL bB
 ·exact z143
 have E:a.length=b.length:=(by simp at aL;omega)
 refine af [0,1,5] ?_;refine eG [0,1] (fun aS _ (i:Nat) aE=>(i≤a.length)∧(a.take i=b.take i)∧aE=(⟨26,(5,ae (i:Nat))::aS,[]⟩:St)) (fun (i:Nat)=>a.length-i) 0 ⟨(Nat.zero_le _),rfl,rfl⟩ ?_;rintro i _ ⟨hi,HU,rfl⟩;refine af [0,1,5,14] ?_;refine av ?_ ?_<;>intro aY cD
 ·have aa:i<a.length:=(by omega)
  have s5:i<b.length:=(by omega)
  refine cM [0,1,5,25] ?_;refine aR 8 ?_ (h:=by exact(QF rfl ot ot eqGuardType33 (Go.Proofs.YtkgmonfgofobaaaGreatDoor.Vl.GK _ _)));refine jP ?_;refine av ?_ ?_<;>intro cm cR
  ·have hne:¬a[i]'aa=b[i]'s5:=fun e=>by rw[e] at cm;exact absurd cm bj
   have fk:qb a b=false:=Kq fun e=>hne (by subst e;rfl);refine af [4] ?_;exact yw
  have Yu:a[i]'aa=b[i]'s5:=(by have h3:yL (a[i]'aa) (b[i]'s5)=true:=(by simpa[yL] using cm);exact KA.1 h3)
  exact Wq
 exact z138

end Go.Proofs.YtkgmonfgofobaaaGreatDoor.Ba
namespace Go.Proofs.YtkgmonfgofobaaaGreatDoor.Ba











end Go.Proofs.YtkgmonfgofobaaaGreatDoor.Ba
