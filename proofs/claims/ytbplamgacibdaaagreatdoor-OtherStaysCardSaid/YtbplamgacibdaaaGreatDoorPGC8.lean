/-
  GC: walks and plain facts, part 8.
-/
import Derived.Test.YtbplamgacibdaaaGreatDoorPGC7
set_option linter.unusedVariables false
set_option linter.unusedSimpArgs false
set_option maxRecDepth 100000
set_option maxHeartbeats 4000000
namespace Go.Proofs.YtbplamgacibdaaaGreatDoor.Ba
open List
open Go.Proofs.Tryz
open Go.RowKit V Pk Tr Vl Go.Proofs.YtbplamgacibdaaaGreatDoor.Nm Pc Cd Ex Tw
open Pa (bp aY)
variable {G:List (Nat×List Value)} {m:Int}
variable {t:az} {L:List cl} {ad:Option Addr} {cap i n:Nat} {E S:List ah} {o:cl} {p:(List (List Vl)×Int)×Int}
def G0(t:az)(L:List cl)(ad:Option Addr)(cap:Nat)(Sr:List ah):Prop:=L.map cl.r=t.rows/\(∀o∈L,oD o)/\sZ L ad cap Sr
theorem Tp(h:G0 t L ad cap E)(hs:∀B∈E++L.flatMap bR,B∈S):View S (.agg (tC t ad cap)) (.agg (cG t)) :=
 UF (o:=⟨t,L.flatMap gR,ad,cap,E,L.flatMap bR⟩) (pO.w ⟨L,rfl,rfl,h.2.1,h.1,h.2.2⟩) hs
theorem Tq(aW:∀o∈L,oD o)(hi:i<L.length)(hs:∀B∈L.flatMap bR,B∈S):View S (aT L[i].ad L[i].r.length L[i].cap) (.list 3 (L[i].r.flatMap cV) L[i].r.length) :=
 lU (aW _ (getElem_mem hi)) (cm fG _) (fun B hB=>hs B (mem_flatMap.2 ⟨_,getElem_mem hi,hB⟩))
theorem KO(f:ah->Nat):∀(L:List cl) (i:Nat) (o:cl) (h:i<L.length),(((L.set i o).flatMap bR).map f).sum=(o.S.map f).sum+(((L.eraseIdx i).flatMap bR).map f).sum
 | [],_,_,h=>absurd h (Nat.not_lt_zero _)
 | x::L,0,o,_=>by simp[bR]
 | x::L,i+1,o,h=>by
  have:=KO f L i o (Nat.lt_of_succ_lt_succ h);simp only[set_cons_succ,flatMap_cons,map_append,sum_append,eraseIdx_cons_succ,this];omega
theorem Ts{A B C X:ah}(h:i<L.length)(hS:L[i].S=[X]):(A::B::([C]++L.flatMap bR)).Perm (X::A::B::C::(L.eraseIdx i).flatMap bR):=jB fun f=>by
 have:=KO f L i L[i] h;rw[set_getElem_self,hS] at this;simp only[map_cons,sum_cons,map_append,sum_append,map_nil,sum_nil,this];omega
theorem US{A B C X:ah}(h:i<L.length)(hS:o.S=[X]):(X::A::B::C::(L.eraseIdx i).flatMap bR).Perm (A::B::([C]++(L.set i o).flatMap bR)):=jB fun f=>by
 have:=KO f L i o h;rw[hS] at this;simp only[map_cons,sum_cons,map_append,sum_append,map_nil,sum_nil,this];omega
theorem Jr{t:az}{c:Int}{e:List bf}:∀(l:List Int) (acc:List Vl),(iC t c e acc l).2=0->(iC t c e acc l).1.length=acc.length+l.length
 | [],acc,_=>rfl
 | i::r,acc,h=>by
  rw[iC] at h |-;split
  ·rename_i h1;rw[if_pos h1] at h;exact absurd h h1
  rename_i h1;rw[if_neg h1] at h;split
  ·rename_i h2;rw[if_pos h2] at h;cases h
  rename_i h2;rw[if_neg h2] at h;rw[Jr r _ h,length_append,length_cons,length_cons,length_nil];omega
theorem JX{t:az}{n:Nat}(g:cQ t n){c:Int}{e:List bf}(lB:∀o∈e,o.nm.size<=maxLen)(fY:∀o∈e,o.v.Ok)(hk:(eu dF e).2=0):∀(l:List Int) (acc:List Vl),(∀i∈l,fh t i)->(iC t c e acc l).2=0 ->
  (∀v∈acc,v.Ok/\ko (eu dF e).1 v/\(c=0->v.k≠0))->∀v∈(iC t c e acc l).1,v.Ok/\ko (eu dF e).1 v/\(c=0->v.k≠0)
 | [],acc,_,_,ha=>ha
 | i::r,acc,hl,h,ha=>by
  rw[iC] at h |-;have hi:=hl i mem_cons_self;obtain⟨h0,h1,h2⟩:=id hi;obtain⟨p1,p2,_⟩:=g.row _ h1 h2;rw[<-iS h1] at p1 p2;split
  ·rename_i h1;rw[if_pos h1] at h;exact absurd h h1
  rename_i hne;rw[if_neg hne] at h;split
  ·rename_i h2;rw[if_pos h2] at h;cases h
  rename_i h3;rw[if_neg h3] at h;refine JX g lB fY hk r _ (fun j hj=>hl j (mem_cons_of_mem _ hj)) h fun v E=>?_;rcases mem_append.1 E with E|E
  ·exact ha v E
  rw[mem_singleton] at E;subst E;rw[g.ay] at hne h3 |-;exact⟨agf p2 fY,aeM lB fY p1 hk (Classical.not_not.1 hne),fun hc hz=>h3 ⟨hc,hz⟩⟩
theorem KP{g:cl->List D}:∀(M:List cl) (i:Nat) (h:i<M.length) (o:cl),g o=g M[i]->(M.set i o).flatMap g=M.flatMap g
 | [],_,h,_,_=>absurd h (Nat.not_lt_zero _)
 | x::M,0,_,o,e=>by
  rw[set_cons_zero,flatMap_cons,flatMap_cons,e];rfl
 | x::M,i+1,h,o,e=>by
  rw[set_cons_succ,flatMap_cons,flatMap_cons,KP M i (Nat.lt_of_succ_lt_succ h) o e]
theorem Rv{x:aF}{M:List cl}{i:Int}(h:i.toNat<M.length):rowAt {t with rows:=M.map cl.r,ix:=x} i=M[i.toNat].r:=by
 rw[iS (by show _<(M.map cl.r).length;rw[length_map];exact h)];exact getElem_map ..
theorem UT{x:aF}{M:List cl}{i:Int}(h:i.toNat<M.length){c:Nat}{v:Vl}(ho:o.r=M[i.toNat].r.set c v):mJ {t with rows:=M.map cl.r,ix:=x} i c v={t with rows:=(M.set i.toNat o).map cl.r,ix:=x}:=by
 unfold mJ;rw[Rv h,map_set,ho]
theorem aeN{c:Nat}{l:List Vl}:eH c t [] l=t:=by unfold eH;rfl
theorem acW{l:List Vl}:gd t [] l=(t,0):=by unfold gd;rfl
theorem G1{l:List (List Vl)}(h:L.map cl.r=l)(h1:i<L.length)(h2:i<l.length):L[i].r=l[i]:=by subst h;rw[getElem_map]
theorem abr:(Tryz.prog.info? 56).map (fun i=>(i.zero,i.size,i.bytes))=some (some (.agg #[.int .i64 0,.int .i64 0,.string ⟨#[]⟩]),3,32):=by kernel_rfl
theorem acX(hm:(3,marksC)∈G)(hw:(1,wordsC)∈G)(ht:(0,typesC)∈G)(hG:(2,[Value.int .i64 m])∈G)(t:az)(g:cQ t n)(s:bp)(ho:∀o∈s.aj,o.nm.size<=maxLen)(fY:∀o∈s.aj,o.v.Ok)(q8:∀o∈s.bF,o.nm.size<=maxLen)(G2:∀o∈s.bF,o.v.Ok)(hn:n<=260)(bt off Z:Nat)(pre post:List D)(hp:pre.length=off)(L:List cl)(ad:Option Addr)(cap:Nat)(Sr:List ah)(hL:L.map cl.r=t.rows)(aW:∀o∈L,oD o)(eW:sZ L ad cap Sr):VC Tryz.prog G 47 [.v (.pointer (some ⟨bt,off,none⟩)),.agg (aY s)] (⟨bt,68,Z,pre++(tC t ad cap++post)⟩::(Sr++L.flatMap bR)) (fun r S=>r = .da [ae (eS t s).2.1,ae (eS t s).2.2]/\((eS t s).2.2=0->∃L' qq kU wE,G0 (eS t s).1 L' qq kU wE/\S=⟨bt,68,Z,pre++(tC (eS t s).1 qq kU++post)⟩::(wE++L'.flatMap bR))):=by
 refine VC.body func47 rfl ntmps47 aU fun X0 w0 bj=>?_;have cR:=dI;have Il:G0 t L ad cap Sr:=⟨hL,aW,eW⟩
 have rW:L.length=t.rows.length:=(by rw[<-hL];(first|rw[length_map]|(unfold ap;rw[length_map])))
 have jg:=g.ec;have Es:=FR g s.aj;have O:=rq g s.aj;have hnd:=wN g s.aj;have alG:t.ay.length=4:=(by rw[g.ay];rfl)
 have aiY:=Jj (G:=G) t w4 s.set;have tM:=Ks (G:=G) hm hw ht t.ay yg yf s.bF q8;unfold qc at tM;have ZM:=vg (fun c:cy=>c.n.toList==s.set.toList) t.ay;rw[show dK (fun c:cy=>c.n.toList==s.set.toList) t.ay=(bE t.ay s.set) from rfl] at ZM;unfold tC;unfold aY;refine bS ?_;refine OD.box (ds:=[_,_,_,_,_,_,_,_,_,_,_,_]) aq rfl rfl ot rfl rfl (fun b3=>?_);refine an 205 [0,3] ?_;refine cz [0,3,6] ?_;refine aR 2 ?_ (h:=by exact(M2 1));refine kK 2 ?_;refine xZ (aiY) (ha:=by exact⟨⟨_,ot,(Tp Il (fun B hB=>by repeat (first|exact hB|apply mem_append_right|apply mem_cons_of_mem)):View _ (.agg (tC t ad cap)) _)⟩,⟨_,ot,ff⟩,trivial⟩) (K:=?_);refine bA ?_;refine af [0,3,6,30] ?_;refine au ?_ ?_<;>intro aJ bz
 ·have hA:(bE t.ay s.set)<0:=(by simpa using aJ)
  have aV:eS t s=(t,0,8):=(by unfold eS;rw[if_pos hA])
  exact xT
 have hA:¬(bE t.ay s.set)<0:=(by simpa using aJ)
 have fj:(bE t.ay s.set).toNat<t.ay.length:=(by omega)
 refine cz [0,3,6,7,8] ?_;refine aR 3 ?_ (h:=by exact(ph 1));refine cf (tM) ?_;refine bA ?_;refine af [0,3,6,7,8,42] ?_;refine au ?_ ?_<;>intro aX cr
 ·have hB:(eu t.ay s.bF).2≠0:=(by simpa using aX)
  have aV:eS t s=(t,0,(eu t.ay s.bF).2):=(by unfold eS;rw[if_neg hA,if_pos hB])
  exact xT
 have hB:¬(eu t.ay s.bF).2≠0:=(by simpa using aX)
 have iW:t.ay.getD (bE t.ay s.set).toNat ⟨⟨#[]⟩,0⟩=t.ay[(bE t.ay s.set).toNat]:=(by rw[getD_eq_getElem?_getD,getElem?_eq_getElem fj];rfl)
 refine CD.skip ?_;refine iH [0,3,6] (fun aS mQ aE=>(¬((eu t.ay s.bF).1≠(t.ay.getD (bE t.ay s.set).toNat ⟨⟨#[]⟩,0⟩).k/\(eu t.ay s.bF).1≠0))/\aE=(⟨205,aS,mQ⟩:St)) ?_ ?_
 ·refine aB 4 ?_;refine bN (ph 1) ?_;refine aH 1 ?_;refine bN (dL 2 (h:=by first|exact .l (j:=(bE t.ay s.set).toNat) (Int.toNat_of_nonneg w4).symm fj|exact .r (j:=(bE t.ay s.set).toNat) (Int.toNat_of_nonneg w4).symm fj)) ?_;refine aH 4 ?_;refine bZ 54 (fun As zJ=>?_) (fun As zJ=>?_)
  ·refine an 205 [0,3,6,57] ?_;refine au ?_ ?_<;>intro bL cJ
   ·have hC:(eu t.ay s.bF).1≠(t.ay.getD (bE t.ay s.set).toNat ⟨⟨#[]⟩,0⟩).k/\(eu t.ay s.bF).1≠0:=(by rw[iW];exact⟨by simpa using As,by simpa using bL⟩)
    have aV:eS t s=(t,0,4):=(by unfold eS;rw[if_neg hA,if_neg hB,if_pos hC])
    exact xT
   exact Yy
  refine an 205 [0,3,6,57] ?_;refine gm ?_;exact Yy
 rintro _ ⟨hC,rfl⟩;refine cz [0,3,6,8,9] ?_;refine aR 2 ?_ (h:=by exact(M2 1));refine kK 2 ?_;refine Am (Lm hm hw ht hG t g s.aj ho fY) (fun r S h=>h.flat) (fun r S h=>h.view) (ha:=by exact⟨⟨_,ot,(Tp Il (fun B hB=>by repeat (first|exact hB|apply mem_append_right|apply mem_cons_of_mem)):View _ (.agg (tC t ad cap)) _)⟩,⟨_,ot,ff⟩,trivial⟩) (K:=?_);refine bA ?_;refine af [0,3,6,8,9,68] ?_;refine au ?_ ?_<;>intro cN en
 ·have hD:(ax t s.aj).2≠0:=(by simpa using cN)
  have aV:eS t s=(t,0,(ax t s.aj).2):=(by unfold eS;rw[if_neg hA,if_neg hB,if_neg hC,if_pos hD])
  exact xT
 have hD:¬(ax t s.aj).2≠0:=(by simpa using cN)
 refine bS ?_;refine bu [0,3,6,9,10] ?_;refine af [0,3,6,9,10,70,71,72] ?_;refine ew [0,3,6,9,70,71] (fun aS _ (aO:Nat×List Vl×Option Addr×Nat×List ah) aE=>match aO with|(k,acc,dj,cU,Sx)=>(k<=(ax t s.aj).1.length)/\((acc).length=k)/\((iC t (bE t.ay s.set) s.bF [] (ax t s.aj).1)=iC t (bE t.ay s.set) s.bF acc ((ax t s.aj).1.drop k))/\(bn 56 3 ((acc).flatMap cV) (acc).length dj cU Sx)/\aE=(⟨205,(10,aT dj (acc).length cU)::(72,ae (k:Nat))::aS,(⟨b3,44,12,aY s⟩::⟨bt,68,Z,pre++([bg t.nm,ap 2 cC t.ay,aT ad t.rows.length cap,ap 5 cP t.ix.ag,ae t.ix.root]++post)⟩::(Sr++(Sx++L.flatMap bR)))⟩:St)) (fun (aO:Nat×List Vl×Option Addr×Nat×List ah)=>match aO with|(k,acc,dj,cU,Sx)=>(ax t s.aj).1.length-k) (0,([]:List Vl),none,0,[]) ⟨(Nat.zero_le _),rfl,rfl,iR,rfl⟩ ?_;rintro⟨k,acc,dj,cU,Sx⟩ _ ⟨hk,nJ,AT,dP,rfl⟩;refine af [0,3,6,9,10,70,71,72,73] ?_;refine au ?_ ?_<;>intro dW fB
 ·have aa:k<(ax t s.aj).1.length:=(by omega)
  have jM:(ax t s.aj).1.drop k=((ax t s.aj).1[k]'aa)::(ax t s.aj).1.drop (k+1):=drop_eq_getElem_cons aa;have Be:fh t ((ax t s.aj).1[k]'aa):=O _ (getElem_mem aa);obtain⟨iu,eT,oA⟩:=id Be;have gi:((ax t s.aj).1[k]'aa).toNat<L.length:=(by rw[rW];exact eT)
  obtain⟨br,rfl,rZ,qs,rfl⟩:=eW.pos w4;have wG:L[((ax t s.aj).1[k]'aa).toNat].r=rowAt t ((ax t s.aj).1[k]'aa):=(by rw[iS eT];exact(G1 hL gi eT))
  obtain⟨ZL,Et⟩:=fh.ok g Be;have M3:=Uq (G:=G) hm hw ht t.ay yg yf L[((ax t s.aj).1[k]'aa).toNat].r (by rw[wG];omega) (by rw[wG];exact fun v hv=>(Et v hv).1) s.bF q8 G2;rw[show fA t.ay L[((ax t s.aj).1[k]'aa).toNat].r s.bF=(fA t.ay (rowAt t ((ax t s.aj).1[k]'aa)) s.bF) from by rw[wG]] at M3;unfold nw at M3;refine af [0,3,6,9,10,12,70,71,72] ?_;refine CD.seq ?_;refine qR 18 17 [0,3,6,9,10,13,70,71,72,91,92] ?_;refine aR 3 ?_ (h:=by exact(ph 1));refine aR 3 ?_ (h:=by exact(ph 1));refine aR 1 ?_ (h:=Nj);refine aR 0 ?_ (h:=by exact(dz (mk:=Op.load 40) rfl ot (jj (k:=2) (i:=((ax t s.aj).1[k]'aa).toNat) (ls:=L) vu rfl rfl rfl isAgg40 gi rfl)));refine kK 2 ?_;refine xZ (M3) (ha:=by exact⟨⟨_,ot,ff⟩,⟨_,ot,(Tq aW gi (fun B hB=>by repeat (first|exact hB|apply mem_append_right|apply mem_cons_of_mem)))⟩,⟨_,ot,ff⟩,trivial⟩) (K:=?_);refine kK 3 ?_;refine mo ?_;refine iz ?_;refine⟨rfl,fun mK=>?_⟩;refine aP 0 [_,_,_] sizeOf56 ?_;refine an 205 [0,3,6,9,10,13,14,70,71,72] ?_;refine af [0,3,6,9,10,13,14,70,71,72,94] ?_;refine au ?_ ?_<;>intro fF gM
  ·have hE:(fA t.ay (rowAt t ((ax t s.aj).1[k]'aa)) s.bF).2≠0:=(by simpa using fF)
   have iO:(iC t (bE t.ay s.set) s.bF [] (ax t s.aj).1)=([],(fA t.ay (rowAt t ((ax t s.aj).1[k]'aa)) s.bF).2):=(by rw[AT,jM,iC,if_pos hE])
   have aV:eS t s=(t,0,(fA t.ay (rowAt t ((ax t s.aj).1[k]'aa)) s.bF).2):=(by unfold eS;rw[if_neg hA,if_neg hB,if_neg hC,if_neg hD,iO,if_pos hE])
   exact xT
  have hE:¬(fA t.ay (rowAt t ((ax t s.aj).1[k]'aa)) s.bF).2≠0:=(by simpa using fF)
  refine CD.skip ?_;refine iH [0,3,6,9,10,13,70,71,72] (fun aS mQ aE=>((iC t (bE t.ay s.set) s.bF [] (ax t s.aj).1)=iC t (bE t.ay s.set) s.bF (acc++[(fA t.ay (rowAt t ((ax t s.aj).1[k]'aa)) s.bF).1]) ((ax t s.aj).1.drop (k+1)))/\aE=(⟨205,aS,mQ⟩:St)) ?_ ?_
  ·refine aB 3 ?_;refine bZ 98 (fun Ac Gs=>?_) (fun Ac Gs=>?_)
   ·refine bu [0,3,6,9,10,13,70,71,72,102] ?_;refine au ?_ ?_<;>intro iw oS
    ·have hF:(bE t.ay s.set)=0/\(fA t.ay (rowAt t ((ax t s.aj).1[k]'aa)) s.bF).1.k=0:=⟨Gs,by simpa using iw⟩
     have iO:(iC t (bE t.ay s.set) s.bF [] (ax t s.aj).1)=([],4):=(by rw[AT,jM,iC,if_neg hE,if_pos hF])
     have aV:eS t s=(t,0,4):=(by unfold eS;rw[if_neg hA,if_neg hB,if_neg hC,if_neg hD,iO,if_pos w8])
     exact xT
    exact Yh
   refine bu [0,3,6,9,10,13,70,71,72,102] ?_;refine gm ?_;exact Yh
  rintro _ ⟨oB,rfl⟩;refine dw 2 ?_;refine ey (cu 0 [_]) [.int .i64 0,.int .i64 0,.string ⟨#[]⟩] [_,_,_] zeroValue56 runUnderlying40 sizeOf56 (fun aq6=>?_);refine fD 0 105 3 1 ?_;refine OD.eG (ls:=acc) (new:=[(fA t.ay (rowAt t ((ax t s.aj).1[k]'aa)) s.bF).1]) (Sq:=Sx) fG F2 aq rfl rfl underlying40 abr rfl w8 ot dP (tX (A:=[_,_,_]) (S1:=[⟨br,40,cap*1,L.flatMap gR⟩]) (S2:=Sx) (S3:=L.flatMap bR)) ot bq me mg (fun M4 L1 aiZ ai0=>?_);refine OD.perm (wU (S2:=[⟨M4,56,L1*3,flatMap cV (acc++[(fA t.ay (rowAt t ((ax t s.aj).1[k]'aa)) s.bF).1])⟩]) (A:=[_,_,_])) ?_;refine an 205 [0,3,6,9,10,70,71,72] ?_;refine bM [0,3,6,9,10,70,71,72] ?_;refine⟨((k+1),(acc++[(fA t.ay (rowAt t ((ax t s.aj).1[k]'aa)) s.bF).1]),(some ⟨M4,0,none⟩),L1,[⟨M4,56,L1*3,flatMap cV (acc++[(fA t.ay (rowAt t ((ax t s.aj).1[k]'aa)) s.bF).1])⟩]),_,cn,aI,w4,vW,oB,(bJ aiZ ai0),rfl⟩
 have Eu:(iC t (bE t.ay s.set) s.bF [] (ax t s.aj).1)=(acc,0):=(by rw[AT,drop_of_length_le w4];rfl)
 have hN:¬(iC t (bE t.ay s.set) s.bF [] (ax t s.aj).1).2≠0:=(by rw[Eu];exact fun h=>h rfl)
 have pE:acc.length=(ax t s.aj).1.length:=(by omega)
 have XB:=JX g q8 G2 (c:=(bE t.ay s.set)) (by rw[<-g.ay];exact Classical.not_not.1 hB) (ax t s.aj).1 [] O (Classical.not_not.1 hN) (fun v hv=>by cases hv);rw[Eu] at XB;have hl4:∀i∈(ax t s.aj).1,∃h:i.toNat<L.length,L[i.toNat].r.length=4:=fun i hi=>by obtain⟨h0,h1,h2⟩:=O i hi;have:=(fh.ok g (O i hi)).1;rw[iS h1] at this;exact⟨by omega,by rw[G1 hL w4 h1];exact this⟩
 have hl5:∀i∈(ax t s.aj).1,∃h:i.toNat<L.length,Pc.dY dF L[i.toNat].r=0/\∀v∈L[i.toNat].r,v.Ok:=fun i hi=>by obtain⟨h0,h1,h2⟩:=O i hi;obtain⟨p1,p2,_⟩:=g.row _ h1 h2;exact⟨by omega,by rw[G1 hL w4 h1];exact⟨p1,p2⟩⟩
 refine CD.exit ?_;refine CD.seq ?_;refine CD.seq ?_;refine CD.gK (t:=10) (Sq:=Sx) lk dP (cm fG _) (tX (A:=[_,_])) ?_;refine tE ?_;refine bu [0,6,9,10,109] ?_;refine au ?_ ?_<;>intro iy mF
 ·have hP:0<(bE t.ay s.set):=(by simpa using iy)
  refine af [0,6,9,10,110,111,112] ?_;refine ew [0,6,9,10,110,111] (fun aS _ (aO:Nat×List cl) aE=>match aO with|(k,M)=>(k<=(ax t s.aj).1.length)/\(eH (bE t.ay s.set).toNat {t with rows:=M.map cl.r} ((ax t s.aj).1.drop k) (acc.drop k)=eH (bE t.ay s.set).toNat t (ax t s.aj).1 acc)/\(∀o∈M,oD o)/\(sZ M ad cap Sr)/\(M.length=t.rows.length)/\(∀i∈(ax t s.aj).1,∃h:i.toNat<M.length,M[i.toNat].r.length=4)/\aE=(⟨205,(112,ae (k:Nat))::aS,(⟨b3,44,12,aY s⟩::⟨bt,68,Z,pre++([bg t.nm,ap 2 cC t.ay,aT ad t.rows.length cap,ap 5 cP t.ix.ag,ae t.ix.root]++post)⟩::(Sr++M.flatMap bR))⟩:St)) (fun (aO:Nat×List cl)=>match aO with|(k,M)=>(ax t s.aj).1.length-k) (0,L) ⟨(Nat.zero_le _),(by rw[hL];rfl),aW,eW,rW,hl4,rfl⟩ ?_;rintro⟨k,M⟩ _ ⟨cM,XC,I,wF,vT,ZN,rfl⟩;refine af [0,6,9,10,110,111,112,113] ?_;refine au ?_ ?_<;>intro qk CN
  ·have aa:k<(ax t s.aj).1.length:=(by omega)
   have dx:k<acc.length:=(by omega)
   have jM:(ax t s.aj).1.drop k=((ax t s.aj).1[k]'aa)::(ax t s.aj).1.drop (k+1):=drop_eq_getElem_cons aa;have lQ:acc.drop k=(acc[k]'dx)::acc.drop (k+1):=drop_eq_getElem_cons dx;obtain⟨iu,eT,oA⟩:=O _ (getElem_mem aa);obtain⟨gi,U⟩:=ZN _ (getElem_mem aa);obtain⟨br,rfl,rZ,qs,rfl⟩:=wF.pos w4;obtain⟨E,yV,Dk,Ev,Pg⟩:=(I _ (getElem_mem gi)).pos w4;have kr:∀o∈(M.set ((ax t s.aj).1[k]'aa).toNat (⟨M[((ax t s.aj).1[k]'aa).toNat].r.set (bE t.ay s.set).toNat (acc[k]'dx),some ⟨E,0,none⟩,M[((ax t s.aj).1[k]'aa).toNat].cap,[⟨E,56,M[((ax t s.aj).1[k]'aa).toNat].cap*3,(M[((ax t s.aj).1[k]'aa).toNat].r.set (bE t.ay s.set).toNat (acc[k]'dx)).flatMap cV⟩]⟩:cl)),oD o:=fun o ho=>by rcases mem_or_eq_of_mem_set ho with h|h;exact I o h;rw[h];exact bJ (g:=cV) Gz Ev
   have Pj:(M.set ((ax t s.aj).1[k]'aa).toNat (⟨M[((ax t s.aj).1[k]'aa).toNat].r.set (bE t.ay s.set).toNat (acc[k]'dx),some ⟨E,0,none⟩,M[((ax t s.aj).1[k]'aa).toNat].cap,[⟨E,56,M[((ax t s.aj).1[k]'aa).toNat].cap*3,(M[((ax t s.aj).1[k]'aa).toNat].r.set (bE t.ay s.set).toNat (acc[k]'dx)).flatMap cV⟩]⟩:cl)).flatMap gR=M.flatMap gR:=KP M _ gi _ (by show[D.v (.slice _ (M[((ax t s.aj).1[k]'aa).toNat].r.set (bE t.ay s.set).toNat (acc[k]'dx)).length _)]=[D.v (.slice _ _ _)];rw[length_set,yV]);have Da:sZ (M.set ((ax t s.aj).1[k]'aa).toNat (⟨M[((ax t s.aj).1[k]'aa).toNat].r.set (bE t.ay s.set).toNat (acc[k]'dx),some ⟨E,0,none⟩,M[((ax t s.aj).1[k]'aa).toNat].cap,[⟨E,56,M[((ax t s.aj).1[k]'aa).toNat].cap*3,(M[((ax t s.aj).1[k]'aa).toNat].r.set (bE t.ay s.set).toNat (acc[k]'dx)).flatMap cV⟩]⟩:cl)) (some ⟨br,0,none⟩) cap [⟨br,40,cap*1,M.flatMap gR⟩]:=(by rw[<-Pj];exact bJ (by rw[length_set];exact rZ) qs)
   have alH:∀i∈(ax t s.aj).1,∃h:i.toNat<(M.set ((ax t s.aj).1[k]'aa).toNat (⟨M[((ax t s.aj).1[k]'aa).toNat].r.set (bE t.ay s.set).toNat (acc[k]'dx),some ⟨E,0,none⟩,M[((ax t s.aj).1[k]'aa).toNat].cap,[⟨E,56,M[((ax t s.aj).1[k]'aa).toNat].cap*3,(M[((ax t s.aj).1[k]'aa).toNat].r.set (bE t.ay s.set).toNat (acc[k]'dx)).flatMap cV⟩]⟩:cl)).length,(M.set ((ax t s.aj).1[k]'aa).toNat (⟨M[((ax t s.aj).1[k]'aa).toNat].r.set (bE t.ay s.set).toNat (acc[k]'dx),some ⟨E,0,none⟩,M[((ax t s.aj).1[k]'aa).toNat].cap,[⟨E,56,M[((ax t s.aj).1[k]'aa).toNat].cap*3,(M[((ax t s.aj).1[k]'aa).toNat].r.set (bE t.ay s.set).toNat (acc[k]'dx)).flatMap cV⟩]⟩:cl))[i.toNat].r.length=4:=fun i hi=>by obtain⟨h1,h2⟩:=ZN i hi;refine⟨by rw[length_set];exact h1,?_⟩;rw[getElem_set];split;(show(M[((ax t s.aj).1[k]'aa).toNat].r.set (bE t.ay s.set).toNat (acc[k]'dx)).length=4;rw[length_set];exact U);exact h2
   have ai1:eH (bE t.ay s.set).toNat {t with rows:=(M.set ((ax t s.aj).1[k]'aa).toNat (⟨M[((ax t s.aj).1[k]'aa).toNat].r.set (bE t.ay s.set).toNat (acc[k]'dx),some ⟨E,0,none⟩,M[((ax t s.aj).1[k]'aa).toNat].cap,[⟨E,56,M[((ax t s.aj).1[k]'aa).toNat].cap*3,(M[((ax t s.aj).1[k]'aa).toNat].r.set (bE t.ay s.set).toNat (acc[k]'dx)).flatMap cV⟩]⟩:cl)).map cl.r} ((ax t s.aj).1.drop (k+1)) (acc.drop (k+1))=eH (bE t.ay s.set).toNat t (ax t s.aj).1 acc:=(by rw[<-XC,jM,lQ,eH];congr 1;exact(UT (x:=t.ix) gi rfl).symm)
   refine CD.perm (Ts gi Pg) ?_;refine af [0,6,9,10,15,16,110,111,112] ?_;refine nk 12 [0,6,9,10,110,111,112,123,124,128] ?_;refine aR 3 ?_ (h:=by exact(ph 2));refine aR 1 ?_ (h:=G7);refine aR 0 ?_ (h:=by exact(dz (mk:=Op.load 40) rfl ot (jj (k:=3) (i:=((ax t s.aj).1[k]'aa).toNat) (ls:=M) (d:=aT (some ⟨E,0,none⟩) M[((ax t s.aj).1[k]'aa).toNat].r.length M[((ax t s.aj).1[k]'aa).toNat].cap) vu rfl rfl rfl isAgg40 gi (by rw[<-yV];rfl))));refine bA ?_;refine bN (dL 3 (h:=by first|exact .l (j:=(bE t.ay s.set).toNat) (Int.toNat_of_nonneg w4).symm (by rw[U];omega)|exact .r (j:=(bE t.ay s.set).toNat) (Int.toNat_of_nonneg w4).symm (by rw[U];omega))) ?_;refine OD.storeAt (k:=0) (cs':=(M[((ax t s.aj).1[k]'aa).toNat].r.set (bE t.ay s.set).toNat (acc[k]'dx)).flatMap cV) aq rfl rfl ot rfl rfl ot rfl rfl sizeOf56 rfl (by show 0+(bE t.ay s.set).toNat*3+3<=(M[((ax t s.aj).1[k]'aa).toNat].r.flatMap cV).length;rw[cm fG,U];omega) (by show dh (M[((ax t s.aj).1[k]'aa).toNat].r.flatMap cV) (0+(bE t.ay s.set).toNat*3) (cV (acc[k]'dx))=_;rw[Nat.zero_add];exact nX fG _ _ (by rw[U];omega)) ?_;refine an 205 [0,6,9,10,110,111,112] ?_;refine dw 1 ?_
   refine OD.perm (US gi (o:=(⟨M[((ax t s.aj).1[k]'aa).toNat].r.set (bE t.ay s.set).toNat (acc[k]'dx),some ⟨E,0,none⟩,M[((ax t s.aj).1[k]'aa).toNat].cap,[⟨E,56,M[((ax t s.aj).1[k]'aa).toNat].cap*3,(M[((ax t s.aj).1[k]'aa).toNat].r.set (bE t.ay s.set).toNat (acc[k]'dx)).flatMap cV⟩]⟩:cl)) rfl) ?_;refine an 205 [0,6,9,10,110,111,112] ?_;refine⟨((k+1),(M.set ((ax t s.aj).1[k]'aa).toNat (⟨M[((ax t s.aj).1[k]'aa).toNat].r.set (bE t.ay s.set).toNat (acc[k]'dx),some ⟨E,0,none⟩,M[((ax t s.aj).1[k]'aa).toNat].cap,[⟨E,56,M[((ax t s.aj).1[k]'aa).toNat].cap*3,(M[((ax t s.aj).1[k]'aa).toNat].r.set (bE t.ay s.set).toNat (acc[k]'dx)).flatMap cV⟩]⟩:cl))),_,cn,aI,w4,ai1,kr,Da,(by rw[length_set];exact vT),alH,rfl⟩
  have ai3:eH (bE t.ay s.set).toNat t (ax t s.aj).1 acc={t with rows:=M.map cl.r}:=(by rw[<-XC,drop_of_length_le (l:=(ax t s.aj).1) w4,aeN])
  have aV:eS t s=({t with rows:=M.map cl.r},((ax t s.aj).1.length:Int),0):=(by unfold eS;rw[if_neg hA,if_neg hB,if_neg hC,if_neg hD,if_neg hN,if_pos hP,Eu,ai3])
  refine af [4,5] ?_;refine aK (⟨bt,68,Z,pre++(_++post)⟩::(Sr++M.flatMap bR)) ?_;rw[aV];exact⟨rfl,fun _=>⟨M,ad,cap,Sr,⟨rfl,I,wF⟩,by simp only[tC,length_map,vT]⟩⟩
 have hP:¬0<(bE t.ay s.set):=(by simpa using iy)
 have yW:(bE t.ay s.set)=0:=(by omega)
 refine af [0,9,10,133,134,135] ?_;refine ew [0,9,10,133,134] (fun aS _ (aO:Nat×aF) aE=>match aO with|(k,x)=>(k<=(ax t s.aj).1.length)/\(nD t x ((ax t s.aj).1.drop k)=nD t t.ix (ax t s.aj).1)/\(iJ x n)/\(∀i∈(ax t s.aj).1.drop k,(cg (rowAt t i),i)∈dg x)/\aE=(⟨205,(135,ae (k:Nat))::aS,(⟨b3,44,12,aY s⟩::⟨bt,68,Z,pre++([bg t.nm,ap 2 cC t.ay,aT ad t.rows.length cap,ap 5 cP x.ag,ae x.root]++post)⟩::(Sr++L.flatMap bR))⟩:St)) (fun (aO:Nat×aF)=>match aO with|(k,x)=>(ax t s.aj).1.length-k) (0,t.ix) ⟨(Nat.zero_le _),rfl,g.ix,(fun i hi=>(O i hi).gH g),rfl⟩ ?_;rintro⟨k,x⟩ _ ⟨eD,M5,gx,yM,rfl⟩;refine af [0,9,10,133,134,135,136] ?_;refine au ?_ ?_<;>intro uS CP
 ·have aa:k<(ax t s.aj).1.length:=(by omega)
  have jM:(ax t s.aj).1.drop k=((ax t s.aj).1[k]'aa)::(ax t s.aj).1.drop (k+1):=drop_eq_getElem_cons aa;have Be:fh t ((ax t s.aj).1[k]'aa):=O _ (getElem_mem aa);obtain⟨iu,eT,oA⟩:=id Be;have gi:((ax t s.aj).1[k]'aa).toNat<L.length:=(by rw[rW];exact eT)
  obtain⟨br,rfl,rZ,qs,rfl⟩:=eW.pos w4;have wG:L[((ax t s.aj).1[k]'aa).toNat].r=rowAt t ((ax t s.aj).1[k]'aa):=(by rw[iS eT];exact(G1 hL gi eT))
  obtain⟨ZL,Et⟩:=fh.ok g Be;have XD:=Li (G:=G) hG L[((ax t s.aj).1[k]'aa).toNat].r (by rw[wG];omega) (by rw[wG];omega) (by rw[wG];exact fun v hv=>(Et v hv).1);rw[show cg L[((ax t s.aj).1[k]'aa).toNat].r=cg (rowAt t ((ax t s.aj).1[k]'aa)) from by rw[wG]] at XD;have gG:=yM _ (by rw[jM];exact mem_cons_self);have ZO:=JS gx ((Br gx.val _).2 ⟨_,gG⟩);have yU:=Tf (G:=G) gx (cg (rowAt t ((ax t s.aj).1[k]'aa)));rw[UE gx (vn (by rw[iS eT];exact(g.row _ eT oA).1)) ((Bs gx _).2 ⟨_,gG⟩)] at yU;unfold Tw.cT at yU;have ai4:nD t (gY x (c9 x) (cg (rowAt t ((ax t s.aj).1[k]'aa)))) ((ax t s.aj).1.drop (k+1))=nD t t.ix (ax t s.aj).1:=(by rw[<-M5,jM];rfl)
  have alI:∀i∈(ax t s.aj).1.drop (k+1),(cg (rowAt t i),i)∈dg (gY x (c9 x) (cg (rowAt t ((ax t s.aj).1[k]'aa)))):=fun i hi=>by refine(ZO.2 _).2 ⟨yM i (by rw[jM];exact mem_cons_of_mem _ hi),fun e=>?_⟩;have h9:=hnd.sublist (drop_sublist k _);rw[jM,nodup_cons] at h9;have h8:=BN g.ix ((O i (mem_of_mem_drop hi)).gH g) (Be.gH g) e;simp only[Prod.mk.injEq] at h8;exact h9.1 (h8.2 ▸ hi)
  refine af [0,9,10,18,133,134,135] ?_;refine nk 17 [0,9,10,133,134,135,140,154] ?_;refine aR 4 ?_ (h:=by exact(x7 1));refine aR 3 ?_ (h:=by exact(ph 1));refine aR 1 ?_ (h:=Nj);refine aR 0 ?_ (h:=by exact(dz (mk:=Op.load 40) rfl ot (jj (k:=2) (i:=((ax t s.aj).1[k]'aa).toNat) (ls:=L) vu rfl rfl rfl isAgg40 gi rfl)));refine Am (XD) (fun r S h=>h.flat) (fun r S h=>h.view) (ha:=by exact⟨⟨_,ot,(Tq aW gi (fun B hB=>by repeat (first|exact hB|apply mem_append_right|apply mem_cons_of_mem)))⟩,trivial⟩) (K:=?_);refine cf (yU) ?_;refine bA ?_;refine aH 2 ?_;refine OD.storeAt (k:=1) (cs':=pre++([bg t.nm,ap 2 cC t.ay,aT (some ⟨br,0,none⟩) t.rows.length cap,.list 5 ((gY x (c9 x) (cg (rowAt t ((ax t s.aj).1[k]'aa)))).ag.flatMap cP) (gY x (c9 x) (cg (rowAt t ((ax t s.aj).1[k]'aa)))).ag.length,ae (gY x (c9 x) (cg (rowAt t ((ax t s.aj).1[k]'aa)))).root]++post)) aq rfl rfl ot rfl rfl ot rfl rfl sizeOf66 rfl (by show off+3+2<=(pre++(([bg t.nm,ap 2 cC t.ay,aT (some ⟨br,0,none⟩) t.rows.length cap,ap 5 cP x.ag,ae x.root]:List D)++post)).length;simp only[length_append,length_cons,length_nil];omega) (by exact BY (j:=3) hp aU rfl) ?_;refine an 205 [0,9,10,133,134,135] ?_;refine bM [0,9,10,133,134,135] ?_;refine⟨((k+1),(gY x (c9 x) (cg (rowAt t ((ax t s.aj).1[k]'aa))))),_,cn,aI,w4,ai4,ZO.1,alI,rfl⟩
 have Pb:nD t t.ix (ax t s.aj).1=x:=(by rw[<-M5,drop_of_length_le w4];rfl)
 clear M5 yM;skip;refine af [0,9,10,159,160,161] ?_;refine ew [0,9,10,159,160] (fun aS _ (aO:Nat×List cl×aF) aE=>match aO with|(k,M,y)=>(k<=(ax t s.aj).1.length)/\(gd {t with rows:=M.map cl.r,ix:=y} ((ax t s.aj).1.drop k) (acc.drop k)=gd {t with ix:=nD t t.ix (ax t s.aj).1} (ax t s.aj).1 acc)/\(∀o∈M,oD o)/\(sZ M ad cap Sr)/\(M.length=t.rows.length)/\(∀i∈(ax t s.aj).1,∃h:i.toNat<M.length,Pc.dY dF M[i.toNat].r=0/\∀v∈M[i.toNat].r,v.Ok)/\(iJ y (n+k))/\aE=(⟨205,(161,ae (k:Nat))::aS,(⟨b3,44,12,aY s⟩::⟨bt,68,Z,pre++([bg t.nm,ap 2 cC t.ay,aT ad t.rows.length cap,ap 5 cP y.ag,ae y.root]++post)⟩::(Sr++M.flatMap bR))⟩:St)) (fun (aO:Nat×List cl×aF)=>match aO with|(k,M,y)=>(ax t s.aj).1.length-k) (0,L,x) ⟨(Nat.zero_le _),(by rw[hL,Pb];rfl),aW,eW,rW,hl5,gx,rfl⟩ ?_;rintro⟨k,M,y⟩ _ ⟨cM,Bf,I,wF,vT,ZP,gy,rfl⟩;refine af [0,9,10,159,160,161,162] ?_;refine au ?_ ?_<;>intro GR Gm
 ·have aa:k<(ax t s.aj).1.length:=(by omega)
  have dx:k<acc.length:=(by omega)
  have jM:(ax t s.aj).1.drop k=((ax t s.aj).1[k]'aa)::(ax t s.aj).1.drop (k+1):=drop_eq_getElem_cons aa;have lQ:acc.drop k=(acc[k]'dx)::acc.drop (k+1):=drop_eq_getElem_cons dx;obtain⟨iu,eT,oA⟩:=O _ (getElem_mem aa);obtain⟨gi,ZQ,hx6⟩:=ZP _ (getElem_mem aa);have U:=oN ZQ;obtain⟨alJ,XE,alK⟩:=XB _ (getElem_mem dx);have yT:(acc[k]'dx).k≠0/\ko (dF[0]'w8).k (acc[k]'dx):=(by have h1:=alK yW;refine⟨h1,XE.1,?_⟩;have h2:=XE.2;have alL:bE dF s.set=0:=(by rw[<-g.ay];exact yW);have ZR:=hC;simp only[g.ay,alL] at ZR;have h3:(eu dF s.bF).1=(dF[0]'w8).k\/(eu dF s.bF).1=0:=(Classical.em ((eu dF s.bF).1=(dF[0]'w8).k)).imp id fun h=>Classical.not_not.1 fun h'=>ZR ⟨h,h'⟩;omega)
  obtain⟨br,rfl,rZ,qs,rfl⟩:=wF.pos w4;obtain⟨E,yV,Dk,Ev,Pg⟩:=(I _ (getElem_mem gi)).pos w4;have kr:∀o∈(M.set ((ax t s.aj).1[k]'aa).toNat (⟨M[((ax t s.aj).1[k]'aa).toNat].r.set 0 (acc[k]'dx),some ⟨E,0,none⟩,M[((ax t s.aj).1[k]'aa).toNat].cap,[⟨E,56,M[((ax t s.aj).1[k]'aa).toNat].cap*3,(M[((ax t s.aj).1[k]'aa).toNat].r.set 0 (acc[k]'dx)).flatMap cV⟩]⟩:cl)),oD o:=fun o ho=>by rcases mem_or_eq_of_mem_set ho with h|h;exact I o h;rw[h];exact bJ (g:=cV) Gz Ev
  have Pj:(M.set ((ax t s.aj).1[k]'aa).toNat (⟨M[((ax t s.aj).1[k]'aa).toNat].r.set 0 (acc[k]'dx),some ⟨E,0,none⟩,M[((ax t s.aj).1[k]'aa).toNat].cap,[⟨E,56,M[((ax t s.aj).1[k]'aa).toNat].cap*3,(M[((ax t s.aj).1[k]'aa).toNat].r.set 0 (acc[k]'dx)).flatMap cV⟩]⟩:cl)).flatMap gR=M.flatMap gR:=KP M _ gi _ (by show[D.v (.slice _ (M[((ax t s.aj).1[k]'aa).toNat].r.set 0 (acc[k]'dx)).length _)]=[D.v (.slice _ _ _)];rw[length_set,yV]);have Da:sZ (M.set ((ax t s.aj).1[k]'aa).toNat (⟨M[((ax t s.aj).1[k]'aa).toNat].r.set 0 (acc[k]'dx),some ⟨E,0,none⟩,M[((ax t s.aj).1[k]'aa).toNat].cap,[⟨E,56,M[((ax t s.aj).1[k]'aa).toNat].cap*3,(M[((ax t s.aj).1[k]'aa).toNat].r.set 0 (acc[k]'dx)).flatMap cV⟩]⟩:cl)) (some ⟨br,0,none⟩) cap [⟨br,40,cap*1,M.flatMap gR⟩]:=(by rw[<-Pj];exact bJ (by rw[length_set];exact rZ) qs)
  have Wj:Pc.dY dF (M[((ax t s.aj).1[k]'aa).toNat].r.set 0 (acc[k]'dx))=0:=UR ZQ w8 yT.2 (fun _=>yT.1);have x6:∀v∈M[((ax t s.aj).1[k]'aa).toNat].r.set 0 (acc[k]'dx),v.Ok:=fun v hv=>by rcases mem_or_eq_of_mem_set hv with h|h;exact hx6 v h;rw[h];exact alJ
  have alM:∀i∈(ax t s.aj).1,∃h:i.toNat<(M.set ((ax t s.aj).1[k]'aa).toNat (⟨M[((ax t s.aj).1[k]'aa).toNat].r.set 0 (acc[k]'dx),some ⟨E,0,none⟩,M[((ax t s.aj).1[k]'aa).toNat].cap,[⟨E,56,M[((ax t s.aj).1[k]'aa).toNat].cap*3,(M[((ax t s.aj).1[k]'aa).toNat].r.set 0 (acc[k]'dx)).flatMap cV⟩]⟩:cl)).length,Pc.dY dF (M.set ((ax t s.aj).1[k]'aa).toNat (⟨M[((ax t s.aj).1[k]'aa).toNat].r.set 0 (acc[k]'dx),some ⟨E,0,none⟩,M[((ax t s.aj).1[k]'aa).toNat].cap,[⟨E,56,M[((ax t s.aj).1[k]'aa).toNat].cap*3,(M[((ax t s.aj).1[k]'aa).toNat].r.set 0 (acc[k]'dx)).flatMap cV⟩]⟩:cl))[i.toNat].r=0/\∀v∈(M.set ((ax t s.aj).1[k]'aa).toNat (⟨M[((ax t s.aj).1[k]'aa).toNat].r.set 0 (acc[k]'dx),some ⟨E,0,none⟩,M[((ax t s.aj).1[k]'aa).toNat].cap,[⟨E,56,M[((ax t s.aj).1[k]'aa).toNat].cap*3,(M[((ax t s.aj).1[k]'aa).toNat].r.set 0 (acc[k]'dx)).flatMap cV⟩]⟩:cl))[i.toNat].r,v.Ok:=fun i hi=>by obtain⟨h1,h2⟩:=ZP i hi;refine⟨by rw[length_set];exact h1,?_⟩;rw[getElem_set];split;exact⟨Wj,x6⟩;exact h2
  have eo:=vn Wj;have XF:=Li (G:=G) hG (M[((ax t s.aj).1[k]'aa).toNat].r.set 0 (acc[k]'dx)) uE uE x6;have Ew:=JT (G:=G) gy (cg (M[((ax t s.aj).1[k]'aa).toNat].r.set 0 (acc[k]'dx))) ((ax t s.aj).1[k]'aa);unfold Tw.cT at Ew
  have XG:gd {t with ix:=nD t t.ix (ax t s.aj).1} (ax t s.aj).1 acc=if gS y (cg (M[((ax t s.aj).1[k]'aa).toNat].r.set 0 (acc[k]'dx))) (c9 y)=true then ({t with rows:=M.map cl.r,ix:=y},9) else gd {t with rows:=(M.set ((ax t s.aj).1[k]'aa).toNat (⟨M[((ax t s.aj).1[k]'aa).toNat].r.set 0 (acc[k]'dx),some ⟨E,0,none⟩,M[((ax t s.aj).1[k]'aa).toNat].cap,[⟨E,56,M[((ax t s.aj).1[k]'aa).toNat].cap*3,(M[((ax t s.aj).1[k]'aa).toNat].r.set 0 (acc[k]'dx)).flatMap cV⟩]⟩:cl)).map cl.r,ix:=(gF y (c9 y) (cg (M[((ax t s.aj).1[k]'aa).toNat].r.set 0 (acc[k]'dx))) ((ax t s.aj).1[k]'aa))} ((ax t s.aj).1.drop (k+1)) (acc.drop (k+1)):=by rw[<-Bf,jM,lQ,gd,UT (o:=(⟨M[((ax t s.aj).1[k]'aa).toNat].r.set 0 (acc[k]'dx),some ⟨E,0,none⟩,M[((ax t s.aj).1[k]'aa).toNat].cap,[⟨E,56,M[((ax t s.aj).1[k]'aa).toNat].cap*3,(M[((ax t s.aj).1[k]'aa).toNat].r.set 0 (acc[k]'dx)).flatMap cV⟩]⟩:cl)) gi rfl,Rv ye,show((M.set ((ax t s.aj).1[k]'aa).toNat (⟨M[((ax t s.aj).1[k]'aa).toNat].r.set 0 (acc[k]'dx),some ⟨E,0,none⟩,M[((ax t s.aj).1[k]'aa).toNat].cap,[⟨E,56,M[((ax t s.aj).1[k]'aa).toNat].cap*3,(M[((ax t s.aj).1[k]'aa).toNat].r.set 0 (acc[k]'dx)).flatMap cV⟩]⟩:cl))[((ax t s.aj).1[k]'aa).toNat]'ye)=(⟨M[((ax t s.aj).1[k]'aa).toNat].r.set 0 (acc[k]'dx),some ⟨E,0,none⟩,M[((ax t s.aj).1[k]'aa).toNat].cap,[⟨E,56,M[((ax t s.aj).1[k]'aa).toNat].cap*3,(M[((ax t s.aj).1[k]'aa).toNat].r.set 0 (acc[k]'dx)).flatMap cV⟩]⟩:cl) from getElem_set_self _]
  refine CD.perm (Ts gi Pg) ?_;refine af [0,9,10,19,20,159,160,161] ?_;refine CD.seq ?_;refine nk 11 [0,9,10,20,159,160,161,172,176] ?_;refine aR 3 ?_ (h:=by exact(ph 2));refine aR 1 ?_ (h:=G7);refine aR 0 ?_ (h:=by exact(dz (mk:=Op.load 40) rfl ot (jj (k:=3) (i:=((ax t s.aj).1[k]'aa).toNat) (ls:=M) (d:=aT (some ⟨E,0,none⟩) M[((ax t s.aj).1[k]'aa).toNat].r.length M[((ax t s.aj).1[k]'aa).toNat].cap) vu rfl rfl rfl isAgg40 gi (by rw[<-yV];rfl))));refine bA ?_;refine bN (nV (mk:=Op.indexAddr 40) rfl ot bV (by first|exact oF runUnderlying40 sizeOf56 (j:=0) rfl (by rw[U];decide)|exact oI runUnderlying40 sizeOf56 (j:=0) rfl (by rw[U];decide))) ?_;refine OD.storeAt (k:=0) (cs':=(M[((ax t s.aj).1[k]'aa).toNat].r.set 0 (acc[k]'dx)).flatMap cV) aq rfl rfl ot rfl rfl ot rfl rfl sizeOf56 rfl (by show 0+0*3+3<=(M[((ax t s.aj).1[k]'aa).toNat].r.flatMap cV).length;rw[cm fG,U];omega) (by show dh (M[((ax t s.aj).1[k]'aa).toNat].r.flatMap cV) (0+0*3) (cV (acc[k]'dx))=_;rw[Nat.zero_add];exact nX fG _ _ (by rw[U];omega)) ?_;refine an 205 [0,9,10,20,159,160,161] ?_;refine CD.seq ?_;rcases gG:gS y (cg (M[((ax t s.aj).1[k]'aa).toNat].r.set 0 (acc[k]'dx))) (c9 y) with _|_
  ·rw[Lg gy w4 eo iu gG] at Ew;have gy2:iJ (gF y (c9 y) (cg (M[((ax t s.aj).1[k]'aa).toNat].r.set 0 (acc[k]'dx))) ((ax t s.aj).1[k]'aa)) (n+(k+1)):=(BH gy w4 ((BI gy).1 gG) eo iu).1;have alN:gd {t with rows:=(M.set ((ax t s.aj).1[k]'aa).toNat (⟨M[((ax t s.aj).1[k]'aa).toNat].r.set 0 (acc[k]'dx),some ⟨E,0,none⟩,M[((ax t s.aj).1[k]'aa).toNat].cap,[⟨E,56,M[((ax t s.aj).1[k]'aa).toNat].cap*3,(M[((ax t s.aj).1[k]'aa).toNat].r.set 0 (acc[k]'dx)).flatMap cV⟩]⟩:cl)).map cl.r,ix:=(gF y (c9 y) (cg (M[((ax t s.aj).1[k]'aa).toNat].r.set 0 (acc[k]'dx))) ((ax t s.aj).1[k]'aa))} ((ax t s.aj).1.drop (k+1)) (acc.drop (k+1))=gd {t with ix:=nD t t.ix (ax t s.aj).1} (ax t s.aj).1 acc:=(by rw[XG,if_neg yh])
   refine qR 18 17 [0,9,10,21,159,160,161,193,194] ?_;refine aR 3 ?_ (h:=by exact(x7 2));refine aR 3 ?_ (h:=by exact(ph 2));refine aR 1 ?_ (h:=G7);refine aR 0 ?_ (h:=by exact(dz (mk:=Op.load 40) rfl ot (jj (k:=3) (i:=((ax t s.aj).1[k]'aa).toNat) (ls:=M) (d:=aT (some ⟨E,0,none⟩) (M[((ax t s.aj).1[k]'aa).toNat].r.set 0 (acc[k]'dx)).length M[((ax t s.aj).1[k]'aa).toNat].cap) vu rfl rfl rfl isAgg40 gi (by rw[<-yV,length_set];rfl))));refine Am (XF) (fun r S h=>h.flat) (fun r S h=>h.view) (ha:=by exact⟨⟨_,ot,(lU (bJ (g:=cV) Gz Ev) (cm fG _) (fun B hB=>by rw[mem_singleton] at hB;rw[hB];exact mem_cons_self))⟩,trivial⟩) (K:=?_);refine cf (Ew) ?_;refine kK 3 ?_;refine mo ?_;refine iz ?_;refine⟨rfl,fun DN=>?_⟩;refine aP 0 [_,_] sizeOf66 ?_;refine an 205 [0,9,10,21,22,159,160,161] ?_;refine af [0,9,10,21,22,159,160,161,196] ?_;refine au ?_ ?_<;>intro vH Ga
   ·exact absurd vH (by simp at vH)
   refine dw 4 ?_;refine OD.storeAt (k:=3) (cs':=pre++([bg t.nm,ap 2 cC t.ay,aT (some ⟨br,0,none⟩) t.rows.length cap,.list 5 ((gF y (c9 y) (cg (M[((ax t s.aj).1[k]'aa).toNat].r.set 0 (acc[k]'dx))) ((ax t s.aj).1[k]'aa)).ag.flatMap cP) (gF y (c9 y) (cg (M[((ax t s.aj).1[k]'aa).toNat].r.set 0 (acc[k]'dx))) ((ax t s.aj).1[k]'aa)).ag.length,ae (gF y (c9 y) (cg (M[((ax t s.aj).1[k]'aa).toNat].r.set 0 (acc[k]'dx))) ((ax t s.aj).1[k]'aa)).root]++post)) aq rfl rfl ot rfl rfl ot rfl rfl sizeOf66 rfl (by show off+3+2<=(pre++(([bg t.nm,ap 2 cC t.ay,aT (some ⟨br,0,none⟩) t.rows.length cap,ap 5 cP y.ag,ae y.root]:List D)++post)).length;simp only[length_append,length_cons,length_nil];omega) (by exact BY (j:=3) hp aU rfl) ?_;refine an 205 [0,9,10,159,160,161] ?_;refine dw 1 ?_;refine OD.perm ((US gi (o:=(⟨M[((ax t s.aj).1[k]'aa).toNat].r.set 0 (acc[k]'dx),some ⟨E,0,none⟩,M[((ax t s.aj).1[k]'aa).toNat].cap,[⟨E,56,M[((ax t s.aj).1[k]'aa).toNat].cap*3,(M[((ax t s.aj).1[k]'aa).toNat].r.set 0 (acc[k]'dx)).flatMap cV⟩]⟩:cl)) rfl).cons _) ?_;refine an 205 [0,9,10,159,160,161] ?_
   refine⟨((k+1),(M.set ((ax t s.aj).1[k]'aa).toNat (⟨M[((ax t s.aj).1[k]'aa).toNat].r.set 0 (acc[k]'dx),some ⟨E,0,none⟩,M[((ax t s.aj).1[k]'aa).toNat].cap,[⟨E,56,M[((ax t s.aj).1[k]'aa).toNat].cap*3,(M[((ax t s.aj).1[k]'aa).toNat].r.set 0 (acc[k]'dx)).flatMap cV⟩]⟩:cl)),(gF y (c9 y) (cg (M[((ax t s.aj).1[k]'aa).toNat].r.set 0 (acc[k]'dx))) ((ax t s.aj).1[k]'aa))),_,cn,aI,w4,alN,kr,Da,(by rw[length_set];exact vT),alM,gy2,rfl⟩
  rw[afY gy eo iu gG] at Ew;have aV:eS t s=(t,0,9):=(by unfold eS;rw[if_neg hA,if_neg hB,if_neg hC,if_neg hD,if_neg hN,if_neg hP,Eu,XG,if_pos gG];exact if_pos (show(9:Int)≠0 by decide))
  refine qR 18 17 [0,9,10,21,159,160,161,193,194] ?_;refine aR 3 ?_ (h:=by exact(x7 2));refine aR 3 ?_ (h:=by exact(ph 2));refine aR 1 ?_ (h:=G7);refine aR 0 ?_ (h:=by exact(dz (mk:=Op.load 40) rfl ot (jj (k:=3) (i:=((ax t s.aj).1[k]'aa).toNat) (ls:=M) (d:=aT (some ⟨E,0,none⟩) (M[((ax t s.aj).1[k]'aa).toNat].r.set 0 (acc[k]'dx)).length M[((ax t s.aj).1[k]'aa).toNat].cap) vu rfl rfl rfl isAgg40 gi (by rw[<-yV,length_set];rfl))));refine Am (XF) (fun r S h=>h.flat) (fun r S h=>h.view) (ha:=by exact⟨⟨_,ot,(lU (bJ (g:=cV) Gz Ev) (cm fG _) (fun B hB=>by rw[mem_singleton] at hB;rw[hB];exact mem_cons_self))⟩,trivial⟩) (K:=?_);refine cf (Ew) ?_;refine kK 3 ?_;refine mo ?_;refine iz ?_;refine⟨rfl,fun DN=>?_⟩;refine aP 0 [_,_] sizeOf66 ?_;refine an 205 [0,9,10,21,22,159,160,161] ?_;refine af [0,9,10,21,22,159,160,161,196] ?_;refine au ?_ ?_<;>intro vH Ga
  ·exact xT
  exact absurd vH (by simp at vH)
 have ai5:gd {t with ix:=nD t t.ix (ax t s.aj).1} (ax t s.aj).1 acc=({t with rows:=M.map cl.r,ix:=y},0):=(by rw[<-Bf,drop_of_length_le (l:=(ax t s.aj).1) w4,acW])
 have aV:eS t s=({t with rows:=M.map cl.r,ix:=y},((ax t s.aj).1.length:Int),0):=(by unfold eS;rw[if_neg hA,if_neg hB,if_neg hC,if_neg hD,if_neg hN,if_neg hP,Eu,ai5];exact if_neg (fun h=>h rfl))
 refine af [4,5] ?_;refine aK (⟨bt,68,Z,pre++(_++post)⟩::(Sr++M.flatMap bR)) ?_;rw[aV];exact⟨rfl,fun _=>⟨M,ad,cap,Sr,⟨rfl,I,wF⟩,by simp only[tC,length_map,vT]⟩⟩

open Go.Proofs.YtbplamgacibdaaaGreatDoor.So
def Cr(p:(List (List Vl)×Int)×Int)(r:D)(S:List ah):Prop:=∃(L:List cl) (ad:Option Addr) (cap:Nat) (Sx:List ah),r = .da [.agg [aT ad L.length cap,ae p.1.2],ae p.2]/\sZ L ad cap Sx/\(∀o∈L,oD o)/\L.map cl.r=p.1.1/\S=Sx++L.flatMap bR
theorem Cr.view{r:D}(h:Cr p r S):View S r (yS p):=by
 obtain⟨L,ad,cap,Sx,rfl,ho,aW,hL,rfl⟩:=h;unfold yS;rw[<-hL];(first|rw[length_map]|(unfold ap;rw[length_map]))
 exact Fg ⟨vc ⟨Bn ho (FN aW fun B hB=>mem_append_right _ hB) (by rw[cm js,length_map]) (fun B hB=>mem_append_left _ hB),ff,trivial⟩,ff,trivial⟩
theorem ahF(l:List Vl):∀d∈l.flatMap cV,lf d=true:=fun d hd=>by
 obtain⟨v,_,hv⟩:=mem_flatMap.1 hd;unfold cV at hv;simp only[mem_cons,not_mem_nil,or_false] at hv;rcases hv with rfl|rfl|rfl<;>rfl
theorem ahG(l:List cl):∀d∈l.flatMap gR,lf d=true:=fun d hd=>by
 obtain⟨v,_,hv⟩:=mem_flatMap.1 hd;unfold gR at hv;rw[mem_singleton] at hv;subst hv;rfl
theorem Cr.flat{r:D}(h:Cr p r S):lf r=true/\∀B∈S,∀d∈B.cs,lf d=true:=by
 obtain⟨L,ad,cap,Sx,rfl,ho,aW,hL,rfl⟩:=h;refine⟨rfl,fun B hB=>?_⟩;rcases mem_append.1 hB with hB|hB
 ·rcases ho with ⟨_,_,_,_,rfl⟩|⟨b,_,_,_,rfl⟩
  ·cases hB
  rw[mem_singleton] at hB;subst hB;exact ahG L
 obtain⟨o,E,hB⟩:=mem_flatMap.1 hB;have h1:=aW o E;unfold bR at hB;rcases h1 with ⟨_,_,_,_,h2⟩|⟨b,_,_,_,h2⟩
 ·rw[h2] at hB;cases hB
 rw[h2,mem_singleton] at hB;subst hB;exact ahF o.r
theorem ahH(g:cQ t n)(s:bp):s6 t s<4:=by
 unfold s6;split
 ·decide
 have:=(Ln (l:=t.ay) (nm:=s.order)).2;rw[g.ay] at this |-;exact this
theorem ai6(g:cQ t n){names:List ByteArray}(h:∀n∈names,0<=bE t.ay n):∀c∈wD t names,0<=c/\c.toNat<4:=fun c hc=>by
 have h4:t.ay.length=4:=(by rw[g.ay];rfl)
 unfold wD at hc;split at hc
 ·obtain⟨i,hi,rfl⟩:=mem_map.1 hc;have:=mem_range.1 hi;constructor
  ·exact Int.natCast_nonneg i
  show i<4;omega
 obtain⟨x,hx,rfl⟩:=mem_map.1 hc;have:=(Ln (l:=t.ay) (nm:=x)).2;have:=h x hx;omega
theorem ai7(f:ah->Nat):(((L++[o]).flatMap bR).map f).sum=((L.flatMap bR).map f).sum+(o.S.map f).sum:=by
 rw[UH];simp only[bR,map_append,sum_append]
theorem Rw:(Tryz.prog.info? 3).map (fun i=>(i.zero,i.size,i.bytes))=some (some (.int .i64 0),1,8):=by kernel_rfl
theorem abt:(Tryz.prog.info? 40).map (fun i=>(i.zero,i.size,i.bytes))=some (some (.slice none 0 0),1,24):=by kernel_rfl
theorem abu:(Tryz.prog.info? 56).map (fun i=>(i.zero,i.size,i.bytes))=some (some (.agg #[.int .i64 0,.int .i64 0,.string ⟨#[]⟩]),3,32):=by kernel_rfl
theorem agh(hm:(3,marksC)∈G)(hw:(1,wordsC)∈G)(ht:(0,typesC)∈G)(hG:(2,[Value.int .i64 m])∈G)(t:az)(g:cQ t n)(s:bp)(tJ:s.names.length<=1000)(ho:∀o∈s.aj,o.nm.size<=maxLen)(fY:∀o∈s.aj,o.v.Ok):VC Tryz.prog G 46 [.agg (cG t),.agg (aY s)] [] (Cr (oc t s)):=by
 refine VC.body func46 rfl ntmps46 aU fun X0 w0 bj=>?_;have cR:=dI;have Bf:=Lm (G:=G) hm hw ht hG t g s.aj ho fY;have Es:=FR g s.aj;have wA:=rq g s.aj;have Pm:=Fv g s.aj;obtain⟨M,hM⟩:∃M,M=ax t s.aj:=⟨_,rfl⟩
 rw[<-hM] at Bf Es wA Pm;obtain⟨sl,em⟩:=M;dsimp only at Es wA Pm;have jg:=g.ec;have alG:t.ay.length=4:=(by rw[g.ay];rfl)
 unfold cG at Bf;unfold cG aY;refine bS ?_;refine OD.box (ds:=[_,_,_,_,_]) aq rfl rfl ot rfl rfl (fun b2=>?_);refine OD.box (ds:=[_,_,_,_,_,_,_,_,_,_,_,_]) aq rfl rfl ot rfl rfl (fun b3=>?_);refine OD.alloc (ds:=[_,_]) aq rfl rfl zeroValue35 rfl (fun b4=>?_);refine an 135 [2,3,4] ?_;refine bS ?_;refine bu [2,3,4,6] ?_;refine af [2,3,4,6,21,22,23] ?_;refine ew [2,3,4,21,22] (fun aS _ (aO:Nat×List Int×Option Addr×Nat×List ah) aE=>match aO with|(i,acc,U,Z,Sa)=>(i<=s.names.length)/\(acc=(s.names.take i).map (bE t.ay))/\(∀x∈s.names.take i,0<=bE t.ay x)/\(bn 3 1 ((acc).flatMap Tw.cI) (acc).length U Z Sa)/\aE=(⟨135,(6,aT U (acc).length Z)::(23,ae (i:Nat))::aS,(⟨b4,35,2,[cc,ae 0]⟩::⟨b3,44,12,aY s⟩::⟨b2,68,5,cG t⟩::Sa)⟩:St)) (fun (aO:Nat×List Int×Option Addr×Nat×List ah)=>match aO with|(i,acc,U,Z,Sa)=>s.names.length-i) (0,([]:List Int),none,0,[]) ⟨(Nat.zero_le _),rfl,(fun x h=>by cases h),(bn.cast iR jZ),rfl⟩ ?_;rintro⟨i,acc,U,Z,Sa⟩ _ ⟨hi,nJ,o9,o8,rfl⟩;refine af [2,3,4,6,21,22,23,24] ?_;refine au ?_ ?_<;>intro aJ bz
 ·have aa:i<s.names.length:=(by omega)
  have fw:=Jj (G:=G) t w4 s.names[i];unfold cG at fw;have pE:acc.length=i:=(by rw[nJ,length_map,length_take];omega)
  refine af [2,3,4,6,8,21,22,23] ?_;refine cL [2,3,4,6,9,21,22,23] (fw) ?_;refine af [2,3,4,6,9,21,22,23,31] ?_;refine au ?_ ?_<;>intro aX cr
  ·have Db:bE t.ay s.names[i]<0:=(by simpa using aX)
   have aV:oc t s=(([],0),8):=if_pos (any_eq_true.2 ⟨s.names[i],getElem_mem _,decide_eq_true Db⟩);refine aB 1 ?_;refine aP 0 [_,_] sizeOf35 ?_;exact N3
  have Db:¬bE t.ay s.names[i]<0:=(by simpa using aX)
  have alO:∀x∈s.names.take (i+1),0<=bE t.ay x:=fun x hx=>by rw[take_succ_eq_append_getElem aa] at hx;rcases mem_append.1 hx with hx|hx;exact o9 x hx;rw[mem_singleton] at hx;subst hx;omega
  refine dw 2 ?_;refine ey (cu 0 [_]) [.int .i64 0] [_] zeroValue3 runUnderlying61 sizeOf3 (fun b35=>?_);refine fD 0 35 1 1 ?_;refine OD.eG (ls:=(acc)) (new:=[bE t.ay s.names[i]]) (Sq:=Sa) Tw.eC Tw.mA aq rfl rfl underlying61 Rw rfl w8 ot o8 (cZ (A:=[_,_,_])) ot bq me mg (fun HZ M6 alP alQ=>?_);refine OD.perm (dU (S1:=[⟨HZ,3,M6*1,flatMap Tw.cI ((acc)++[bE t.ay s.names[i]])⟩]) (A:=[_,_,_])) ?_;refine an 135 [2,3,4,6,21,22,23] ?_;refine bM [2,3,4,6,21,22,23] ?_;refine⟨((i+1),(acc++[bE t.ay s.names[i]]),(some ⟨HZ,0,none⟩),M6,[⟨HZ,3,M6*1,flatMap Tw.cI ((acc)++[bE t.ay s.names[i]])⟩]),_,cn,aI,w4,(by rw[nJ,<-pR aa,map_append];rfl),alO,(bn.cast (bJ alP alQ) jZ),rfl⟩
 have wu:s.names.take i=s.names:=take_of_length_le w4;rw[wu] at nJ o9;have G3:¬(s.names.any fun n=>decide (bE t.ay n<0))=true:=fun h=>by obtain⟨x,h1,h2⟩:=any_eq_true.1 h;have:=o9 x h1;have:=of_decide_eq_true h2;omega
 refine CD.exit ?_;refine iH [2,3,4] (fun aS _ aE=>∃(acc:List Int),∃(U:Option Addr),∃(Z:Nat),∃(Sa:List ah),(acc=wD t s.names)/\(bn 3 1 (acc.flatMap Tw.cI) acc.length U Z Sa)/\aE=(⟨135,(6,aT U acc.length Z)::aS,(⟨b4,35,2,[cc,ae 0]⟩::⟨b3,44,12,aY s⟩::⟨b2,68,5,cG t⟩::Sa)⟩:St)) ?_ ?_
 ·refine af [2,3,4,6,41] ?_;refine au ?_ ?_<;>intro bL cJ
  ·have gZ:s.names.length=0:=(by simpa using bL)
   have alR:acc=[]:=(by rw[nJ,length_eq_zero_iff.1 gZ];rfl)
   refine af [2,3,4,6,44,45] ?_;refine ew [2,3,4,44] (fun aS _ (aO:Nat×List Int×Option Addr×Nat×List ah) aE=>match aO with|(j,O,U,Z,Sa)=>(j<=t.ay.length)/\(O=(range j).map Int.ofNat)/\(bn 3 1 ((O).flatMap Tw.cI) (O).length U Z Sa)/\aE=(⟨135,(6,aT U (O).length Z)::(45,ae (j:Nat))::aS,(⟨b4,35,2,[cc,ae 0]⟩::⟨b3,44,12,aY s⟩::⟨b2,68,5,cG t⟩::Sa)⟩:St)) (fun (aO:Nat×List Int×Option Addr×Nat×List ah)=>match aO with|(j,O,U,Z,Sa)=>t.ay.length-j) (0,acc,U,Z,Sa) ⟨(Nat.zero_le _),alR,(bn.cast o8 jZ),rfl⟩ ?_;rintro⟨j,O,U,Z,Sa⟩ _ ⟨hj,L4,o8,rfl⟩;refine af [2,3,4,6,44,45,46] ?_;refine au ?_ ?_<;>intro cN en
   ·have aq7:j<t.ay.length:=(by omega)
    have aq8:O.length=j:=(by rw[L4,length_map,length_range])
    refine af [2,3,4,6,10,44,45] ?_;refine dw 2 ?_;refine ey (cu 0 [_]) [.int .i64 0] [_] zeroValue3 runUnderlying61 sizeOf3 (fun AL=>?_);refine fD 0 50 1 1 ?_;refine OD.eG (ls:=(O)) (new:=[(j:Int)]) (Sq:=Sa) Tw.eC Tw.mA aq rfl rfl underlying61 Rw rfl w8 ot o8 (cZ (A:=[_,_,_])) ot bq me mg (fun qi xN Mc Md=>?_);refine OD.perm (dU (S1:=[⟨qi,3,xN*1,flatMap Tw.cI ((O)++[(j:Int)])⟩]) (A:=[_,_,_])) ?_;refine an 135 [2,3,4,6,44,45] ?_;refine bM [2,3,4,6,44,45] ?_;refine⟨((j+1),(O++[(j:Int)]),(some ⟨qi,0,none⟩),xN,[⟨qi,3,xN*1,flatMap Tw.cI ((O)++[(j:Int)])⟩]),_,cn,aI,w4,(by rw[L4,range_succ,map_append];rfl),(bn.cast (bJ Mc Md) jZ),rfl⟩
   have hjf:O=wD t s.names:=(by unfold wD;rw[if_pos gZ,L4,show j=t.ay.length by omega])
   refine CD.exit ?_;refine⟨_,aI,(O),U,Z,Sa,hjf,o8,rfl⟩
  have gZ:¬s.names.length=0:=(by simpa using bL)
  refine CD.skip ?_;refine⟨_,aI,(acc),U,Z,Sa,(by unfold wD;rw[if_neg gZ];exact nJ),o8,rfl⟩
 rintro _ ⟨acc,U,Z,Sa,uT,o8,rfl⟩;refine CD.seq ?_;refine CD.gK (t:=6) (Sq:=Sa) lk o8 (cm Tw.eC _) (cZ (A:=[_,_,_])) ?_;refine tE ?_;refine OD.alloc (ds:=[_]) aq rfl rfl zeroValue3 rfl (fun lS=>?_);refine aP 0 [_] sizeOf3 ?_;refine an 135 [2,3,4,6,11] ?_;refine iH [2,3,4,6,11] (fun aS _ aE=>∃(ov:Int),(0<=ov)/\(ov=s6 t s)/\aE=(⟨135,aS,[⟨lS,3,1,[ae ov]⟩,⟨b4,35,2,[cc,ae 0]⟩,⟨b3,44,12,aY s⟩,⟨b2,68,5,cG t⟩]⟩:St)) ?_ ?_
 ·refine af [2,3,4,6,11,55] ?_;refine au ?_ ?_<;>intro dW fB
  ·have Bg:¬(s.order.toList==(⟨#[]⟩:ByteArray).toList)=true:=(by rw[fB];decide)
   have XH:=Jj (G:=G) t w4 s.order;unfold cG at XH;have uW:s6 t s=bE t.ay s.order:=if_neg Bg;refine aB 3 ?_;refine ez call89 (XH) ?_;refine aP 0 [_] sizeOf3 ?_;refine an 135 [2,3,4,6,11] ?_;refine af [2,3,4,6,11,61] ?_;refine au ?_ ?_<;>intro fF gM
   ·have Db:s6 t s<0:=(by rw[uW];simpa using fF)
    have aV:oc t s=(([],0),8):=(by unfold oc;rw[if_neg G3,if_pos Db])
    refine aB 1 ?_;refine aP 1 [_,_] sizeOf35 ?_;exact N3
   have Db:¬s6 t s<0:=(by rw[uW];simpa using fF)
   refine CD.skip ?_;refine⟨_,aI,(bE t.ay s.order),w4,uW.symm,rfl⟩
  have Bg:(s.order.toList==(⟨#[]⟩:ByteArray).toList)=true:=fB;have uW:s6 t s=0:=if_pos Bg;refine CD.skip ?_;refine⟨_,aI,0,(Int.le_refl 0),uW.symm,rfl⟩
 rintro _ ⟨ov,alS,nl,rfl⟩;refine aB 3 ?_;refine OD.call aq rfl rfl rfl call90 Bf ⟨ot,ot,trivial⟩ (eX _) ?_;rintro _ Sx ⟨dj,cU,rfl,dP⟩;refine OD.perm (dU (A:=[_,_,_,_])) ?_;refine an 135 [2,3,4,6,11,12,13] ?_;refine af [2,3,4,6,11,12,13,71] ?_;refine au ?_ ?_<;>intro iw oS
 ·have Im:em≠0:=(by simpa using iw)
  have aV:oc t s=(([],0),em):=(by unfold oc;rw[if_neg G3,if_neg w4,<-hM];exact if_pos Im)
  refine aB 2 ?_;refine aP 1 [_,_] sizeOf35 ?_;exact N3
 have Im:¬em≠0:=(by simpa using iw)
 refine CD.skip ?_;refine iH [2,3,4,6] (fun aS _ aE=>∃(on:Nat),∃(lz:List Int),((on:Int)=s6 t s)/\(lz=L0 t s.down on sl)/\(lz.length=sl.length)/\(∀x∈lz,fh t x)/\aE=(⟨135,(12,ap 1 Tw.cI lz)::aS,[⟨lS,3,1,[ae (on:Nat)]⟩,⟨b4,35,2,[cc,ae 0]⟩,⟨b3,44,12,aY s⟩,⟨b2,68,5,cG t⟩]⟩:St)) ?_ ?_
 ·obtain⟨on,rfl⟩:=Int.eq_ofNat_of_zero_le alS;have j7:on<4:=(by have:=ahH g s;omega)
  rcases dP with ⟨hn,dy,rfl,rfl,rfl⟩|⟨bx,rfl,eT,oA,rfl⟩
  ·obtain rfl:=length_eq_zero_iff.1 hn;refine dw 1 ?_;refine bN (sy (ds:=[_,_,_]) rfl ⟨ot,ot,ot,trivial⟩) ?_;refine ez call91 (aeL _) ?_;refine OD.wk (Wk.sA (t:=12) (sz:=1) lk) ?_;refine an 135 [2,3,4,6,12] ?_;refine⟨_,aI,on,[],nl,(UQ ⟨Perm.refl _,Pairwise.nil⟩),rfl,(fun x h=>by cases h),rfl⟩
  refine dw 1 ?_;refine bN (sy (ds:=[_,_,_]) rfl ⟨ot,ot,ot,trivial⟩) ?_;refine OD.call (Sf:=⟨bx,3,cU*1,sl.flatMap Tw.cI⟩::[⟨b2,68,5,cG t⟩,⟨lS,3,1,[ae (on:Nat)]⟩,⟨b3,44,12,aY s⟩]) (R:=[⟨b4,35,2,[cc,ae 0]⟩]) aq rfl rfl rfl call91 (af7 sl.length cU bx 92 [cY b2,cY lS,cY b3] [⟨b2,68,5,cG t⟩,⟨lS,3,1,[ae (on:Nat)]⟩,⟨b3,44,12,aY s⟩] (mb t s.down on) (fh t) (wB t) (fun x y hx hy=>agb t g s on j7 b2 lS b3 x y hx hy) call92 (fun h1 h2=>ahD t s.down on h1 h2) (fun x y h=>by have:=Rt t s.down on x y;omega) eT oA Es sl Pm rfl wA) ⟨ot,ot,trivial⟩ (show([⟨lS,3,1,[ae (on:Nat)]⟩,⟨b4,35,2,[cc,ae 0]⟩,⟨b3,44,12,aY s⟩,⟨b2,68,5,cG t⟩]++[⟨bx,3,cU*1,sl.flatMap Tw.cI⟩]:List ah).Perm ((⟨bx,3,cU*1,sl.flatMap Tw.cI⟩::[⟨b2,68,5,cG t⟩,⟨lS,3,1,[ae (on:Nat)]⟩,⟨b3,44,12,aY s⟩])++[⟨b4,35,2,[cc,ae 0]⟩]) from(jB fun lM=>by simp only[map_append,map_cons,map_nil,sum_append,sum_cons,sum_nil];omega)) ?_;rintro _ _ ⟨rfl,lz,yN,rfl⟩;have iG:=yN.1.length_eq;refine OD.perm (S':=⟨lS,3,1,[ae (on:Nat)]⟩::⟨b4,35,2,[cc,ae 0]⟩::⟨b3,44,12,aY s⟩::⟨b2,68,5,cG t⟩::[⟨bx,3,cU*1,lz.flatMap Tw.cI⟩]) (show((⟨bx,3,cU*1,lz.flatMap Tw.cI⟩::[⟨b2,68,5,cG t⟩,⟨lS,3,1,[ae (on:Nat)]⟩,⟨b3,44,12,aY s⟩])++[⟨b4,35,2,[cc,ae 0]⟩]:List ah).Perm _ from(jB fun lM=>by simp only[map_append,map_cons,map_nil,sum_append,sum_cons,sum_nil];omega)) ?_;rw[<-iG]
  refine OD.gK (t:=12) (Sq:=[⟨bx,3,cU*1,lz.flatMap Tw.cI⟩]) lk (bJ (by rw[iG];exact eT) oA) (cm Tw.eC _) (cZ (A:=[_,_,_,_])) ?_;refine an 135 [2,3,4,6,12] ?_;refine⟨_,aI,on,lz,nl,(UQ yN),(by first|exact iG|rfl),(fun x hx=>wA x (yN.1.subset hx)),rfl⟩
 rintro _ ⟨on,lz,nl,Ww,iG,Wx,rfl⟩;refine iH [2,3,4,6] (fun aS mQ aE=>∃(E:List Int),(E=xu t s)/\(∀x∈E,fh t x)/\(E.length<=40)/\aE=(⟨135,(12,ap 1 Tw.cI E)::aS,mQ⟩:St)) ?_ ?_
 ·refine aB 4 ?_;refine bZ 80 (fun MO Gn=>?_) (fun MO Gn=>?_)
  ·refine bu [2,3,4,6,12,86] ?_;refine au ?_ ?_<;>intro iy mF
   ·have oX:0<=s.iE/\s.iE<lz.length:=⟨Gn,mF⟩
    refine gl [2,3,4,6,12] ?_;refine aR 3 ?_ (h:=by exact(eE (l:=0) (h:=s.iE.toNat) rfl ot trivial ⟨_,by rw[Int.toNat_of_nonneg oX.1];exact ot⟩ (by exact nx Tw.eC (fun h=>by cases h) runUnderlying61 sizeOf3 w4)));refine bA ?_;refine⟨_,aI,(lz.take s.iE.toNat),(by unfold xu Ah;rw[<-nl,Int.toNat_natCast,<-hM,<-Ww,if_pos oX]),(fun x hx=>Wx x (mem_of_mem_take hx)),pC,rfl⟩
   exact Yz
  refine bu [2,3,4,6,12,86] ?_;refine gm ?_;exact Yz
 rintro _ ⟨E,XI,yG,aq9,rfl⟩;refine aB 3 ?_;refine OD.alloc (ds:=[_,_]) aq rfl rfl zeroValue35 rfl (fun DX=>?_);refine aP 0 [_,_] sizeOf35 ?_;refine an 135 [2,3,4,6,12,14] ?_;refine af [2,4,6,12,14,95] ?_;refine au ?_ ?_<;>intro qk CN
 ·have CU:s.count=true:=qk;have aV:oc t s=(([[⟨2,((E.length:Nat):Int),⟨#[]⟩⟩]],((E.length:Nat):Int)),0):=(by unfold oc;rw[if_neg G3,if_neg w4,<-hM,if_neg Im,if_pos CU,<-XI])
  refine aB 3 ?_;refine ey (cu 0 [_]) [.int .i64 0,.int .i64 0,.string ⟨#[]⟩] [_,_,_] zeroValue56 runUnderlying40 sizeOf56 (fun Pn=>?_);refine ey (cu 0 [_]) [.slice none 0 0] [_] zeroValue40 runUnderlying33 sizeOf40 (fun XJ=>?_);refine aH 1 ?_;refine aP 2 [_,_] sizeOf33 ?_;refine an 135 [4,14] ?_;refine aB 1 ?_;refine aP 4 [_,_] sizeOf35 ?_;refine an 135 [4,5] ?_;refine aK [_,_] ?_;rw[aV];exact⟨[⟨[⟨2,(E.length:Nat),⟨#[]⟩⟩],some ⟨Pn,0,none⟩,1,[⟨Pn,56,1*3,[⟨2,(E.length:Nat),⟨#[]⟩⟩].flatMap cV⟩]⟩],some ⟨XJ,0,none⟩,1,[_],rfl,.inr ⟨XJ,rfl,Nat.le_refl _,(show 1<=maxLen by decide),rfl⟩,(fun o ho=>by rw[mem_singleton] at ho;subst ho;exact .inr ⟨Pn,rfl,Nat.le_refl _,(show 1<=maxLen by decide),rfl⟩),rfl,rfl⟩
 have CU:¬s.count=true:=(by rw[qk];decide)
 have aV:oc t s=((E.map (Ax t acc),((E.length:Nat):Int)),0):=(by unfold oc;rw[if_neg G3,if_neg w4,<-hM,if_neg Im,if_neg CU,<-XI,<-uT])
 have XK:=ai6 g o9;rw[<-uT] at XK;have ara:acc.length<=1000:=(by rw[uT];unfold wD;split;(rw[length_map,length_range];omega);(rw[length_map];omega))
 refine af [2,4,6,14,103,104,105] ?_;refine ew [2,4,6,14,103,104] (fun aS _ (aO:Nat×List cl×Option Addr×Nat×List ah) aE=>match aO with|(i,L,dj,cU,Sx)=>(i<=E.length)/\(L.map cl.r=(E.take i).map (Ax t acc))/\(∀o∈L,oD o)/\(sZ L dj cU Sx)/\aE=(⟨135,(105,ae (i:Nat))::aS,(⟨DX,35,2,[aT dj L.length cU,ae (E.length:Nat)]⟩::⟨lS,3,1,[ae (on:Nat)]⟩::⟨b4,35,2,[cc,ae 0]⟩::⟨b3,44,12,aY s⟩::⟨b2,68,5,cG t⟩::(Sx++L.flatMap bR))⟩:St)) (fun (aO:Nat×List cl×Option Addr×Nat×List ah)=>match aO with|(i,L,dj,cU,Sx)=>E.length-i) (0,([]:List cl),none,0,[]) ⟨(Nat.zero_le _),rfl,(fun o h=>by cases h),iR,rfl⟩ ?_;rintro⟨i,L,dj,cU,Sx⟩ _ ⟨hi,hL,aW,dP,rfl⟩;refine af [2,4,6,14,103,104,105,106] ?_;refine au ?_ ?_<;>intro uS CP
 ·have aa:i<E.length:=(by omega)
  obtain⟨iu,eT,oA⟩:=yG _ (getElem_mem aa);have hx4:=oN (g.row _ eT oA).1;have rW:L.length=i:=(by have:=congrArg length hL;rw[length_map,length_map,length_take] at this;omega)
  refine af [2,4,6,14,16,103,104,105] ?_;refine bS ?_;refine bu [2,4,6,14,16,17,103,104,105] ?_;refine af [2,4,6,14,16,17,103,104,105,109,110,111] ?_;refine ew [2,4,6,14,16,103,104,105,109,110] (fun aS _ (aO:Nat×List Vl×Option Addr×Nat×List ah) aE=>match aO with|(j,I,iX,iY,Sy)=>(j<=acc.length)/\(I=(acc.take j).map fun c=>(rowAt t (E[i]'aa)).getD c.toNat bQ)/\(bn 56 3 (I.flatMap cV) I.length iX iY Sy)/\aE=(⟨135,(17,aT iX I.length iY)::(111,ae (j:Nat))::aS,(⟨DX,35,2,[aT dj L.length cU,ae (E.length:Nat)]⟩::⟨lS,3,1,[ae (on:Nat)]⟩::⟨b4,35,2,[cc,ae 0]⟩::⟨b3,44,12,aY s⟩::⟨b2,68,5,cG t⟩::(Sy++(Sx++L.flatMap bR)))⟩:St)) (fun (aO:Nat×List Vl×Option Addr×Nat×List ah)=>match aO with|(j,I,iX,iY,Sy)=>acc.length-j) (0,([]:List Vl),none,0,[]) ⟨(Nat.zero_le _),rfl,iR,rfl⟩ ?_;rintro⟨j,I,iX,iY,Sy⟩ _ ⟨hj,L5,ZS,rfl⟩;refine af [2,4,6,14,16,17,103,104,105,109,110,111,112] ?_;refine au ?_ ?_<;>intro GR Gm
  ·have mr:j<acc.length:=(by omega)
   obtain⟨XL,arb⟩:=XK _ (getElem_mem mr);have Po:(acc[j]'mr).toNat<(t.rows[(E[i]'aa).toNat]'eT).length:=(by omega)
   have ai8:(rowAt t (E[i]'aa)).getD (acc[j]'mr).toNat bQ=(t.rows[(E[i]'aa).toNat]'eT)[(acc[j]'mr).toNat]:=(by rw[iS eT,getD_eq_getElem?_getD,getElem?_eq_getElem Po];rfl)
   have arc:I.length=j:=(by rw[L5,length_map,length_take];omega)
   refine af [2,4,6,14,16,17,19,103,104,105,109,110,111] ?_;refine dw 4 ?_;refine bN (dL 1 (h:=by first|exact .l (j:=(E[i]'aa).toNat) (Int.toNat_of_nonneg iu).symm eT|exact .r (j:=(E[i]'aa).toNat) (Int.toNat_of_nonneg iu).symm eT)) ?_;refine aH 2 ?_;refine bN (dL 3 (h:=by first|exact .l (j:=(acc[j]'mr).toNat) (Int.toNat_of_nonneg XL).symm Po|exact .r (j:=(acc[j]'mr).toNat) (Int.toNat_of_nonneg XL).symm Po)) ?_;refine aH 1 ?_;refine ey (cu 0 [_]) [.int .i64 0,.int .i64 0,.string ⟨#[]⟩] [_,_,_] zeroValue56 runUnderlying40 sizeOf56 (fun ard=>?_);refine fD 0 124 3 1 ?_;refine OD.eG (ls:=I) (new:=[(t.rows[(E[i]'aa).toNat]'eT)[(acc[j]'mr).toNat]]) (Sq:=Sy) fG F2 aq rfl rfl underlying40 abu rfl w8 ot ZS (JC (A:=[_,_,_,_,_])) ot bq me mg (fun M7 L6 ai9 aja=>?_);refine OD.perm (RQ (S1:=[⟨M7,56,L6*3,flatMap cV (I++[(t.rows[(E[i]'aa).toNat]'eT)[(acc[j]'mr).toNat]])⟩]) (A:=[_,_,_,_,_])) ?_;refine an 135 [2,4,6,14,16,17,103,104,105,109,110,111] ?_;refine bM [2,4,6,14,16,17,103,104,105,109,110,111] ?_;refine⟨((j+1),(I++[(t.rows[(E[i]'aa).toNat]'eT)[(acc[j]'mr).toNat]]),(some ⟨M7,0,none⟩),L6,[⟨M7,56,L6*3,flatMap cV (I++[(t.rows[(E[i]'aa).toNat]'eT)[(acc[j]'mr).toNat]])⟩]),_,cn,aI,w4,(by rw[L5,<-ai8,<-pR mr,map_append];rfl),(bJ ai9 aja),rfl⟩
  have we:(L++[(⟨I,iX,iY,Sy⟩:cl)]).map cl.r=(E.take (i+1)).map (Ax t acc):=(by rw[map_append,hL,<-pR aa,map_append];congr 1;show[I]=[Ax t acc (E[i]'aa)];rw[L5,take_of_length_le w4];rfl)
  have kr:∀o∈L++[(⟨I,iX,iY,Sy⟩:cl)],oD o:=fun o ho=>by rcases mem_append.1 ho with ho|ho;exact aW o ho;rw[mem_singleton] at ho;subst ho;exact ZS
  refine dw 3 ?_;refine ey (cu 0 [_]) [.slice none 0 0] [_] zeroValue40 runUnderlying33 sizeOf40 (fun M8=>?_);refine fD 0 130 1 1 ?_;refine OD.eG (ls:=L) (new:=[(⟨I,iX,iY,Sy⟩:cl)]) (Sq:=Sx) vu VB aq rfl rfl underlying33 abt rfl w8 ot dP (tX (A:=[_,_,_,_,_])) ot bq me mg (fun G4 Gx ajb ajc=>?_);refine OD.perm (wU (S2:=[⟨G4,40,Gx*1,flatMap gR (L++[(⟨I,iX,iY,Sy⟩:cl)])⟩]) (A:=[_,_,_,_,_])) ?_;refine OD.perm (S':=⟨DX,35,2,[aT dj L.length cU,ae (E.length:Nat)]⟩::⟨lS,3,1,[ae (on:Nat)]⟩::⟨b4,35,2,[cc,ae 0]⟩::⟨b3,44,12,aY s⟩::⟨b2,68,5,cG t⟩::([⟨G4,40,Gx*1,flatMap gR (L++[(⟨I,iX,iY,Sy⟩:cl)])⟩]++(L++[(⟨I,iX,iY,Sy⟩:cl)]).flatMap bR)) (jB fun lM=>by simp only[map_append,map_cons,map_nil,sum_append,sum_cons,sum_nil,ai7];omega) ?_;refine aH 1 ?_;refine aP 0 [_,_] sizeOf33 ?_;refine an 135 [2,4,6,14,103,104,105] ?_;refine bM [2,4,6,14,103,104,105] ?_;refine⟨((i+1),(L++[(⟨I,iX,iY,Sy⟩:cl)]),(some ⟨G4,0,none⟩),Gx,[⟨G4,40,Gx*1,flatMap gR (L++[(⟨I,iX,iY,Sy⟩:cl)])⟩]),_,cn,aI,w4,we,kr,(bJ ajb ajc),rfl⟩
 have q9:L.map cl.r=E.map (Ax t acc):=(by rw[hL,take_of_length_le w4])
 refine aB 1 ?_;refine aP 2 [_,_] sizeOf35 ?_;refine an 135 [4,5] ?_;refine aK (Sx++L.flatMap bR) ?_;rw[aV];exact⟨L,dj,cU,Sx,rfl,dP,aW,q9,rfl⟩

abbrev fV(bo:Nat)(ad:Option Addr)(n cap:Nat):ah:=⟨bo,31,1,[aT ad n cap]⟩
def gW(s:bp):az:=⟨s.table,s.ay,[],nL⟩
def x8(s:bp):aM:=⟨gW s,[],none,0,[],[]⟩
theorem agi(s:bp):pO (x8 s):=⟨[],rfl,rfl,(fun o h=>by cases h),rfl,iR⟩
def pP(l:List az)(s:bp):List az×Int:=if 0<=aN l s.table then (l,9) else if l.length=4 then (l,10) else (l++[gW s],0)
def Cs(l:List az)(bo:Nat)(S:List ah):Prop:=∃(L:List aM) (ad:Option Addr) (cap:Nat) (Sx:List ah),vN L ad cap Sx/\(∀o∈L,okW o)/\L.map aM.t=l/\S.Perm (fV bo ad L.length cap::(Sx++L.flatMap bT))
theorem abv:(Tryz.prog.info? 68).map (fun i=>(i.zero,i.size,i.bytes))=some (some (.agg #[.string ⟨#[]⟩,.slice none 0 0,.slice none 0 0,.slice none 0 0,.int .i64 0]),5,96):=by kernel_rfl
theorem acY(L:List aM)(aW:∀o∈L,pO o)(hL:L.length<=4)(s:bp)(fj:s.ay.length<=1000)(Z:Nat)(ad:Option Addr)(cap:Nat)(Sx:List ah)(eW:vN L ad cap Sx):VC Tryz.prog G 43 [cY Z,.agg (aY s)] (fV Z ad L.length cap::(Sx++L.flatMap bT)) (fun r S=>r=ae (pP (L.map aM.t) s).2/\((pP (L.map aM.t) s).2=0->Cs (pP (L.map aM.t) s).1 Z S)):=by
 refine VC.body func43 rfl ntmps43 aU fun X0 w0 bj=>?_;have cR:=dI;have sN:=fun o ho=>(aW o ho).w;have eY:=pU (G:=G) (L.map aM.t) Dj s.table
 (first|rw[length_map] at eY|(unfold ap at eY;rw[length_map] at eY))
 unfold aY;refine bS ?_;refine OD.box (ds:=[_,_,_,_,_,_,_,_,_,_,_,_]) aq rfl rfl ot rfl rfl (fun b3=>?_);refine an 37 [0,3] ?_;refine cz [0,3,5] ?_;refine kK 6 ?_;refine xZ (eY) (ha:=Nl) (K:=?_);refine bA ?_;refine au ?_ ?_<;>intro aJ bz
 ·have h0:0<=aN (L.map aM.t) s.table:=(by simpa using aJ)
  have aV:pP (L.map aM.t) s=(L.map aM.t,9):=if_pos h0;refine af [4] ?_;exact z51
 have h0:¬0<=aN (L.map aM.t) s.table:=(by simpa using aJ)
 refine af [0,3,14] ?_;refine au ?_ ?_<;>intro aX cr
 ·have h4:L.length=4:=(by have:=aX;simp at this;omega)
  have aV:pP (L.map aM.t) s=(L.map aM.t,10):=(by unfold pP;rw[if_neg h0,if_pos (by rw[length_map];exact h4)])
  refine af [4] ?_;exact z51
 have h4:¬L.length=4:=(by have:=aX;simp at this;omega)
 have aV:pP (L.map aM.t) s=(L.map aM.t++[gW s],0):=(by unfold pP;rw[if_neg h0,if_neg (by rw[length_map];exact h4)])
 have nO:=Vx (G:=G);refine CD.skip ?_;refine CD.seq ?_;refine nk 13 [21,25,33] ?_;refine cf (Rm s.ay w4) ?_;refine cf (nO) ?_;refine bA ?_;refine OD.eG (ls:=L) (new:=[x8 s]) (Sq:=Sx) oJ Lj aq rfl rfl underlying29 abv rfl w8 ot eW (pp (A:=[_,_])) ot bq me mg (fun I E O U=>?_);refine OD.perm (kG (S1:=[⟨I,68,E*5,flatMap gT (L++[x8 s])⟩]) (A:=[_,_])) ?_;refine aH 2 ?_;refine aP 1 [_] sizeOf29 ?_;refine an 37 [] ?_;refine af [4] ?_;refine aK (⟨Z,31,1,[_]⟩::([⟨I,68,E*5,flatMap gT (L++[x8 s])⟩]++L.flatMap bT)) ?_;rw[aV];exact⟨rfl,fun _=>⟨L++[x8 s],some ⟨I,0,none⟩,E,[⟨I,68,E*5,flatMap gT (L++[x8 s])⟩],bJ O U,(fun o ho=>by rcases mem_append.1 ho with ho|ho;exact sN o ho;rw[mem_singleton] at ho;subst ho;exact(agi s).w),by rw[map_append];rfl,by rw[UI,show bT (x8 s)=[] from rfl,append_nil]⟩⟩

noncomputable def eK(l:List az)(s:bp):List az×((List (List Vl)×Int)×Int) :=
 if s.kind=1 then ((pP l s).1,(([],0),(pP l s).2))
 else if aN l s.table<0 then (l,(([],0),8))
 else if s.kind=3 then (l.set (aN l s.table).toNat (fu (l.getD (aN l s.table).toNat (gW s)) s.row).1,(([],1),(fu (l.getD (aN l s.table).toNat (gW s)) s.row).2))
 else if s.kind=4 then (l,oc (l.getD (aN l s.table).toNat (gW s)) s)
 else if s.kind=5 then (l.set (aN l s.table).toNat (eS (l.getD (aN l s.table).toNat (gW s)) s).1,(([],(eS (l.getD (aN l s.table).toNat (gW s)) s).2.1),(eS (l.getD (aN l s.table).toNat (gW s)) s).2.2))
 else (l.set (aN l s.table).toNat (iT (l.getD (aN l s.table).toNat (gW s)) s.aj).1,(([],(iT (l.getD (aN l s.table).toNat (gW s)) s.aj).2.1),(iT (l.getD (aN l s.table).toNat (gW s)) s.aj).2.2))
theorem Qq:∀(c:List D) {S:List ah},gU S c c
 | [],_=>trivial
 | _::c,_=>⟨ff,Qq c⟩
theorem aeO(L:List aM)(h:i<L.length):L.flatMap gT=(L.take i).flatMap gT++(gT L[i]++(L.drop (i+1)).flatMap gT):=by
 conv=>lhs;rw[<-take_append_drop i L,drop_eq_getElem_cons h]
 rw[flatMap_append,flatMap_cons]
theorem ahI(L:List aM)(h:i<L.length)(o:aM):(L.set i o).flatMap gT=(L.take i).flatMap gT++(gT o++(L.drop (i+1)).flatMap gT):=by
 rw[set_eq_take_append_cons_drop,if_pos h,flatMap_append,flatMap_cons]
theorem Lo(f:ah->Nat):∀(L:List aM) (i:Nat) (o:aM) (h:i<L.length),(((L.set i o).flatMap bT).map f).sum=((bT o).map f).sum+(((L.eraseIdx i).flatMap bT).map f).sum
 | [],_,_,h=>absurd h (Nat.not_lt_zero _)
 | x::L,0,o,_=>by simp
 | x::L,i+1,o,h=>by
  have:=Lo f L i o (Nat.lt_of_succ_lt_succ h);simp only[set_cons_succ,flatMap_cons,map_append,sum_append,eraseIdx_cons_succ,this];omega
theorem Jn{A:List ah}{L:List aM}{bx z:Nat}(h:i<L.length):(A++([(⟨bx,68,z,L.flatMap gT⟩:ah)]++L.flatMap bT)).Perm (A++((⟨bx,68,z,(L.take i).flatMap gT++(gT L[i]++(L.drop (i+1)).flatMap gT)⟩:ah)::(bT L[i]++(L.eraseIdx i).flatMap bT))):=by
 rw[<-aeO L h];exact jB fun f=>by
  have:=Lo f L i L[i] h;rw[set_getElem_self] at this;simp only[map_cons,sum_cons,map_append,sum_append,map_nil,sum_nil,this];omega
theorem KQ{L:List aM}{bx E:Nat}(h:i<L.length)(h1:L.length<=cap)(h2:cap<=maxLen)(aW:∀o∈L,okW o){o:aM}(ho:okW o)(hS:S.Perm (fV E (some ⟨bx,0,none⟩) L.length cap::((⟨bx,68,cap*5,(L.take i).flatMap gT++(gT o++(L.drop (i+1)).flatMap gT)⟩::bT o)++(L.eraseIdx i).flatMap bT))):Cs ((L.map aM.t).set i o.t) E S:=by
 refine⟨L.set i o,some ⟨bx,0,none⟩,cap,[⟨bx,68,cap*5,(L.set i o).flatMap gT⟩],bJ (by rw[length_set];exact h1) h2,fun x hx=>?_,by rw[map_set],?_⟩
 ·rcases mem_or_eq_of_mem_set hx with hx|hx
  ·exact aW x hx
  rw[hx];exact ho
 rw[length_set,ahI L h];refine hS.trans (jB fun f=>?_);have:=Lo f L i o h;simp only[map_cons,sum_cons,map_append,sum_append,map_nil,sum_nil,this];omega
theorem UU(h:vP t ad cap E):okW ⟨t,t.rows.flatMap ev,ad,cap,E,[]⟩:=⟨h,fun S _=>Qq _⟩
theorem aeP(h:G0 t L ad cap E):okW ⟨t,L.flatMap gR,ad,cap,E,L.flatMap bR⟩:=pO.w ⟨L,rfl,rfl,h.2.1,h.1,h.2.2⟩
theorem IR{o:aM}(h:pO o):∃O,vP o.t o.ad o.cap O/\∀(n:Nat) (env:List (Nat×D)) (A R:List ah),Wk ⟨n,env,A++(bT o++R)⟩ ⟨n,env,A++(O++R)⟩:=by
 obtain⟨L,h1,h2,h3,h4,h5⟩:=h;have U:=FN (S:=L.flatMap bR) h3 (fun B h=>h);have iG:L.length=o.t.rows.length:=(by rw[<-h4];(first|rw[length_map]|(unfold ap;rw[length_map])))
 rcases h5 with ⟨e1,e2,E,I,Z⟩|⟨b,e1,e2,E,I⟩
 ·have hL:L=[]:=length_eq_zero_iff.1 e1;subst hL;have hr:o.t.rows=[]:=(by rw[<-h4];rfl)
  refine⟨[],.inl ⟨by rw[hr];rfl,by rw[hr];rfl,E,I,rfl⟩,fun n env A R=>?_⟩;have hb:bT o=[]:=(by unfold bT;rw[Z,h2];rfl)
  rw[hb];exact Wk.refl _
 refine⟨[⟨b,40,o.cap*1,o.t.rows.flatMap ev⟩],.inr ⟨b,e1,by rw[<-iG];exact e2,E,rfl⟩,fun n env A R=>?_⟩;have hb:bT o=⟨b,40,o.cap*1,L.flatMap gR⟩::L.flatMap bR:=(by unfold bT;rw[I,h2];rfl)
 rw[hb,<-h4];have hc:=Wk.cover (n:=n) (l:=env) (S:=A++((⟨b,40,o.cap*1,L.flatMap gR⟩::L.flatMap bR)++R)) (A:=⟨b,40,o.cap*1,L.flatMap gR⟩) (R:=A++R) (Sd:=L.flatMap bR) (cs':=(L.map cl.r).flatMap ev) (jB fun f=>by simp only[map_cons,sum_cons,map_append,sum_append,map_nil,sum_nil];omega) U;refine hc.trans (Wk.perm (jB fun f=>by simp only[map_cons,sum_cons,map_append,sum_append,map_nil,sum_nil];omega))
theorem ahJ(hm:(3,marksC)∈G)(hw:(1,wordsC)∈G)(ht:(0,typesC)∈G)(hG:(2,[Value.int .i64 m])∈G)(L:List aM)(aW:∀o∈L,pO o)(hL:L.length<=4)(hg:∀o∈L,∃n,n<=260/\cQ o.t n)(s:bp)(eD:¬s.kind=2)(fj:s.ay.length<=1000)(gN:s.row.length<=1000)(MP:∀v∈s.row,v.Ok)(tJ:s.names.length<=1000)(ho:∀o∈s.aj,o.nm.size<=maxLen)(fY:∀o∈s.aj,o.v.Ok)(q8:∀o∈s.bF,o.nm.size<=maxLen)(G2:∀o∈s.bF,o.v.Ok)(E:Nat)(ad:Option Addr)(cap:Nat)(Sx:List ah)(eW:vN L ad cap Sx):VC Tryz.prog G 23 [cY E,.agg (aY s)] (fV E ad L.length cap::(Sx++L.flatMap bT)) (fun r S=>r=yS (eK (L.map aM.t) s).2/\((eK (L.map aM.t) s).2.2=0->Cs (eK (L.map aM.t) s).1 E S)):=by
 refine VC.body func23 rfl ntmps23 aU fun X0 w0 bj=>?_;have cR:=dI;have sN:=fun o ho=>(aW o ho).w;have eY:=pU (G:=G) (L.map aM.t) Dj s.table
 (first|rw[length_map] at eY|(unfold ap at eY;rw[length_map] at eY))
 have j3:=vg (fun t:az=>t.nm.toList==s.table.toList) (L.map aM.t);rw[show dK (fun t:az=>t.nm.toList==s.table.toList) (L.map aM.t)=(aN (L.map aM.t) s.table) from rfl,length_map] at j3;refine bS ?_;refine OD.box (ds:=[_,_,_,_,_,_,_,_,_,_,_,_]) aq rfl rfl ot rfl rfl (fun b3=>?_);refine OD.alloc (ds:=[_,_]) aq rfl rfl zeroValue35 rfl (fun I=>?_);refine aH 1 ?_;first|refine OD.cells (k:=0) (cs':=[.list 1 [] 0,_]) rfl ⟨fP,eM,trivial⟩ rfl ?_|skip
 refine an 87 [0,3,4] ?_;refine af [0,3,4,14] ?_;refine au ?_ ?_<;>intro aJ bz
 ·have cM:s.kind=1:=(by simpa using aJ)
  have aV:eK (L.map aM.t) s=((pP (L.map aM.t) s).1,(([],0),(pP (L.map aM.t) s).2)):=(by unfold eK;rw[if_pos cM])
  refine aB 3 ?_;refine OD.call (Sf:=fV E ad L.length cap::(Sx++L.flatMap bT)) (R:=[⟨I,35,2,[.list 1 [] 0,ae 0]⟩,⟨b3,44,12,aY s⟩]) aq rfl rfl rfl call43 (acY L aW hL s fj E ad cap Sx eW) ⟨ot,ot,trivial⟩ (show(⟨I,35,2,[.list 1 [] 0,ae 0]⟩::⟨b3,44,12,aY s⟩::fV E ad L.length cap::(Sx++L.flatMap bT):List ah).Perm (fV E ad L.length cap::(Sx++L.flatMap bT)++[⟨I,35,2,[.list 1 [] 0,ae 0]⟩,⟨b3,44,12,aY s⟩]) from(jB fun lM=>by simp only[map_append,map_cons,map_nil,sum_append,sum_cons,sum_nil];omega)) ?_;rintro _ O ⟨rfl,Z⟩;refine OD.perm (S':=⟨I,35,2,[.list 1 [] 0,ae 0]⟩::⟨b3,44,12,aY s⟩::O) (show(O++[⟨I,35,2,[.list 1 [] 0,ae 0]⟩,⟨b3,44,12,aY s⟩]:List ah).Perm _ from(jB fun lM=>by simp only[map_append,map_cons,map_nil,sum_append,sum_cons,sum_nil];omega)) ?_;refine aP 0 [_,_] sizeOf35 ?_;refine aH 1 ?_;first|refine OD.cells (k:=0) (cs':=[.list 1 [] 0,_]) rfl ⟨fP,eM,trivial⟩ rfl ?_|skip
  refine an 87 [4,5] ?_;refine aK O ?_;rw[aV];exact⟨rfl,fun h=>Z h⟩
 have cM:¬s.kind=1:=(by simpa using aJ)
 refine cz [0,3,4,6] ?_;refine kK 6 ?_;refine xZ (eY) (ha:=Nl) (K:=?_);refine bA ?_;refine af [0,3,4,6,27] ?_;refine au ?_ ?_<;>intro aX cr
 ·have h0:(aN (L.map aM.t) s.table)<0:=(by simpa using aX)
  have aV:eK (L.map aM.t) s=(L.map aM.t,(([],0),8)):=(by unfold eK;rw[if_neg cM,if_pos h0])
  exact WU
 have h0:¬(aN (L.map aM.t) s.table)<0:=(by simpa using aX)
 have bW:(aN (L.map aM.t) s.table).toNat<L.length:=(by omega)
 obtain⟨bx,rfl,iM,jz,rfl⟩:=eW.pos w4;have iW:(L.map aM.t).getD (aN (L.map aM.t) s.table).toNat (gW s)=(L[(aN (L.map aM.t) s.table).toNat]'bW).t:=(by rw[getD_eq_getElem?_getD,getElem?_map,getElem?_eq_getElem bW];rfl)
 refine cz [0,3,4,6,7] ?_;refine aR 5 ?_ (h:=by exact(dL 5 (h:=by first|exact .l (j:=(aN (L.map aM.t) s.table).toNat) (Int.toNat_of_nonneg w4).symm bW|exact .r (j:=(aN (L.map aM.t) s.table).toNat) (Int.toNat_of_nonneg w4).symm bW)));refine bA ?_;refine af [0,3,4,6,7,36] ?_;refine af [0,3,4,6,7,36,37] ?_;refine au ?_ ?_<;>intro bL cJ
 ·exact absurd bL (by exact absurd (by simpa using bL) eD)
 refine af [3,4,7,36,51] ?_;refine au ?_ ?_<;>intro cN en
 ·have lA:s.kind=3:=(by simpa using cN)
  have aV:eK (L.map aM.t) s=((L.map aM.t).set (aN (L.map aM.t) s.table).toNat (fu (L[(aN (L.map aM.t) s.table).toNat]'bW).t s.row).1,(([],1),(fu (L[(aN (L.map aM.t) s.table).toNat]'bW).t s.row).2)):=(by unfold eK;rw[iW,if_neg cM,if_neg h0,if_pos lA])
  obtain⟨n,hn,g⟩:=hg (L[(aN (L.map aM.t) s.table).toNat]'bW) (getElem_mem bW);obtain⟨Sg,Pp,jr⟩:=IR (aW (L[(aN (L.map aM.t) s.table).toNat]'bW) (getElem_mem bW));refine CD.perm (Jn (A:=[_,_,_]) bW) ?_;refine CD.wk (jr _ _ [_,_,_,_] _) ?_;refine aB 4 ?_
  refine OD.call (Sf:=(⟨bx,68,cap*5,(L.take (aN (L.map aM.t) s.table).toNat).flatMap gT++(gT (L[(aN (L.map aM.t) s.table).toNat]'bW)++(L.drop ((aN (L.map aM.t) s.table).toNat+1)).flatMap gT)⟩:ah)::Sg) (R:=⟨I,35,2,[.list 1 [] 0,ae 0]⟩::⟨b3,44,12,aY s⟩::fV E (some ⟨bx,0,none⟩) L.length cap::((L.eraseIdx (aN (L.map aM.t) s.table).toNat).flatMap bT)) aq rfl rfl rfl call45 (Ji hm hw ht hG (L[(aN (L.map aM.t) s.table).toNat]'bW).t g w4 s.row gN MP bx (0+(aN (L.map aM.t) s.table).toNat*5) (cap*5) ((L.take (aN (L.map aM.t) s.table).toNat).flatMap gT) ((L.drop ((aN (L.map aM.t) s.table).toNat+1)).flatMap gT) Mb (L[(aN (L.map aM.t) s.table).toNat]'bW).ad (L[(aN (L.map aM.t) s.table).toNat]'bW).cap Sg Pp) ⟨ot,ot,trivial⟩ (show(⟨I,35,2,[.list 1 [] 0,ae 0]⟩::⟨b3,44,12,aY s⟩::fV E (some ⟨bx,0,none⟩) L.length cap::(⟨bx,68,cap*5,(L.take (aN (L.map aM.t) s.table).toNat).flatMap gT++(gT (L[(aN (L.map aM.t) s.table).toNat]'bW)++(L.drop ((aN (L.map aM.t) s.table).toNat+1)).flatMap gT)⟩:ah)::(Sg++(L.eraseIdx (aN (L.map aM.t) s.table).toNat).flatMap bT):List ah).Perm (((⟨bx,68,cap*5,(L.take (aN (L.map aM.t) s.table).toNat).flatMap gT++(gT (L[(aN (L.map aM.t) s.table).toNat]'bW)++(L.drop ((aN (L.map aM.t) s.table).toNat+1)).flatMap gT)⟩:ah)::Sg)++(⟨I,35,2,[.list 1 [] 0,ae 0]⟩::⟨b3,44,12,aY s⟩::fV E (some ⟨bx,0,none⟩) L.length cap::((L.eraseIdx (aN (L.map aM.t) s.table).toNat).flatMap bT))) from(jB fun lM=>by simp only[map_append,map_cons,map_nil,sum_append,sum_cons,sum_nil];omega)) ?_
  rintro _ O ⟨rfl,Z⟩;refine OD.perm (S':=⟨I,35,2,[.list 1 [] 0,ae 0]⟩::⟨b3,44,12,aY s⟩::fV E (some ⟨bx,0,none⟩) L.length cap::(O++(L.eraseIdx (aN (L.map aM.t) s.table).toNat).flatMap bT)) (show(O++(⟨I,35,2,[.list 1 [] 0,ae 0]⟩::⟨b3,44,12,aY s⟩::fV E (some ⟨bx,0,none⟩) L.length cap::((L.eraseIdx (aN (L.map aM.t) s.table).toNat).flatMap bT)):List ah).Perm _ from(jB fun lM=>by simp only[map_append,map_cons,map_nil,sum_append,sum_cons,sum_nil];omega)) ?_;refine aP 0 [_,_] sizeOf35 ?_;refine aH 1 ?_;first|refine OD.cells (k:=0) (cs':=[.list 1 [] 0,_]) rfl ⟨fP,eM,trivial⟩ rfl ?_|skip
  refine an 87 [4,5] ?_;refine aK (fV E (some ⟨bx,0,none⟩) L.length cap::(O++(L.eraseIdx (aN (L.map aM.t) s.table).toNat).flatMap bT)) ?_;rw[aV];refine⟨rfl,fun h=>?_⟩;obtain⟨qq,kU,U,M9,rfl⟩:=Z h;exact KQ bW iM jz sN (UU M9) (by rw[show bT (⟨_,_,qq,kU,U,[]⟩:aM)=U from append_nil _];exact Perm.refl _)
 have lA:¬s.kind=3:=(by simpa using cN)
 refine af [3,4,7,36,58] ?_;refine au ?_ ?_<;>intro dW fB
 ·have j8:s.kind=4:=(by simpa using dW)
  have aV:eK (L.map aM.t) s=(L.map aM.t,(oc (L[(aN (L.map aM.t) s.table).toNat]'bW).t s)):=(by unfold eK;rw[iW,if_neg cM,if_neg h0,if_neg lA,if_pos j8])
  obtain⟨n,hn,g⟩:=hg (L[(aN (L.map aM.t) s.table).toNat]'bW) (getElem_mem bW);refine CD.seq ?_;refine nk 7 [4,65,66] ?_;refine aR 2 ?_ (h:=by exact(dz (mk:=Op.load 68) rfl ot (dJ (k:=3) (i:=(aN (L.map aM.t) s.table).toNat) (ls:=L) oJ rfl rfl rfl isAgg68 sizeOf68 bW)));refine kK 1 ?_;refine Am (agh hm hw ht hG (L[(aN (L.map aM.t) s.table).toNat]'bW).t g s tJ ho fY) (fun r S h=>h.flat) (fun r S h=>(by have Z:=h.view;unfold yS at Z;exact Z)) (ha:=by exact⟨⟨_,ot,(UF (sN _ (getElem_mem bW)) (fun B hB=>by have Z:=mem_flatMap.2 ⟨_,getElem_mem bW,hB⟩;repeat (first|exact Z|apply mem_append_right|apply mem_cons_of_mem)):View _ (.agg (gT (L[(aN (L.map aM.t) s.table).toNat]'bW))) _)⟩,⟨_,ot,ff⟩,trivial⟩) (K:=?_);refine bA ?_;refine aP 0 [_,_] sizeOf35 ?_;refine aH 1 ?_;first|refine OD.cells (k:=0) (cs':=[.list 1 [] 0,_]) rfl ⟨fP,eM,trivial⟩ rfl ?_|skip
  refine an 87 [4,5] ?_;refine aK (fV E (some ⟨bx,0,none⟩) L.length cap::([⟨bx,68,cap*5,L.flatMap gT⟩]++L.flatMap bT)) ?_;rw[aV];exact⟨rfl,fun _=>⟨L,_,cap,_,eW,sN,rfl,Perm.refl _⟩⟩
 have j8:¬s.kind=4:=(by simpa using dW)
 refine af [3,4,7,67] ?_;refine au ?_ ?_<;>intro fF gM
 ·have DR:s.kind=5:=(by simpa using fF)
  have aV:eK (L.map aM.t) s=((L.map aM.t).set (aN (L.map aM.t) s.table).toNat (eS (L[(aN (L.map aM.t) s.table).toNat]'bW).t s).1,(([],(eS (L[(aN (L.map aM.t) s.table).toNat]'bW).t s).2.1),(eS (L[(aN (L.map aM.t) s.table).toNat]'bW).t s).2.2)):=(by unfold eK;rw[iW,if_neg cM,if_neg h0,if_neg lA,if_neg j8,if_pos DR])
  obtain⟨n,hn,g⟩:=hg (L[(aN (L.map aM.t) s.table).toNat]'bW) (getElem_mem bW);obtain⟨LR,q1,q2,q3,q4,q5⟩:=aW (L[(aN (L.map aM.t) s.table).toNat]'bW) (getElem_mem bW);refine CD.perm (Jn (A:=[_,_,_]) bW) ?_;refine aB 2 ?_
  refine OD.call (Sf:=(⟨bx,68,cap*5,(L.take (aN (L.map aM.t) s.table).toNat).flatMap gT++(gT (L[(aN (L.map aM.t) s.table).toNat]'bW)++(L.drop ((aN (L.map aM.t) s.table).toNat+1)).flatMap gT)⟩:ah)::((L[(aN (L.map aM.t) s.table).toNat]'bW).sr++LR.flatMap bR)) (R:=⟨I,35,2,[.list 1 [] 0,ae 0]⟩::⟨b3,44,12,aY s⟩::fV E (some ⟨bx,0,none⟩) L.length cap::((L.eraseIdx (aN (L.map aM.t) s.table).toNat).flatMap bT)) aq rfl rfl rfl call47 (acX hm hw ht hG (L[(aN (L.map aM.t) s.table).toNat]'bW).t g s ho fY q8 G2 hn bx (0+(aN (L.map aM.t) s.table).toNat*5) (cap*5) ((L.take (aN (L.map aM.t) s.table).toNat).flatMap gT) ((L.drop ((aN (L.map aM.t) s.table).toNat+1)).flatMap gT) Mb LR (L[(aN (L.map aM.t) s.table).toNat]'bW).ad (L[(aN (L.map aM.t) s.table).toNat]'bW).cap (L[(aN (L.map aM.t) s.table).toNat]'bW).sr q4 q3 q5) ⟨ot,ot,trivial⟩ (show(⟨I,35,2,[.list 1 [] 0,ae 0]⟩::⟨b3,44,12,aY s⟩::fV E (some ⟨bx,0,none⟩) L.length cap::(⟨bx,68,cap*5,(L.take (aN (L.map aM.t) s.table).toNat).flatMap gT++(gT (L[(aN (L.map aM.t) s.table).toNat]'bW)++(L.drop ((aN (L.map aM.t) s.table).toNat+1)).flatMap gT)⟩:ah)::((bT (L[(aN (L.map aM.t) s.table).toNat]'bW))++(L.eraseIdx (aN (L.map aM.t) s.table).toNat).flatMap bT):List ah).Perm (((⟨bx,68,cap*5,(L.take (aN (L.map aM.t) s.table).toNat).flatMap gT++(gT (L[(aN (L.map aM.t) s.table).toNat]'bW)++(L.drop ((aN (L.map aM.t) s.table).toNat+1)).flatMap gT)⟩:ah)::((L[(aN (L.map aM.t) s.table).toNat]'bW).sr++LR.flatMap bR))++(⟨I,35,2,[.list 1 [] 0,ae 0]⟩::⟨b3,44,12,aY s⟩::fV E (some ⟨bx,0,none⟩) L.length cap::((L.eraseIdx (aN (L.map aM.t) s.table).toNat).flatMap bT))) from by rw[show bT (L[(aN (L.map aM.t) s.table).toNat]'bW)=((L[(aN (L.map aM.t) s.table).toNat]'bW).sr++LR.flatMap bR) from by unfold bT;rw[q2]];exact(jB fun lM=>by simp only[map_append,map_cons,map_nil,sum_append,sum_cons,sum_nil];omega)) ?_
  rintro _ O ⟨rfl,Z⟩;refine OD.perm (S':=⟨I,35,2,[.list 1 [] 0,ae 0]⟩::⟨b3,44,12,aY s⟩::fV E (some ⟨bx,0,none⟩) L.length cap::(O++(L.eraseIdx (aN (L.map aM.t) s.table).toNat).flatMap bT)) (show(O++(⟨I,35,2,[.list 1 [] 0,ae 0]⟩::⟨b3,44,12,aY s⟩::fV E (some ⟨bx,0,none⟩) L.length cap::((L.eraseIdx (aN (L.map aM.t) s.table).toNat).flatMap bT)):List ah).Perm _ from(jB fun lM=>by simp only[map_append,map_cons,map_nil,sum_append,sum_cons,sum_nil];omega)) ?_;refine an 87 [4,8,9] ?_;refine aB 3 ?_;refine aP 0 [_,_] sizeOf35 ?_;refine aH 1 ?_;first|refine OD.cells (k:=0) (cs':=[.list 1 [] 0,_]) rfl ⟨fP,eM,trivial⟩ rfl ?_|skip
  refine an 87 [4,5] ?_;refine aK (fV E (some ⟨bx,0,none⟩) L.length cap::(O++(L.eraseIdx (aN (L.map aM.t) s.table).toNat).flatMap bT)) ?_;rw[aV];refine⟨rfl,fun h=>?_⟩;obtain⟨L',qq,kU,U,alT,rfl⟩:=Z h;exact KQ bW iM jz sN (aeP alT) (Perm.refl _)
 have DR:¬s.kind=5:=(by simpa using fF)
 have aV:eK (L.map aM.t) s=((L.map aM.t).set (aN (L.map aM.t) s.table).toNat (iT (L[(aN (L.map aM.t) s.table).toNat]'bW).t s.aj).1,(([],(iT (L[(aN (L.map aM.t) s.table).toNat]'bW).t s.aj).2.1),(iT (L[(aN (L.map aM.t) s.table).toNat]'bW).t s.aj).2.2)):=(by unfold eK;rw[iW,if_neg cM,if_neg h0,if_neg lA,if_neg j8,if_neg DR])
 obtain⟨n,hn,g⟩:=hg (L[(aN (L.map aM.t) s.table).toNat]'bW) (getElem_mem bW);obtain⟨Sg,Pp,jr⟩:=IR (aW (L[(aN (L.map aM.t) s.table).toNat]'bW) (getElem_mem bW));refine CD.perm (Jn (A:=[_,_,_]) bW) ?_;refine CD.wk (jr _ _ [_,_,_,_] _) ?_;refine aB 2 ?_
 refine OD.call (Sf:=(⟨bx,68,cap*5,(L.take (aN (L.map aM.t) s.table).toNat).flatMap gT++(gT (L[(aN (L.map aM.t) s.table).toNat]'bW)++(L.drop ((aN (L.map aM.t) s.table).toNat+1)).flatMap gT)⟩:ah)::Sg) (R:=⟨I,35,2,[.list 1 [] 0,ae 0]⟩::⟨b3,44,12,aY s⟩::fV E (some ⟨bx,0,none⟩) L.length cap::((L.eraseIdx (aN (L.map aM.t) s.table).toNat).flatMap bT)) aq rfl rfl rfl call48 (acU hm hw ht hG (L[(aN (L.map aM.t) s.table).toNat]'bW).t g s ho fY bx (0+(aN (L.map aM.t) s.table).toNat*5) (cap*5) ((L.take (aN (L.map aM.t) s.table).toNat).flatMap gT) ((L.drop ((aN (L.map aM.t) s.table).toNat+1)).flatMap gT) Mb (L[(aN (L.map aM.t) s.table).toNat]'bW).ad (L[(aN (L.map aM.t) s.table).toNat]'bW).cap Sg Pp) ⟨ot,ot,trivial⟩ (show(⟨I,35,2,[.list 1 [] 0,ae 0]⟩::⟨b3,44,12,aY s⟩::fV E (some ⟨bx,0,none⟩) L.length cap::(⟨bx,68,cap*5,(L.take (aN (L.map aM.t) s.table).toNat).flatMap gT++(gT (L[(aN (L.map aM.t) s.table).toNat]'bW)++(L.drop ((aN (L.map aM.t) s.table).toNat+1)).flatMap gT)⟩:ah)::(Sg++(L.eraseIdx (aN (L.map aM.t) s.table).toNat).flatMap bT):List ah).Perm (((⟨bx,68,cap*5,(L.take (aN (L.map aM.t) s.table).toNat).flatMap gT++(gT (L[(aN (L.map aM.t) s.table).toNat]'bW)++(L.drop ((aN (L.map aM.t) s.table).toNat+1)).flatMap gT)⟩:ah)::Sg)++(⟨I,35,2,[.list 1 [] 0,ae 0]⟩::⟨b3,44,12,aY s⟩::fV E (some ⟨bx,0,none⟩) L.length cap::((L.eraseIdx (aN (L.map aM.t) s.table).toNat).flatMap bT))) from(jB fun lM=>by simp only[map_append,map_cons,map_nil,sum_append,sum_cons,sum_nil];omega)) ?_
 rintro _ O ⟨rfl,Z⟩;refine OD.perm (S':=⟨I,35,2,[.list 1 [] 0,ae 0]⟩::⟨b3,44,12,aY s⟩::fV E (some ⟨bx,0,none⟩) L.length cap::(O++(L.eraseIdx (aN (L.map aM.t) s.table).toNat).flatMap bT)) (show(O++(⟨I,35,2,[.list 1 [] 0,ae 0]⟩::⟨b3,44,12,aY s⟩::fV E (some ⟨bx,0,none⟩) L.length cap::((L.eraseIdx (aN (L.map aM.t) s.table).toNat).flatMap bT)):List ah).Perm _ from(jB fun lM=>by simp only[map_append,map_cons,map_nil,sum_append,sum_cons,sum_nil];omega)) ?_;refine an 87 [4,10,11] ?_;refine aB 3 ?_;refine aP 0 [_,_] sizeOf35 ?_;refine aH 1 ?_;first|refine OD.cells (k:=0) (cs':=[.list 1 [] 0,_]) rfl ⟨fP,eM,trivial⟩ rfl ?_|skip
 refine an 87 [4,5] ?_;refine aK (fV E (some ⟨bx,0,none⟩) L.length cap::(O++(L.eraseIdx (aN (L.map aM.t) s.table).toNat).flatMap bT)) ?_;rw[aV];refine⟨rfl,fun h=>?_⟩;obtain⟨qq,kU,U,M9,rfl⟩:=Z h;exact KQ bW iM jz sN (UU M9) (by rw[show bT (⟨_,_,qq,kU,U,[]⟩:aM)=U from append_nil _];exact Perm.refl _)

end Go.Proofs.YtbplamgacibdaaaGreatDoor.Ba
namespace Go.Proofs.YtbplamgacibdaaaGreatDoor.Ba
open List
open Go.Proofs.Tryz
open Go.RowKit V Pk Tr Vl Go.Proofs.YtbplamgacibdaaaGreatDoor.Nm Pc Cd Ex Tw
open Pa (bp aY)
variable {G:List (Nat×List Value)} {m:Int}
variable {n:Nat}
def vQ(t:az)(i:Nat):Nat:=((range i).filter fun j=>decide ((t.rows.getD j []).length≠0)).length
theorem Fa(t:az)(i:Nat):vQ t (i+1)=vQ t i+if (t.rows.getD i []).length≠0 then 1 else 0:=by
 unfold vQ;rw[range_succ,filter_append,length_append];congr 1;by_cases h:(t.rows.getD i []).length≠0
 ·rw[if_pos h,filter_cons_of_pos oV];rfl
 rw[if_neg h,filter_cons_of_neg oV];rfl
theorem U7(t:az)(i:Nat):vQ t i<=i:=by
 unfold vQ;exact Nat.le_trans (length_filter_le _ _) (by rw[length_range];exact Nat.le_refl _)
theorem JY{t:az}{i:Nat}(h:i<t.rows.length):t.rows.getD i []=t.rows[i]:=by rw[getD_eq_getElem?_getD,getElem?_eq_getElem h];rfl
theorem TC{t:az}(g:cQ t n):vQ t t.rows.length=(dg t.ix).length:=by
 unfold vQ;have hA:((dg t.ix).map fun x=>x.2.toNat).Nodup:=by
  have hr:(dg t.ix).Pairwise (fun a b=>bG a.1 b.1):=y7 g.ix.val;rw[Nodup,pairwise_map];refine hr.imp_of_mem fun {a b} ha hb h e=>?_;obtain⟨a0,a1,a2,a3⟩:=g.gH a ha;obtain⟨b0,b1,b2,b3⟩:=g.gH b hb;refine jS a.1 ?_;have:a.1=b.1:=(by rw[a3,b3];simp only[e])
  rw[<-this] at h;exact h
 have hB:((range t.rows.length).filter fun j=>decide ((t.rows.getD j []).length≠0)).Nodup:=List.nodup_range.filter _;have h1:=hA.length_le_of_subset (l₂:=(range t.rows.length).filter fun j=>decide ((t.rows.getD j []).length≠0)) fun i hi=>by
  obtain⟨x,hx,rfl⟩:=mem_map.1 hi;obtain⟨x0,x1,Z,x3⟩:=g.gH x hx;refine mem_filter.2 ⟨mem_range.2 x1,decide_eq_true ?_⟩;rw[JY x1];exact fun h=>Z (length_eq_zero_iff.1 h)
 have h2:=hB.length_le_of_subset (l₂:=(dg t.ix).map fun x=>x.2.toNat) fun i hi=>by
  obtain⟨O,U⟩:=mem_filter.1 hi;have E:=mem_range.1 O;have I:=of_decide_eq_true U;rw[JY E] at I;exact mem_map.2 ⟨_,(g.row i E (fun h=>I (by rw[h];rfl))).2.2,by simp⟩
 (first|rw[length_map] at h1|(unfold ap at h1;rw[length_map] at h1));(first|rw[length_map] at h2|(unfold ap at h2;rw[length_map] at h2))
 omega
theorem Bv(hm:(3,marksC)∈G)(hw:(1,wordsC)∈G)(ht:(0,typesC)∈G)(hG:(2,[Value.int .i64 m])∈G)(t:az)(g:cQ t n)(tJ:t.nm.size<=maxLen):VP Tryz.prog G 34 [.agg (cG t)] (bP true):=by
 refine VC.body func34 rfl ntmps34 aU fun X0 w0 bj=>?_;have cR:=dI;have jg:=g.ec;have nO:=vj (G:=G) hm hw t.nm tJ;rw[g.nm] at nO;have fw:=Pc.FI (G:=G) hm hw ht t.ay yg yf;have hco:Pc.fQ t.ay=0:=(by rw[g.ay];exact J7)
 rw[hco] at fw;have tM:=af0 (G:=G) g.ix;have qh:=TB (G:=G) g.ix;rw[Bw] at qh;unfold Tw.cT at tM qh;have XT:=TC g;unfold cG;refine bS ?_;refine OD.box (ds:=[_,_,_,_,_]) aq rfl rfl ot rfl rfl (fun b1=>?_);refine an 76 [1] ?_;refine aB 2 ?_;refine ez call61 (nO) ?_;refine aH 2 ?_;refine bZ 14 (fun E Z=>?_) (fun E Z=>?_)
 ·exact absurd E (by simp at E)
 refine aH 2 ?_;refine OD.iD iN rfl rfl rfl call56 (fw) ⟨ot,trivial⟩ ?_;refine aH 3 ?_;refine bZ 20 (fun I LJ=>?_) (fun I LJ=>?_)
 ·exact absurd I (by simp at I)
 refine aH 6 ?_;refine bZ 26 (fun O LV=>?_) (fun O LV=>?_)
 ·exact absurd O (by (simp at O;omega))
 refine aH 2 ?_;refine OD.iD iN rfl rfl rfl call51 (tM) ⟨ot,trivial⟩ ?_;refine an 76 [1,31] ?_;refine au ?_ ?_<;>intro aJ bz
 ·exact absurd aJ (by simp at aJ)
 refine af [1,3] ?_;refine af [1,3,33,34,35] ?_;refine CD.block ?_;refine nu (fun (i:Nat) aE=>(i<=t.rows.length)/\aE=(⟨76,[(1,cY b1),(3,ae (vQ t i:Nat)),(33,ap 1 ev t.rows),(34,ae (t.rows.length:Nat)),(35,ae (i:Nat))],[⟨b1,68,5,cG t⟩]⟩:St)) (fun (i:Nat)=>t.rows.length-i) 0 ⟨(Nat.zero_le _),rfl⟩ (aI (h:=by repeat (first|exact trivial|refine⟨(by (repeat (first|exact fK|(apply gb;focus (first|rfl|(rw[Fa,if_neg Ag];rfl)|(rw[Fa,if_pos Ag];rfl)|(simp;done)|(congr 2;omega)))|(apply fO;focus rfl)));done),?_⟩))) ?_;rintro i _ ⟨hi,rfl⟩;refine af [1,3,33,34,35,36] ?_;refine au ?_ ?_<;>intro aX cr
 ·have aa:i<t.rows.length:=(by omega)
  have iW:t.rows.getD i []=(t.rows[i]'aa):=JY aa;have fj:=U7 t i;refine af [1,3,4,5,33,34,35] ?_;refine af [1,3,4,5,33,34,35,42] ?_;refine au ?_ ?_<;>intro bL cJ
  ·have Ag:¬(t.rows.getD i []).length≠0:=(by rw[iW];simpa using bL)
   exact Yr
  have Ag:(t.rows.getD i []).length≠0:=(by rw[iW];simpa using bL)
  have hne:(t.rows[i]'aa)≠[]:=fun h=>Ag (by rw[iW,h];rfl);obtain⟨p1,p2,p3⟩:=g.row i aa hne;have p4:=oN p1;have yT:=K8 (G:=G) hm hw ht t.ay yg yf (t.rows[i]'aa) w4;have ZK:Pc.dY t.ay (t.rows[i]'aa)=0:=(by rw[g.ay];exact p1)
  rw[ZK] at yT;have hyv:=xz (G:=G) hG (t.rows[i]'aa) w4 w4 p2;have eY:=Lh (G:=G) g.ix (cg (t.rows[i]'aa));rw[Te g.ix (vn p1) p3] at eY;unfold Tw.cT at eY;refine af [1,3,4,5,33,34,35] ?_;refine cL [1,3,4,5,33,34,35,49] (yT) ?_;refine au ?_ ?_<;>intro cN en
  ·exact absurd cN (by simp at cN)
  refine cz [1,3,4,6,7,33,34,35] ?_;refine cf (hyv) ?_;refine cf (eY) ?_;refine bA ?_;refine aB 3 ?_;refine bZ 60 (fun U LL=>?_) (fun U LL=>?_)
  ·exact absurd U (by simp at U)
  refine bu [1,3,33,34,35,64] ?_;refine au ?_ ?_<;>intro dW fB
  ·exact absurd dW (by simp at dW)
  exact Yr
 have uD:i=t.rows.length:=(by omega)
 subst uD;refine cL [3,8] (qh) ?_;refine af [2] ?_;refine aK [] ?_;refine⟨?_,rfl⟩;first|rfl|(rw[XT];simp)

structure lg (l:List az) (n:Nat):Prop where
 ec:l.length<=4
 tb:∀t∈l,cQ t n
 sz:∀t∈l,t.nm.size<=maxLen
 Ey:l.Pairwise fun a b=>a.nm.toList≠b.nm.toList
theorem lg.no{l:List az}(g:lg l n){i:Nat}(h:i<l.length):aN (l.take i) l[i].nm<0:=by
 unfold aN;rw[wO (k:=(l.take i).length) w4 (fun x hx=>?_)]
 ·decide
 rw[take_of_length_le (Nat.le_refl _)] at hx;obtain⟨j,hj,rfl⟩:=mem_iff_getElem.1 hx;rw[length_take] at hj;rw[getElem_take];have:=pairwise_iff_getElem.1 g.Ey j i w4 h w4;simpa using this
theorem Qx(hm:(3,marksC)∈G)(hw:(1,wordsC)∈G)(ht:(0,typesC)∈G)(hG:(2,[Value.int .i64 m])∈G)(l:List az)(g:lg l n):VP Tryz.prog G 20 [.agg [ap 5 cG (l)]] (ae 0):=by
 refine VC.body func20 rfl ntmps20 aU fun X0 w0 bj=>?_;have cR:=dI;have jg:=g.ec;refine bS ?_;refine OD.box (ds:=[_]) aq rfl rfl ot rfl rfl (fun b1=>?_);refine an 31 [1] ?_;refine af [1,8] ?_;refine au ?_ ?_<;>intro aJ bz
 ·exact absurd aJ (by (simp at aJ;omega))
 refine af [1,10,11,12] ?_;refine ew [1,10,11] (fun aS _ (i:Nat) aE=>(i<=l.length)/\aE=(⟨31,(12,ae (i:Nat))::aS,[⟨b1,31,1,[ap 5 cG (l)]⟩]⟩:St)) (fun (i:Nat)=>l.length-i) 0 ⟨(Nat.zero_le _),rfl⟩ ?_;rintro i _ ⟨hi,rfl⟩;refine af [1,10,11,12,13] ?_;refine au ?_ ?_<;>intro aX cr
 ·have aa:i<l.length:=(by omega)
  have O:=Bv hm hw ht hG (l[i]'aa) (g.tb _ (getElem_mem aa)) (g.sz _ (getElem_mem aa));have eY:=pU (G:=G) (l.take i) pC (l[i]'aa).nm;have lB:=g.no aa;unfold cG at O;refine aB 3 ?_;refine OD.alloc (ds:=[_,_,_,_,_]) aq rfl rfl zeroValue68 rfl (fun U=>?_);refine aH 1 ?_;refine aP 0 [_,_,_,_,_] sizeOf68 ?_;refine an 31 [1,3,4,10,11,12] ?_;refine CD.seq ?_;refine gP 10 (av _) ?_ (fun _ h=>h);refine aD 0 rfl (dz (mk:=Op.load 68) rfl ot (by first|exact qD (k:=0) (ds:=[_,_,_,_,_]) rfl rfl isAgg68 sizeOf68 rfl rfl|exact kH jT isAgg68 sizeOf68 w5|exact dJ (k:=0) jT rfl rfl rfl isAgg68 sizeOf68 w5|exact dJ (k:=1) jT rfl rfl rfl isAgg68 sizeOf68 w5|exact qG (ds:=[_,_,_,_,_]) isAgg68 sizeOf68 rfl rfl)) ?_;refine dM.later rfl ?_;refine AD.one (i:=1) aC ?_;refine qm call34 (O) ?_;refine dm 2 rfl lD ?_;refine dm 3 rfl bD ?_;refine AD.split (t:=20) lk (fun E=>?_) (fun E=>?_)
  ·exact absurd E (by simp at E)
  have I:=E;(try simp only[V.nR,ne_eq] at I)
  refine dm 4 rfl (dQ 0) ?_;refine dm 6 rfl bD ?_;refine dm 8 rfl (dQ 0) ?_;refine AD.two (i:=5) (j:=9) aC ?_ ?_
  ·refine at_ rfl (dS 1) ?_;refine dm 7 rfl (eE (l:=0) (h:=i) rfl ot trivial ⟨_,ot⟩ (by exact nx jT (fun h=>by cases h) runUnderlying29 sizeOf68 w4)) ?_;refine AD.one (i:=9) aC ?_;refine at_ rfl (dS 0) ?_;exact Yu
  refine at_ rfl (dS 0) ?_;refine AD.one (i:=5) aC ?_;refine at_ rfl (dS 1) ?_;refine dm 7 rfl (eE (l:=0) (h:=i) rfl ot trivial ⟨_,ot⟩ (by exact nx jT (fun h=>by cases h) runUnderlying29 sizeOf68 w4)) ?_;exact Yu
 refine af [2] ?_;exact nP

end Go.Proofs.YtbplamgacibdaaaGreatDoor.Ba
namespace Go.Proofs.YtbplamgacibdaaaGreatDoor.Ba
open List
open Go.Proofs.Tryz
open Go.RowKit V Pk Tr Vl Go.Proofs.YtbplamgacibdaaaGreatDoor.Nm Pc Cd Ex Tw
open Pa (bp aY dZ dA)
variable {G:List (Nat×List Value)} {m:Int}
noncomputable def kI(l:List az)(s:bp):List az×((List (List Vl)×Int)×Int) :=
 if dA s≠0 then ([],(([],0),dA s)) else if 7<=s.kind then ([],(([],0),2)) else if (eK l s).2.2≠0 then ([],(([],0),(eK l s).2.2)) else ((eK l s).1,((eK l s).2.1,0))
noncomputable def rO(rr:List az×((List (List Vl)×Int)×Int))(s:bp):List az×((List (List Vl)×Int)×Int) :=
 if dA s≠0 then ([],(([],0),dA s)) else if 7<=s.kind then ([],(([],0),2)) else if rr.2.2≠0 then ([],(([],0),rr.2.2)) else (rr.1,(rr.2.1,0))
def tN(p:List az×((List (List Vl)×Int)×Int)):D:=.da [.agg [ap 5 cG p.1],.agg [ap 1 ev p.2.1.1,ae p.2.1.2],ae p.2.2]
theorem UW(hm:(3,marksC)∈G)(hw:(1,wordsC)∈G)(ht:(0,typesC)∈G)(hG:(2,[Value.int .i64 m])∈G)(l:List az){n:Nat}(g:lg l n)(s:bp)(hf:dZ s)(E:List az×((List (List Vl)×Int)×Int))(oh:∀(L:List aM),L.map aM.t=l->(∀o∈L,pO o)->∀(bo:Nat) (ad:Option Addr) (cap:Nat) (Sx:List ah),vN L ad cap Sx->VC Tryz.prog G 23 [cY bo,.agg (aY s)] (fV bo ad L.length cap::(Sx++L.flatMap bT)) (fun r S=>r=yS E.2/\(E.2.2=0->Cs E.1 bo S)))(Pq:E.2.2=0->E.1.length<=1000/\∀t∈E.1,zG t):VP Tryz.prog G 8 [.agg [ap 5 cG (l)],.agg (aY s)] (tN (rO E s)):=by
 refine VC.body func8 rfl ntmps8 aU fun X0 w0 bj=>?_;have cR:=dI;have jg:=g.ec;have qP:=Qx hm hw ht hG l g;have fw:=Pa.Sj (G:=G) hm hw ht s hf;refine bS ?_;refine OD.box (ds:=[_]) aq rfl rfl ot rfl rfl (fun b2=>?_);refine OD.box (ds:=[_,_,_,_,_,_,_,_,_,_,_,_]) aq rfl rfl ot rfl rfl (fun b3=>?_);refine OD.alloc (ds:=[_]) aq rfl rfl zeroValue31 rfl (fun I=>?_);refine OD.alloc (ds:=[_,_]) aq rfl rfl zeroValue35 rfl (fun b5=>?_);refine aH 1 ?_;first|refine OD.cells (k:=0) (cs':=[.list 1 [] 0,_]) rfl ⟨fP,eM,trivial⟩ rfl ?_|skip
 first|refine OD.cells (k:=1) (cs':=[.list 1 [] 0,_]) rfl ⟨fP,eM,trivial⟩ rfl ?_|skip
 first|refine OD.cells (k:=1) (cs':=[.list 5 [] 0]) rfl ⟨fP,trivial⟩ rfl ?_|skip
 first|refine OD.cells (k:=2) (cs':=[.list 5 [] 0]) rfl ⟨fP,trivial⟩ rfl ?_|skip
 refine an 46 [2,3,4,5] ?_;refine cL [2,3,4,5,7] (qP) ?_;refine af [2,3,4,5,7,15] ?_;refine au ?_ ?_<;>intro aJ bz
 ·exact absurd aJ (by simp at aJ)
 refine cL [2,3,4,5,8] (fw) ?_;refine af [2,3,4,5,8,22] ?_;refine au ?_ ?_<;>intro aX cr
 ·have h1:dA s≠0:=(by simpa using aX)
  have aV:rO E s=([],(([],0),dA s)):=if_pos h1;refine aB 3 ?_;refine aP 1 [_] sizeOf31 ?_;refine aP 0 [_,_] sizeOf35 ?_;exact NX
 have h1:¬dA s≠0:=(by simpa using aX)
 refine af [2,3,4,5,28] ?_;refine au ?_ ?_<;>intro bL cJ
 ·have h2:7<=s.kind:=(by simpa using bL)
  have aV:rO E s=([],(([],0),2)):=(by unfold rO;rw[if_neg h1,if_pos h2])
  refine aB 2 ?_;refine aP 1 [_] sizeOf31 ?_;refine aP 0 [_,_] sizeOf35 ?_;exact NX
 have h2:¬7<=s.kind:=(by simpa using bL)
 refine aB 1 ?_;refine OD.call aq rfl rfl rfl call22 (Ro l w4 (fun t h=>(g.tb t h).small)) ⟨ot,trivial⟩ (eX _) ?_;rintro _ _ ⟨L,ad,cap,Sx,rfl,eW,aW,q9,rfl⟩;refine OD.perm (S':=⟨b5,35,2,[.list 1 [] 0,ae 0]⟩::⟨I,31,1,[.list 5 [] 0]⟩::⟨b3,44,12,aY s⟩::⟨b2,31,1,[ap 5 cG (l)]⟩::(Sx++L.flatMap bT)) (show((Sx++L.flatMap bT)++(⟨b5,35,2,[.list 1 [] 0,ae 0]⟩::⟨I,31,1,[.list 5 [] 0]⟩::⟨b3,44,12,aY s⟩::[⟨b2,31,1,[ap 5 cG (l)]⟩]):List ah).Perm _ from(jB fun lM=>by simp only[map_append,map_cons,map_nil,sum_append,sum_cons,sum_nil];omega)) ?_;refine OD.alloc (ds:=[_]) aq rfl rfl zeroValue31 rfl (fun b9=>?_);refine aP 0 [_] sizeOf31 ?_;refine an 46 [3,4,5,9] ?_;refine aB 1 ?_;have rW:L.length=l.length:=(by rw[<-q9];(first|rw[length_map]|(unfold ap;rw[length_map])))
 refine OD.call (Sf:=fV b9 ad L.length cap::(Sx++L.flatMap bT)) (R:=⟨b5,35,2,[.list 1 [] 0,ae 0]⟩::⟨I,31,1,[.list 5 [] 0]⟩::⟨b3,44,12,aY s⟩::[⟨b2,31,1,[ap 5 cG (l)]⟩]) aq rfl rfl rfl call23 (oh L q9 aW b9 ad cap Sx eW) ⟨ot,ot,trivial⟩ (show(fV b9 ad L.length cap::⟨b5,35,2,[.list 1 [] 0,ae 0]⟩::⟨I,31,1,[.list 5 [] 0]⟩::⟨b3,44,12,aY s⟩::⟨b2,31,1,[ap 5 cG (l)]⟩::(Sx++L.flatMap bT):List ah).Perm ((fV b9 ad L.length cap::(Sx++L.flatMap bT))++(⟨b5,35,2,[.list 1 [] 0,ae 0]⟩::⟨I,31,1,[.list 5 [] 0]⟩::⟨b3,44,12,aY s⟩::[⟨b2,31,1,[ap 5 cG (l)]⟩])) from(jB fun lM=>by simp only[map_append,map_cons,map_nil,sum_append,sum_cons,sum_nil];omega)) ?_;rintro _ S9 ⟨rfl,h9⟩;refine OD.perm (S':=⟨b5,35,2,[.list 1 [] 0,ae 0]⟩::⟨I,31,1,[.list 5 [] 0]⟩::⟨b3,44,12,aY s⟩::⟨b2,31,1,[ap 5 cG (l)]⟩::S9) (show(S9++(⟨b5,35,2,[.list 1 [] 0,ae 0]⟩::⟨I,31,1,[.list 5 [] 0]⟩::⟨b3,44,12,aY s⟩::[⟨b2,31,1,[ap 5 cG (l)]⟩]):List ah).Perm _ from(jB fun lM=>by simp only[map_append,map_cons,map_nil,sum_append,sum_cons,sum_nil];omega)) ?_;unfold yS;refine aH 3 ?_;refine OD.alloc (ds:=[_,_]) aq rfl rfl zeroValue35 rfl (fun jL=>?_);refine aP 0 [_,_] sizeOf35 ?_;refine an 46 [4,5,9,10,11] ?_;refine af [4,5,9,10,11,39] ?_;refine au ?_ ?_<;>intro cN en
 ·have h3:E.2.2≠0:=(by simpa using cN)
  have aV:rO E s=([],(([],0),E.2.2)):=(by unfold rO;rw[if_neg h1,if_neg h2,if_pos h3])
  refine aB 3 ?_;refine aP 2 [_] sizeOf31 ?_;refine aP 1 [_,_] sizeOf35 ?_;exact NX
 have h3:¬E.2.2≠0:=(by simpa using cN)
 have aV:rO E s=(E.1,(E.2.1,0)):=(by unfold rO;rw[if_neg h1,if_neg h2,if_neg h3])
 obtain⟨L',O,kU,U,Z,ajd,alU,hS⟩:=h9 (Classical.not_not.1 h3);obtain⟨Ii,uP⟩:=Pq (Classical.not_not.1 h3);have yo:=acP (G:=G) E.1 Ii uP;refine CD.perm (S':=⟨jL,35,2,[ap 1 ev E.2.1.1,ae E.2.1.2]⟩::⟨b5,35,2,[.list 1 [] 0,ae 0]⟩::⟨I,31,1,[.list 5 [] 0]⟩::⟨b3,44,12,aY s⟩::⟨b2,31,1,[ap 5 cG (l)]⟩::(fV b9 O L'.length kU::(U++L'.flatMap bT))) (show((⟨jL,35,2,[ap 1 ev E.2.1.1,ae E.2.1.2]⟩::⟨b5,35,2,[.list 1 [] 0,ae 0]⟩::⟨I,31,1,[.list 5 [] 0]⟩::⟨b3,44,12,aY s⟩::[⟨b2,31,1,[ap 5 cG (l)]⟩])++S9:List ah).Perm ((⟨jL,35,2,[ap 1 ev E.2.1.1,ae E.2.1.2]⟩::⟨b5,35,2,[.list 1 [] 0,ae 0]⟩::⟨I,31,1,[.list 5 [] 0]⟩::⟨b3,44,12,aY s⟩::[⟨b2,31,1,[ap 5 cG (l)]⟩])++(fV b9 O L'.length kU::(U++L'.flatMap bT))) from Perm.append_left ((⟨jL,35,2,[ap 1 ev E.2.1.1,ae E.2.1.2]⟩::⟨b5,35,2,[.list 1 [] 0,ae 0]⟩::⟨I,31,1,[.list 5 [] 0]⟩::⟨b3,44,12,aY s⟩::[⟨b2,31,1,[ap 5 cG (l)]⟩]):List ah) hS) ?_
 refine CD.wk (Wk.cover (A:=fV b9 O L'.length kU) (R:=⟨jL,35,2,[ap 1 ev E.2.1.1,ae E.2.1.2]⟩::⟨b5,35,2,[.list 1 [] 0,ae 0]⟩::⟨I,31,1,[.list 5 [] 0]⟩::⟨b3,44,12,aY s⟩::[⟨b2,31,1,[ap 5 cG (l)]⟩]) (Sd:=U++L'.flatMap bT) (cs':=[ap 5 cG (E.1)]) (show(⟨jL,35,2,[ap 1 ev E.2.1.1,ae E.2.1.2]⟩::⟨b5,35,2,[.list 1 [] 0,ae 0]⟩::⟨I,31,1,[.list 5 [] 0]⟩::⟨b3,44,12,aY s⟩::⟨b2,31,1,[ap 5 cG (l)]⟩::(fV b9 O L'.length kU::(U++L'.flatMap bT)):List ah).Perm _ from(jB fun lM=>by simp only[map_append,map_cons,map_nil,sum_append,sum_cons,sum_nil];omega)) ⟨by rw[<-alU];(first|rw[length_map]|(unfold ap;rw[length_map]));exact KY Z ajd (fun B h=>h),trivial⟩) ?_;refine CD.skip ?_;refine CD.seq ?_;refine gP 4 (av (eraseIdx _ 3)) ?_ (fun _ h=>(Sublist.map _ (eraseIdx_sublist _ 3)).subset h)
 refine aD 0 rfl (dz (mk:=Op.load 31) rfl ot (by first|exact qD (k:=0) (ds:=[_]) rfl rfl isAgg31 sizeOf31 rfl rfl|exact kH jT isAgg31 sizeOf31 w5|exact kH js isAgg31 sizeOf31 w5|exact dJ (k:=0) jT rfl rfl rfl isAgg31 sizeOf31 w5|exact dJ (k:=1) jT rfl rfl rfl isAgg31 sizeOf31 w5|exact dJ (k:=2) jT rfl rfl rfl isAgg31 sizeOf31 w5|exact dJ (k:=3) jT rfl rfl rfl isAgg31 sizeOf31 w5|exact dJ (k:=4) jT rfl rfl rfl isAgg31 sizeOf31 w5|exact dJ (k:=5) jT rfl rfl rfl isAgg31 sizeOf31 w5|exact dJ (k:=0) js rfl rfl rfl isAgg31 sizeOf31 w5|exact dJ (k:=1) js rfl rfl rfl isAgg31 sizeOf31 w5|exact dJ (k:=2) js rfl rfl rfl isAgg31 sizeOf31 w5|exact dJ (k:=3) js rfl rfl rfl isAgg31 sizeOf31 w5|exact dJ (k:=4) js rfl rfl rfl isAgg31 sizeOf31 w5|exact dJ (k:=5) js rfl rfl rfl isAgg31 sizeOf31 w5|exact qG (ds:=[_]) isAgg31 sizeOf31 rfl rfl)) ?_
 refine aD 2 rfl (dz (mk:=Op.load 35) rfl ot (by first|exact qD (k:=1) (ds:=[_,_]) rfl rfl isAgg35 sizeOf35 rfl rfl|exact kH jT isAgg35 sizeOf35 w5|exact kH js isAgg35 sizeOf35 w5|exact dJ (k:=0) jT rfl rfl rfl isAgg35 sizeOf35 w5|exact dJ (k:=1) jT rfl rfl rfl isAgg35 sizeOf35 w5|exact dJ (k:=2) jT rfl rfl rfl isAgg35 sizeOf35 w5|exact dJ (k:=3) jT rfl rfl rfl isAgg35 sizeOf35 w5|exact dJ (k:=4) jT rfl rfl rfl isAgg35 sizeOf35 w5|exact dJ (k:=5) jT rfl rfl rfl isAgg35 sizeOf35 w5|exact dJ (k:=0) js rfl rfl rfl isAgg35 sizeOf35 w5|exact dJ (k:=1) js rfl rfl rfl isAgg35 sizeOf35 w5|exact dJ (k:=2) js rfl rfl rfl isAgg35 sizeOf35 w5|exact dJ (k:=3) js rfl rfl rfl isAgg35 sizeOf35 w5|exact dJ (k:=4) js rfl rfl rfl isAgg35 sizeOf35 w5|exact dJ (k:=5) js rfl rfl rfl isAgg35 sizeOf35 w5|exact qG (ds:=[_,_]) isAgg35 sizeOf35 rfl rfl)) ?_;refine dM.later rfl ?_;refine AD.one (i:=1) aC ?_;refine qm call22 (yo) ?_;refine AD.one (i:=3) aC ?_;refine ee 3 [_] sizeOf31 ?_;refine fm ?_;refine aP 2 [_,_] sizeOf35 ?_;refine aH 1 ?_;first|refine OD.cells (k:=0) (cs':=[.list 1 [] 0,_]) rfl ⟨fP,eM,trivial⟩ rfl ?_|skip
 first|refine OD.cells (k:=1) (cs':=[.list 1 [] 0,_]) rfl ⟨fP,eM,trivial⟩ rfl ?_|skip
 first|refine OD.cells (k:=1) (cs':=[.list 5 [] 0]) rfl ⟨fP,trivial⟩ rfl ?_|skip
 first|refine OD.cells (k:=2) (cs':=[.list 5 [] 0]) rfl ⟨fP,trivial⟩ rfl ?_|skip
 refine an 46 [4,5,6] ?_;exact uL
theorem VF(hm:(3,marksC)∈G)(hw:(1,wordsC)∈G)(ht:(0,typesC)∈G)(hG:(2,[Value.int .i64 m])∈G)(l:List az){n:Nat}(hn:n<=260)(g:lg l n)(s:bp)(hf:dZ s)(eD:¬s.kind=2)(E:∀v∈s.row,v.Ok)(ho:∀o∈s.aj,o.nm.size<=maxLen)(fY:∀o∈s.aj,o.v.Ok)(O:∀o∈s.bF,o.nm.size<=maxLen)(I:∀o∈s.bF,o.v.Ok)(U:(eK l s).2.2=0->(eK l s).1.length<=1000/\∀t∈(eK l s).1,zG t):VP Tryz.prog G 8 [.agg [ap 5 cG (l)],.agg (aY s)] (tN (kI l s)) :=
 UW hm hw ht hG l g s hf (eK l s) (fun L Z aW bo ad cap Sx eW=>by
  subst Z;have jg:=g.ec
  (first|rw[length_map] at jg|(unfold ap at jg;rw[length_map] at jg))
  exact ahJ hm hw ht hG L aW w4 (fun o ho=>⟨n,hn,g.tb _ (mem_map_of_mem ho)⟩) s eD (by have:=hf.ok.1;omega) (by have:=hf.ok.2.1;omega) E (by have:=hf.ok.2.2.1;omega) ho fY O I bo ad cap Sx eW) U

end Go.Proofs.YtbplamgacibdaaaGreatDoor.Ba
namespace Go.Proofs.YtbplamgacibdaaaGreatDoor.Ba
open List
open Go.Proofs.Tryz
open Go.RowKit V Pk Tr Vl Go.Proofs.YtbplamgacibdaaaGreatDoor.Nm Pc Cd Ex Tw Go.Proofs.YtbplamgacibdaaaGreatDoor.So
theorem aeQ{α:Type}{g:α->List D}{z:Nat}(hg:∀a,(g a).length=z){q:List α}{i cap:Nat}(hi:i<q.length)(hc:q.length<=cap):((q.flatMap g).drop (eJ cap (i+1) z 0)).take ((q.length-(i+1))*z)=(q.drop (i+1)).flatMap g:=by
 exact z75
theorem agj{α:Type}{g:α->List D}{z:Nat}(hg:∀a,(g a).length=z){q:List α}{i:Nat}(hi:i<q.length):dh (q.flatMap g) (i*z) ((q.drop (i+1)).flatMap g)=(q.eraseIdx i).flatMap g++(q.flatMap g).drop (i*z+((q.drop (i+1)).flatMap g).length):=by
 rw[uZ _ _ _ (by rw[cm hg,cm hg,length_drop,<-Nat.add_mul];exact Nat.mul_le_mul_right _ w4),sC hg,eraseIdx_eq_take_drop_succ,flatMap_append]
variable {G:List (Nat×List Value)}
theorem Z1:(Tryz.prog.info? 68).map (fun i=>i.size)=some 5:=by kernel_rfl
theorem abw(q:List aM)(i cap b:Nat)(hi:i<q.length)(hc:q.length<=cap)(hm:cap<=maxLen)(hs:q.length<=1000):VC Tryz.prog G 44 [aT (some ⟨b,0,none⟩) q.length cap,ae (i:Nat),ae ((i+1:Nat):Int)] [⟨b,68,cap*5,q.flatMap gT⟩] (fun r S=>r=aT (some ⟨b,0,none⟩) (q.length-1) cap/\S=[⟨b,68,cap*5,(q.eraseIdx i).flatMap gT⟩]):=by
 refine VC.body func44 rfl ntmps44 aU fun X0 w0 bj=>?_;refine af [0,1,2] ?_;refine cz [0,1,2] ?_;refine aR 5 ?_ (h:=by exact(Iw rfl ot ot ot ot runUnderlying29 sizeOf68 w4 w4 hc));refine iz ?_;refine af [0,1,2,16] ?_;refine au ?_ ?_<;>intro aJ bz
 ·exact absurd aJ s9
 refine af [0,1,2,7] ?_;refine CD.seq ?_;refine gP 7 (av (eraseIdx _ 0)) ?_ (fun _ h=>(Sublist.map _ (eraseIdx_sublist _ 0)).subset h);refine aD 0 rfl bD ?_;refine aD 1 rfl bD ?_;refine aD 2 rfl (eE (l:=0) (h:=i) rfl ot trivial ⟨_,ot⟩ (by first|exact nx oJ (fun h=>by cases h) runUnderlying29 sizeOf68 w4|exact mW (fun h=>by cases h) runUnderlying29 sizeOf68 w4|exact ue (fun _=>rfl) (fun h=>by cases h) runUnderlying29 sizeOf68 w4 w4|exact mz (fun _=>rfl) (fun h=>by cases h) runUnderlying29 sizeOf68 w4 w4)) ?_;refine aD 3 rfl bD ?_;refine aD 4 rfl bD ?_;refine aD 5 rfl (eE (l:=i+1) rfl ot ⟨_,ot⟩ trivial (by first|exact vf rfl oJ (fun h=>by cases h) runUnderlying29 sizeOf68 w4|exact mW (fun _=>rfl) runUnderlying29 sizeOf68 w4|exact ue (fun h=>by cases h) (fun _=>rfl) runUnderlying29 sizeOf68 w4 w4|exact mz (fun h=>by cases h) (fun _=>rfl) runUnderlying29 sizeOf68 w4 w4)) ?_;refine dM.later rfl ?_;refine AD.one (i:=6) aC ?_;refine bC.JB (n:=i) (m:=q.length-(i+1)) (k:=0) (new:=(q.drop (i+1)).flatMap gT) (cs':=(q.eraseIdx i).flatMap gT++(q.flatMap gT).drop (i*5+((q.drop (i+1)).flatMap gT).length)) rfl aq rfl rfl underlying29 Z1 ot rfl rfl ot (aeQ oJ hi hc) (by rw[cm oJ,length_drop]) (sF Lj _) w4 (by show _<=(q.flatMap gT).length;rw[cm oJ,<-Nat.add_mul];exact Nat.mul_le_mul_right _ w4) (agj oJ hi) iL ?_
 rw[show i+(q.length-(i+1))=q.length-1 from by omega];refine fm ?_;refine bu [0,7] ?_;refine aB 4 ?_;refine bN (eE (l:=q.length-1) (h:=q.length) rfl ot ⟨_,ot⟩ ⟨_,ot⟩ (by first|exact mW (fun h=>by cases h) runUnderlying29 sizeOf68 w4|exact ue (fun h=>by cases h) (fun h=>by cases h) runUnderlying29 sizeOf68 w4 w4|exact mz (fun h=>by cases h) (fun h=>by cases h) runUnderlying29 sizeOf68 w4 w4)) ?_;refine OD.shrink (k:=0) (cs':=(q.eraseIdx i).flatMap gT) rfl (prefix_append _ _) ?_;refine OD.clear (k:=0) (sz:=5) aq rfl rfl underlying29 zeroValue68 rfl aC ot rfl rfl (fun h0=>?_) ?_
 ·have h3:eJ cap (q.length-1) 5 0=(q.length-1)*5:=(by unfold eJ;rw[if_neg w4];omega)
  rw[h3];refine⟨?_,?_⟩
  ·show((q.eraseIdx i).flatMap gT).length<=_;rw[cm oJ,length_eraseIdx_of_lt hi];exact Nat.le_refl _
  show _<=cap*5;omega
 exact z107
open Pa (bp aY)
noncomputable def pz(l:List az)(s:bp):List az×((List (List Vl)×Int)×Int):=if aN l s.table<0 then (l,(([],0),8)) else (l.eraseIdx (aN l s.table).toNat,(([],0),0))
theorem VG:∀(L:List aM) (i:Nat),((L.eraseIdx i).flatMap bT).Sublist (L.flatMap bT)
 | [],_=>by simp
 | x::L,0=>by simp
 | x::L,i+1=>by simp only[eraseIdx_cons_succ,flatMap_cons];exact(Sublist.refl _).append (VG L i)
theorem VH:∀(L:List aM) (i:Nat),(L.eraseIdx i).map aM.t=(L.map aM.t).eraseIdx i
 | [],_=>by simp
 | x::L,0=>by simp
 | x::L,i+1=>by simp[VH L i]
theorem agk(L:List aM)(aW:∀o∈L,pO o)(hL:L.length<=4)(s:bp)(eD:s.kind=2)(E:Nat)(ad:Option Addr)(cap:Nat)(Sx:List ah)(eW:vN L ad cap Sx):VC Tryz.prog G 23 [cY E,.agg (aY s)] (fV E ad L.length cap::(Sx++L.flatMap bT)) (fun r S=>r=yS (pz (L.map aM.t) s).2/\((pz (L.map aM.t) s).2.2=0->Cs (pz (L.map aM.t) s).1 E S)):=by
 refine VC.body func23 rfl ntmps23 aU fun X0 w0 bj=>?_;have cR:=dI;have sN:=fun o ho=>(aW o ho).w;have eY:=pU (G:=G) (L.map aM.t) Dj s.table
 (first|rw[length_map] at eY|(unfold ap at eY;rw[length_map] at eY))
 have j3:=vg (fun t:az=>t.nm.toList==s.table.toList) (L.map aM.t);rw[show dK (fun t:az=>t.nm.toList==s.table.toList) (L.map aM.t)=(aN (L.map aM.t) s.table) from rfl,length_map] at j3;refine bS ?_;refine OD.box (ds:=[_,_,_,_,_,_,_,_,_,_,_,_]) aq rfl rfl ot rfl rfl (fun b3=>?_);refine OD.alloc (ds:=[_,_]) aq rfl rfl zeroValue35 rfl (fun O=>?_);refine aH 1 ?_;first|refine OD.cells (k:=0) (cs':=[.list 1 [] 0,_]) rfl ⟨fP,eM,trivial⟩ rfl ?_|skip
 refine an 87 [0,3,4] ?_;refine af [0,3,4,14] ?_;refine au ?_ ?_<;>intro aJ bz
 ·exact absurd aJ (by exact absurd (show s.kind=1 by simpa using aJ) w4)
 refine cz [0,3,4,6] ?_;refine kK 6 ?_;refine xZ (eY) (ha:=Nl) (K:=?_);refine bA ?_;refine af [0,3,4,6,27] ?_;refine au ?_ ?_<;>intro aX cr
 ·have h0:(aN (L.map aM.t) s.table)<0:=(by simpa using aX)
  have aV:pz (L.map aM.t) s=(L.map aM.t,(([],0),8)):=(by unfold pz;rw[if_pos h0])
  exact WU
 have h0:¬(aN (L.map aM.t) s.table)<0:=(by simpa using aX)
 have bW:(aN (L.map aM.t) s.table).toNat<L.length:=(by omega)
 obtain⟨bx,rfl,iM,jz,rfl⟩:=eW.pos w4;have aV:pz (L.map aM.t) s=((L.map aM.t).eraseIdx (aN (L.map aM.t) s.table).toNat,(([],0),0)):=(by unfold pz;rw[if_neg h0])
 have I:=abw (G:=G) L (aN (L.map aM.t) s.table).toNat cap bx bW iM jz w4;rw[Int.natCast_add,Int.toNat_of_nonneg (show 0<=(aN (L.map aM.t) s.table) by omega)] at I;refine CD.wk (Wk.drop _ _ _ (⟨O,35,2,[.list 1 [] 0,ae 0]⟩::⟨b3,44,12,aY s⟩::fV E (some ⟨bx,0,none⟩) L.length cap::([(⟨bx,68,cap*5,L.flatMap gT⟩:ah)]++(L.eraseIdx (aN (L.map aM.t) s.table).toNat).flatMap bT)) (.cons_cons _ (.cons_cons _ (.cons_cons _ (.cons_cons _ (VG L _)))))) ?_;refine cz [0,3,4,6,7] ?_;refine aR 5 ?_ (h:=by exact(dL 5 (h:=by first|exact .l (j:=(aN (L.map aM.t) s.table).toNat) (Int.toNat_of_nonneg w4).symm bW|exact .r (j:=(aN (L.map aM.t) s.table).toNat) (Int.toNat_of_nonneg w4).symm bW)));refine bA ?_;refine af [0,3,4,6,7,36] ?_;refine af [0,3,4,6,7,36,37] ?_;refine au ?_ ?_<;>intro bL cJ
 ·refine aB 8 ?_;refine OD.call (Sf:=[(⟨bx,68,cap*5,L.flatMap gT⟩:ah)]) (R:=⟨O,35,2,[.list 1 [] 0,ae 0]⟩::⟨b3,44,12,aY s⟩::fV E (some ⟨bx,0,none⟩) L.length cap::(L.eraseIdx (aN (L.map aM.t) s.table).toNat).flatMap bT) aq rfl rfl rfl call44 I ⟨ot,ot,ot,trivial⟩ (show(⟨O,35,2,[.list 1 [] 0,ae 0]⟩::⟨b3,44,12,aY s⟩::fV E (some ⟨bx,0,none⟩) L.length cap::([(⟨bx,68,cap*5,L.flatMap gT⟩:ah)]++(L.eraseIdx (aN (L.map aM.t) s.table).toNat).flatMap bT):List ah).Perm ([(⟨bx,68,cap*5,L.flatMap gT⟩:ah)]++(⟨O,35,2,[.list 1 [] 0,ae 0]⟩::⟨b3,44,12,aY s⟩::fV E (some ⟨bx,0,none⟩) L.length cap::(L.eraseIdx (aN (L.map aM.t) s.table).toNat).flatMap bT)) from(jB fun lM=>by simp only[map_append,map_cons,map_nil,sum_append,sum_cons,sum_nil];omega)) ?_;rintro _ U ⟨rfl,rfl⟩;refine OD.perm (S':=⟨O,35,2,[.list 1 [] 0,ae 0]⟩::⟨b3,44,12,aY s⟩::fV E (some ⟨bx,0,none⟩) L.length cap::([(⟨bx,68,cap*5,(L.eraseIdx (aN (L.map aM.t) s.table).toNat).flatMap gT⟩:ah)]++(L.eraseIdx (aN (L.map aM.t) s.table).toNat).flatMap bT)) (show([(⟨bx,68,cap*5,(L.eraseIdx (aN (L.map aM.t) s.table).toNat).flatMap gT⟩:ah)]++(⟨O,35,2,[.list 1 [] 0,ae 0]⟩::⟨b3,44,12,aY s⟩::fV E (some ⟨bx,0,none⟩) L.length cap::(L.eraseIdx (aN (L.map aM.t) s.table).toNat).flatMap bT):List ah).Perm _ from(jB fun lM=>by simp only[map_append,map_cons,map_nil,sum_append,sum_cons,sum_nil];omega)) ?_
  refine aH 2 ?_;refine aP 2 [_] sizeOf29 ?_;refine an 87 [4] ?_;refine aB 1 ?_;refine aP 0 [_,_] sizeOf35 ?_;refine aH 1 ?_;first|refine OD.cells (k:=0) (cs':=[.list 1 [] 0,_]) rfl ⟨fP,eM,trivial⟩ rfl ?_|skip
  refine an 87 [4,5] ?_;refine aK (fV E (some ⟨bx,0,none⟩) (L.length-1) cap::([(⟨bx,68,cap*5,(L.eraseIdx (aN (L.map aM.t) s.table).toNat).flatMap gT⟩:ah)]++(L.eraseIdx (aN (L.map aM.t) s.table).toNat).flatMap bT)) ?_;rw[aV];refine⟨rfl,fun _=>⟨L.eraseIdx (aN (L.map aM.t) s.table).toNat,some ⟨bx,0,none⟩,cap,[(⟨bx,68,cap*5,(L.eraseIdx (aN (L.map aM.t) s.table).toNat).flatMap gT⟩:ah)],bJ (by rw[length_eraseIdx_of_lt bW];omega) jz,fun o h=>sN o (mem_of_mem_eraseIdx h),VH _ _,?_⟩⟩;rw[length_eraseIdx_of_lt bW]
 exact absurd bL (by exact absurd eD (by simpa using bL))

end Go.Proofs.YtbplamgacibdaaaGreatDoor.Ba
namespace Go.Proofs.YtbplamgacibdaaaGreatDoor.Ba
open List
open Go.Proofs.Tryz
open Go.RowKit V Pk Tr Vl Go.Proofs.YtbplamgacibdaaaGreatDoor.Nm Pc Cd Ex Tw
open Pa (bp aY dZ dA)
variable {G:List (Nat×List Value)} {m:Int}
variable {n:Nat}
theorem lg.er{l:List az}(g:lg l n)(i:Nat):lg (l.eraseIdx i) n :=
 ⟨Nat.le_trans (eraseIdx_sublist l i).length_le g.ec,fun t h=>g.tb t (mem_of_mem_eraseIdx h),fun t h=>g.sz t (mem_of_mem_eraseIdx h),g.Ey.sublist (eraseIdx_sublist l i)⟩
theorem Qr{l:List az}(g:lg l n)(s:bp):lg (pz l s).1 n:=by
 unfold pz;split
 ·exact g
 exact g.er _
theorem agl(hm:(3,marksC)∈G)(hw:(1,wordsC)∈G)(ht:(0,typesC)∈G)(hG:(2,[Value.int .i64 m])∈G)(l:List az)(g:lg l n)(s:bp)(hf:dZ s)(eD:s.kind=2):VP Tryz.prog G 8 [.agg [ap 5 cG (l)],.agg (aY s)] (tN (rO (pz l s) s)) :=
 UW hm hw ht hG l g s hf (pz l s) (fun L E aW I ad cap Sx eW=>by
  subst E;have jg:=g.ec
  (first|rw[length_map] at jg|(unfold ap at jg;rw[length_map] at jg))
  exact agk L aW jg s eD I ad cap Sx eW) fun _=>⟨Nat.le_trans (Qr g s).ec w4,fun t h=>((Qr g s).tb t h).small⟩

end Go.Proofs.YtbplamgacibdaaaGreatDoor.Ba
namespace Go.Proofs.YtbplamgacibdaaaGreatDoor.Ba
open List
open Go.Proofs.Tryz
open Go.RowKit V Pk Tr Vl Go.Proofs.YtbplamgacibdaaaGreatDoor.Nm Pc Cd Ex Tw
open Pa (bp aY)
variable {t:az} {n:Nat} {i:Int}
theorem cQ.mono{t:az}{a b:Nat}(g:cQ t a)(h:a<=b):cQ t b:=⟨g.nm,g.ay,g.ec,g.ix.mono h,g.row,g.gH⟩
structure oe (t:az) (n:Nat) (D:List Int):Prop where
 nm:cW t.nm=0
 ay:t.ay=dF
 ec:t.rows.length<=40
 ix:iJ t.ix n
 row:∀i (h:i<t.rows.length),t.rows[i]≠[]->Pc.dY dF t.rows[i]=0/\(∀v∈t.rows[i],v.Ok)/\((i:Int)∉D->(cg t.rows[i],(i:Int))∈dg t.ix)
 gH:∀x∈dg t.ix,0<=x.2/\x.2∉D/\∃h:x.2.toNat<t.rows.length,t.rows[x.2.toNat]≠[]/\x.1=cg t.rows[x.2.toNat]
theorem cQ.d(g:cQ t n):oe t n []:=⟨g.nm,g.ay,g.ec,g.ix,fun i h hn=>⟨(g.row i h hn).1,(g.row i h hn).2.1,fun _=>(g.row i h hn).2.2⟩,fun x hx=>⟨(g.gH x hx).1,not_mem_nil,(g.gH x hx).2⟩⟩
theorem oe.tb(g:oe t n []):cQ t n:=⟨g.nm,g.ay,g.ec,g.ix,fun i h hn=>⟨(g.row i h hn).1,(g.row i h hn).2.1,(g.row i h hn).2.2 not_mem_nil⟩,fun x hx=>⟨(g.gH x hx).1,(g.gH x hx).2.2⟩⟩
theorem acZ(g:cQ t n)(hn:n<=300){row:List Vl}(aW:∀v∈row,v.Ok)(h:(fu t row).2=0):cQ (fu t row).1 (n+1)/\(fu t row).1.rows.length=t.rows.length+1:=by
 unfold fu at h |-;by_cases h1:Pc.dY t.ay row=0
 ·rw[if_neg (fun e=>e h1)] at h |-;cases h2:gS t.ix (cg row) (c9 t.ix) with
  | true=>rw[h2,if_pos rfl] at h;cases h
  | false =>
   rw[h2,if_neg w8] at h;rw[if_neg w8];by_cases h3:t.rows.length=40
   ·rw[if_pos h3] at h;cases h
   rw[if_neg h3];have h4:Pc.dY dF row=0:=(by rw[<-g.ay];exact h1)
   obtain⟨g1,g2,g3⟩:=BH g.ix hn ((BI g.ix).1 h2) (vn h4) (Int.natCast_nonneg t.rows.length);have jg:=g.ec;refine⟨⟨g.nm,g.ay,by show(t.rows++[row]).length<=40;rw[length_append,length_singleton];omega,g1,fun i hi hne=>?_,fun x hx=>?_⟩,by show(t.rows++[row]).length=_;rw[length_append,length_singleton]⟩
   ·simp only at hi hne |-;rw[length_append,length_singleton] at hi;by_cases hl:i<t.rows.length
    ·have e:(t.rows++[row])[i]'vW=t.rows[i]:=getElem_append_left hl;rw[e] at hne |-;obtain⟨p1,p2,p3⟩:=g.row i hl hne;exact⟨p1,p2,(g3 _).2 (.inr p3)⟩
    have E:i=t.rows.length:=(by omega)
    subst E;have e:(t.rows++[row])[t.rows.length]'vW=row:=(by rw[getElem_append_right (Nat.le_refl _)];simp)
    rw[e] at hne |-;exact⟨h4,aW,(g3 _).2 (.inl rfl)⟩
   rcases(g3 x).1 hx with rfl|hx
   ·refine⟨Int.natCast_nonneg _,by show t.rows.length<(t.rows++[row]).length;rw[length_append,length_singleton];omega,?_⟩;have e:(t.rows++[row])[t.rows.length]'vW=row:=(by rw[getElem_append_right (Nat.le_refl _)];simp)
    show(t.rows++[row])[t.rows.length]'_≠[]/\cg row=cg ((t.rows++[row])[t.rows.length]'_);rw[e];exact⟨fun e=>(by have:=oN h4;rw[e] at this;cases this),rfl⟩
   obtain⟨x0,x1,I,x3⟩:=g.gH x hx;have e:(t.rows++[row])[x.2.toNat]'vW=t.rows[x.2.toNat]:=getElem_append_left x1;refine⟨x0,by show _<(t.rows++[row]).length;rw[length_append,length_singleton];omega,?_⟩;show(t.rows++[row])[x.2.toNat]'_≠[]/\x.1=cg ((t.rows++[row])[x.2.toNat]'_);rw[e];exact⟨I,x3⟩
 exact CB
theorem Rx{n:Nat}:∀{l:List Int} {t:az},cQ t n->l.Nodup->(∀i∈l,fh t i)->cQ (kw t l) n/\(kw t l).rows.length=t.rows.length
 | [],_,g,_,_=>⟨g,rfl⟩
 | i::r,t,g,hn,hi=>by
  rw[nodup_cons] at hn;have h1:=Rx (E6 g (hi i mem_cons_self)) hn.2 fun j hj=>FT (hi j (mem_cons_of_mem _ hj)) (fun e=>hn.1 (e ▸ hj)) (hi i mem_cons_self).1;refine⟨h1.1,h1.2.trans ?_⟩;show(t.rows.set _ _).length=_;rw[length_set]
theorem aan(g:cQ t n)(w:List bf):cQ (iT t w).1 n/\(iT t w).1.rows.length=t.rows.length:=by
 unfold iT;split
 ·exact⟨g,rfl⟩
 exact Rx g (wN g w) (rq g w)
theorem UX{r:List Vl}{c:Nat}(hc:c≠0)(v:Vl):cg (r.set c v)=cg r:=by
 unfold cg;cases r with
 | nil=>rfl
 | cons a r=>cases c with
  | zero=>exact absurd rfl hc
  | succ c=>rfl
theorem Wl{D:List Int}(g:oe t n D)(hi:fh t i){c:Nat}(hc:c<dF.length){v:Vl}(hv:ko (dF[c]'hc).k v)(fY:v.Ok)(h0:c=0->v.k≠0/\i∈D):oe (mJ t i c v) n D/\(∀j,fh t j->fh (mJ t i c v) j):=by
 obtain⟨q0,q1,q2⟩:=hi;obtain⟨p1,p2,p3⟩:=g.row _ q1 q2;have kx:=iS (t:=t) q1;have U:Pc.dY dF ((rowAt t i).set c v)=0:=(by rw[kx];exact UR p1 hc hv fun h=>(h0 h).1)
 have ku:(rowAt t i).set c v≠[]:=fun e=>by have:=oN U;rw[e] at this;cases this
 have hlen:(mJ t i c v).rows.length=t.rows.length:=length_set;have I:∀j (h:j<t.rows.length),(mJ t i c v).rows[j]'(by rw[hlen];exact h)=if i.toNat=j then (rowAt t i).set c v else t.rows[j]:=fun j h=>getElem_set ..
 refine⟨⟨g.nm,g.ay,by rw[hlen];exact g.ec,g.ix,fun j hj hne=>?_,fun x hx=>?_⟩,fun j ⟨j0,j1,j2⟩=>⟨j0,by rw[hlen];exact j1,?_⟩⟩
 ·rw[hlen] at hj;rw[I j hj] at hne |-;by_cases E:i.toNat=j
  ·rw[if_pos E];refine⟨U,fun w hw=>?_,fun hd=>?_⟩
   ·rcases mem_or_eq_of_mem_set hw with hw|hw
    ·rw[kx] at hw;exact p2 w hw
    rw[hw];exact fY
   have Z:(j:Int)=i:=(by omega)
   by_cases O:c=0
   ·exact absurd (Z ▸ (h0 O).2) hd
   rw[UX O,kx];subst E;exact p3 hd
  rw[if_neg E] at hne |-;exact g.row j hj hne
 ·obtain⟨x0,xd,x1,x2,x3⟩:=g.gH x hx;refine⟨x0,xd,by rw[hlen];exact x1,?_⟩;rw[I _ x1];by_cases E:i.toNat=x.2.toNat
  ·rw[if_pos E];refine⟨ku,?_⟩;have Z:x.2=i:=(by omega)
   by_cases O:c=0
   ·exact absurd (Z ▸ (h0 O).2) xd
   rw[UX O,kx,x3];simp only[E]
  rw[if_neg E];exact⟨x2,x3⟩
 rw[I _ j1];split
 ·exact ku
 exact j2
theorem aje{x:aF}{D:List Int}(g:oe {t with ix:=x} n D)(hi:fh t i)(hd:i∉D):oe {t with ix:=gY x (c9 x) (cg (rowAt t i))} n (i::D):=by
 obtain⟨q0,q1,q2⟩:=hi;obtain⟨p1,p2,p3⟩:=g.row _ q1 q2;have kx:=iS (t:=t) q1;have fX:(cg (rowAt t i),i)∈dg x:=by
  have:=p3 (by rw[Int.toNat_of_nonneg q0];exact hd);rw[Int.toNat_of_nonneg q0] at this;rw[kx];exact this
 obtain⟨d1,d2⟩:=JS g.ix ((Br g.ix.val _).2 ⟨i,fX⟩);refine⟨g.nm,g.ay,g.ec,d1,fun j hj hne=>?_,fun y hy=>?_⟩
 ·obtain⟨r1,r2,I⟩:=g.row j hj hne;refine⟨r1,r2,fun hd2=>?_⟩;have E:(j:Int)≠i:=fun e=>hd2 (e ▸ mem_cons_self);refine(d2 _).2 ⟨I fun e=>hd2 (mem_cons_of_mem _ e),fun e=>E ?_⟩;have:=BN g.ix (I fun e=>hd2 (mem_cons_of_mem _ e)) fX e;simp only[Prod.mk.injEq] at this;exact this.2
 obtain⟨y1,y2⟩:=(d2 y).1 hy;obtain⟨z0,zd,z1,z2,z3⟩:=g.gH y y1;refine⟨z0,fun hm=>?_,z1,z2,z3⟩;rcases mem_cons.1 hm with e|hm
 ·refine y2 ?_;rw[z3,kx];simp only[e]
 exact zd hm
theorem UY{t:az}{n:Nat}:∀(l:List Int) (x:aF) (D:List Int),oe {t with ix:=x} n D->l.Nodup->(∀i∈l,fh t i/\i∉D)->∃D',oe {t with ix:=nD t x l} n D'/\∀i,i∈D'↔i∈l\/i∈D
 | [],x,D,g,_,_=>⟨D,g,fun i=>by simp⟩
 | i::r,x,D,g,hn,hi=>by
  rw[nodup_cons] at hn;obtain⟨D',h1,h2⟩:=UY r _ (i::D) (aje g (hi i mem_cons_self).1 (hi i mem_cons_self).2) hn.2 fun j hj=>⟨(hi j (mem_cons_of_mem _ hj)).1,fun e=>by
   rcases mem_cons.1 e with e|e
   ·exact hn.1 (e ▸ hj)
   exact(hi j (mem_cons_of_mem _ hj)).2 e⟩
  refine⟨D',h1,fun j=>(h2 j).trans ?_⟩;simp only[mem_cons];constructor
  ·rintro(h|h|h)
   ·exact .inl (.inr h)
   ·exact .inl (.inl h)
   exact .inr h
  rintro((h|h)|h)
  ·exact .inr (.inl h)
  ·exact .inl h
  exact .inr (.inr h)
theorem oe.alV{D D':List Int}(g:oe t n D)(h:∀i,i∈D↔i∈D'):oe t n D':=⟨g.nm,g.ay,g.ec,g.ix,fun i hi hne=>⟨(g.row i hi hne).1,(g.row i hi hne).2.1,fun hd=>(g.row i hi hne).2.2 fun e=>hd ((h _).1 e)⟩,fun x hx=>⟨(g.gH x hx).1,fun e=>(g.gH x hx).2.1 ((h _).2 e),(g.gH x hx).2.2⟩⟩
theorem alW{D:List Int}(g:oe t n D)(hn:n<=300)(hi:fh t i)(hd:i∈D)(lB:gS t.ix (cg (rowAt t i)) (c9 t.ix)=false):oe {t with ix:=gF t.ix (c9 t.ix) (cg (rowAt t i)) i} (n+1) (D.filter (·≠i)):=by
 obtain⟨q0,q1,q2⟩:=hi;obtain⟨p1,p2,p3⟩:=g.row _ q1 q2;have kx:=iS (t:=t) q1;obtain⟨g1,_,g3⟩:=BH g.ix hn ((BI g.ix).1 lB) (by rw[kx];exact vn p1) q0;have hf:∀j,j∈D.filter (·≠i)↔j∈D/\j≠i:=fun j=>by rw[mem_filter];simp
 refine⟨g.nm,g.ay,g.ec,g1,fun j hj hne=>?_,fun y hy=>?_⟩
 ·obtain⟨r1,r2,E⟩:=g.row j hj hne;refine⟨r1,r2,fun hd2=>(g3 _).2 ?_⟩;by_cases e:(j:Int)=i
  ·left;have oC:i.toNat=j:=(by omega)
   subst oC;rw[kx,Int.toNat_of_nonneg q0]
  right;exact E fun hm=>hd2 ((hf _).2 ⟨hm,e⟩)
 rcases(g3 y).1 hy with rfl|hy
 ·exact⟨q0,fun hm=>((hf _).1 hm).2 rfl,q1,q2,by rw[kx]⟩
 obtain⟨z0,zd,z1,z2,z3⟩:=g.gH y hy;exact⟨z0,fun hm=>zd ((hf _).1 hm).1,z1,z2,z3⟩
theorem VJ:∀(l:List Int) (vs:List Vl) (t:az) (n:Nat) (D:List Int),oe t n D->n+l.length<=300->l.Nodup->vs.length=l.length->(∀i∈l,fh t i/\i∈D)->(∀v∈vs,v.Ok/\ko (dF[0]'w8).k v/\v.k≠0)->(gd t l vs).2=0 ->
  ∃D',oe (gd t l vs).1 (n+l.length) D'/\(gd t l vs).1.rows.length=t.rows.length/\∀i,i∈D'↔i∈D/\i∉l
 | [],[],t,n,D,g,_,_,_,_,_,_=>⟨D,g,rfl,fun i=>by simp⟩
 | [],_::_,_,_,_,_,_,_,h,_,_,_=>by cases h
 | _::_,[],_,_,_,_,_,_,h,_,_,_=>by cases h
 | i::r,v::s,t,n,D,g,hn,hnd,hl,hi,hv,h=>by
  rw[nodup_cons] at hnd;rw[length_cons] at hn hl;rw[length_cons] at hl;obtain⟨E,hid⟩:=hi i mem_cons_self;obtain⟨v1,v2,v3⟩:=hv v mem_cons_self;obtain⟨g1,fX⟩:=Wl g E (c:=0) w8 v2 v1 fun _=>⟨v3,hid⟩
  rw[gd] at h |-;cases gG:gS t.ix (cg (rowAt (mJ t i 0 v) i)) (c9 t.ix) with
  | true=>rw[gG,if_pos rfl] at h;cases h
  | false =>
   rw[gG,if_neg w8] at h;rw[if_neg w8];have g2:=alW g1 w4 (fX i E) hid gG;obtain⟨D',h1,h2,h3⟩:=VJ r s _ (n+1) _ g2 w4 hnd.2 w4 (fun j hj=>⟨fX j (hi j (mem_cons_of_mem _ hj)).1,by rw[mem_filter];exact⟨(hi j (mem_cons_of_mem _ hj)).2,by simp;exact fun e=>hnd.1 (e ▸ hj)⟩⟩) (fun w hw=>hv w (mem_cons_of_mem _ hw)) h;refine⟨D',by rw[length_cons,show n+(r.length+1)=n+1+r.length by omega];exact h1,h2.trans (by show(t.rows.set _ _).length=_;rw[length_set]),fun j=>(h3 j).trans ?_⟩;rw[mem_filter,mem_cons];simp only[decide_eq_true_eq,ne_eq,not_or,and_assoc]
theorem UZ{n:Nat}{c:Nat}(hc:c<dF.length)(aJ:c≠0):∀(l:List Int) (vs:List Vl) (t:az),cQ t n->(∀i∈l,fh t i)->(∀v∈vs,v.Ok/\ko (dF[c]'hc).k v)->cQ (eH c t l vs) n/\(eH c t l vs).rows.length=t.rows.length
 | [],_,t,g,_,_=>by unfold eH;exact⟨g,rfl⟩
 | _::_,[],t,g,_,_=>by unfold eH;exact⟨g,rfl⟩
 | i::r,v::s,t,g,hi,hv=>by
  rw[eH];obtain⟨v1,v2⟩:=hv v mem_cons_self;obtain⟨g1,fX⟩:=Wl g.d (hi i mem_cons_self) hc v2 v1 fun e=>absurd e aJ;have h1:=UZ hc aJ r s _ g1.tb (fun j hj=>fX j (hi j (mem_cons_of_mem _ hj))) fun w hw=>hv w (mem_cons_of_mem _ hw);exact⟨h1.1,h1.2.trans (by show(t.rows.set _ _).length=_;rw[length_set])⟩
theorem agm{k:Int}{c:Int}{v:Vl}(h:ko k v)(hk:¬(k≠c/\k≠0)):ko c v:=by
 refine⟨h.1,?_⟩;have:=h.2;omega
theorem ac0(g:cQ t n)(s:bp)(lB:∀o∈s.bF,o.nm.size<=maxLen)(fY:∀o∈s.bF,o.v.Ok)(hn:n<=260):cQ (eS t s).1 (n+t.rows.length)/\(eS t s).1.rows.length=t.rows.length:=by
 have hz:cQ t (n+t.rows.length)/\t.rows.length=t.rows.length:=⟨g.mono w4,rfl⟩
 unfold eS;by_cases hA:bE t.ay s.set<0
 ·rw[if_pos hA];exact hz
 rw[if_neg hA];by_cases hB:(eu t.ay s.bF).2≠0
 ·rw[if_pos hB];exact hz
 rw[if_neg hB];by_cases hC:(eu t.ay s.bF).1≠(t.ay.getD (bE t.ay s.set).toNat ⟨⟨#[]⟩,0⟩).k/\(eu t.ay s.bF).1≠0
 ·rw[if_pos hC];exact hz
 rw[if_neg hC];by_cases hD:(ax t s.aj).2≠0
 ·rw[if_pos hD];exact hz
 rw[if_neg hD];by_cases hN:(iC t (bE t.ay s.set) s.bF [] (ax t s.aj).1).2≠0
 ·rw[if_pos hN];exact hz
 rw[if_neg hN];have U:=Classical.not_not.1 hN;have hkz:(eu dF s.bF).2=0:=(by rw[<-g.ay];exact Classical.not_not.1 hB)
 have E:=JX g lB fY hkz (ax t s.aj).1 [] (rq g s.aj) U (fun v O=>by cases O);have hlen:=Jr (t:=t) (c:=bE t.ay s.set) (e:=s.bF) (ax t s.aj).1 [] U;have ZM:=(Ln (l:=t.ay) (nm:=s.set)).2;have hcc:t.ay.length=dF.length:=(by rw[g.ay])
 have fj:(bE t.ay s.set).toNat<dF.length:=(by omega)
 have Z:∀v,ko (eu dF s.bF).1 v->ko (dF[(bE t.ay s.set).toNat]'fj).k v:=fun v O=>by
  refine agm O ?_;rw[g.ay] at hC;have e:dF.getD (bE dF s.set).toNat ⟨⟨#[]⟩,0⟩=dF[(bE t.ay s.set).toNat]'fj:=by
   rw[getD_eq_getElem?_getD];rw[show(bE dF s.set).toNat=(bE t.ay s.set).toNat by rw[g.ay]];rw[getElem?_eq_getElem fj];rfl
  rw[e] at hC;exact hC
 by_cases hP:0<bE t.ay s.set
 ·rw[if_pos hP];have h1:=UZ (c:=(bE t.ay s.set).toNat) fj w4 (ax t s.aj).1 (iC t (bE t.ay s.set) s.bF [] (ax t s.aj).1).1 t g (rq g s.aj) fun v O=>⟨(E v O).1,Z v (E v O).2.1⟩
  exact⟨h1.1.mono w4,h1.2⟩
 rw[if_neg hP];have yW:bE t.ay s.set=0:=(by omega)
 by_cases hM:(gd {t with ix:=nD t t.ix (ax t s.aj).1} (ax t s.aj).1 (iC t (bE t.ay s.set) s.bF [] (ax t s.aj).1).1).2≠0
 ·rw[if_pos hM];exact hz
 rw[if_neg hM];have hnd:=wN g s.aj;have I:=rq g s.aj;have jg:=FR g s.aj;obtain⟨D,d1,d2⟩:=UY (ax t s.aj).1 t.ix [] g.d hnd fun i hi=>⟨I i hi,not_mem_nil⟩
 obtain⟨D',e1,e2,e3⟩:=VJ (ax t s.aj).1 (iC t (bE t.ay s.set) s.bF [] (ax t s.aj).1).1 _ n D d1 w4 hnd (by rw[hlen];simp) (fun i hi=>⟨I i hi,(d2 i).2 (.inl hi)⟩) (fun v O=>⟨(E v O).1,by have:=Z v (E v O).2.1;simp only[yW] at this;exact this,(E v O).2.2 yW⟩) (Classical.not_not.1 hM);have hD':cQ _ _:=(e1.alV (D':=[]) fun i=>by rw[e3,d2];simp).tb;have hle:(ax t s.aj).1.length<=t.rows.length:=by
  have h1:((ax t s.aj).1.map Int.toNat).Nodup:=by
   rw[Nodup,pairwise_map];refine(Pairwise.and_mem.1 hnd).imp fun {a b} h e=>h.2.2 ?_;have:=(I a h.1).1;have:=(I b h.2.1).1;omega
  have h2:=h1.length_le_of_subset (l₂:=range t.rows.length) fun x hx=>by
   obtain⟨y,hy,rfl⟩:=mem_map.1 hx;exact mem_range.2 (I y hy).2.1
  rwa [length_map,length_range] at h2
 exact⟨hD'.mono w4,e2⟩

end Go.Proofs.YtbplamgacibdaaaGreatDoor.Ba
namespace Go.Proofs.YtbplamgacibdaaaGreatDoor.Pa
open List
open Go.Proofs.Tryz
open Go.RowKit V Pk Vl Go.Proofs.YtbplamgacibdaaaGreatDoor.Nm Pc
variable {t o:ByteArray}
theorem agn{s:ByteArray}(h:cW s=0):oK s=true/\s.size<=8:=by
 unfold cW at h;split at h
 ·cases h
 split at h
 ·cases h
 rename_i h1 h2;rw[Bool.or_eq_true,Bool.not_eq_true'] at h2;refine⟨?_,by omega⟩;cases hw:oK s with
 | true=>rfl
 | false=>exact absurd (.inl hw) h2
variable {G:List (Nat×List Value)}
def sE:List Vl->ByteArray
 | []=>⟨#[120]⟩
 | v::_=>v.s
def dH(s:bp):Prop:=dZ s/\1<=s.kind/\s.kind<=6/\s.iE<=9223372036854775807/\di s=0
structure Pr (w:List bf):Prop where
 l:w.length<=40
 f:nY w=0
 b:∀o∈w,o.nm.size<=maxLen/\-9223372036854775808<=o.v.n/\o.v.n<=9223372036854775807
theorem ago:Pr []:=⟨Nat.zero_le _,rfl,fun _ h=>by cases h⟩
theorem ac1(t:Tw):∀o∈iq 3 t,-20<=o.v.n/\o.v.n<=40:=by
 have hz:∀j nm,-20<=(⟨j,bQ,nm⟩:bf).v.n/\(⟨j,bQ,nm⟩:bf).v.n<=40:=fun _ _=>⟨by show(-20:Int)<=0;decide,by show(0:Int)<=40;decide⟩
 have O:∀n s,-20<=(sI n s).v.n/\(sI n s).v.n<=40:=fun n s=>by
  show -20<=(pV ⟨n,cx n 40-20,s⟩).n/\(pV ⟨n,cx n 40-20,s⟩).n<=40;have U:=jd n (show(1:Int)<=40 by decide);have h2:=jd (cx n 40-20) (show(1:Int)<=2 by decide);unfold pV;split
  ·dsimp only;omega
  split
  ·dsimp only;omega
  split
  ·dsimp only;omega
  exact⟨by show(-20:Int)<=0;decide,by show(0:Int)<=40;decide⟩
 have E:∀k n s,∀o∈mU k n s,-20<=o.v.n/\o.v.n<=40:=fun k n s o ho=>by
  unfold mU at ho;split at ho<;>(simp only[mem_singleton] at ho;subst ho)
  ·exact hz _ _
  exact O _ _
 have key:∀(r:Nat) (t:Tw),∀o∈iq r t,-20<=o.v.n/\o.v.n<=40:=by
  intro r;induction r with
  | zero=>intro t;obtain⟨k,n,s,ts⟩:=t;exact E k n s
  | succ r ih =>
   intro t o ho;obtain⟨k,n,s,ts⟩:=t;have I:∀i:Nat,∀o∈gX r ts n s i,-20<=o.v.n/\o.v.n<=40:=fun i o ho=>by
    unfold gX at ho;split at ho
    ·exact ih _ o ho
    exact E _ _ _ o ho
   rw[wS] at ho;split at ho
   ·simp only[mem_singleton] at ho;subst ho;exact O _ _
   split at ho
   ·simp only[mem_singleton] at ho;subst ho;exact hz _ _
   split at ho
   ·rcases mem_append.1 ho with ho|ho
    ·exact I 0 o ho
    simp only[mem_singleton] at ho;subst ho;exact hz _ _
   rcases mem_append.1 ho with ho|ho
   ·rcases mem_append.1 ho with ho|ho
    ·exact I 0 o ho
    exact I 1 o ho
   simp only[mem_singleton] at ho;subst ho;exact hz _ _
 exact key 3 t
theorem KR(t:Tw):Pr (iq 3 t):=by
 have h:=QV t;refine⟨by omega,?_,fun o ho=>⟨adU (adT t) o ho,?_⟩⟩
 ·unfold nY;rw[if_neg w4];exact QW t
 have:=ac1 t o ho;omega
theorem ac2(s:bp):ei s s=true:=by
 unfold ei;simp only[Bool.and_eq_true,beq_iff_eq,qC,and_self]
theorem zl{s:bp}(ht:cW s.table=0)(he:dO s=0)(hb:dD s=s):di s=0:=by
 unfold di;rw[if_neg (fun h=>h.2 ht),hb,if_neg (fun h=>by rw[ac2] at h;cases h.2),he]
theorem small{x:ByteArray}(h:cW x=0):x.size<=maxLen:=Nat.le_trans (agn h).2 w8
def qN(s:bp):Prop:=s.aj=[]/\∀w,Pr w->(4<=s.kind\/w=[])->dH {s with aj:=w}
theorem qN.vK{s:bp}(h:qN s):dH s:=by
 have:=h.2 [] ago (.inr rfl);rw[<-h.1] at this;exact this
theorem IS(ht:cW t=0):qN {cX with kind:=1,table:=t,ay:=dF}:=⟨rfl,fun w hw h=>by
 have E:w=[]:=h.resolve_left (by show ¬(4:Int)<=1;decide);subst E;exact⟨⟨⟨by show 4<=6;decide,Nat.zero_le _,Nat.zero_le _,Nat.zero_le _,Nat.zero_le _⟩,small ht,by show ∀c∈dF,c.n.size<=maxLen;decide,(fun _ h=>by cases h),Nat.zero_le _,Nat.zero_le _,(fun _ h=>by cases h),(fun _ h=>by cases h),(fun _ h=>by cases h)⟩,by show(1:Int)<=1;decide,by show(1:Int)<=6;decide,Di,
  zl ht (show fQ dF=0 by decide +kernel) aC⟩⟩
theorem Tt(ht:cW t=0):qN {cX with kind:=2,table:=t}:=⟨rfl,fun w hw h=>by
 have E:w=[]:=h.resolve_left (by show ¬(4:Int)<=2;decide);subst E;exact⟨⟨⟨Nat.zero_le _,Nat.zero_le _,Nat.zero_le _,Nat.zero_le _,Nat.zero_le _⟩,small ht,(fun _ h=>by cases h),(fun _ h=>by cases h),Nat.zero_le _,Nat.zero_le _,(fun _ h=>by cases h),(fun _ h=>by cases h),(fun _ h=>by cases h)⟩,by show(1:Int)<=2;decide,by show(2:Int)<=6;decide,Di,
  zl ht aC aC⟩⟩
theorem U0{x:Int}(h0:0<=x):jn ⟨2,x,⟨#[]⟩⟩=0:=by
 unfold jn;rw[if_neg (by intro h;have:=h.2;dsimp only at this;omega)];kernel_rfl
theorem agp{s:ByteArray}(h:s.size<=20):jn ⟨3,0,s⟩=0:=by
 unfold jn;rw[if_neg (by intro h;exact absurd h.1 (by show ¬(3:Int)=2;decide))];unfold de;rw[if_neg (by show ¬(3:Int)=0;decide),if_neg (by show ¬(3:Int)=1;decide),if_neg (by show ¬(3:Int)=2;decide),if_pos rfl,if_neg (fun h=>h rfl),if_neg (by show ¬s.size>20;omega)]
theorem ac3(n:Int):jn (pZ n)=0/\-9223372036854775808<=(pZ n).n/\(pZ n).n<=9223372036854775807:=by
 have h:=jd n (show(1:Int)<=3 by decide);unfold pZ;split
 ·exact⟨by decide,by decide,by decide⟩
 have h2:cx n 3=0\/cx n 3=1:=(by omega)
 rcases h2 with h2|h2<;>rw[h2]<;>exact⟨by decide,by decide,by decide⟩
theorem Qs(ht:cW t=0){x y b:Int}(hx:0<=x/\x<12)(hy:0<=y/\y<9){u:ByteArray}(Z:u.size<=6):qN {cX with kind:=3,table:=t,row:=[⟨2,x,⟨#[]⟩⟩,⟨2,y,⟨#[]⟩⟩,⟨3,0,u⟩,pZ b]}:=⟨rfl,fun w hw h=>by
 have E:w=[]:=h.resolve_left (by show ¬(4:Int)<=3;decide);subst E;have l1:=U0 hx.1;have l2:=U0 hy.1;have l3:jn ⟨3,0,u⟩=0:=agp w4;obtain⟨l4,O,U⟩:=ac3 b;refine⟨⟨⟨Nat.zero_le _,by show 4<=6;decide,Nat.zero_le _,Nat.zero_le _,Nat.zero_le _⟩,small ht,(fun _ h=>by cases h),(fun _ h=>by cases h),Nat.zero_le _,Nat.zero_le _,fun v I=>?_,(fun _ h=>by cases h),(fun _ h=>by cases h)⟩,by show(1:Int)<=3;decide,by show(3:Int)<=6;decide,Di,zl ht ?_ aC⟩
 ·simp only[mem_cons,not_mem_nil,or_false] at I;rcases I with rfl|rfl|rfl|rfl
  ·dsimp only;omega
  ·dsimp only;omega
  ·dsimp only;omega
  exact⟨O,U⟩
 show dY [⟨2,x,⟨#[]⟩⟩,⟨2,y,⟨#[]⟩⟩,⟨3,0,u⟩,pZ b]=0;unfold dY;rw[if_neg bq];simp[kj,l1,l2,l3,l4]⟩
theorem Qt(ht:cW t=0){N:List ByteArray}(hN:N.length<=6/\∀x∈N,cW x=0){c:Bool}(hc:c=true->N=[])(ho:o=⟨#[]⟩\/cW o=0){d:Bool}(hd:o=⟨#[]⟩->d=false){m:Int}(hm:-1<=m/\m<=7):qN {cX with kind:=4,table:=t,names:=N,count:=c,order:=o,down:=d,iE:=m}:=⟨rfl,fun w hw h=>by
 have E:o.size<=maxLen:=(by rcases ho with rfl|h;exact Nat.zero_le _;exact small h)
 refine⟨⟨⟨Nat.zero_le _,Nat.zero_le _,hN.1,hw.l,Nat.zero_le _⟩,small ht,(fun _ h=>by cases h),fun x hx=>small (hN.2 x hx),E,Nat.zero_le _,(fun _ h=>by cases h),hw.b,(fun _ h=>by cases h)⟩,by show(1:Int)<=4;decide,by show(4:Int)<=6;decide,(by show _<=(9223372036854775807:Int);dsimp only;omega),zl ht ?_ aC⟩;show px {cX with kind:=4,table:=t,names:=N,count:=c,aj:=w,order:=o,down:=d,iE:=m}=0;have gZ:kj cW N=0:=by
  have key:∀l:List ByteArray,(∀x∈l,cW x=0)->kj cW l=0:=by
   intro l;induction l with
   | nil=>intro _;rfl
   | cons a r ih=>intro h;rw[kj,if_neg (by rw[h a mem_cons_self];decide)];exact ih fun x hx=>h x (mem_cons_of_mem _ hx)
  exact key N hN.2
 unfold px;dsimp only;rw[if_neg w4,if_neg w4,if_neg (by
  rintro(⟨h1,h2⟩|⟨h1,h2⟩)
  ·rw[hc h1] at h2;simp at h2
  rw[hd (qC.1 h2)] at h1;cases h1),if_neg (by rw[gZ];decide),if_neg (by rw[hw.f];decide)]
 split
 ·rfl
 rename_i h2;exact ho.resolve_left fun h=>h2 (qC.2 h)⟩
theorem Qu(ht:cW t=0){c:ByteArray}(hc:cW c=0)(E:Tw):qN {cX with kind:=5,table:=t,set:=c,bF:=iq 3 E}:=⟨rfl,fun w hw h=>by
 have ho:=KR E;refine⟨⟨⟨Nat.zero_le _,Nat.zero_le _,Nat.zero_le _,hw.l,ho.l⟩,small ht,(fun _ h=>by cases h),(fun _ h=>by cases h),Nat.zero_le _,small hc,(fun _ h=>by cases h),hw.b,ho.b⟩,by show(1:Int)<=5;decide,by show(5:Int)<=6;decide,Di,zl ht ?_ aC⟩;show(if cW c=0 then (if jk (iq 3 E)=0 then nY w else jk (iq 3 E)) else cW c)=0;rw[if_pos hc,if_pos (QW E),hw.f]⟩
theorem Qv(ht:cW t=0):qN {cX with kind:=6,table:=t}:=⟨rfl,fun w hw h=>by
 refine⟨⟨⟨Nat.zero_le _,Nat.zero_le _,Nat.zero_le _,hw.l,Nat.zero_le _⟩,small ht,(fun _ h=>by cases h),(fun _ h=>by cases h),Nat.zero_le _,Nat.zero_le _,(fun _ h=>by cases h),hw.b,(fun _ h=>by cases h)⟩,by show(1:Int)<=6;decide,by show(6:Int)<=6;decide,Di,zl ht hw.f aC⟩⟩
def bK:List ByteArray:=[⟨#[116]⟩,⟨#[117]⟩]
def ic:List ByteArray:=[⟨#[]⟩,⟨#[110]⟩,⟨#[115]⟩,⟨#[105,100]⟩]
def tO:List ByteArray:=[⟨#[110]⟩,⟨#[110]⟩,⟨#[115]⟩,⟨#[98]⟩,⟨#[105,100]⟩]
theorem Ct:∀x∈bK,cW x=0:=by decide +kernel
theorem Wm:∀x∈ic,x.size=0\/cW x=0:=by decide +kernel
theorem Gy:∀x∈tO,cW x=0:=by decide +kernel
theorem ajf:∀x∈[⟨#[115]⟩,⟨#[105,100]⟩,⟨#[110]⟩],cW x=0:=by decide +kernel
theorem Bz(n:Int)(h1:-9223372036854775808<=n)(h2:n<=9223372036854775807):VP Tryz.prog G 27 [ae n] (.agg [ae (pZ n).k,ae (pZ n).n,bg (pZ n).s]):=by
 refine VC.body func27 rfl ntmps27 aU fun X0 w0 bj=>?_;refine bS ?_;refine OD.alloc (ds:=[_,_,_]) aq rfl rfl zeroValue56 rfl (fun b2=>?_);refine an 10 [0,2] ?_;refine cL [0,2,5] (kL G n 3 h1 h2 w8) ?_;refine au ?_ ?_<;>intro aJ bz
 ·refine aB 1 ?_;refine aP 0 [_,_,_] sizeOf56 ?_;refine an 10 [2] ?_;refine aK [] ?_;refine⟨?_,rfl⟩;unfold pZ bQ;simp_all
 refine aB 1 ?_;refine ez call16 (kL G n 3 h1 h2 w8) ?_;refine aH 1 ?_;refine aP 0 [_,_,_] sizeOf56 ?_;refine an 10 [2] ?_;refine aK [] ?_;refine⟨?_,rfl⟩;unfold pZ bQ;simp_all

theorem VK{s:ByteArray}(h:s.size=0):s=⟨#[]⟩:=by
 obtain⟨d⟩:=s;have:d = #[]:=Array.eq_empty_of_size_eq_zero h;rw[this]
def xo(a b:Int):List ByteArray:=if cx a 3=1 then [⟨#[115]⟩,⟨#[105,100]⟩,⟨#[110]⟩].take (1+(cx b 3).toNat) else []
def zY(a:Int)(o:ByteArray):Bool:=if o=⟨#[]⟩ then false else cx a 2==1
theorem ahK(h:(!(o.toList==(⟨#[]⟩:ByteArray).toList))=false):o=⟨#[]⟩:=qC.1 (by unfold ja;simpa using h)
def qd(t:Int):ByteArray:=bK.getD (cx t 2).toNat ⟨#[]⟩
def ou(k t a b:Int)(row:List Vl)(tz:Tw):bp :=
 if cx k 6=0 then {cX with kind:=1+0,table:=qd t,ay:=dF}
 else if cx k 6=2 then {cX with kind:=1+2,table:=qd t,row:=[⟨2,cx a 12,⟨#[]⟩⟩,⟨2,cx b 9,⟨#[]⟩⟩,⟨3,0,vz ((⟨#[]⟩:ByteArray)++nN (sE row) 2)⟩,pZ b]}
 else if cx k 6=3 then {cX with kind:=1+3,table:=qd t,names:=(if cx a 5=3 then [] else xo a b),count:=(cx a 5==3),order:=ic.getD (cx b 4).toNat ⟨#[]⟩,down:=zY a (ic.getD (cx b 4).toNat ⟨#[]⟩),iE:=cx a 9-1}
 else if cx k 6=4 then {cX with kind:=1+4,table:=qd t,set:=tO.getD (cx a 5).toNat ⟨#[]⟩,bF:=iq 3 tz}
 else {cX with kind:=1+cx k 6,table:=qd t}
def pQ(k t a b:Int)(row:List Vl)(tz wh:Tw)(bare:Bool):bp:=if 4<=(ou k t a b row tz).kind/\bare=false then {ou k t a b row tz with aj:=iq 3 wh} else ou k t a b row tz
theorem ac4(k t a b:Int)(row:List Vl)(x1 O:Int)(x3:ByteArray)(E:List Tw)(y1 y2:Int)(U:ByteArray)(I:List Tw)(bare:Bool):VP Tryz.prog G 26 [.agg [ae k,ae t,ae a,ae b,ap 3 cV row,ae x1,ae O,bg x3,.list 4 (Tw.lR E) E.length,ae y1,ae y2,bg U,.list 4 (Tw.lR I) I.length,bP bare]] (bg (sE row)):=by
 refine VC.body func26 rfl ntmps26 aU fun X0 w0 bj=>?_;refine bS ?_;refine OD.box (ds:=[_,_,_,_,_,_,_,_,_,_,_,_,_,_]) aq rfl rfl ot rfl rfl (fun b1=>?_);refine an 12 [1] ?_;refine af [1,6] ?_;refine au ?_ ?_<;>intro aJ bz
 ·obtain⟨v,r,rfl⟩:∃v r,row=v::r:=(by (cases row;simp at aJ;exact⟨_,_,rfl⟩))
  refine cz [2] ?_;refine aR 2 ?_ (h:=by exact(nV (mk:=Op.indexAddr 23) rfl ot bV (by first|exact oF runUnderlying23 sizeOf109 (j:=0) rfl bq|exact oI runUnderlying23 sizeOf109 (j:=0) rfl bq)));refine aR 1 ?_ (h:=by exact(dz (mk:=Op.load 9) rfl ot (by exact vv (i:=0) (j:=2) fG isAgg9 bq rfl)));refine bA ?_;refine aK [] ?_;exact⟨rfl,rfl⟩
 obtain rfl:row=[]:=eq_nil_of_length_eq_zero (by simp at aJ;simp[aJ]);refine af [2] ?_;exact nP
theorem PU(k t a b:Int)(row:List Vl)(x1 x2:Int)(x3:ByteArray)(E:List Tw)(y1 y2:Int)(y3:ByteArray)(I:List Tw)(bare:Bool)(cM:-9223372036854775808<=k)(eD:k<=9223372036854775807)(ht1:-9223372036854775808<=t)(ht2:t<=9223372036854775807)(wH:-9223372036854775808<=a)(oW:a<=9223372036854775807)(iM:-9223372036854775808<=b)(jz:b<=9223372036854775807)(vM:∀v∈row,v.s.size<=maxLen)(Ps:(Tw.mk x1 x2 x3 E).Ok)(DT:(Tw.mk y1 y2 y3 I).Ok):VC Tryz.prog G 9 [.agg [ae k,ae t,ae a,ae b,ap 3 cV row,ae x1,ae x2,bg x3,.list 4 (Tw.lR E) E.length,ae y1,ae y2,bg y3,.list 4 (Tw.lR I) I.length,bP bare]] [] (fun r S'=>∃s,r = .agg (aY s)/\S'=[]/\dH s/\s.kind=1+cx k 6/\s.table=bK.getD (cx t 2).toNat ⟨#[]⟩/\s=pQ k t a b row (.mk x1 x2 x3 E) (.mk y1 y2 y3 I) bare):=by
 refine VC.body func9 rfl ntmps9 aU fun X0 w0 bj=>?_;have are:=jd k (show(1:Int)<=6 by decide);have alX:=kL G k 6 cM eD w8;generalize Z:cx k 6=ki at *;have alY:=jd t (show(1:Int)<=2 by decide);have alZ:=kL G t 2 ht1 ht2 w8;generalize al0:cx t 2=ti at *;obtain⟨tj,rfl⟩:=Int.eq_ofNat_of_zero_le alY.1;have Io:tj<bK.length:=(by show tj<2;omega)
 have jK:=Ct bK[tj] (getElem_mem Io);have Ip:bK[tj]=bK.getD ((tj:Nat):Int).toNat ⟨#[]⟩:=(by rw[Int.toNat_natCast,getD_eq_getElem?_getD,getElem?_eq_getElem Io];rfl)
 generalize al1:bK[tj]=tn at *;have sU:qd t=tn:=(by unfold qd;rw[al0];exact Ip.symm)
 refine bS ?_;refine OD.box (ds:=[_,_,_,_,_,_,_,_,_,_,_,_,_,_]) aq rfl rfl ot rfl rfl (fun b1=>?_);refine OD.alloc (ds:=[_,_,_,_,_,_,_,_,_,_,_,_]) aq rfl rfl zeroValue44 rfl (fun b2=>?_);refine an 111 [1,2] ?_;refine CD.seq ?_;refine qR 12 11 [1,2,3,14] ?_;refine cf (alX) ?_;refine cf (alZ) ?_;refine aR 1 ?_ (h:=by exact(dz (mk:=Op.load 9) rfl ot (by exact ry (g:=cS) (ls:=bK) (i:=tj) (d:=bg tn) jU isAgg9 Io (by show some (D.v (.string (bK[tj]'Io)))=some (D.v (.string tn));rw[al1]))));refine kK 1 ?_;refine mo ?_;refine iz ?_;refine⟨rfl,fun b3=>?_⟩;refine aP 0 [_,_,_,_,_,_,_,_,_,_,_,_] sizeOf44 ?_;refine an 111 [1,2,3] ?_;refine iH [1,2,3] (fun aS _ aE=>∃(s:bp),(qN s)/\(s.kind=1+ki)/\(s.table=tn)/\(s=ou k t a b row (.mk x1 x2 x3 E))/\aE=(⟨111,aS,[⟨b3,44,12,[ae s.kind,bg s.table,ap 2 cC s.ay,ap 3 cV s.row,ap 1 cS s.names,bP s.count,ap 5 cO s.aj,bg s.order,bP s.down,ae s.iE,bg s.set,ap 5 cO s.bF]⟩,⟨b2,44,12,[ae 0,gh,cc,cc,cc,bP false,cc,gh,bP false,ae 0,gh,cc]⟩,⟨b1,28,14,[ae k,ae t,ae a,ae b,ap 3 cV row,ae x1,ae x2,bg x3,.list 4 (Tw.lR E) E.length,ae y1,ae y2,bg y3,.list 4 (Tw.lR I) I.length,bP bare]⟩]⟩:St)) ?_ ?_
 ·refine CD.seq ?_;refine CD.cells (k:=0) (cs':=[_,_,.list 2 [] 0,.list 3 [] 0,.list 1 [] 0,_,.list 5 [] 0,_,_,_,_,.list 5 [] 0]) (S':=[_,_,_]) rfl (by repeat (first|exact trivial|exact⟨eM,trivial⟩|exact⟨fP,trivial⟩|refine⟨eM,?_⟩|refine⟨fP,?_⟩)) rfl ?_;refine bM [1,2,3,16] ?_;refine af [1,2,3,16,17] ?_;refine au ?_ ?_<;>intro aJ bz
  ·obtain rfl:ki=0:=(by simp at aJ;omega)
   refine tE ?_;refine OD.iD aq rfl rfl rfl call14 (Q1) trivial ?_;refine aH 1 ?_;refine aP 0 [_,_,_,_,_,_,_,_,_,_,_,_] sizeOf39 ?_;refine an 111 [1,2,3] ?_;refine⟨_,aI,{cX with kind:=1+0,table:=tn,ay:=dF},(IS jK),Dg,rfl,(by unfold ou;rw[if_pos Z,sU]),rfl⟩
  refine af [1,2,3,16,21] ?_;refine au ?_ ?_<;>intro aX cr
  ·obtain rfl:ki=2:=(by simp at aX;omega)
   have al2:=jd a (show(1:Int)<=12 by decide);have al3:=kL G a 12 wH oW w8;generalize al4:cx a 12=xa at *;have al5:=jd b (show(1:Int)<=9 by decide);have al6:=kL G b 9 iM jz w8;generalize al7:cx b 9=xb at *;have HY:(sE row).size<=maxLen:=(by (cases row;decide;exact vM _ mem_cons_self))
   have yW:(nN (sE row) 2).size<=maxLen:=(by rw[I6];exact Nat.le_trans (Nat.min_le_left _ _) HY)
   have dy:((⟨#[]⟩:ByteArray)++nN (sE row) 2).size<=maxLen:=(by rw[ByteArray.size_append];show 0+_<=_;omega)
   have tg:(⟨#[]⟩:ByteArray).size+(nN (sE row) 2).size<=9223372036854775807:=(by (have:=yW;unfold maxLen at this;show 0+_<=_;omega))
   have hu6:=(Qc ((⟨#[]⟩:ByteArray)++nN (sE row) 2)).2;refine nk 18 [1,2,3,40] ?_;refine cf (al3) ?_;refine cf (al6) ?_;refine cf (ac4 k t a b row x1 x2 x3 E y1 y2 y3 I bare) ?_;refine cf (FY (sE row) 2 HY) ?_;refine aR 0 ?_ (h:=by exact(dR rfl bV ot (Kf tg)));refine cf (Nm.rp ((⟨#[]⟩:ByteArray)++nN (sE row) 2) dy) ?_;refine cf (Bz b iM jz) ?_;refine bA ?_;refine aH 1 ?_;refine aP 0 [_,_,_,_,_,_,_,_,_,_,_,_] sizeOf40 ?_;refine an 111 [1,2,3] ?_;refine⟨_,aI,{cX with kind:=1+2,table:=tn,row:=[⟨2,xa,⟨#[]⟩⟩,⟨2,xb,⟨#[]⟩⟩,⟨3,0,vz ((⟨#[]⟩:ByteArray)++nN (sE row) 2)⟩,pZ b]},(Qs jK al2 al5 hu6),Dg,rfl,(by unfold ou;rw[if_neg w4,if_pos Z,sU,al4,al7]),rfl⟩
  refine af [1,2,3,16,42] ?_;refine au ?_ ?_<;>intro bL cJ
  ·obtain rfl:ki=3:=(by simp at bL;omega)
   refine iH [1,2,3] (fun aS _ aE=>∃(N:List ByteArray),((N.length<=6/\∀x∈N,cW x=0))/\(N=xo a b)/\aE=(⟨111,aS,[⟨b3,44,12,[ae (1+3),bg tn,.list 2 [] 0,.list 3 [] 0,ap 1 cS N,bP false,.list 5 [] 0,gh,bP false,ae (-1),gh,.list 5 [] 0]⟩,⟨b2,44,12,[ae 0,gh,cc,cc,cc,bP false,cc,gh,bP false,ae 0,gh,cc]⟩,⟨b1,28,14,[ae k,ae t,ae a,ae b,ap 3 cV row,ae x1,ae x2,bg x3,.list 4 (Tw.lR E) E.length,ae y1,ae y2,bg y3,.list 4 (Tw.lR I) I.length,bP bare]⟩]⟩:St)) ?_ ?_
   ·refine CD.seq ?_;have arf:=jd a (show(1:Int)<=3 by decide);have al8:=kL G a 3 wH oW w8;generalize Wr:cx a 3=xc at *;refine gl [1,2,3,47] ?_;refine cf (al8) ?_;refine bA ?_;refine au ?_ ?_<;>intro cN en
    ·have pyb:=jd b (show(1:Int)<=3 by decide);have Pt:=kL G b 3 iM jz w8;generalize ajm:cx b 3=yb at *;have hyb:yb=0\/yb=1\/yb=2:=(by omega)
     rcases hyb with rfl|rfl|rfl
     ·refine tE ?_;refine ey (cu 0 [_,_,_]) [.string ⟨#[]⟩,.string ⟨#[]⟩,.string ⟨#[]⟩] [_,_,_] zeroValue9 runUnderlying41 sizeOf9 (fun O9=>?_);refine fD 0 48 1 3 ?_;refine aH 2 ?_;refine ez call16 (Pt) ?_;refine aH 1 ?_;refine bN (eE (l:=0) (h:=1) rfl ot trivial ⟨_,ot⟩ Nr) ?_;refine aH 1 ?_;refine aP 0 [_,_,_,_,_,_,_,_,_,_,_,_] sizeOf41 ?_;refine an 111 [1,2,3] ?_;refine⟨_,aI,[⟨#[115]⟩],⟨by decide,by decide +kernel⟩,NJ,rfl⟩
     ·refine tE ?_;refine ey (cu 0 [_,_,_]) [.string ⟨#[]⟩,.string ⟨#[]⟩,.string ⟨#[]⟩] [_,_,_] zeroValue9 runUnderlying41 sizeOf9 (fun O9=>?_);refine fD 0 48 1 3 ?_;refine aH 2 ?_;refine ez call16 (Pt) ?_;refine aH 1 ?_;refine bN (eE (l:=0) (h:=2) rfl ot trivial ⟨_,ot⟩ Nr) ?_;refine aH 1 ?_;refine aP 0 [_,_,_,_,_,_,_,_,_,_,_,_] sizeOf41 ?_;refine an 111 [1,2,3] ?_;refine⟨_,aI,[⟨#[115]⟩,⟨#[105,100]⟩],⟨by decide,by decide +kernel⟩,NJ,rfl⟩
     refine tE ?_;refine ey (cu 0 [_,_,_]) [.string ⟨#[]⟩,.string ⟨#[]⟩,.string ⟨#[]⟩] [_,_,_] zeroValue9 runUnderlying41 sizeOf9 (fun O9=>?_);refine fD 0 48 1 3 ?_;refine aH 2 ?_;refine ez call16 (Pt) ?_;refine aH 1 ?_;refine bN (eE (l:=0) (h:=3) rfl ot trivial ⟨_,ot⟩ Nr) ?_;refine aH 1 ?_;refine aP 0 [_,_,_,_,_,_,_,_,_,_,_,_] sizeOf41 ?_;refine an 111 [1,2,3] ?_;refine⟨_,aI,[⟨#[115]⟩,⟨#[105,100]⟩,⟨#[110]⟩],⟨by decide,by decide +kernel⟩,NJ,rfl⟩
    refine CD.skip ?_;refine⟨_,aI,[],⟨by simp,fun _ h=>by cases h⟩,(by unfold xo;rw[Wr,if_neg (by simpa using cN)]),rfl⟩
   rintro _ ⟨N,hN,hNn,rfl⟩;refine CD.seq ?_;have arh:=jd a (show(1:Int)<=5 by decide);have al9:=kL G a 5 wH oW w8;generalize G5:cx a 5=xd at *;refine dw 2 ?_;refine ez call16 (al9) ?_;refine aH 2 ?_;refine aP 0 [_,_,_,_,_,_,_,_,_,_,_,_] sizeOf4 ?_;refine an 111 [1,2,3] ?_;refine iH [1,2,3] (fun aS _ aE=>∃(N:List ByteArray),∃(ct:Bool),((N.length<=6/\∀x∈N,cW x=0))/\(ct=true->N=[])/\(ct=(cx a 5==3))/\(N=(if cx a 5=3 then [] else xo a b))/\aE=(⟨111,aS,[⟨b3,44,12,[ae (1+3),bg tn,.list 2 [] 0,.list 3 [] 0,ap 1 cS N,bP ct,.list 5 [] 0,gh,bP false,ae (-1),gh,.list 5 [] 0]⟩,⟨b2,44,12,[ae 0,gh,cc,cc,cc,bP false,cc,gh,bP false,ae 0,gh,cc]⟩,⟨b1,28,14,[ae k,ae t,ae a,ae b,ap 3 cV row,ae x1,ae x2,bg x3,.list 4 (Tw.lR E) E.length,ae y1,ae y2,bg y3,.list 4 (Tw.lR I) I.length,bP bare]⟩]⟩:St)) ?_ ?_
   ·refine af [1,2,3,61] ?_;refine au ?_ ?_<;>intro dW fB
    ·refine dw 1 ?_;refine aP 0 [_,_,_,_,_,_,_,_,_,_,_,_] sizeOf41 ?_;refine an 111 [1,2,3] ?_;refine⟨_,(Wk.cells (k:=0) (cs':=[_,_,_,_,.list 1 [] 0,_,_,_,_,_,_,_]) rfl (by repeat (first|exact trivial|exact⟨eM,trivial⟩|exact⟨fP,trivial⟩|refine⟨eM,?_⟩|refine⟨fP,?_⟩)) rfl).trans (aI),[],(xd==3),⟨Nat.zero_le _,fun _ h=>by cases h⟩,(fun _=>rfl),(by rw[G5]),(by rw[G5,if_pos (by simpa using dW)]),rfl⟩
    refine CD.skip ?_;refine⟨_,aI,N,(xd==3),hN,(fun h=>absurd h (by rw[dW];decide)),(by rw[G5]),(by rw[G5,if_neg (by simpa using dW)];exact hNn),rfl⟩
   rintro _ ⟨N,ct,hN,hcn,rQ,hNe,rfl⟩;refine CD.seq ?_;have ama:=jd b (show(1:Int)<=4 by decide);have amb:=kL G b 4 iM jz w8;generalize amc:cx b 4=xe at *;obtain⟨ej,rfl⟩:=Int.eq_ofNat_of_zero_le ama.1;have Iq:ej<ic.length:=(by show ej<4;omega)
   have j7:=Wm ic[ej] (getElem_mem Iq);generalize XM:ic[ej]=od at *;have hoe:od=ic.getD (cx b 4).toNat ⟨#[]⟩:=(by rw[amc,Int.toNat_natCast,getD_eq_getElem?_getD,getElem?_eq_getElem Iq,XM];rfl)
   refine tE ?_;refine ey (cu 0 [_,_,_,_]) [.string ⟨#[]⟩,.string ⟨#[]⟩,.string ⟨#[]⟩,.string ⟨#[]⟩] [_,_,_,_] zeroValue9 runUnderlying41 sizeOf9 (fun En=>?_);refine fD 0 63 1 4 ?_;refine aH 2 ?_;refine ez call16 (amb) ?_;refine aH 1 ?_;refine bN (dz (mk:=Op.load 9) rfl ot (by exact ry (g:=cS) (ls:=ic) (i:=ej) (d:=bg od) jU isAgg9 Iq (by show some (D.v (.string (ic[ej]'Iq)))=some (D.v (.string od));rw[XM]))) ?_;refine aH 1 ?_;refine aP 0 [_,_,_,_,_,_,_,_,_,_,_,_] sizeOf9 ?_;refine an 111 [1,2,3] ?_;refine iH [1,2,3] (fun aS _ aE=>∃(dn:Bool),(od=⟨#[]⟩->dn=false)/\(dn=zY a od)/\aE=(⟨111,aS,[⟨b3,44,12,[ae (1+3),bg tn,.list 2 [] 0,.list 3 [] 0,ap 1 cS N,bP ct,.list 5 [] 0,bg od,bP dn,ae (-1),gh,.list 5 [] 0]⟩,⟨b2,44,12,[ae 0,gh,cc,cc,cc,bP false,cc,gh,bP false,ae 0,gh,cc]⟩,⟨b1,28,14,[ae k,ae t,ae a,ae b,ap 3 cV row,ae x1,ae x2,bg x3,.list 4 (Tw.lR E) E.length,ae y1,ae y2,bg y3,.list 4 (Tw.lR I) I.length,bP bare]⟩]⟩:St)) ?_ ?_
   ·have ari:=jd a (show(1:Int)<=2 by decide);have amd:=kL G a 2 wH oW w8;generalize ame:cx a 2=xf at *;refine dw 4 ?_;refine bZ 73 (fun O ajg=>?_) (fun O ajg=>?_)
    ·refine aH 2 ?_;refine OD.iD iN rfl rfl rfl call16 (amd) ⟨ot,bV,trivial⟩ ?_;refine aH 3 ?_;refine aP 0 [_,_,_,_,_,_,_,_,_,_,_,_] sizeOf4 ?_;refine an 111 [1,2,3] ?_;refine⟨_,aI,(xf==1),(fun h=>by rw[h] at O;exact absurd O (by decide +kernel)),(by unfold zY;rw[if_neg (fun h=>by rw[h] at O;exact absurd O (by decide +kernel)),ame]),rfl⟩
    refine yC 4 ?_;refine aH 2 ?_;refine aP 0 [_,_,_,_,_,_,_,_,_,_,_,_] sizeOf4 ?_;refine an 111 [1,2,3] ?_;refine⟨_,aI,false,(fun _=>rfl),(by unfold zY;rw[if_pos (ahK O)]),rfl⟩
   rintro _ ⟨dn,AU,hde,rfl⟩;have arj:=jd a (show(1:Int)<=9 by decide);have amf:=kL G a 9 wH oW w8;generalize amg:cx a 9=xg at *;refine dw 2 ?_;refine ez call16 (amf) ?_;refine aH 2 ?_;refine aP 0 [_,_,_,_,_,_,_,_,_,_,_,_] sizeOf3 ?_;refine an 111 [1,2,3] ?_;refine⟨_,aI,{cX with kind:=1+3,table:=tn,names:=N,count:=ct,order:=od,down:=dn,iE:=xg-1},(Qt jK hN hcn (j7.imp (fun h=>VK h) id) AU w4),Dg,rfl,(by unfold ou;rw[if_neg w4,if_neg w4,if_pos Z,sU,<-hNe,<-rQ,<-hoe,<-hde,amg]),rfl⟩
  refine af [1,2,3,85] ?_;refine au ?_ ?_<;>intro fF gM
  ·obtain rfl:ki=4:=(by simp at fF;omega)
   refine CD.seq ?_;have amh:=jd a (show(1:Int)<=5 by decide);have ami:=kL G a 5 wH oW w8;generalize amj:cx a 5=xh at *;obtain⟨hj,rfl⟩:=Int.eq_ofNat_of_zero_le amh.1;have Ir:hj<tO.length:=(by show hj<5;omega)
   have AK:=Gy tO[hj] (getElem_mem Ir);generalize XN:tO[hj]=sn at *;have Dz:sn=tO.getD (cx a 5).toNat ⟨#[]⟩:=(by rw[amj,Int.toNat_natCast,getD_eq_getElem?_getD,getElem?_eq_getElem Ir,XN];rfl)
   refine tE ?_;refine ey (cu 0 [_,_,_,_,_]) [.string ⟨#[]⟩,.string ⟨#[]⟩,.string ⟨#[]⟩,.string ⟨#[]⟩,.string ⟨#[]⟩] [_,_,_,_,_] zeroValue9 runUnderlying41 sizeOf9 (fun pN=>?_);refine fD 0 87 1 5 ?_;refine aH 2 ?_;refine ez call16 (ami) ?_;refine aH 1 ?_;refine bN (dz (mk:=Op.load 9) rfl ot (by exact ry (g:=cS) (ls:=tO) (i:=hj) (d:=bg sn) jU isAgg9 Ir (by show some (D.v (.string (tO[hj]'Ir)))=some (D.v (.string sn));rw[XN]))) ?_;refine aH 1 ?_;refine aP 0 [_,_,_,_,_,_,_,_,_,_,_,_] sizeOf9 ?_;refine an 111 [1,2,3] ?_;refine dw 2 ?_;refine ez call12 (Vq (.mk x1 x2 x3 E) Ps) ?_;refine aH 1 ?_;refine aP 0 [_,_,_,_,_,_,_,_,_,_,_,_] sizeOf42 ?_;refine an 111 [1,2,3] ?_;refine⟨_,aI,{cX with kind:=1+4,table:=tn,set:=sn,bF:=iq 3 (.mk x1 x2 x3 E)},(Qu jK AK (.mk x1 x2 x3 E)),Dg,rfl,(by unfold ou;rw[if_neg w4,if_neg w4,if_neg w4,if_pos Z,sU,<-Dz]),rfl⟩
  have amk:ki=1\/ki=5:=(by simp at aJ aX bL fF;omega)
  refine CD.skip ?_;refine⟨_,aI,{cX with kind:=1+ki,table:=tn},(by (rcases amk with rfl|rfl;exact Tt jK;exact Qv jK)),Dg,rfl,(by unfold ou;rw[if_neg w4,if_neg w4,if_neg w4,if_neg w4,sU,Z]),rfl⟩
 rintro _ ⟨s,Na,Nb,Nc,tF,rfl⟩;refine aB 4 ?_;refine bZ 101 (fun U ahL=>?_) (fun U ahL=>?_)
 ·refine bu [1,2,3,105] ?_;refine au ?_ ?_<;>intro iw oS
  ·have hg4:4<=s.kind/\bare=false:=(by (have q1:=iw;simp at q1;first|exact⟨by simpa using U,by simpa using q1⟩|simp_all))
   have oO:=Na.2 (iq 3 (.mk y1 y2 y3 I)) (KR _) (.inl hg4.1);refine dw 2 ?_;refine ez call12 (Vq (.mk y1 y2 y3 I) DT) ?_;refine aH 1 ?_;refine aP 0 [_,_,_,_,_,_,_,_,_,_,_,_] sizeOf42 ?_;refine an 111 [2,3] ?_;refine aB 1 ?_;refine aP 1 [_,_,_,_,_,_,_,_,_,_,_,_] sizeOf44 ?_;refine an 111 [2] ?_;refine aK [] ?_;exact⟨{s with aj:=iq 3 (.mk y1 y2 y3 I)},rfl,rfl,oO,Nb,Nc.trans Ip,by unfold pQ;rw[<-tF,if_pos hg4]⟩
  have oO:=Na.vK;have Pu:¬(4<=s.kind/\bare=false):=(by rintro⟨q1,q2⟩;first|(simp at U;omega)|(simp[q2] at iw;done)|simp_all)
  refine aB 1 ?_;refine aP 1 [_,_,_,_,_,_,_,_,_,_,_,_] sizeOf44 ?_;refine an 111 [2] ?_;refine aK [] ?_;exact⟨s,rfl,rfl,oO,Nb,Nc.trans Ip,by unfold pQ;rw[<-tF,if_neg Pu]⟩
 refine bu [1,2,3,105] ?_;refine gm ?_;have oO:=Na.vK;have Pu:¬(4<=s.kind/\bare=false):=(by rintro⟨q1,q2⟩;first|(simp at U;omega)|(simp[q2] at iw;done)|simp_all)
 refine aB 1 ?_;refine aP 1 [_,_,_,_,_,_,_,_,_,_,_,_] sizeOf44 ?_;refine an 111 [2] ?_;refine aK [] ?_;exact⟨s,rfl,rfl,oO,Nb,Nc.trans Ip,by unfold pQ;rw[<-tF,if_neg Pu]⟩
theorem aao(k t a b:Int)(row:List Vl)(x1 U:Int)(x3:ByteArray)(E:List Tw)(y1 y2:Int)(Z:ByteArray)(I:List Tw)(bare:Bool)(cM:-9223372036854775808<=k)(eD:k<=9223372036854775807)(ht1:-9223372036854775808<=t)(ht2:t<=9223372036854775807)(wH:-9223372036854775808<=a)(oW:a<=9223372036854775807)(iM:-9223372036854775808<=b)(jz:b<=9223372036854775807)(O:∀v∈row,v.s.size<=maxLen)(Ps:(Tw.mk x1 U x3 E).Ok)(DT:(Tw.mk y1 y2 Z I).Ok):VC Tryz.prog G 9 [.agg [ae k,ae t,ae a,ae b,ap 3 cV row,ae x1,ae U,bg x3,.list 4 (Tw.lR E) E.length,ae y1,ae y2,bg Z,.list 4 (Tw.lR I) I.length,bP bare]] [] (fun r S'=>∃s,r = .agg (aY s)/\S'=[]/\dH s/\s.kind=1+cx k 6/\s.table=bK.getD (cx t 2).toNat ⟨#[]⟩):=(PU k t a b row x1 U x3 E y1 y2 Z I bare cM eD ht1 ht2 wH oW iM jz O Ps DT).mono fun r S' ⟨s,h1,h2,h3,h4,h5,_⟩=>⟨s,h1,h2,h3,h4,h5⟩

end Go.Proofs.YtbplamgacibdaaaGreatDoor.Pa
namespace Go.Proofs.YtbplamgacibdaaaGreatDoor.Ba
open List
open Go.Proofs.Tryz
open Go.RowKit V Pk Tr Vl Go.Proofs.YtbplamgacibdaaaGreatDoor.Nm Pc Cd Ex Tw
open Pa (bp aY dZ dA dH di dO ei dD)
variable {l:List az} {a c:Nat}
theorem L7{v:Vl}(h:de v=0)(h1:-9223372036854775808<=v.n)(h2:v.n<=9223372036854775807):v.Ok:=by
 unfold de at h;have hk:(0<=v.k/\v.k<=3)/\v.s.size<=20:=by
  repeat' split at h
  all_goals first|(cases h;done)|omega
 exact⟨by omega,by omega,h1,h2,Nat.le_trans hk.2 w8⟩
theorem Ry{α:Type}{f:α->Int}:∀{l:List α},Pa.kj f l=0->∀a∈l,f a=0
 | [],_,a,ha=>by cases ha
 | x::r,h,a,ha=>by
  rw[Pa.kj] at h;split at h
  ·rename_i hx;exact absurd h hx
  rename_i hx;rcases mem_cons.1 ha with rfl|ha
  ·exact Classical.not_not.1 hx
  exact Ry h a ha
theorem JZ{w:List bf}(h:Pa.nY w=0):∀o∈w,de o.v=0:=fun o ho=>by
 unfold Pa.nY at h;split at h
 ·rename_i h0;rw[length_eq_zero_iff.1 h0] at ho;cases ho
 obtain⟨h',h1⟩:=Fw w 0 (xn h).2 o ho;exact E1 (wX h1).2.2.1
theorem agq{w:List bf}(h:jk w=0):∀o∈w,de o.v=0:=fun o ho=>by
 obtain⟨h',h1⟩:=Fw w 0 (xn h).2 o ho;exact E1 (wX h1).2.2.1
structure Dc (s:bp):Prop where
 fin:dZ s
 row:∀v∈s.row,v.Ok
 ZT:∀o∈s.aj,o.nm.size<=maxLen
 ZU:∀o∈s.aj,o.v.Ok
 Pv:∀o∈s.bF,o.nm.size<=maxLen
 Pw:∀o∈s.bF,o.v.Ok
theorem Gy{s:bp}(hf:dZ s)(cM:1<=s.kind)(wi:s.kind<=6)(hc:di s=0):Dc s:=by
 unfold di at hc;split at hc
 ·rename_i h1;exact absurd hc h1.2
 split at hc
 ·cases hc
 rename_i h1 h2;have hb:ei s (dD s)=true:=by
  cases h:ei s (dD s) with
  | true=>rfl
  | false=>exact absurd ⟨hc,h⟩ h2
 unfold ei at hb;simp only[Bool.and_eq_true,beq_iff_eq] at hb;have hr:∀v∈s.row,de v=0:=by
  by_cases h3:s.kind=3
  ·unfold dO at hc;rw[if_neg w4,if_pos h3] at hc;unfold Pa.dY at hc;split at hc
   ·cases hc
   exact fun v I=>E1 (Ry hc v I)
  have gN:(s.row.length:Int)=((dD s).row.length:Int):=hb.2.2.1;have h0:(dD s).row=[]:=(by unfold dD;split;rfl;split;rfl;split;rfl;split;rfl;rfl)
  rw[h0] at gN;have:s.row=[]:=length_eq_zero_iff.1 (by simpa using gN);rw[this];intro v I;cases I
 have hw:∀o∈s.aj,de o.v=0:=by
  by_cases h3:4<=s.kind
  ·unfold dO at hc;rw[if_neg w4,if_neg w4] at hc;by_cases h4:s.kind=4
   ·rw[if_pos h4] at hc;unfold Pa.px at hc;split at hc
    ·cases hc
    split at hc
    ·cases hc
    split at hc
    ·cases hc
    split at hc
    ·rename_i E;exact absurd hc E
    split at hc
    ·rename_i E;exact absurd hc E
    rename_i E;exact JZ (Classical.not_not.1 E)
   rw[if_neg h4] at hc;by_cases h5:s.kind=5
   ·rw[if_pos h5] at hc;split at hc
    ·split at hc
     ·exact JZ hc
     rename_i E;exact absurd hc E
    rename_i E;exact absurd hc E
   rw[if_neg h5,if_pos w4] at hc;exact JZ hc
  have gN:(s.aj.length:Int)=((dD s).aj.length:Int):=hb.2.2.2.2.2.1;have h0:(dD s).aj=[]:=(by unfold dD;split;rfl;split;rfl;rw[if_neg w4,if_neg w4,if_neg w4];rfl)
  rw[h0] at gN;have:s.aj=[]:=length_eq_zero_iff.1 (by simpa using gN);rw[this];intro v I;cases I
 have hx:∀o∈s.bF,de o.v=0:=by
  by_cases h5:s.kind=5
  ·unfold dO at hc;rw[if_neg w4,if_neg w4,if_neg w4,if_pos h5] at hc;split at hc
   ·split at hc
    ·rename_i E;exact agq E
    rename_i E;exact absurd hc E
   rename_i E;exact absurd hc E
  have gN:(s.bF.length:Int)=((dD s).bF.length:Int):=(by simpa using hb.2.2.2.2.2.2.2.2.2.2)
  have h0:(dD s).bF=[]:=(by unfold dD;split;rfl;split;rfl;split;rfl;split;rfl;rfl)
  rw[h0] at gN;have:s.bF=[]:=length_eq_zero_iff.1 (by simpa using gN);rw[this];intro v I;cases I
 exact⟨hf,fun v I=>L7 (hr v I) (hf.r v I).1 (hf.r v I).2,fun o ho=>(hf.w o ho).1,fun o ho=>L7 (hw o ho) (hf.w o ho).2.1 (hf.w o ho).2.2,fun o ho=>(hf.x o ho).1,fun o ho=>L7 (hx o ho) (hf.x o ho).2.1 (hf.x o ho).2.2⟩
theorem dH.st{s:bp}(h:dH s):Dc s:=Gy h.1 h.2.1 h.2.2.1 h.2.2.2.2
structure l7 (l:List az) (a c:Nat):Prop where
 g:lg l (a*(1+c))
 r:∀t∈l,t.rows.length<=a
theorem aeR(s:bp)(h:cW s.table=0)(hc:s.ay=dF):cQ (gW s) 0:=⟨h,hc,Nat.zero_le _,Tc,fun i h=>absurd h (Nat.not_lt_zero _),fun x hx=>by
 have:dg nL=[]:=Td;rw[show(gW s).ix=nL from rfl,this] at hx;cases hx⟩
theorem lg.mono{l:List az}{n m:Nat}(g:lg l n)(h:n<=m):lg l m:=⟨g.ec,fun t ht=>(g.tb t ht).mono h,g.sz,g.Ey⟩
theorem lg.put{n:Nat}(g:lg l n){i:Nat}(hi:i<l.length){t:az}(ht:cQ t n)(hn:t.nm=l[i].nm):lg (l.set i t) n:=by
 refine⟨by rw[length_set];exact g.ec,fun x hx=>?_,fun x hx=>?_,?_⟩
 ·rcases mem_or_eq_of_mem_set hx with h|h
  ·exact g.tb x h
  rw[h];exact ht
 ·rcases mem_or_eq_of_mem_set hx with h|h
  ·exact g.sz x h
  rw[h,hn];exact g.sz _ (getElem_mem hi)
 have hm:(l.set i t).map az.nm=l.map az.nm:=by
  exact WI
 have h1:∀l:List az,(l.Pairwise fun a b=>a.nm.toList≠b.nm.toList)↔(l.map az.nm).Pairwise fun a b=>a.toList≠b.toList:=fun l=>by rw[pairwise_map]
 rw[h1,hm,<-h1];exact g.Ey

theorem VL(t:az)(row:List Vl):(fu t row).1.nm=t.nm:=by
 unfold fu;by_cases h1:Pc.dY t.ay row≠0
 ·rw[if_pos h1]
 rw[if_neg h1];cases gS t.ix (cg row) (c9 t.ix) with
 | true=>rw[if_pos rfl]
 | false =>
  rw[if_neg w8];by_cases h3:t.rows.length=40
  ·rw[if_pos h3]
  rw[if_neg h3]
theorem U1:∀(l:List Int) (t:az),(kw t l).nm=t.nm
 | [],_=>rfl
 | _::l,t=>(U1 l _).trans rfl
theorem VM(t:az)(w:List bf):(iT t w).1.nm=t.nm:=by unfold iT;split;rfl;exact U1 _ _
theorem U2{c:Nat}:∀(l:List Int) (vs:List Vl) (t:az),(eH c t l vs).nm=t.nm
 | [],_,t=>by unfold eH;rfl
 | _::_,[],t=>by unfold eH;rfl
 | _::l,_::vs,t=>(U2 l vs _).trans rfl
theorem Tu:∀(l:List Int) (vs:List Vl) (t:az),(gd t l vs).1.nm=t.nm
 | [],_,t=>by unfold gd;rfl
 | _::_,[],t=>by unfold gd;rfl
 | _::l,_::vs,t=>by
  rw[gd];split
  ·rfl
  exact(Tu l vs _).trans rfl
theorem VN(t:az)(s:bp):(eS t s).1.nm=t.nm:=by
 unfold eS;repeat' split
 all_goals first|rfl|exact U2 _ _ _|exact(Tu _ _ _).trans rfl
theorem ahM{nm:ByteArray}(h:aN l nm<0):∀t∈l,t.nm.toList≠nm.toList:=fun t ht e=>by
 unfold aN dK at h;split at h
 ·omega
 rename_i h1;have:=findIdx?_eq_none_iff.1 h1 t ht;rw[e] at this;simp at this
theorem J0(h:a+c<=30):a*(1+c)<=260:=by
 have key:∀a<31,∀c<31,a+c<=30->a*(1+c)<=260:=(by decide +kernel)
 exact key a w4 c w4 h
theorem Wn:a*(1+c)+1<=(a+1)*(1+c):=by rw[Nat.add_mul];omega
theorem Wo:a*(1+c)+a=a*(1+(c+1)):=by rw[<-Nat.add_assoc,Nat.mul_add a (1+c) 1,Nat.mul_one]
theorem l7.put{l:List az}{a c a' E:Nat}(g:l7 l a c)(h:a*(1+c)<=a'*(1+E))(ha:a<=a'){i:Nat}(hi:i<l.length){t:az}(ht:cQ t (a'*(1+E)))(hr:t.rows.length<=a')(hn:t.nm=l[i].nm):l7 (l.set i t) a' E:=by
 refine⟨(g.g.mono h).put hi ht hn,fun x hx=>?_⟩;rcases mem_or_eq_of_mem_set hx with hx|hx
 ·exact Nat.le_trans (g.r x hx) ha
 rw[hx];exact hr
theorem F9{i:Nat}(hi:i<l.length){t:az}(hn:t.nm=l[i].nm):(l.set i t).map az.nm=l.map az.nm:=by
 exact WI
theorem wZ(g:l7 l a c)(I:a+c<=30){s:bp}(hs:Dc s)(eD:¬s.kind=2)(gA:cW s.table=0)(E:s.kind=1->s.ay=dF)(h0:(eK l s).2.2=0) :
  ∃a' O,a'+O<=a+c+1/\l7 (eK l s).1 a' O/\(s.kind=1->(eK l s).1=l++[gW s]/\a'=a/\O=c)/\(¬s.kind=1->(eK l s).1.map az.nm=l.map az.nm):=by
 have hb:=J0 I;have iM:=vg (fun t:az=>t.nm.toList==s.table.toList) l;rw[show dK (fun t:az=>t.nm.toList==s.table.toList) l=aN l s.table from rfl] at iM;unfold eK at h0 |-;by_cases cM:s.kind=1
 ·rw[if_pos cM] at h0 |-;dsimp only at h0;unfold pP at h0 |-;by_cases h1:0<=aN l s.table
  ·rw[if_pos h1] at h0;cases h0
  rw[if_neg h1] at h0 |-;by_cases h2:l.length=4
  ·rw[if_pos h2] at h0;cases h0
  rw[if_neg h2] at h0 |-;have U:=aeR s gA (E cM);have hf:=g.g.ec;refine⟨a,c,by omega,⟨⟨by rw[length_append,length_singleton];omega,fun t ht=>?_,fun t ht=>?_,?_⟩,fun t ht=>?_⟩,fun _=>⟨rfl,rfl,rfl⟩,fun h=>absurd cM h⟩
  ·rcases mem_append.1 ht with ht|ht
   ·exact g.g.tb t ht
   rw[mem_singleton] at ht;rw[ht];exact U.mono (Nat.zero_le _)
  ·rcases mem_append.1 ht with ht|ht
   ·exact g.g.sz t ht
   rw[mem_singleton] at ht;rw[ht];exact hs.fin.t
  ·refine pairwise_append.2 ⟨g.g.Ey,pairwise_singleton _ _,fun x hx y hy=>?_⟩;rw[mem_singleton] at hy;subst hy;exact ahM (show aN l s.table<0 by omega) x hx
  rcases mem_append.1 ht with ht|ht
  ·exact g.r t ht
  rw[mem_singleton] at ht;rw[ht];exact Nat.zero_le _
 rw[if_neg cM] at h0 |-;by_cases h1:aN l s.table<0
 ·rw[if_pos h1] at h0;cases h0
 rw[if_neg h1] at h0 |-;have bW:(aN l s.table).toNat<l.length:=(by omega)
 have iW:l.getD (aN l s.table).toNat (gW s)=l[(aN l s.table).toNat]:=(by rw[getD_eq_getElem?_getD,getElem?_eq_getElem bW];rfl)
 rw[iW] at h0 |-;have gt:=g.g.tb _ (getElem_mem bW);have Z:=g.r _ (getElem_mem bW);by_cases h3:s.kind=3
 ·rw[if_pos h3] at h0 |-;obtain⟨q1,q2⟩:=acZ gt w4 hs.row h0;exact⟨a+1,c,by omega,g.put (Nat.le_trans (Nat.le_succ _) Wn) (Nat.le_succ _) bW (q1.mono Wn) w4 (VL _ _),fun h=>absurd h cM,fun _=>F9 bW (VL _ _)⟩
 rw[if_neg h3] at h0 |-;by_cases h4:s.kind=4
 ·rw[if_pos h4];exact⟨a,c,by omega,g,fun h=>absurd h cM,fun _=>rfl⟩
 rw[if_neg h4] at h0 |-;by_cases h5:s.kind=5
 ·rw[if_pos h5];obtain⟨q1,q2⟩:=ac0 gt s hs.Pv hs.Pw hb;exact⟨a,c+1,by omega,g.put (by rw[<-Wo];omega) (Nat.le_refl _) bW (q1.mono (by rw[<-Wo];omega)) w4 (VN _ _),fun h=>absurd h cM,fun _=>F9 bW (VN _ _)⟩
 rw[if_neg h5];obtain⟨q1,q2⟩:=aan gt s.aj;exact⟨a,c,by omega,g.put (Nat.le_refl _) (Nat.le_refl _) bW q1 w4 (VM _ _),fun h=>absurd h cM,fun _=>F9 bW (VM _ _)⟩

end Go.Proofs.YtbplamgacibdaaaGreatDoor.Ba

namespace Go.Proofs.YtbplamgacibdaaaGreatDoor.Pa
open List
open Go.Proofs.Tryz
open Go.RowKit V Pk Go.Proofs.YtbplamgacibdaaaGreatDoor.Vl Go.Proofs.YtbplamgacibdaaaGreatDoor.Nm Go.Proofs.YtbplamgacibdaaaGreatDoor.Pc
section
variable {H:Type} {enc:TypeId×Value->H} {P:Program} {w:World} {base:Nat} {sp:Nat->Bool} {held:Bool}
theorem abx {fuel:Nat} {t:TypeId} {f0 f1 f2 f3 f4 f5 f6 f7:Field} {E I O U Z α5 α6 α7:Type} {g0:E->List D} {k0:E->Prop} {g1:I->List D} {k1:I->Prop} {g2:O->List D} {k2:O->Prop} {g3:U->List D} {k3:U->Prop} {g4:Z->List D} {k4:Z->Prop} {g5:α5->List D} {k5:α5->Prop} {g6:α6->List D} {k6:α6->Prop} {g7:α7->List D} {k7:α7->Prop} {n0 n1 n2 n3 n4 n5 n6 n7:Nat}
  (ht:P.underlying t=some (.struct #[f0,f1,f2,f3,f4,f5,f6,f7])) (hc:P.cellsOf t=n0+n1+n2+n3+n4+n5+n6+n7) (o0:f0.offset=0) (c0:P.cellsOf f0.type=n0) (o1:f1.offset=n0) (c1:P.cellsOf f1.type=n1) (o2:f2.offset=n0+n1) (c2:P.cellsOf f2.type=n2) (o3:f3.offset=n0+n1+n2) (c3:P.cellsOf f3.type=n3) (o4:f4.offset=n0+n1+n2+n3) (c4:P.cellsOf f4.type=n4) (o5:f5.offset=n0+n1+n2+n3+n4) (c5:P.cellsOf f5.type=n5) (o6:f6.offset=n0+n1+n2+n3+n4+n5) (c6:P.cellsOf f6.type=n6) (o7:f7.offset=n0+n1+n2+n3+n4+n5+n6) (c7:P.cellsOf f7.type=n7)
  (r0:∀n,n+1=fuel->mI n enc P w base sp held f0.type g0 k0) (r1:∀n,n+1=fuel->mI n enc P w base sp held f1.type g1 k1) (r2:∀n,n+1=fuel->mI n enc P w base sp held f2.type g2 k2) (r3:∀n,n+1=fuel->mI n enc P w base sp held f3.type g3 k3) (r4:∀n,n+1=fuel->mI n enc P w base sp held f4.type g4 k4) (r5:∀n,n+1=fuel->mI n enc P w base sp held f5.type g5 k5) (r6:∀n,n+1=fuel->mI n enc P w base sp held f6.type g6 k6) (r7:∀n,n+1=fuel->mI n enc P w base sp held f7.type g7 k7) :
  mI fuel enc P w base sp held t (fun a:E × I × O × U × Z × α5 × α6 × α7=>(g0 (a.1)++(g1 (a.2.1)++(g2 (a.2.2.1)++(g3 (a.2.2.2.1)++(g4 (a.2.2.2.2.1)++(g5 (a.2.2.2.2.2.1)++(g6 (a.2.2.2.2.2.2.1)++g7 (a.2.2.2.2.2.2.2))))))))) (fun a=>k0 (a.1)/\k1 (a.2.1)/\k2 (a.2.2.1)/\k3 (a.2.2.2.1)/\k4 (a.2.2.2.2.1)/\k5 (a.2.2.2.2.2.1)/\k6 (a.2.2.2.2.2.2.1)/\k7 (a.2.2.2.2.2.2.2)):=fun cs x h=>by
 obtain⟨xs,n,hn,_,hl,gi,hf⟩:=DataW.trod_struct ht h;have e0:=hf 0 f0 rfl;have e1:=hf 1 f1 rfl;have e2:=hf 2 f2 rfl;have e3:=hf 3 f3 rfl;have e4:=hf 4 f4 rfl;have e5:=hf 5 f5 rfl;have e6:=hf 6 f6 rfl;have e7:=hf 7 f7 rfl;rw[o0,c0,drop_zero] at e0;rw[o1,c1] at e1;rw[o2,c2] at e2;rw[o3,c3] at e3;rw[o4,c4] at e4;rw[o5,c5] at e5;rw[o6,c6] at e6;rw[o7,c7] at e7;have hx8:xs.length=8:=gi;rw[getElem?_eq_getElem w4] at e0 e1 e2 e3 e4 e5 e6 e7;obtain⟨a0,p0,q0⟩:=r0 n hn.symm _ _ e0;obtain⟨a1,p1,q1⟩:=r1 n hn.symm _ _ e1;obtain⟨a2,p2,q2⟩:=r2 n hn.symm _ _ e2;obtain⟨a3,p3,q3⟩:=r3 n hn.symm _ _ e3;obtain⟨a4,p4,q4⟩:=r4 n hn.symm _ _ e4;obtain⟨a5,p5,q5⟩:=r5 n hn.symm _ _ e5;obtain⟨a6,p6,q6⟩:=r6 n hn.symm _ _ e6;obtain⟨a7,p7,q7⟩:=r7 n hn.symm _ _ e7;refine⟨(a0,a1,a2,a3,a4,a5,a6,a7),?_,q0,q1,q2,q3,q4,q5,q6,q7⟩;have dy:cs=(cs.take n0++((cs.drop (n0)).take n1++((cs.drop (n0+n1)).take n2++((cs.drop (n0+n1+n2)).take n3++((cs.drop (n0+n1+n2+n3)).take n4++((cs.drop (n0+n1+n2+n3+n4)).take n5++((cs.drop (n0+n1+n2+n3+n4+n5)).take n6++((cs.drop (n0+n1+n2+n3+n4+n5+n6)).take n7)))))))):=by
  rw[take_of_length_le (l:=drop (n0+n1+n2+n3+n4+n5+n6) cs) (by rw[length_drop];omega)];have d2:cs.drop (n0+n1)=(cs.drop (n0)).drop n1:=(by rw[drop_drop])
  have d3:cs.drop (n0+n1+n2)=(cs.drop (n0+n1)).drop n2:=(by rw[drop_drop])
  have d4:cs.drop (n0+n1+n2+n3)=(cs.drop (n0+n1+n2)).drop n3:=(by rw[drop_drop])
  have d5:cs.drop (n0+n1+n2+n3+n4)=(cs.drop (n0+n1+n2+n3)).drop n4:=(by rw[drop_drop])
  have d6:cs.drop (n0+n1+n2+n3+n4+n5)=(cs.drop (n0+n1+n2+n3+n4)).drop n5:=(by rw[drop_drop])
  have d7:cs.drop (n0+n1+n2+n3+n4+n5+n6)=(cs.drop (n0+n1+n2+n3+n4+n5)).drop n6:=(by rw[drop_drop])
  rw[d7,take_append_drop,d6,take_append_drop,d5,take_append_drop,d4,take_append_drop,d3,take_append_drop,d2,take_append_drop,take_append_drop]
 rw[dy];exact(p0.append (p1.append (p2.append (p3.append (p4.append (p5.append (p6.append p7)))))))
end


structure Ph where
 k:Int
 t:Int
 a:Int
 b:Int
 row:List Vl
 bF:Tw
 wh:Tw
 bare:Bool
def Ph.cs(p:Ph):List D:=[ae p.k]++([ae p.t]++([ae p.a]++([ae p.b]++([ap 3 cV p.row]++(p.bF.cs++(p.wh.cs++[bP p.bare]))))))
structure Ph.Ok (p:Ph):Prop where
 k:-9223372036854775808<=p.k/\p.k<=9223372036854775807
 t:-9223372036854775808<=p.t/\p.t<=9223372036854775807
 a:-9223372036854775808<=p.a/\p.a<=9223372036854775807
 b:-9223372036854775808<=p.b/\p.b<=9223372036854775807
 row:∀v∈p.row,v.s.size<=maxLen
 bF:p.bF.Ok
 wh:p.wh.Ok
theorem agr{H:Type}{enc:TypeId×Value->H}{w:World}{base:Nat}{sp:Nat->Bool}{held:Bool}:pJ enc Tryz.prog w base sp held 109 cV (fun v:Vl=>v.s.size<=maxLen) :=
 (aaT (n0:=1) (n1:=1) (n2:=1) underlying109 aC rfl rfl rfl aC aC aC (vq underlying3) (vq underlying3) (QD underlying9)).map (fun a=>(⟨a.1,a.2.1,a.2.2⟩:Vl)) (fun _=>rfl) (fun _ h=>h.2.2)
theorem aby{H:Type}{enc:TypeId×Value->H}{w:World}{base:Nat}{sp:Nat->Bool}{held:Bool}(n:Nat):mI n enc Tryz.prog w base sp held 28 Ph.cs Ph.Ok:=fun cs x h=>by
 obtain⟨⟨a0,a1,a2,a3,a4,a5,a6,a7⟩,h1,q0,q1,q2,E,I,O,U,_⟩:=abx (fuel:=n) (n0:=1) (n1:=1) (n2:=1) (n3:=1) (n4:=1) (n5:=4) (n6:=4) (n7:=1) underlying28 aC rfl aC rfl aC rfl aC rfl aC rfl aC rfl aC rfl aC rfl aC
  (fun q _=>(vq underlying3).at q) (fun q _=>(vq underlying3).at q) (fun q _=>(vq underlying3).at q) (fun q _=>(vq underlying3).at q) (fun q _=>QH (sz:=3) underlying23 aC w8 (fun z _=>agr.at z) fG) (fun q _=>SB q) (fun q _=>SB q) (fun q _=>(ae2 underlying4).at q) cs x h
 exact⟨⟨a0,a1,a2,a3,a4,a5,a6,a7⟩,h1,⟨q0,q1,q2,E,I.1,O,U⟩⟩
end Go.Proofs.YtbplamgacibdaaaGreatDoor.Pa

namespace Go.Proofs.YtbplamgacibdaaaGreatDoor.Ba
open List
open Go.Proofs.Tryz
open Go.RowKit V Pk Tr Vl Go.Proofs.YtbplamgacibdaaaGreatDoor.Nm Pc Cd Ex Tw
open Pa (bp aY dZ dA dH di dO ei dD cX bK Ph)
variable {G:List (Nat×List Value)} {m:Int}
variable {l:List az}
theorem VC.Hu{P:Program}{f:FuncId}{args args':List D}{S:List ah}{post:D->List ah->Prop}(h:VC P G f args S post)(k:qu args' args):VC P G f args' S post:=by
 obtain⟨h1,h2⟩:=k.spec;exact h.args h1.symm fun w L i q1 q2 v hr=>h2 i q2 q1 _ _ _ hr
theorem ahN(hm:(3,marksC)∈G)(hw:(1,wordsC)∈G)(ht:(0,typesC)∈G)(hG:(2,[Value.int .i64 m])∈G)(p:Ph)(h:p.Ok):VC Tryz.prog G 9 [.agg p.cs] [] (fun r S'=>∃s,r = .agg (aY s)/\S'=[]/\dH s/\s.kind=1+cx p.k 6/\s.table=bK.getD (cx p.t 2).toNat ⟨#[]⟩):=by
 obtain⟨k,t,a,b,row,⟨x1,O,x3,E⟩,⟨y1,y2,y3,I⟩,bare⟩:=p;exact Pa.aao k t a b row x1 O x3 E y1 y2 y3 I bare h.k.1 h.k.2 h.t.1 h.t.2 h.a.1 h.a.2 h.b.1 h.b.2 h.row h.bF h.wh
theorem U8(hm:(3,marksC)∈G)(hw:(1,wordsC)∈G)(ht:(0,typesC)∈G)(hG:(2,[Value.int .i64 m])∈G)(p:Ph)(h:p.Ok):VC Tryz.prog G 9 [.agg p.cs] [] (fun r S'=>∃s,r = .agg (aY s)/\S'=[]/\dH s/\s.kind=1+cx p.k 6):=(ahN hm hw ht hG p h).mono fun r S' ⟨s,h1,h2,h3,h4,_⟩=>⟨s,h1,h2,h3,h4⟩
theorem Wp(hm:(3,marksC)∈G)(hw:(1,wordsC)∈G)(ht:(0,typesC)∈G)(hG:(2,[Value.int .i64 m])∈G){a c:Nat}(g:l7 l a c)(E:a+c<=30){s:bp}(hs:Dc s)(eD:¬s.kind=2)(gA:s.kind<=6->cW s.table=0)(wi:s.kind<=6)(I:s.kind=1->s.ay=dF):VP Tryz.prog G 8 [.agg [ap 5 cG (l)],.agg (aY s)] (tN (kI l s)):=by
 refine VF hm hw ht hG l (J0 E) g.g s hs.fin eD hs.row hs.ZT hs.ZU hs.Pv hs.Pw fun h0=>?_;obtain⟨a',c',_,g',_⟩:=wZ g E hs eD (gA wi) I h0;exact⟨Nat.le_trans g'.g.ec w8,fun t ht=>(g'.g.tb t ht).small⟩
theorem U3{s:bp}(h:(kI l s).2.2=0):(eK l s).2.2=0/\(kI l s).1=(eK l s).1:=by
 unfold kI at h |-;by_cases h1:dA s≠0
 ·exact CB
 rw[if_neg h1] at h |-;by_cases h2:7<=s.kind
 ·rw[if_pos h2] at h;cases h
 rw[if_neg h2] at h |-;by_cases h3:(eK l s).2.2≠0
 ·rw[if_pos h3] at h;exact absurd h h3
 rw[if_neg h3];exact⟨Classical.not_not.1 h3,rfl⟩
def kE(x:ByteArray):bp:={cX with kind:=1,table:=x,ay:=dF}
theorem aeS:∀x∈bK,dA (kE x)=0:=by decide +kernel
theorem U4{x:ByteArray}(hx:x∈bK):Dc (kE x):=dH.st (Pa.qN.vK (Pa.IS (Pa.Ct x hx)))
def XO:List az:=bK.map fun x=>gW (kE x)
theorem VO:∀i (h:i<bK.length),kI ((bK.take i).map fun x=>gW (kE x)) (kE bK[i])=((bK.take (i+1)).map (fun x=>gW (kE x)),(([],0),0)):=by
 intro i h;have hx:bK[i]∈bK:=getElem_mem h;unfold kI;rw[if_neg (by rw[aeS _ hx];decide),if_neg (by show ¬(7:Int)<=1;decide)];have h1:eK ((bK.take i).map fun x=>gW (kE x)) (kE bK[i])=((bK.take (i+1)).map (fun x=>gW (kE x)),(([],0),0)):=by
  have h2:i=0\/i=1:=(by have:bK.length=2:=rfl;omega)
  rcases h2 with rfl|rfl
  ·exact(show eK ((bK.take 0).map fun x=>gW (kE x)) (kE (bK[0]'w8))=((bK.take 1).map (fun x=>gW (kE x)),(([],0),0)) by kernel_rfl)
  exact(show eK ((bK.take 1).map fun x=>gW (kE x)) (kE (bK[1]'w8))=((bK.take 2).map (fun x=>gW (kE x)),(([],0),0)) by kernel_rfl)
 rw[h1];rfl
theorem zy(p:Ph):p.cs.length=14:=by
 obtain⟨k,t,a,b,row,⟨x1,O,x3,E⟩,⟨y1,y2,y3,I⟩,bare⟩:=p;rfl
theorem ac5:l7 [] 0 0:=⟨⟨by decide,(fun t h=>by cases h),(fun t h=>by cases h),Pairwise.nil⟩,(fun t h=>by cases h)⟩
theorem U9:(Nm.Tw.mk 0 0 ⟨#[]⟩ []).Ok:=by constructor<;>first|decide|(simp;done)|trivial
theorem BZ{s:bp}(h:dH s):cW s.table=0:=by
 have hc:=h.2.2.2.2;have h6:=h.2.2.1;unfold di at hc;split at hc
 ·rename_i h1;exact absurd hc h1.2
 rename_i h1;exact Classical.not_not.1 fun e=>h1 ⟨by omega,e⟩
theorem XP:∀i,i<=2->l7 ((bK.take i).map fun x=>gW (kE x)) 0 0:=by
 intro i;induction i with
 | zero=>intro _;exact ac5
 | succ i ih =>
  intro hi;have aa:i<bK.length:=(by have:bK.length=2:=rfl;omega)
  have hr:=VO i aa;have h0:(kI ((bK.take i).map fun x=>gW (kE x)) (kE bK[i])).2.2=0:=(by rw[hr])
  obtain⟨h1,h2⟩:=U3 h0;obtain⟨a',c',_,g',h4,_⟩:=wZ (ih w4) w8 (U4 (getElem_mem aa)) (show ¬(1:Int)=2 by decide) (Pa.Ct _ (getElem_mem aa)) (fun _=>rfl) h1;obtain⟨_,rfl,rfl⟩:=h4 rfl;rw[<-h2,hr] at g';exact g'
theorem KS(hm:(3,marksC)∈G)(hw:(1,wordsC)∈G)(ht:(0,typesC)∈G)(hG:(2,[Value.int .i64 m])∈G)(ps:List Ph)(gJ:∀p∈ps,p.Ok)(fx:ps.length<=maxLen):VC Tryz.prog G 7 [.list 14 (ps.flatMap Ph.cs) ps.length] [] (fun r S=>∃l a c,r = .agg [ap 5 cG (l)]/\S=[]/\l7 l a c/\a+c<=30/\l.map az.nm=bK):=by
 refine VC.body func7 rfl ntmps7 aU fun X0 w0 bj=>?_;have cR:=dI;have uM:bK.length=2:=rfl;skip;refine bS ?_;refine OD.alloc (ds:=[_]) aq rfl rfl zeroValue31 rfl (fun b2=>?_);refine an 88 [0,2] ?_;refine bS ?_;refine OD.alloc (ds:=[_]) aq rfl rfl zeroValue31 rfl (fun b3=>?_);refine OD.cells (k:=0) (cs':=[.list 5 [] 0]) rfl ⟨fP,trivial⟩ rfl ?_;refine an 88 [0,2,3] ?_;refine af [0,2,3,4] ?_;refine ew [0,2,3] (fun aS _ (i:Nat) aE=>(i<=2)/\aE=(⟨88,(4,ae (i:Nat))::aS,[⟨b3,31,1,[.list 5 ((((bK.take i).map fun x=>gW (kE x))).flatMap cG) (((bK.take i).map fun x=>gW (kE x))).length]⟩,⟨b2,31,1,[cc]⟩]⟩:St)) (fun (i:Nat)=>2-i) 0 ⟨(Nat.zero_le _),rfl⟩ ?_;rintro i _ ⟨hi,rfl⟩;refine af [0,2,3,4,14] ?_;refine au ?_ ?_<;>intro aJ bz
 ·have aa:i<bK.length:=(by omega)
  have O:=VC.Hu (Wp hm hw ht hG (l:=((bK.take i).map fun x=>gW (kE x))) (a:=0) (c:=0) (s:=kE (bK[i]'aa)) (XP i w4) w8 (U4 (getElem_mem aa)) (show ¬(1:Int)=2 by decide) (fun _=>Pa.Ct _ (getElem_mem aa)) (show(1:Int)<=6 by decide) (fun _=>rfl)) (args':=[.agg [.list 5 ((((bK.take i).map fun x=>gW (kE x))).flatMap cG) (((bK.take i).map fun x=>gW (kE x))).length],.agg [ae 1,bg (bK[i]'aa),ap 2 cC dF,cc,cc,bP false,cc,gh,bP false,ae (-1),gh,cc]]) ⟨eM,KZ ⟨eM,eM,eM,fP,fP,eM,fP,eM,eM,eM,eM,fP,trivial⟩,trivial⟩;rw[VO i aa] at O;unfold tN at O;refine CD.skip ?_;refine CD.seq ?_;refine CD.block ?_;refine CD.seq ?_;refine HV 14 13 12 [0,2,3,4,5,6,26,27,28] ?_;refine kK 1 ?_;refine Oo (g:=cS) (bK) ?_;refine cf (Q1) ?_;refine cf (O) ?_;refine kK 4 ?_;refine mo ?_;refine mo ?_;refine iz ?_;refine⟨rfl,rfl,fun b6 b5=>?_⟩;refine aP 1 [_] sizeOf31 ?_;refine aP 0 [_,_] sizeOf35 ?_;refine an 88 [0,2,3,4,5,7] ?_;refine af [0,2,3,4,5,30] ?_;refine au ?_ ?_<;>intro aX cr
  ·refine dw 1 ?_;refine aP 2 [_] sizeOf31 ?_;refine an 88 [0,2,3,4] ?_;refine bM [0,2,3,4] ?_;exact N2
  exact absurd aX (by simp at aX)
 have lP:i=2:=(by omega)
 subst lP;have yj:((bK.take 2).map fun x=>gW (kE x))=XO:=rfl;refine af [0,2,3,8] ?_;refine ew [0,2,3] (fun aS _ (aO:Nat×List az×Nat×Nat) aE=>match aO with|(k,l,a,c)=>(k<=30)/\(k<=ps.length)/\(a+c<=k)/\(l7 l a c)/\((l).map az.nm=bK)/\aE=(⟨88,(8,ae (k:Nat))::aS,[⟨b3,31,1,[ap 5 cG (l)]⟩,⟨b2,31,1,[cc]⟩]⟩:St)) (fun (aO:Nat×List az×Nat×Nat)=>match aO with|(k,l,a,c)=>30-k) (0,XO,0,0) ⟨(Nat.zero_le _),(Nat.zero_le _),(Nat.le_refl _),(XP 2 (Nat.le_refl _)),rfl,rfl⟩ ?_;rintro⟨k,l,a,c⟩ _ ⟨lA,hkp,uX,gn,I,rfl⟩;refine aB 5 ?_;refine bZ 36 (fun aml ajh=>?_) (fun aml ajh=>?_)
 ·refine bu [0,2,3,8,39] ?_;refine au ?_ ?_<;>intro bL cJ
  ·have aa:k<ps.length:=(by first|omega|(simp at *;omega))
   have ark:k<30:=(by first|omega|(simp at *;omega))
   have rS:=gJ (ps[k]'aa) (getElem_mem aa);refine aB 3 ?_;refine bN (dz (mk:=Op.load 28) rfl ot (kH (g:=Ph.cs) (ls:=ps) (i:=k) zy isAgg28 sizeOf28 aa)) ?_;refine OD.call aq rfl rfl rfl call9 (U8 hm hw ht hG (ps[k]'aa) rS) ⟨ot,trivial⟩ (eX _) ?_;rintro _ _ ⟨s,rfl,rfl,U,tL⟩;refine OD.alloc (ds:=[_,_,_,_,_,_,_,_,_,_,_,_]) aq rfl rfl zeroValue44 rfl (fun b9=>?_);refine aP 0 [_,_,_,_,_,_,_,_,_,_,_,_] sizeOf44 ?_;refine an 88 [0,2,3,8,9] ?_;refine iH [0,2,3,8,9] (fun aS _ aE=>∃(s:bp),(dH s)/\(¬s.kind=1/\¬s.kind=2)/\aE=(⟨88,aS,[⟨b9,44,12,aY s⟩,⟨b3,31,1,[ap 5 cG (l)]⟩,⟨b2,31,1,[cc]⟩]⟩:St)) ?_ ?_
   ·refine aB 4 ?_;refine bZ 50 (fun Z aji=>?_) (fun Z aji=>?_)
    ·refine bu [0,2,3,8,9,54] ?_;refine eO ?_;exact X3
    refine bu [0,2,3,8,9,54] ?_;refine au ?_ ?_<;>intro cN en
    ·exact X3
    have E:¬s.kind=1/\¬s.kind=2:=(by first|exact⟨by simpa using Z,by simpa using cN⟩|(simp at *;omega))
    refine CD.skip ?_;refine⟨_,aI,s,U,E,rfl⟩
   rintro _ ⟨s,U,E,rfl⟩;refine CD.seq ?_;have Bg:=dH.st U;have gA:=BZ U;have O:=Wp hm hw ht hG gn w4 Bg E.2 (fun _=>gA) U.2.2.1 (fun h=>absurd h E.1);unfold tN at O;refine dw 2 ?_;refine ez call8 (O) ?_;refine aH 4 ?_;refine OD.alloc (ds:=[_]) aq rfl rfl zeroValue31 rfl (fun jL=>?_);refine OD.alloc (ds:=[_,_]) aq rfl rfl zeroValue35 rfl (fun lS=>?_);refine aP 1 [_] sizeOf31 ?_;refine aP 0 [_,_] sizeOf35 ?_;refine an 88 [0,2,3,8,10,12] ?_;refine af [0,2,3,8,10,85] ?_;refine au ?_ ?_<;>intro dW fB
   ·have h0:(kI l s).2.2=0:=(by simpa using dW)
    obtain⟨h1,h2⟩:=U3 h0;obtain⟨a',c',arl,gn1,_,gI⟩:=wZ gn w4 Bg E.2 gA (fun h=>absurd h E.1) h1;have tP:l7 (kI l s).1 a' c':=(by rw[h2];exact gn1)
    have ajj:(kI l s).1.map az.nm=bK:=(by rw[h2,gI E.1];exact I)
    refine dw 1 ?_;refine aP 3 [_] sizeOf31 ?_;refine an 88 [0,2,3,8] ?_;refine bM [0,2,3,8] ?_;refine⟨((k+1),(kI l s).1,a',c'),_,cn,aI,w4,w4,w4,tP,ajj,rfl⟩
   refine bM [0,2,3,8] ?_;refine⟨((k+1),l,a,c),_,cn,aI,w4,w4,w4,gn,I,rfl⟩
  refine aB 1 ?_;refine aP 1 [_] sizeOf31 ?_;refine an 88 [2] ?_;refine aK [] ?_;exact⟨l,a,c,rfl,rfl,gn,by omega,I⟩
 refine bu [0,2,3,8,39] ?_;refine gm ?_;refine aB 1 ?_;refine aP 1 [_] sizeOf31 ?_;refine an 88 [2] ?_;refine aK [] ?_;exact⟨l,a,c,rfl,rfl,gn,by omega,I⟩

theorem x9(h:l.map az.nm=bK):aN l ⟨#[116]⟩=0:=by
 match l,h with
 | a::r,h =>
  rw[map_cons] at h;have ha:a.nm=⟨#[116]⟩:=(by injection h)
  unfold aN;rw[tU (ls:=a::r) (k:=0) bq (fun x hx=>by cases hx) (by show(a.nm.toList==_)=true;rw[ha];exact BEq.rfl)];rfl

end Go.Proofs.YtbplamgacibdaaaGreatDoor.Ba
namespace Go.Proofs.YtbplamgacibdaaaGreatDoor.Ba
open List
open Go.Proofs.Tryz
open Go.RowKit V Pk Tr Vl Go.Proofs.YtbplamgacibdaaaGreatDoor.Nm Pc Cd Ex Tw
open Pa (Ph)
variable {m:Int}
def wI(m:Int):List (Nat×List Value):=[(3,marksC),(1,wordsC),(0,typesC),(2,[Value.int .i64 m])]
theorem Px:(3,marksC)∈wI m:=mem_cons_self
theorem Py:(1,wordsC)∈wI m:=mem_cons_of_mem _ mem_cons_self
theorem Pz:(0,typesC)∈wI m:=mem_cons_of_mem _ (mem_cons_of_mem _ mem_cons_self)
theorem PA:(2,[Value.int .i64 m])∈wI m:=mem_cons_of_mem _ (mem_cons_of_mem _ (mem_cons_of_mem _ mem_cons_self))
theorem Nd{w:World}(h1:MarksTab w)(h2:WordsTab w)(h3:TypesTab w)(h4:Tab.l5 w 2 [Value.int .i64 m]):∀g∈wI m,g.2≠[]/\CH w g.1 g.2:=fun g hg=>by
 rcases mem_cons.1 hg with rfl|hg
 ·exact⟨by decide,.of h1 rfl⟩
 rcases mem_cons.1 hg with rfl|hg
 ·exact⟨by decide,.of h2 rfl⟩
 rcases mem_cons.1 hg with rfl|hg
 ·exact⟨by decide,.of h3 rfl⟩
 rw[mem_singleton] at hg;subst hg;exact⟨by simp,.of h4 rfl⟩
theorem rd_phrases{H:Type}{enc:TypeId×Value->H}{w:World}{base E:Nat}{sp:Nat->Bool}{held:Bool}{v:Value}{d:DataW H}{p:List MemPlace}(hval:Value.okWide Tryz.prog w .any E 22 v)(h:DataW.Trod enc Tryz.prog w base sp held 22 v d p) :
  ∃l:List Ph,cq w (fun _=>False) (.list 14 (l.flatMap Ph.cs) l.length) v/\((∀x∈l,x.Ok)/\l.length<=maxLen)/\True:=by
 obtain⟨l,h1,h2,h3⟩:=adr (g:=Ph.cs) (ok:=Ph.Ok) (sz:=14) underlying22 aC w8 (fun n cs x hn=>Pa.aby n cs x hn) zy hval h;exact⟨l,h1,⟨h2,h3⟩,trivial⟩

end Go.Proofs.YtbplamgacibdaaaGreatDoor.Ba
namespace Go.Proofs.YtbplamgacibdaaaGreatDoor.Ba
open List
open Go.Proofs.Tryz
open Go.RowKit V Pk Tr Vl Go.Proofs.YtbplamgacibdaaaGreatDoor.Nm Pc Cd Ex Tw
open Pa (bp aY dZ dA dH di dO ei dD cX bK Ph)
variable {G:List (Nat×List Value)} {m:Int}
theorem De{l:List az}(h:l.map az.nm=bK):l.length=2:=by have:=congrArg length h;(first|rw[length_map] at this|(unfold ap at this;rw[length_map] at this));rw[this];decide

end Go.Proofs.YtbplamgacibdaaaGreatDoor.Ba
namespace Go.Proofs.YtbplamgacibdaaaGreatDoor.Ba

open List
open Go.Proofs.Tryz
open Go.RowKit V Pk Tr Vl Go.Proofs.YtbplamgacibdaaaGreatDoor.Nm Pc Cd Ex Tw
open Pa (bp aY dZ dA dH di dO ei dD cX bK Ph)
variable {G:List (Nat×List Value)} {m:Int}
variable {α:Type}
open Classical in
noncomputable def gk(a b:α):Bool:=decide (a=b)
theorem nW{a b:α}(h:a=b):gk a b=true:=by unfold gk;simp[h]
theorem ug{a b:α}(h:¬a=b):gk a b=false:=by unfold gk;simp[h]

end Go.Proofs.YtbplamgacibdaaaGreatDoor.Ba
namespace Go.Proofs.YtbplamgacibdaaaGreatDoor.Ba

















open List
open Go.Proofs.Tryz
open Go.RowKit V Pk Tr Vl Go.Proofs.YtbplamgacibdaaaGreatDoor.Nm Pc Cd Ex Tw
open Pa (bp aY dZ dA dH di dO ei dD cX bK Ph)
variable {G:List (Nat×List Value)} {m:Int}
variable {row:List Vl}
noncomputable def vR(l:List az)(s:bp):List az×((List (List Vl)×Int)×Int):=if s.kind=2 then rO (pz l s) s else kI l s
theorem Wq{l:List az}(h:l.map az.nm=bK){s:bp}(hk:s.kind=1)(ht:s.table=⟨#[116]⟩):(eK l s).2.2=9:=by
 unfold eK;rw[if_pos hk];unfold pP;rw[if_pos (by rw[ht,x9 h];decide)]
theorem KT(hm:(3,marksC)∈G)(hw:(1,wordsC)∈G)(ht:(0,typesC)∈G)(hG:(2,[Value.int .i64 m])∈G){l:List az}{a c:Nat}(gn:l7 l a c)(E:a+c<=30)(h:l.map az.nm=bK){s:bp}(hg:dH s)(AY:s.table=⟨#[116]⟩):VP Tryz.prog G 8 [.agg [ap 5 cG (l)],.agg (aY s)] (tN (vR l s)):=by
 have hs:=dH.st hg;unfold vR;by_cases eD:s.kind=2
 ·rw[if_pos eD];exact agl hm hw ht hG l gn.g s hs.fin eD
 rw[if_neg eD];refine VF hm hw ht hG l (J0 E) gn.g s hs.fin eD hs.row hs.ZT hs.ZU hs.Pv hs.Pw fun h0=>?_;have cM:¬s.kind=1:=fun e=>by rw[Wq h e AY] at h0;cases h0
 obtain⟨a',c',_,g',_⟩:=wZ gn E hs eD (BZ hg) (fun e=>absurd e cM) h0;exact⟨Nat.le_trans g'.g.ec w8,fun t ht=>(g'.g.tb t ht).small⟩
theorem KU(l:List az)(s:bp):(∃e,kI l s=(([],(([],0),e)):List az×((List (List Vl)×Int)×Int))/\e≠0)\/(kI l s=((eK l s).1,((eK l s).2.1,0))/\(eK l s).2.2=0):=by
 unfold kI;by_cases h1:dA s≠0
 ·rw[if_pos h1];exact .inl ⟨_,rfl,h1⟩
 rw[if_neg h1];by_cases h2:7<=s.kind
 ·rw[if_pos h2];exact .inl ⟨_,rfl,by decide⟩
 rw[if_neg h2];by_cases h3:(eK l s).2.2≠0
 ·rw[if_pos h3];exact .inl ⟨_,rfl,h3⟩
 rw[if_neg h3];exact .inr ⟨rfl,Classical.not_not.1 h3⟩

open Pa (pQ ou qd zY xo tO ic qN) in
theorem ahO(k t a b:Int)(row:List Vl)(E:Tw):qN (ou k t a b row E):=by
 have at_:∀(l:List ByteArray) (x:Int) (n:Int),1<=n->n<=l.length->l.getD (cx x n).toNat ⟨#[]⟩∈l:=fun l x n h1 h2=>by
  have hb:=jd x h1;have hl:(cx x n).toNat<l.length:=(by omega)
  rw[getD_eq_getElem?_getD,getElem?_eq_getElem hl];exact getElem_mem hl
 have jK:cW (qd t)=0:=Pa.Ct _ (at_ bK t 2 w8 w8);have I:=jd k (show(1:Int)<=6 by decide);unfold ou;split
 ·exact Pa.IS jK
 split
 ·exact Pa.Qs jK (by have:=jd a (show(1:Int)<=12 by decide);omega) (by have:=jd b (show(1:Int)<=9 by decide);omega) (Qc _).2
 split
 ·have O:=jd a (show(1:Int)<=9 by decide);have h3:=jd b (show(1:Int)<=3 by decide);refine Pa.Qt jK ?_ (fun h=>?_) ((Pa.Wm _ (at_ ic b 4 w8 w8)).imp (fun h=>Pa.VK h) id) (fun h=>by unfold zY;rw[if_pos h]) w4
  ·split
   ·exact⟨Nat.zero_le _,fun _ h=>by cases h⟩
   unfold xo;split
   ·refine⟨Nat.le_trans (length_take_le _ _) w4,fun x hx=>Pa.ajf x (mem_of_mem_take hx)⟩
   exact⟨Nat.zero_le _,fun _ h=>by cases h⟩
  rw[if_pos oV]
 split
 ·exact Pa.Qu jK (Pa.Gy _ (at_ tO a 5 w8 w8)) E
 have:cx k 6=1\/cx k 6=5:=(by omega)
 rcases this with h|h<;>rw[h]
 ·exact Pa.Tt jK
 exact Pa.Qv jK
open Pa (pQ ou qd) in
theorem Lp(k t a b:Int)(row:List Vl)(E wh:Tw)(bare:Bool):dH (pQ k t a b row E wh bare)/\(pQ k t a b row E wh bare).kind=1+cx k 6/\(pQ k t a b row E wh bare).table=qd t:=by
 have h:=ahO k t a b row E;have hk:(ou k t a b row E).kind=1+cx k 6/\(ou k t a b row E).table=qd t:=by
  unfold ou;split
  ·rename_i h;exact⟨by rw[h],rfl⟩
  split
  ·rename_i h;exact⟨by rw[h],rfl⟩
  split
  ·rename_i h;exact⟨by rw[h],rfl⟩
  split
  ·rename_i h;exact⟨by rw[h],rfl⟩
  exact⟨rfl,rfl⟩
 unfold pQ;split
 ·rename_i hq;exact⟨h.2 (iq 3 wh) (Pa.KR _) (.inl hq.1),hk⟩
 exact⟨h.vK,hk⟩
theorem Lq{k t a b:Int}{x1 O:Int}{x3:ByteArray}{E:List Tw}{y1 y2:Int}{U:ByteArray}{I:List Tw}{bare:Bool}(h:Ph.Ok ⟨k,t,a,b,row,⟨x1,O,x3,E⟩,⟨y1,y2,U,I⟩,bare⟩) :
  VP Tryz.prog G 9 [.agg [ae k,ae t,ae a,ae b,ap 3 cV row,ae x1,ae O,bg x3,.list 4 (Tw.lR E) E.length,ae y1,ae y2,bg U,.list 4 (Tw.lR I) I.length,bP bare]] (.agg (aY (Pa.pQ k t a b row ⟨x1,O,x3,E⟩ ⟨y1,y2,U,I⟩ bare))) :=
 (Pa.PU k t a b row x1 O x3 E y1 y2 U I bare h.k.1 h.k.2 h.t.1 h.t.2 h.a.1 h.a.2 h.b.1 h.b.2 h.row h.bF h.wh).mono fun r S' ⟨s,h1,h2,_,_,_,h6⟩=>⟨by rw[h1,h6],h2⟩
theorem Lr{k t a b:Int}{p q:Tw}{bare:Bool}(h:Ph.Ok ⟨k,t,a,b,row,p,q,bare⟩){k':Int}(h1:-9223372036854775808<=k')(h2:k'<=9223372036854775807):Ph.Ok ⟨k',0,a,b,row,p,q,bare⟩:=⟨⟨h1,h2⟩,⟨by show(-9223372036854775808:Int)<=0;decide,by show(0:Int)<=9223372036854775807;decide⟩,h.a,h.b,h.row,h.bF,h.wh⟩
theorem Nf:Pa.qd 0=⟨#[116]⟩:=by decide +kernel

end Go.Proofs.YtbplamgacibdaaaGreatDoor.Ba
namespace Go.Proofs.YtbplamgacibdaaaGreatDoor.Ba

















end Go.Proofs.YtbplamgacibdaaaGreatDoor.Ba
