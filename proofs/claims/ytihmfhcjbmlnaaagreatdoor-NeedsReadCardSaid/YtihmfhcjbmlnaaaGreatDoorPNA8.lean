/-
  NA: walks and plain facts, part 8.
-/
import Derived.Test.YtihmfhcjbmlnaaaGreatDoorPNA7
set_option linter.unusedVariables false
set_option linter.unusedSimpArgs false
set_option maxRecDepth 100000
set_option maxHeartbeats 4000000
namespace Go.Proofs.YtihmfhcjbmlnaaaGreatDoor
namespace Ba
open List
open Go.Proofs.Tryz
open Go.RowKit V Pk Tr Vl Go.Proofs.YtihmfhcjbmlnaaaGreatDoor.Nm Pc Cd Ex Tw
open Pa (aT aY)
section
variable {G:List (Nat×List Value)} {m:Int}
variable {t:aA} {L:List cQ} {ad:Option Addr} {cap i n:Nat} {E S:List ag} {o:cQ} {p:(List (List Vl)×Int)×Int}
def Ki(t:aA)(L:List cQ)(ad:Option Addr)(cap:Nat)(Sr:List ag):Prop:=L.map cQ.r=t.rows/\(∀o∈L,qh o)/\vu L ad cap Sr
theorem ahQ(h:Ki t L ad cap E)(hs:∀B∈E++L.flatMap bR,B∈S):View S (.agg (tC t ad cap)) (.agg (cr t)) :=
 Yb (o:=⟨t,L.flatMap gR,ad,cap,E,L.flatMap bR⟩) (sE.w ⟨L,rfl,rfl,h.2.1,h.1,h.2.2⟩) hs
theorem WT(bf:∀o∈L,qh o)(hi:i<L.length)(hs:∀B∈L.flatMap bR,B∈S):View S (aS L[i].ad L[i].r.length L[i].cap) (.list 3 (L[i].r.flatMap cV) L[i].r.length) :=
 n8 (bf _ (getElem_mem hi)) (dg fX _) (fun B hB=>hs B (mem_flatMap.2 ⟨_,getElem_mem hi,hB⟩))
theorem Ob(f:ag->Nat):∀(L:List cQ) (i:Nat) (o:cQ) (h:i<L.length),(((L.set i o).flatMap bR).map f).sum=(o.S.map f).sum+(((L.eraseIdx i).flatMap bR).map f).sum
 | [],_,_,h=>absurd h (Nat.not_lt_zero _)
 | x::L,0,o,_=>by simp[bR]
 | x::L,i+1,o,h=>by
  have:=Ob f L i o (Nat.lt_of_succ_lt_succ h);simp only[set_cons_succ,flatMap_cons,map_append,sum_append,eraseIdx_cons_succ,this];omega
theorem WU{A B C X:ag}(h:i<L.length)(hS:L[i].S=[X]):(A::B::([C]++L.flatMap bR)).Perm (X::A::B::C::(L.eraseIdx i).flatMap bR):=kS fun f=>by
 have:=Ob f L i L[i] h;rw[set_getElem_self,hS] at this;simp only[map_cons,sum_cons,map_append,sum_append,map_nil,sum_nil,this];omega
theorem Yo{A B C X:ag}(h:i<L.length)(hS:o.S=[X]):(X::A::B::C::(L.eraseIdx i).flatMap bR).Perm (A::B::([C]++(L.set i o).flatMap bR)):=kS fun f=>by
 have:=Ob f L i o h;rw[hS] at this;simp only[map_cons,sum_cons,map_append,sum_append,map_nil,sum_nil,this];omega
theorem WV{t:aA}{c:Int}{e:List aQ}:∀(l:List Int) (acc:List Vl),(jN t c e acc l).2=0->(jN t c e acc l).1.length=acc.length+l.length
 | [],acc,_=>rfl
 | i::r,acc,h=>by
  rw[jN] at h |-;split
  ·rename_i h1;rw[if_pos h1] at h;exact absurd h h1
  rename_i h1;rw[if_neg h1] at h;split
  ·rename_i h2;rw[if_pos h2] at h;cases h
  rename_i h2;rw[if_neg h2] at h;rw[WV r _ h,length_append,length_cons,length_cons,length_nil];omega
theorem Nd{t:aA}{n:Nat}(g:dN t n){c:Int}{e:List aQ}(lV:∀o∈e,o.nm.size<=maxLen)(gM:∀o∈e,o.v.Ok)(hk:(dZ cx e).2=0):∀(l:List Int) (acc:List Vl),(∀i∈l,gw t i)->(jN t c e acc l).2=0 ->
  (∀v∈acc,v.Ok/\lE (dZ cx e).1 v/\(c=0->v.k≠0))->∀v∈(jN t c e acc l).1,v.Ok/\lE (dZ cx e).1 v/\(c=0->v.k≠0)
 | [],acc,_,_,ha=>ha
 | i::r,acc,hl,h,ha=>by
  rw[jN] at h |-;have hi:=hl i mem_cons_self;obtain⟨h0,h1,h2⟩:=id hi;obtain⟨p1,p2,_⟩:=g.row _ h1 h2;rw[<-ju h1] at p1 p2;split
  ·rename_i h1;rw[if_pos h1] at h;exact absurd h h1
  rename_i hne;rw[if_neg hne] at h;split
  ·rename_i h2;rw[if_pos h2] at h;cases h
  rename_i h3;rw[if_neg h3] at h;refine Nd g lV gM hk r _ (fun j hj=>hl j (mem_cons_of_mem _ hj)) h fun v hv=>?_;rcases mem_append.1 hv with hv|hv
  ·exact ha v hv
  rw[mem_singleton] at hv;subst hv;rw[g.an] at hne h3 |-;exact⟨akT p2 gM,ajm lV gM p1 hk (Classical.not_not.1 hne),fun hc hz=>h3 ⟨hc,hz⟩⟩
theorem Oc{g:cQ->List D}:∀(M:List cQ) (i:Nat) (h:i<M.length) (o:cQ),g o=g M[i]->(M.set i o).flatMap g=M.flatMap g
 | [],_,h,_,_=>absurd h (Nat.not_lt_zero _)
 | x::M,0,_,o,e=>by
  rw[set_cons_zero,flatMap_cons,flatMap_cons,e];rfl
 | x::M,i+1,h,o,e=>by
  rw[set_cons_succ,flatMap_cons,flatMap_cons,Oc M i (Nat.lt_of_succ_lt_succ h) o e]
theorem Vk{x:aI}{M:List cQ}{i:Int}(h:i.toNat<M.length):rowAt {t with rows:=M.map cQ.r,ix:=x} i=M[i.toNat].r:=by
 rw[ju (by show _<(M.map cQ.r).length;rw[length_map];exact h)];exact getElem_map ..
theorem Yp{x:aI}{M:List cQ}{i:Int}(h:i.toNat<M.length){c:Nat}{v:Vl}(ho:o.r=M[i.toNat].r.set c v):uF {t with rows:=M.map cQ.r,ix:=x} i c v={t with rows:=(M.set i.toNat o).map cQ.r,ix:=x}:=by
 unfold uF;rw[Vk h,map_set,ho]
theorem ajn{c:Nat}{l:List Vl}:oV c t [] l=t:=by unfold oV;rfl
theorem ahu{l:List Vl}:mg t [] l=(t,0):=by unfold mg;rfl
theorem Kj{l:List (List Vl)}(h:L.map cQ.r=l)(h1:i<L.length)(h2:i<l.length):L[i].r=l[i]:=by subst h;rw[getElem_map]
theorem af8:(Tryz.prog.info? 36).map (fun i=>(i.zero,i.size,i.bytes))=some (some (.agg #[.int .i64 0,.int .i64 0,.string ⟨#[]⟩]),3,32):=by kernel_rfl
theorem ahv(hm:(3,marksC)∈G)(hw:(1,wordsC)∈G)(ht:(0,typesC)∈G)(hG:(2,[Value.int .i64 m])∈G)(t:aA)(g:dN t n)(s:aT)(ho:∀o∈s.ah,o.nm.size<=maxLen)(gM:∀o∈s.ah,o.v.Ok)(tJ:∀o∈s.bG,o.nm.size<=maxLen)(Kk:∀o∈s.bG,o.v.Ok)(hn:n<=260)(bt off U:Nat)(pre post:List D)(hp:pre.length=off)(L:List cQ)(ad:Option Addr)(cap:Nat)(Sr:List ag)(hL:L.map cQ.r=t.rows)(bf:∀o∈L,qh o)(fQ:vu L ad cap Sr):VC Tryz.prog G 67 [.v (.pointer (some ⟨bt,off,none⟩)),.agg (aY s)] (⟨bt,76,U,pre++(tC t ad cap++post)⟩::(Sr++L.flatMap bR)) (fun r S=>r = .dF [ae (jb t s).2.1,ae (jb t s).2.2]/\((jb t s).2.2=0->∃L' iF bj rY,Ki (jb t s).1 L' iF bj rY/\S=⟨bt,76,U,pre++(tC (jb t s).1 iF bj++post)⟩::(rY++L'.flatMap bR))):=by
 refine bA func67 rfl ntmps67 aO fun X0 w0 bz=>?_;have dy:=ee;have Ro:Ki t L ad cap Sr:=⟨hL,bf,fQ⟩
 have sD:L.length=t.rows.length:=(by rw[<-hL];(first|rw[length_map]|(unfold aj;rw[length_map])))
 have kZ:=g.fm;have yR:=Ej g s.ah;have I:=ug g s.ah;have hnd:=HK g s.ah;have aqy:t.an.length=4:=(by rw[g.an];rfl)
 have anF:=MD (G:=G) t w4 s.set;have yT:=Iz (G:=G) hm hw ht t.an uu vB s.bG tJ;unfold qY at yT;have Lq:=vX (fun c:dc=>c.n.toList==s.set.toList) t.an;rw[show dD (fun c:dc=>c.n.toList==s.set.toList) t.an=(bE t.an s.set) from rfl] at Lq;unfold tC;unfold aY;refine cq ?_;refine dm [_,_,_,_,_,_,_,_,_,_,_,_] (fun b3=>?_);refine ap 205 [0,3] ?_;refine cJ [0,3,6] ?_;refine aM 2 ?_ (h:=by exact(QN 1));refine oD 2 ?_;refine CB (anF) (ha:=w93) (K:=?_);refine bB ?_;refine ax [0,3,6,30] ?_ ?_<;>intro aP bH
 ·have hA:(bE t.an s.set)<0:=(by simpa using aP)
  have aZ:jb t s=(t,0,8):=(by unfold jb;rw[if_pos hA])
  exact Ac
 have hA:¬(bE t.an s.set)<0:=(by simpa using aP)
 have fP:(bE t.an s.set).toNat<t.an.length:=(by omega)
 refine cJ [0,3,6,7,8] ?_;refine aM 3 ?_ (h:=by exact(qK 1));refine cA (yT) ?_;refine bB ?_;refine ax [0,3,6,7,8,42] ?_ ?_<;>intro bg cM
 ·have hB:(dZ t.an s.bG).2≠0:=(by simpa using bg)
  have aZ:jb t s=(t,0,(dZ t.an s.bG).2):=(by unfold jb;rw[if_neg hA,if_pos hB])
  exact Ac
 have hB:¬(dZ t.an s.bG).2≠0:=(by simpa using bg)
 have jm:t.an.getD (bE t.an s.set).toNat ⟨⟨#[]⟩,0⟩=t.an[(bE t.an s.set).toNat]:=(by rw[getD_eq_getElem?_getD,getElem?_eq_getElem fP];rfl)
 refine eI ?_;refine iM [0,3,6] (fun aU j4 aE=>(¬((dZ t.an s.bG).1≠(t.an.getD (bE t.an s.set).toNat ⟨⟨#[]⟩,0⟩).k/\(dZ t.an s.bG).1≠0))/\aE=(⟨205,aU,j4⟩:St)) ?_ ?_
 ·refine az 4 ?_;refine bS (qK 1) ?_;refine aF 1 ?_;refine bS (ei 2 (h:=ZY)) ?_;refine aF 4 ?_;refine cz 54 (fun CK Cc=>?_) (fun CK Cc=>?_)
  ·refine ap 205 [0,3,6,57] ?_;refine bX ?_ ?_<;>intro cl di
   ·have hC:(dZ t.an s.bG).1≠(t.an.getD (bE t.an s.set).toNat ⟨⟨#[]⟩,0⟩).k/\(dZ t.an s.bG).1≠0:=(by rw[jm];exact⟨by simpa using CK,by simpa using cl⟩)
    have aZ:jb t s=(t,0,4):=(by unfold jb;rw[if_neg hA,if_neg hB,if_pos hC])
    exact Ac
   exact aay
  refine ap 205 [0,3,6,57] ?_;refine gK ?_;exact aay
 rintro _ ⟨hC,rfl⟩;refine cJ [0,3,6,8,9] ?_;refine aM 2 ?_ (h:=by exact(QN 1));refine oD 2 ?_;refine CA (OO hm hw ht hG t g s.ah ho gM) (fun r S h=>h.flat) (fun r S h=>h.view) (ha:=w93) (K:=?_);refine bB ?_;refine ax [0,3,6,8,9,68] ?_ ?_<;>intro da eP
 ·have hD:(av t s.ah).2≠0:=(by simpa using da)
  have aZ:jb t s=(t,0,(av t s.ah).2):=(by unfold jb;rw[if_neg hA,if_neg hB,if_neg hC,if_pos hD])
  exact Ac
 have hD:¬(av t s.ah).2≠0:=(by simpa using da)
 refine cq ?_;refine bL [0,3,6,9,10] ?_;refine ay [0,3,6,9,10,70,71,72] ?_;refine eZ [0,3,6,9,70,71] (fun aU _ (aR:Nat×List Vl×Option Addr×Nat×List ag) aE=>match aR with|(k,acc,eJ,dW,Sx)=>(k<=(av t s.ah).1.length)/\((acc).length=k)/\((jN t (bE t.an s.set) s.bG [] (av t s.ah).1)=jN t (bE t.an s.set) s.bG acc ((av t s.ah).1.drop k))/\(bF 36 3 ((acc).flatMap cV) (acc).length eJ dW Sx)/\aE=(⟨205,(10,aS eJ (acc).length dW)::(72,ae (k:Nat))::aU,(⟨b3,34,12,aY s⟩::⟨bt,76,U,pre++([aG t.nm,aj 2 cC t.an,aS ad t.rows.length cap,aj 5 cP t.ix.af,ae t.ix.root]++post)⟩::(Sr++(Sx++L.flatMap bR)))⟩:St)) (fun (aR:Nat×List Vl×Option Addr×Nat×List ag)=>match aR with|(k,acc,eJ,dW,Sx)=>(av t s.ah).1.length-k) (0,([]:List Vl),none,0,[]) ⟨(Nat.zero_le _),rfl,rfl,jt,rfl⟩ ?_;rintro⟨k,acc,eJ,dW,Sx⟩ _ ⟨hk,qW,C6,eW,rfl⟩;refine ax [0,3,6,9,10,70,71,72,73] ?_ ?_<;>intro eo fR
 ·have aa:k<(av t s.ah).1.length:=(by omega)
  have iG:(av t s.ah).1.drop k=((av t s.ah).1[k]'aa)::(av t s.ah).1.drop (k+1):=drop_eq_getElem_cons aa;have Dq:gw t ((av t s.ah).1[k]'aa):=I _ (getElem_mem aa);obtain⟨iU,eY,mq⟩:=id Dq;have gp:((av t s.ah).1[k]'aa).toNat<L.length:=(by rw[sD];exact eY)
  obtain⟨br,rfl,Bc,wT,rfl⟩:=fQ.pos w4;have Z:L[((av t s.ah).1[k]'aa).toNat].r=rowAt t ((av t s.ah).1[k]'aa):=(by rw[ju eY];exact(Kj hL gp eY))
  obtain⟨go1,G1⟩:=gw.ok g Dq;have QO:=XS (G:=G) hm hw ht t.an uu vB L[((av t s.ah).1[k]'aa).toNat].r (by rw[Z];omega) (by rw[Z];exact fun v hv=>(G1 v hv).1) s.bG tJ Kk;rw[show gl t.an L[((av t s.ah).1[k]'aa).toNat].r s.bG=(gl t.an (rowAt t ((av t s.ah).1[k]'aa)) s.bG) from by rw[Z]] at QO;unfold ph at QO;refine ay [0,3,6,9,10,12,70,71,72] ?_;refine cL ?_;refine vH 18 17 [0,3,6,9,10,13,70,71,72,91,92] ?_;refine aM 3 ?_ (h:=by exact(qK 1));refine aM 3 ?_ (h:=by exact(qK 1));refine aM 1 ?_ (h:=Q6);refine aM 0 ?_ (h:=Z2);refine oD 2 ?_;refine CB (QO) (ha:=by exact⟨⟨_,ot,fN⟩,⟨_,ot,(WT bf gp (fun B hB=>by repeat (first|exact hB|apply mem_append_right|apply mem_cons_of_mem)))⟩,⟨_,ot,fN⟩,trivial⟩) (K:=?_);refine oD 3 ?_;refine rj ?_;refine kN ?_;refine⟨rfl,fun nQ=>?_⟩;refine aN 0 [_,_,_] sizeOf36 ?_;refine ap 205 [0,3,6,9,10,13,14,70,71,72] ?_;refine ax [0,3,6,9,10,13,14,70,71,72,94] ?_ ?_<;>intro fH ik
  ·have hE:(gl t.an (rowAt t ((av t s.ah).1[k]'aa)) s.bG).2≠0:=(by simpa using fH)
   have gZ:(jN t (bE t.an s.set) s.bG [] (av t s.ah).1)=([],(gl t.an (rowAt t ((av t s.ah).1[k]'aa)) s.bG).2):=(by rw[C6,iG,jN,if_pos hE])
   have aZ:jb t s=(t,0,(gl t.an (rowAt t ((av t s.ah).1[k]'aa)) s.bG).2):=(by unfold jb;rw[if_neg hA,if_neg hB,if_neg hC,if_neg hD,gZ,if_pos hE])
   exact Ac
  have hE:¬(gl t.an (rowAt t ((av t s.ah).1[k]'aa)) s.bG).2≠0:=(by simpa using fH)
  refine eI ?_;refine iM [0,3,6,9,10,13,70,71,72] (fun aU j4 aE=>((jN t (bE t.an s.set) s.bG [] (av t s.ah).1)=jN t (bE t.an s.set) s.bG (acc++[(gl t.an (rowAt t ((av t s.ah).1[k]'aa)) s.bG).1]) ((av t s.ah).1.drop (k+1)))/\aE=(⟨205,aU,j4⟩:St)) ?_ ?_
  ·refine az 3 ?_;refine cz 98 (fun Ct Ju=>?_) (fun Ct Ju=>?_)
   ·refine bL [0,3,6,9,10,13,70,71,72,102] ?_;refine bX ?_ ?_<;>intro iu qa
    ·have hF:(bE t.an s.set)=0/\(gl t.an (rowAt t ((av t s.ah).1[k]'aa)) s.bG).1.k=0:=⟨Ju,by simpa using iu⟩
     have gZ:(jN t (bE t.an s.set) s.bG [] (av t s.ah).1)=([],4):=(by rw[C6,iG,jN,if_neg hE,if_pos hF])
     have aZ:jb t s=(t,0,4):=(by unfold jb;rw[if_neg hA,if_neg hB,if_neg hC,if_neg hD,gZ,if_pos w7])
     exact Ac
    exact z66
   refine bL [0,3,6,9,10,13,70,71,72,102] ?_;refine gK ?_;exact z66
  rintro _ ⟨kM,rfl⟩;refine dB 2 ?_;refine eR (cU 0 [_]) [.int .i64 0,.int .i64 0,.string ⟨#[]⟩] [_,_,_] zeroValue36 runUnderlying30 sizeOf36 (fun awl=>?_);refine gb 0 105 3 1 ?_;refine gi (ls:=acc) (new:=[(gl t.an (rowAt t ((av t s.ah).1[k]'aa)) s.bG).1]) (Sq:=Sx) fX I1 au rfl rfl underlying30 af8 rfl w7 ot eW (vT (A:=[_,_,_]) (S1:=[⟨br,30,cap*1,L.flatMap gR⟩]) (S2:=Sx) (S3:=L.flatMap bR)) ot bC pI pJ (fun QR Pv anG anH=>?_);refine cg (ze (S2:=[⟨QR,36,Pv*3,flatMap cV (acc++[(gl t.an (rowAt t ((av t s.ah).1[k]'aa)) s.bG).1])⟩]) (A:=[_,_,_])) ?_;refine ap 205 [0,3,6,9,10,70,71,72] ?_;refine bM [0,3,6,9,10,70,71,72] ?_;refine⟨((k+1),(acc++[(gl t.an (rowAt t ((av t s.ah).1[k]'aa)) s.bG).1]),(some ⟨QR,0,none⟩),Pv,[⟨QR,36,Pv*3,flatMap cV (acc++[(gl t.an (rowAt t ((av t s.ah).1[k]'aa)) s.bG).1])⟩]),_,cR,aL,w4,CW,kM,(cj anG anH),rfl⟩
 have uQ:(jN t (bE t.an s.set) s.bG [] (av t s.ah).1)=(acc,0):=(by rw[C6,drop_of_length_le w4];rfl)
 have hN:¬(jN t (bE t.an s.set) s.bG [] (av t s.ah).1).2≠0:=(by rw[uQ];exact fun h=>h rfl)
 have pK:acc.length=(av t s.ah).1.length:=(by omega)
 have abB:=Nd g tJ Kk (c:=(bE t.an s.set)) (by rw[<-g.an];exact Classical.not_not.1 hB) (av t s.ah).1 [] I (Classical.not_not.1 hN) (fun v hv=>by cases hv);rw[uQ] at abB;have hl4:∀i∈(av t s.ah).1,∃h:i.toNat<L.length,L[i.toNat].r.length=4:=fun i hi=>by obtain⟨h0,h1,h2⟩:=I i hi;have:=(gw.ok g (I i hi)).1;rw[ju h1] at this;exact⟨by omega,by rw[Kj hL w4 h1];exact this⟩
 have hl5:∀i∈(av t s.ah).1,∃h:i.toNat<L.length,Pc.dV cx L[i.toNat].r=0/\∀v∈L[i.toNat].r,v.Ok:=fun i hi=>by obtain⟨h0,h1,h2⟩:=I i hi;obtain⟨p1,p2,_⟩:=g.row _ h1 h2;exact⟨by omega,by rw[Kj hL w4 h1];exact⟨p1,p2⟩⟩
 refine qm ?_;refine cL ?_;refine cL ?_;refine mS (t:=10) (Sq:=Sx) lk eW (dg fX _) (vT (A:=[_,_])) ?_;refine uK ?_;refine bL [0,6,9,10,109] ?_;refine bX ?_ ?_<;>intro iE nJ
 ·have hP:0<(bE t.an s.set):=(by simpa using iE)
  refine ay [0,6,9,10,110,111,112] ?_;refine eZ [0,6,9,10,110,111] (fun aU _ (aR:Nat×List cQ) aE=>match aR with|(k,M)=>(k<=(av t s.ah).1.length)/\(oV (bE t.an s.set).toNat {t with rows:=M.map cQ.r} ((av t s.ah).1.drop k) (acc.drop k)=oV (bE t.an s.set).toNat t (av t s.ah).1 acc)/\(∀o∈M,qh o)/\(vu M ad cap Sr)/\(M.length=t.rows.length)/\(∀i∈(av t s.ah).1,∃h:i.toNat<M.length,M[i.toNat].r.length=4)/\aE=(⟨205,(112,ae (k:Nat))::aU,(⟨b3,34,12,aY s⟩::⟨bt,76,U,pre++([aG t.nm,aj 2 cC t.an,aS ad t.rows.length cap,aj 5 cP t.ix.af,ae t.ix.root]++post)⟩::(Sr++M.flatMap bR))⟩:St)) (fun (aR:Nat×List cQ)=>match aR with|(k,M)=>(av t s.ah).1.length-k) (0,L) ⟨(Nat.zero_le _),(by rw[hL];rfl),bf,fQ,sD,hl4,rfl⟩ ?_;rintro⟨k,M⟩ _ ⟨eK,abC,E,yS,yq,hM4,rfl⟩;refine ax [0,6,9,10,110,111,112,113] ?_ ?_<;>intro sb CE
  ·have aa:k<(av t s.ah).1.length:=(by omega)
   have en:k<acc.length:=(by omega)
   have iG:(av t s.ah).1.drop k=((av t s.ah).1[k]'aa)::(av t s.ah).1.drop (k+1):=drop_eq_getElem_cons aa;have nv:acc.drop k=(acc[k]'en)::acc.drop (k+1):=drop_eq_getElem_cons en;obtain⟨iU,eY,mq⟩:=I _ (getElem_mem aa);obtain⟨gp,O⟩:=hM4 _ (getElem_mem aa);obtain⟨br,rfl,Bc,wT,rfl⟩:=yS.pos w4;obtain⟨bw,FK,Av,Ku,Tc⟩:=(E _ (getElem_mem gp)).pos w4;have lH:∀o∈(M.set ((av t s.ah).1[k]'aa).toNat (⟨M[((av t s.ah).1[k]'aa).toNat].r.set (bE t.an s.set).toNat (acc[k]'en),some ⟨bw,0,none⟩,M[((av t s.ah).1[k]'aa).toNat].cap,[⟨bw,36,M[((av t s.ah).1[k]'aa).toNat].cap*3,(M[((av t s.ah).1[k]'aa).toNat].r.set (bE t.an s.set).toNat (acc[k]'en)).flatMap cV⟩]⟩:cQ)),qh o:=fun o ho=>by rcases mem_or_eq_of_mem_set ho with h|h;exact E o h;rw[h];exact cj (g:=cV) (by rw[length_set];exact Av) Ku
   have Td:(M.set ((av t s.ah).1[k]'aa).toNat (⟨M[((av t s.ah).1[k]'aa).toNat].r.set (bE t.an s.set).toNat (acc[k]'en),some ⟨bw,0,none⟩,M[((av t s.ah).1[k]'aa).toNat].cap,[⟨bw,36,M[((av t s.ah).1[k]'aa).toNat].cap*3,(M[((av t s.ah).1[k]'aa).toNat].r.set (bE t.an s.set).toNat (acc[k]'en)).flatMap cV⟩]⟩:cQ)).flatMap gR=M.flatMap gR:=Oc M _ gp _ (by show[D.v (.slice _ (M[((av t s.ah).1[k]'aa).toNat].r.set (bE t.an s.set).toNat (acc[k]'en)).length _)]=[D.v (.slice _ _ _)];rw[length_set,FK]);have FF:vu (M.set ((av t s.ah).1[k]'aa).toNat (⟨M[((av t s.ah).1[k]'aa).toNat].r.set (bE t.an s.set).toNat (acc[k]'en),some ⟨bw,0,none⟩,M[((av t s.ah).1[k]'aa).toNat].cap,[⟨bw,36,M[((av t s.ah).1[k]'aa).toNat].cap*3,(M[((av t s.ah).1[k]'aa).toNat].r.set (bE t.an s.set).toNat (acc[k]'en)).flatMap cV⟩]⟩:cQ)) (some ⟨br,0,none⟩) cap [⟨br,30,cap*1,M.flatMap gR⟩]:=(by rw[<-Td];exact cj (by rw[length_set];exact Bc) wT)
   have aqz:∀i∈(av t s.ah).1,∃h:i.toNat<(M.set ((av t s.ah).1[k]'aa).toNat (⟨M[((av t s.ah).1[k]'aa).toNat].r.set (bE t.an s.set).toNat (acc[k]'en),some ⟨bw,0,none⟩,M[((av t s.ah).1[k]'aa).toNat].cap,[⟨bw,36,M[((av t s.ah).1[k]'aa).toNat].cap*3,(M[((av t s.ah).1[k]'aa).toNat].r.set (bE t.an s.set).toNat (acc[k]'en)).flatMap cV⟩]⟩:cQ)).length,(M.set ((av t s.ah).1[k]'aa).toNat (⟨M[((av t s.ah).1[k]'aa).toNat].r.set (bE t.an s.set).toNat (acc[k]'en),some ⟨bw,0,none⟩,M[((av t s.ah).1[k]'aa).toNat].cap,[⟨bw,36,M[((av t s.ah).1[k]'aa).toNat].cap*3,(M[((av t s.ah).1[k]'aa).toNat].r.set (bE t.an s.set).toNat (acc[k]'en)).flatMap cV⟩]⟩:cQ))[i.toNat].r.length=4:=fun i hi=>by obtain⟨h1,h2⟩:=hM4 i hi;refine⟨by rw[length_set];exact h1,?_⟩;rw[getElem_set];split;(show(M[((av t s.ah).1[k]'aa).toNat].r.set (bE t.an s.set).toNat (acc[k]'en)).length=4;rw[length_set];exact O);exact h2
   have anI:oV (bE t.an s.set).toNat {t with rows:=(M.set ((av t s.ah).1[k]'aa).toNat (⟨M[((av t s.ah).1[k]'aa).toNat].r.set (bE t.an s.set).toNat (acc[k]'en),some ⟨bw,0,none⟩,M[((av t s.ah).1[k]'aa).toNat].cap,[⟨bw,36,M[((av t s.ah).1[k]'aa).toNat].cap*3,(M[((av t s.ah).1[k]'aa).toNat].r.set (bE t.an s.set).toNat (acc[k]'en)).flatMap cV⟩]⟩:cQ)).map cQ.r} ((av t s.ah).1.drop (k+1)) (acc.drop (k+1))=oV (bE t.an s.set).toNat t (av t s.ah).1 acc:=(by rw[<-abC,iG,nv,oV];congr 1;exact(Yp (x:=t.ix) gp rfl).symm)
   refine rE (WU gp Tc) ?_;refine ay [0,6,9,10,15,16,110,111,112] ?_;refine nj 12 [0,6,9,10,110,111,112,123,124,128] ?_;refine aM 3 ?_ (h:=by exact(qK 2));refine aM 1 ?_ (h:=Kp);refine aM 0 ?_ (h:=w65);refine bB ?_;refine bS (ei 3 (h:=by first|exact .l (j:=(bE t.an s.set).toNat) (Int.toNat_of_nonneg w4).symm (by rw[O];omega)|exact .r (j:=(bE t.an s.set).toNat) (Int.toNat_of_nonneg w4).symm (by rw[O];omega))) ?_;refine pn (k:=0) (cs':=(M[((av t s.ah).1[k]'aa).toNat].r.set (bE t.an s.set).toNat (acc[k]'en)).flatMap cV) au rfl rfl ot rfl rfl ot rfl rfl sizeOf36 rfl (by show 0+(bE t.an s.set).toNat*3+3<=(M[((av t s.ah).1[k]'aa).toNat].r.flatMap cV).length;rw[dg fX,O];omega) (by show dY (M[((av t s.ah).1[k]'aa).toNat].r.flatMap cV) (0+(bE t.an s.set).toNat*3) (cV (acc[k]'en))=_;rw[Nat.zero_add];exact rF fX _ _ (by rw[O];omega)) ?_;refine ap 205 [0,6,9,10,110,111,112] ?_;refine dB 1 ?_;refine cg (Yo gp (o:=(⟨M[((av t s.ah).1[k]'aa).toNat].r.set (bE t.an s.set).toNat (acc[k]'en),some ⟨bw,0,none⟩,M[((av t s.ah).1[k]'aa).toNat].cap,[⟨bw,36,M[((av t s.ah).1[k]'aa).toNat].cap*3,(M[((av t s.ah).1[k]'aa).toNat].r.set (bE t.an s.set).toNat (acc[k]'en)).flatMap cV⟩]⟩:cQ)) rfl) ?_;refine ap 205 [0,6,9,10,110,111,112] ?_
   refine⟨((k+1),(M.set ((av t s.ah).1[k]'aa).toNat (⟨M[((av t s.ah).1[k]'aa).toNat].r.set (bE t.an s.set).toNat (acc[k]'en),some ⟨bw,0,none⟩,M[((av t s.ah).1[k]'aa).toNat].cap,[⟨bw,36,M[((av t s.ah).1[k]'aa).toNat].cap*3,(M[((av t s.ah).1[k]'aa).toNat].r.set (bE t.an s.set).toNat (acc[k]'en)).flatMap cV⟩]⟩:cQ))),_,cR,aL,w4,anI,lH,FF,(by rw[length_set];exact yq),aqz,rfl⟩
  have anJ:oV (bE t.an s.set).toNat t (av t s.ah).1 acc={t with rows:=M.map cQ.r}:=(by rw[<-abC,drop_of_length_le (l:=(av t s.ah).1) w4,ajn])
  have aZ:jb t s=({t with rows:=M.map cQ.r},((av t s.ah).1.length:Int),0):=(by unfold jb;rw[if_neg hA,if_neg hB,if_neg hC,if_neg hD,if_neg hN,if_pos hP,uQ,anJ])
  refine dS [4,5] (⟨bt,76,U,pre++(_++post)⟩::(Sr++M.flatMap bR)) ?_;rw[aZ];exact⟨rfl,fun _=>⟨M,ad,cap,Sr,⟨rfl,E,yS⟩,by simp only[tC,length_map,yq]⟩⟩
 have hP:¬0<(bE t.an s.set):=(by simpa using iE)
 have Lr:(bE t.an s.set)=0:=(by omega)
 refine ay [0,9,10,133,134,135] ?_;refine eZ [0,9,10,133,134] (fun aU _ (aR:Nat×aI) aE=>match aR with|(k,x)=>(k<=(av t s.ah).1.length)/\(qy t x ((av t s.ah).1.drop k)=qy t t.ix (av t s.ah).1)/\(jg x n)/\(∀i∈(av t s.ah).1.drop k,(de (rowAt t i),i)∈er x)/\aE=(⟨205,(135,ae (k:Nat))::aU,(⟨b3,34,12,aY s⟩::⟨bt,76,U,pre++([aG t.nm,aj 2 cC t.an,aS ad t.rows.length cap,aj 5 cP x.af,ae x.root]++post)⟩::(Sr++L.flatMap bR))⟩:St)) (fun (aR:Nat×aI)=>match aR with|(k,x)=>(av t s.ah).1.length-k) (0,t.ix) ⟨(Nat.zero_le _),rfl,g.ix,(fun i hi=>(I i hi).jA g),rfl⟩ ?_;rintro⟨k,x⟩ _ ⟨fD,QS,gx,A3,rfl⟩;refine ax [0,9,10,133,134,135,136] ?_ ?_<;>intro wX Ff
 ·have aa:k<(av t s.ah).1.length:=(by omega)
  have iG:(av t s.ah).1.drop k=((av t s.ah).1[k]'aa)::(av t s.ah).1.drop (k+1):=drop_eq_getElem_cons aa;have Dq:gw t ((av t s.ah).1[k]'aa):=I _ (getElem_mem aa);obtain⟨iU,eY,mq⟩:=id Dq;have gp:((av t s.ah).1[k]'aa).toNat<L.length:=(by rw[sD];exact eY)
  obtain⟨br,rfl,Bc,wT,rfl⟩:=fQ.pos w4;have Z:L[((av t s.ah).1[k]'aa).toNat].r=rowAt t ((av t s.ah).1[k]'aa):=(by rw[ju eY];exact(Kj hL gp eY))
  obtain⟨go1,G1⟩:=gw.ok g Dq;have abD:=OM (G:=G) hG L[((av t s.ah).1[k]'aa).toNat].r (by rw[Z];omega) (by rw[Z];omega) (by rw[Z];exact fun v hv=>(G1 v hv).1);rw[show de L[((av t s.ah).1[k]'aa).toNat].r=de (rowAt t ((av t s.ah).1[k]'aa)) from by rw[Z]] at abD;have jo:=A3 _ (by rw[iG];exact mem_cons_self);have gx2:=M9 gx ((DK gx.val _).2 ⟨_,jo⟩);have Be:=WL (G:=G) gx (de (rowAt t ((av t s.ah).1[k]'aa)));rw[Ya gx (pu (by rw[ju eY];exact(g.row _ eY mq).1)) ((DL gx _).2 ⟨_,jo⟩)] at Be;unfold Tw.cT at Be;have anK:qy t (iT x (dG x) (de (rowAt t ((av t s.ah).1[k]'aa)))) ((av t s.ah).1.drop (k+1))=qy t t.ix (av t s.ah).1:=(by rw[<-QS,iG];rfl)
  have aqA:∀i∈(av t s.ah).1.drop (k+1),(de (rowAt t i),i)∈er (iT x (dG x) (de (rowAt t ((av t s.ah).1[k]'aa)))):=fun i hi=>by refine(gx2.2 _).2 ⟨A3 i (by rw[iG];exact mem_cons_of_mem _ hi),fun e=>?_⟩;have h9:=hnd.sublist (drop_sublist k _);rw[iG,nodup_cons] at h9;have h8:=N9 g.ix ((I i (mem_of_mem_drop hi)).jA g) (Dq.jA g) e;simp only[Prod.mk.injEq] at h8;exact h9.1 (h8.2 ▸ hi)
  refine ay [0,9,10,18,133,134,135] ?_;refine nj 17 [0,9,10,133,134,135,140,154] ?_;refine aM 4 ?_ (h:=by exact(Aq 1));refine aM 3 ?_ (h:=by exact(qK 1));refine aM 1 ?_ (h:=Q6);refine aM 0 ?_ (h:=Z2);refine CA (abD) (fun r S h=>h.flat) (fun r S h=>h.view) (ha:=by exact⟨⟨_,ot,(WT bf gp (fun B hB=>by repeat (first|exact hB|apply mem_append_right|apply mem_cons_of_mem)))⟩,trivial⟩) (K:=?_);refine cA (Be) ?_;refine bB ?_;refine aF 2 ?_;refine pn (k:=1) (cs':=pre++([aG t.nm,aj 2 cC t.an,aS (some ⟨br,0,none⟩) t.rows.length cap,.list 5 ((iT x (dG x) (de (rowAt t ((av t s.ah).1[k]'aa)))).af.flatMap cP) (iT x (dG x) (de (rowAt t ((av t s.ah).1[k]'aa)))).af.length,ae (iT x (dG x) (de (rowAt t ((av t s.ah).1[k]'aa)))).root]++post)) au rfl rfl ot rfl rfl ot rfl rfl sizeOf74 rfl (by show off+3+2<=(pre++(([aG t.nm,aj 2 cC t.an,aS (some ⟨br,0,none⟩) t.rows.length cap,aj 5 cP x.af,ae x.root]:List D)++post)).length;simp only[length_append,length_cons,length_nil];omega) (by exact Ek (j:=3) hp aO rfl) ?_;refine ap 205 [0,9,10,133,134,135] ?_;refine bM [0,9,10,133,134,135] ?_;refine⟨((k+1),(iT x (dG x) (de (rowAt t ((av t s.ah).1[k]'aa))))),_,cR,aL,w4,anK,gx2.1,aqA,rfl⟩
 have S8:qy t t.ix (av t s.ah).1=x:=(by rw[<-QS,drop_of_length_le w4];rfl)
 clear QS A3;skip;refine ay [0,9,10,159,160,161] ?_;refine eZ [0,9,10,159,160] (fun aU _ (aR:Nat×List cQ×aI) aE=>match aR with|(k,M,y)=>(k<=(av t s.ah).1.length)/\(mg {t with rows:=M.map cQ.r,ix:=y} ((av t s.ah).1.drop k) (acc.drop k)=mg {t with ix:=qy t t.ix (av t s.ah).1} (av t s.ah).1 acc)/\(∀o∈M,qh o)/\(vu M ad cap Sr)/\(M.length=t.rows.length)/\(∀i∈(av t s.ah).1,∃h:i.toNat<M.length,Pc.dV cx M[i.toNat].r=0/\∀v∈M[i.toNat].r,v.Ok)/\(jg y (n+k))/\aE=(⟨205,(161,ae (k:Nat))::aU,(⟨b3,34,12,aY s⟩::⟨bt,76,U,pre++([aG t.nm,aj 2 cC t.an,aS ad t.rows.length cap,aj 5 cP y.af,ae y.root]++post)⟩::(Sr++M.flatMap bR))⟩:St)) (fun (aR:Nat×List cQ×aI)=>match aR with|(k,M,y)=>(av t s.ah).1.length-k) (0,L,x) ⟨(Nat.zero_le _),(by rw[hL,S8];rfl),bf,fQ,sD,hl5,gx,rfl⟩ ?_;rintro⟨k,M,y⟩ _ ⟨eK,nq,E,yS,yq,hM5,gy,rfl⟩;refine ax [0,9,10,159,160,161,162] ?_ ?_<;>intro Ka Jp
 ·have aa:k<(av t s.ah).1.length:=(by omega)
  have en:k<acc.length:=(by omega)
  have iG:(av t s.ah).1.drop k=((av t s.ah).1[k]'aa)::(av t s.ah).1.drop (k+1):=drop_eq_getElem_cons aa;have nv:acc.drop k=(acc[k]'en)::acc.drop (k+1):=drop_eq_getElem_cons en;obtain⟨iU,eY,mq⟩:=I _ (getElem_mem aa);obtain⟨gp,hx5,hx6⟩:=hM5 _ (getElem_mem aa);have O:=qu hx5;obtain⟨aqB,abE,aqC⟩:=abB _ (getElem_mem en);have xm:(acc[k]'en).k≠0/\lE (cx[0]'w7).k (acc[k]'en):=(by have h1:=aqC Lr;refine⟨h1,abE.1,?_⟩;have h2:=abE.2;have aqD:bE cx s.set=0:=(by rw[<-g.an];exact Lr);have hC1:=hC;simp only[g.an,aqD] at hC1;have h3:(dZ cx s.bG).1=(cx[0]'w7).k\/(dZ cx s.bG).1=0:=(Classical.em ((dZ cx s.bG).1=(cx[0]'w7).k)).imp id fun h=>Classical.not_not.1 fun h'=>hC1 ⟨h,h'⟩;omega)
  obtain⟨br,rfl,Bc,wT,rfl⟩:=yS.pos w4;obtain⟨bw,FK,Av,Ku,Tc⟩:=(E _ (getElem_mem gp)).pos w4;have lH:∀o∈(M.set ((av t s.ah).1[k]'aa).toNat (⟨M[((av t s.ah).1[k]'aa).toNat].r.set 0 (acc[k]'en),some ⟨bw,0,none⟩,M[((av t s.ah).1[k]'aa).toNat].cap,[⟨bw,36,M[((av t s.ah).1[k]'aa).toNat].cap*3,(M[((av t s.ah).1[k]'aa).toNat].r.set 0 (acc[k]'en)).flatMap cV⟩]⟩:cQ)),qh o:=fun o ho=>by rcases mem_or_eq_of_mem_set ho with h|h;exact E o h;rw[h];exact cj (g:=cV) (by rw[length_set];exact Av) Ku
  have Td:(M.set ((av t s.ah).1[k]'aa).toNat (⟨M[((av t s.ah).1[k]'aa).toNat].r.set 0 (acc[k]'en),some ⟨bw,0,none⟩,M[((av t s.ah).1[k]'aa).toNat].cap,[⟨bw,36,M[((av t s.ah).1[k]'aa).toNat].cap*3,(M[((av t s.ah).1[k]'aa).toNat].r.set 0 (acc[k]'en)).flatMap cV⟩]⟩:cQ)).flatMap gR=M.flatMap gR:=Oc M _ gp _ (by show[D.v (.slice _ (M[((av t s.ah).1[k]'aa).toNat].r.set 0 (acc[k]'en)).length _)]=[D.v (.slice _ _ _)];rw[length_set,FK]);have FF:vu (M.set ((av t s.ah).1[k]'aa).toNat (⟨M[((av t s.ah).1[k]'aa).toNat].r.set 0 (acc[k]'en),some ⟨bw,0,none⟩,M[((av t s.ah).1[k]'aa).toNat].cap,[⟨bw,36,M[((av t s.ah).1[k]'aa).toNat].cap*3,(M[((av t s.ah).1[k]'aa).toNat].r.set 0 (acc[k]'en)).flatMap cV⟩]⟩:cQ)) (some ⟨br,0,none⟩) cap [⟨br,30,cap*1,M.flatMap gR⟩]:=(by rw[<-Td];exact cj (by rw[length_set];exact Bc) wT)
  have ZL:Pc.dV cx (M[((av t s.ah).1[k]'aa).toNat].r.set 0 (acc[k]'en))=0:=Yn hx5 w7 xm.2 (fun _=>xm.1);have Am:∀v∈M[((av t s.ah).1[k]'aa).toNat].r.set 0 (acc[k]'en),v.Ok:=fun v hv=>by rcases mem_or_eq_of_mem_set hv with h|h;exact hx6 v h;rw[h];exact aqB
  have aqE:∀i∈(av t s.ah).1,∃h:i.toNat<(M.set ((av t s.ah).1[k]'aa).toNat (⟨M[((av t s.ah).1[k]'aa).toNat].r.set 0 (acc[k]'en),some ⟨bw,0,none⟩,M[((av t s.ah).1[k]'aa).toNat].cap,[⟨bw,36,M[((av t s.ah).1[k]'aa).toNat].cap*3,(M[((av t s.ah).1[k]'aa).toNat].r.set 0 (acc[k]'en)).flatMap cV⟩]⟩:cQ)).length,Pc.dV cx (M.set ((av t s.ah).1[k]'aa).toNat (⟨M[((av t s.ah).1[k]'aa).toNat].r.set 0 (acc[k]'en),some ⟨bw,0,none⟩,M[((av t s.ah).1[k]'aa).toNat].cap,[⟨bw,36,M[((av t s.ah).1[k]'aa).toNat].cap*3,(M[((av t s.ah).1[k]'aa).toNat].r.set 0 (acc[k]'en)).flatMap cV⟩]⟩:cQ))[i.toNat].r=0/\∀v∈(M.set ((av t s.ah).1[k]'aa).toNat (⟨M[((av t s.ah).1[k]'aa).toNat].r.set 0 (acc[k]'en),some ⟨bw,0,none⟩,M[((av t s.ah).1[k]'aa).toNat].cap,[⟨bw,36,M[((av t s.ah).1[k]'aa).toNat].cap*3,(M[((av t s.ah).1[k]'aa).toNat].r.set 0 (acc[k]'en)).flatMap cV⟩]⟩:cQ))[i.toNat].r,v.Ok:=fun i hi=>by obtain⟨h1,h2⟩:=hM5 i hi;refine⟨by rw[length_set];exact h1,?_⟩;rw[getElem_set];split;exact⟨ZL,Am⟩;exact h2
  have eT:=pu ZL;have abF:=OM (G:=G) hG (M[((av t s.ah).1[k]'aa).toNat].r.set 0 (acc[k]'en)) x5 x5 Am;have G2:=WK (G:=G) gy (de (M[((av t s.ah).1[k]'aa).toNat].r.set 0 (acc[k]'en))) ((av t s.ah).1[k]'aa);unfold Tw.cT at G2
  have abG:mg {t with ix:=qy t t.ix (av t s.ah).1} (av t s.ah).1 acc=if jv y (de (M[((av t s.ah).1[k]'aa).toNat].r.set 0 (acc[k]'en))) (dG y)=true then ({t with rows:=M.map cQ.r,ix:=y},9) else mg {t with rows:=(M.set ((av t s.ah).1[k]'aa).toNat (⟨M[((av t s.ah).1[k]'aa).toNat].r.set 0 (acc[k]'en),some ⟨bw,0,none⟩,M[((av t s.ah).1[k]'aa).toNat].cap,[⟨bw,36,M[((av t s.ah).1[k]'aa).toNat].cap*3,(M[((av t s.ah).1[k]'aa).toNat].r.set 0 (acc[k]'en)).flatMap cV⟩]⟩:cQ)).map cQ.r,ix:=(iS y (dG y) (de (M[((av t s.ah).1[k]'aa).toNat].r.set 0 (acc[k]'en))) ((av t s.ah).1[k]'aa))} ((av t s.ah).1.drop (k+1)) (acc.drop (k+1)):=by rw[<-nq,iG,nv,mg,Yp (o:=(⟨M[((av t s.ah).1[k]'aa).toNat].r.set 0 (acc[k]'en),some ⟨bw,0,none⟩,M[((av t s.ah).1[k]'aa).toNat].cap,[⟨bw,36,M[((av t s.ah).1[k]'aa).toNat].cap*3,(M[((av t s.ah).1[k]'aa).toNat].r.set 0 (acc[k]'en)).flatMap cV⟩]⟩:cQ)) gp rfl,Vk zM,show((M.set ((av t s.ah).1[k]'aa).toNat (⟨M[((av t s.ah).1[k]'aa).toNat].r.set 0 (acc[k]'en),some ⟨bw,0,none⟩,M[((av t s.ah).1[k]'aa).toNat].cap,[⟨bw,36,M[((av t s.ah).1[k]'aa).toNat].cap*3,(M[((av t s.ah).1[k]'aa).toNat].r.set 0 (acc[k]'en)).flatMap cV⟩]⟩:cQ))[((av t s.ah).1[k]'aa).toNat]'zM)=(⟨M[((av t s.ah).1[k]'aa).toNat].r.set 0 (acc[k]'en),some ⟨bw,0,none⟩,M[((av t s.ah).1[k]'aa).toNat].cap,[⟨bw,36,M[((av t s.ah).1[k]'aa).toNat].cap*3,(M[((av t s.ah).1[k]'aa).toNat].r.set 0 (acc[k]'en)).flatMap cV⟩]⟩:cQ) from getElem_set_self _]
  refine rE (WU gp Tc) ?_;refine ay [0,9,10,19,20,159,160,161] ?_;refine cL ?_;refine nj 11 [0,9,10,20,159,160,161,172,176] ?_;refine aM 3 ?_ (h:=by exact(qK 2));refine aM 1 ?_ (h:=Kp);refine aM 0 ?_ (h:=w65);refine bB ?_;refine bS (ny (mk:=Op.indexAddr 30) rfl ot bP (by first|exact qj runUnderlying30 sizeOf36 (j:=0) rfl (by rw[O];decide)|exact qp runUnderlying30 sizeOf36 (j:=0) rfl (by rw[O];decide))) ?_;refine pn (k:=0) (cs':=(M[((av t s.ah).1[k]'aa).toNat].r.set 0 (acc[k]'en)).flatMap cV) au rfl rfl ot rfl rfl ot rfl rfl sizeOf36 rfl (by show 0+0*3+3<=(M[((av t s.ah).1[k]'aa).toNat].r.flatMap cV).length;rw[dg fX,O];omega) (by show dY (M[((av t s.ah).1[k]'aa).toNat].r.flatMap cV) (0+0*3) (cV (acc[k]'en))=_;rw[Nat.zero_add];exact rF fX _ _ (by rw[O];omega)) ?_;refine ap 205 [0,9,10,20,159,160,161] ?_;refine cL ?_;rcases jo:jv y (de (M[((av t s.ah).1[k]'aa).toNat].r.set 0 (acc[k]'en))) (dG y) with _|_
  ·rw[Y7 gy w4 eT iU jo] at G2;have gy2:jg (iS y (dG y) (de (M[((av t s.ah).1[k]'aa).toNat].r.set 0 (acc[k]'en))) ((av t s.ah).1[k]'aa)) (n+(k+1)):=(If gy w4 ((Ig gy).1 jo) eT iU).1;have aqF:mg {t with rows:=(M.set ((av t s.ah).1[k]'aa).toNat (⟨M[((av t s.ah).1[k]'aa).toNat].r.set 0 (acc[k]'en),some ⟨bw,0,none⟩,M[((av t s.ah).1[k]'aa).toNat].cap,[⟨bw,36,M[((av t s.ah).1[k]'aa).toNat].cap*3,(M[((av t s.ah).1[k]'aa).toNat].r.set 0 (acc[k]'en)).flatMap cV⟩]⟩:cQ)).map cQ.r,ix:=(iS y (dG y) (de (M[((av t s.ah).1[k]'aa).toNat].r.set 0 (acc[k]'en))) ((av t s.ah).1[k]'aa))} ((av t s.ah).1.drop (k+1)) (acc.drop (k+1))=mg {t with ix:=qy t t.ix (av t s.ah).1} (av t s.ah).1 acc:=(by rw[abG,if_neg zO])
   refine vH 18 17 [0,9,10,21,159,160,161,193,194] ?_;refine aM 3 ?_ (h:=by exact(Aq 2));refine aM 3 ?_ (h:=by exact(qK 2));refine aM 1 ?_ (h:=Kp);refine aM 0 ?_ (h:=w41);refine CA (abF) (fun r S h=>h.flat) (fun r S h=>h.view) (ha:=w92) (K:=?_);refine cA (G2) ?_;refine oD 3 ?_;refine rj ?_;refine kN ?_;refine⟨rfl,fun Gj=>?_⟩;refine aN 0 [_,_] sizeOf74 ?_;refine ap 205 [0,9,10,21,22,159,160,161] ?_;refine ax [0,9,10,21,22,159,160,161,196] ?_ ?_<;>intro yc Ji
   ·exact absurd yc (by simp at yc)
   refine dB 4 ?_;refine pn (k:=3) (cs':=pre++([aG t.nm,aj 2 cC t.an,aS (some ⟨br,0,none⟩) t.rows.length cap,.list 5 ((iS y (dG y) (de (M[((av t s.ah).1[k]'aa).toNat].r.set 0 (acc[k]'en))) ((av t s.ah).1[k]'aa)).af.flatMap cP) (iS y (dG y) (de (M[((av t s.ah).1[k]'aa).toNat].r.set 0 (acc[k]'en))) ((av t s.ah).1[k]'aa)).af.length,ae (iS y (dG y) (de (M[((av t s.ah).1[k]'aa).toNat].r.set 0 (acc[k]'en))) ((av t s.ah).1[k]'aa)).root]++post)) au rfl rfl ot rfl rfl ot rfl rfl sizeOf74 rfl (by show off+3+2<=(pre++(([aG t.nm,aj 2 cC t.an,aS (some ⟨br,0,none⟩) t.rows.length cap,aj 5 cP y.af,ae y.root]:List D)++post)).length;simp only[length_append,length_cons,length_nil];omega) (by exact Ek (j:=3) hp aO rfl) ?_;refine ap 205 [0,9,10,159,160,161] ?_;refine dB 1 ?_;refine cg ((Yo gp (o:=(⟨M[((av t s.ah).1[k]'aa).toNat].r.set 0 (acc[k]'en),some ⟨bw,0,none⟩,M[((av t s.ah).1[k]'aa).toNat].cap,[⟨bw,36,M[((av t s.ah).1[k]'aa).toNat].cap*3,(M[((av t s.ah).1[k]'aa).toNat].r.set 0 (acc[k]'en)).flatMap cV⟩]⟩:cQ)) rfl).cons _) ?_;refine ap 205 [0,9,10,159,160,161] ?_
   refine⟨((k+1),(M.set ((av t s.ah).1[k]'aa).toNat (⟨M[((av t s.ah).1[k]'aa).toNat].r.set 0 (acc[k]'en),some ⟨bw,0,none⟩,M[((av t s.ah).1[k]'aa).toNat].cap,[⟨bw,36,M[((av t s.ah).1[k]'aa).toNat].cap*3,(M[((av t s.ah).1[k]'aa).toNat].r.set 0 (acc[k]'en)).flatMap cV⟩]⟩:cQ)),(iS y (dG y) (de (M[((av t s.ah).1[k]'aa).toNat].r.set 0 (acc[k]'en))) ((av t s.ah).1[k]'aa))),_,cR,aL,w4,aqF,lH,FF,(by rw[length_set];exact yq),aqE,gy2,rfl⟩
  rw[akC gy eT iU jo] at G2;have aZ:jb t s=(t,0,9):=(by unfold jb;rw[if_neg hA,if_neg hB,if_neg hC,if_neg hD,if_neg hN,if_neg hP,uQ,abG,if_pos jo];exact if_pos (show(9:Int)≠0 by decide))
  refine vH 18 17 [0,9,10,21,159,160,161,193,194] ?_;refine aM 3 ?_ (h:=by exact(Aq 2));refine aM 3 ?_ (h:=by exact(qK 2));refine aM 1 ?_ (h:=Kp);refine aM 0 ?_ (h:=w41);refine CA (abF) (fun r S h=>h.flat) (fun r S h=>h.view) (ha:=w92) (K:=?_);refine cA (G2) ?_;refine oD 3 ?_;refine rj ?_;refine kN ?_;refine⟨rfl,fun Gj=>?_⟩;refine aN 0 [_,_] sizeOf74 ?_;refine ap 205 [0,9,10,21,22,159,160,161] ?_;refine ax [0,9,10,21,22,159,160,161,196] ?_ ?_<;>intro yc Ji
  ·exact Ac
  exact absurd yc (by simp at yc)
 have anL:mg {t with ix:=qy t t.ix (av t s.ah).1} (av t s.ah).1 acc=({t with rows:=M.map cQ.r,ix:=y},0):=(by rw[<-nq,drop_of_length_le (l:=(av t s.ah).1) w4,ahu])
 have aZ:jb t s=({t with rows:=M.map cQ.r,ix:=y},((av t s.ah).1.length:Int),0):=(by unfold jb;rw[if_neg hA,if_neg hB,if_neg hC,if_neg hD,if_neg hN,if_neg hP,uQ,anL];exact if_neg (fun h=>h rfl))
 refine dS [4,5] (⟨bt,76,U,pre++(_++post)⟩::(Sr++M.flatMap bR)) ?_;rw[aZ];exact⟨rfl,fun _=>⟨M,ad,cap,Sr,⟨rfl,E,yS⟩,by simp only[tC,length_map,yq]⟩⟩
open Go.Proofs.YtihmfhcjbmlnaaaGreatDoor.So
def ER(p:(List (List Vl)×Int)×Int)(r:D)(S:List ag):Prop:=∃(L:List cQ) (ad:Option Addr) (cap:Nat) (Sx:List ag),r = .dF [.agg [aS ad L.length cap,ae p.1.2],ae p.2]/\vu L ad cap Sx/\(∀o∈L,qh o)/\L.map cQ.r=p.1.1/\S=Sx++L.flatMap bR
theorem ER.view{r:D}(h:ER p r S):View S r (Dp p):=by
 obtain⟨L,ad,cap,Sx,rfl,ho,bf,hL,rfl⟩:=h;unfold Dp;rw[<-hL];(first|rw[length_map]|(unfold aj;rw[length_map]))
 exact HV ⟨xz ⟨DG ho (IF bf fun B hB=>mem_append_right _ hB) (by rw[dg kR,length_map]) (fun B hB=>mem_append_left _ hB),fN,trivial⟩,fN,trivial⟩
theorem aml(l:List Vl):∀d∈l.flatMap cV,mE d=true:=fun d hd=>by
 obtain⟨v,_,hv⟩:=mem_flatMap.1 hd;unfold cV at hv;simp only[mem_cons,not_mem_nil,or_false] at hv;rcases hv with rfl|rfl|rfl<;>rfl
theorem amm(l:List cQ):∀d∈l.flatMap gR,mE d=true:=fun d hd=>by
 obtain⟨v,_,hv⟩:=mem_flatMap.1 hd;unfold gR at hv;rw[mem_singleton] at hv;subst hv;rfl
theorem ER.flat{r:D}(h:ER p r S):mE r=true/\∀B∈S,∀d∈B.cs,mE d=true:=by
 obtain⟨L,ad,cap,Sx,rfl,ho,bf,hL,rfl⟩:=h;refine⟨rfl,fun B hB=>?_⟩;rcases mem_append.1 hB with hB|hB
 ·rcases ho with ⟨_,_,_,_,rfl⟩|⟨b,_,_,_,rfl⟩
  ·cases hB
  rw[mem_singleton] at hB;subst hB;exact amm L
 obtain⟨o,E,hB⟩:=mem_flatMap.1 hB;have h1:=bf o E;unfold bR at hB;rcases h1 with ⟨_,_,_,_,h2⟩|⟨b,_,_,_,h2⟩
 ·rw[h2] at hB;cases hB
 rw[h2,mem_singleton] at hB;subst hB;exact aml o.r
theorem amn(g:dN t n)(s:aT):rO t s<4:=by
 unfold rO;split
 ·decide
 have:=(OP (l:=t.an) (nm:=s.order)).2;rw[g.an] at this |-;exact this
theorem anM(g:dN t n){names:List ByteArray}(h:∀n∈names,0<=bE t.an n):∀c∈uP t names,0<=c/\c.toNat<4:=fun c hc=>by
 have h4:t.an.length=4:=(by rw[g.an];rfl)
 unfold uP at hc;split at hc
 ·obtain⟨i,hi,rfl⟩:=mem_map.1 hc;have:=mem_range.1 hi;constructor
  ·exact Int.natCast_nonneg i
  show i<4;omega
 obtain⟨x,hx,rfl⟩:=mem_map.1 hc;have:=(OP (l:=t.an) (nm:=x)).2;have:=h x hx;omega
theorem anN(f:ag->Nat):(((L++[o]).flatMap bR).map f).sum=((L.flatMap bR).map f).sum+(o.S.map f).sum:=by
 rw[Yd];simp only[bR,map_append,sum_append]
theorem Vm:(Tryz.prog.info? 3).map (fun i=>(i.zero,i.size,i.bytes))=some (some (.int .i64 0),1,8):=by kernel_rfl
theorem af9:(Tryz.prog.info? 30).map (fun i=>(i.zero,i.size,i.bytes))=some (some (.slice none 0 0),1,24):=by kernel_rfl
theorem aga:(Tryz.prog.info? 36).map (fun i=>(i.zero,i.size,i.bytes))=some (some (.agg #[.int .i64 0,.int .i64 0,.string ⟨#[]⟩]),3,32):=by kernel_rfl
theorem akU(hm:(3,marksC)∈G)(hw:(1,wordsC)∈G)(ht:(0,typesC)∈G)(hG:(2,[Value.int .i64 m])∈G)(t:aA)(g:dN t n)(s:aT)(vO:s.names.length<=1000)(ho:∀o∈s.ah,o.nm.size<=maxLen)(gM:∀o∈s.ah,o.v.Ok):VC Tryz.prog G 66 [.agg (cr t),.agg (aY s)] [] (ER (oe t s)):=by
 refine bA func66 rfl ntmps66 aO fun X0 w0 bz=>?_;have dy:=ee;have nq:=OO (G:=G) hm hw ht hG t g s.ah ho gM;have yR:=Ej g s.ah;have yP:=ug g s.ah;have C2:=Ih g s.ah;obtain⟨M,hM⟩:∃M,M=av t s.ah:=⟨_,rfl⟩
 rw[<-hM] at nq yR yP C2;obtain⟨sl,em⟩:=M;dsimp only at yR yP C2;have kZ:=g.fm;have aqy:t.an.length=4:=(by rw[g.an];rfl)
 unfold cr at nq;unfold cr aY;refine cq ?_;refine dm [_,_,_,_,_] (fun b2=>?_);refine dm [_,_,_,_,_,_,_,_,_,_,_,_] (fun b3=>?_);refine cD (ds:=[_,_]) au rfl rfl zeroValue54 rfl (fun b4=>?_);refine ap 135 [2,3,4] ?_;refine cq ?_;refine bL [2,3,4,6] ?_;refine ay [2,3,4,6,21,22,23] ?_;refine eZ [2,3,4,21,22] (fun aU _ (aR:Nat×List Int×Option Addr×Nat×List ag) aE=>match aR with|(i,acc,U,Z,Sa)=>(i<=s.names.length)/\(acc=(s.names.take i).map (bE t.an))/\(∀x∈s.names.take i,0<=bE t.an x)/\(bF 3 1 ((acc).flatMap Tw.cI) (acc).length U Z Sa)/\aE=(⟨135,(6,aS U (acc).length Z)::(23,ae (i:Nat))::aU,(⟨b4,54,2,[aJ,ae 0]⟩::⟨b3,34,12,aY s⟩::⟨b2,76,5,cr t⟩::Sa)⟩:St)) (fun (aR:Nat×List Int×Option Addr×Nat×List ag)=>match aR with|(i,acc,U,Z,Sa)=>s.names.length-i) (0,([]:List Int),none,0,[]) ⟨(Nat.zero_le _),rfl,(fun x h=>by cases h),(bF.cast jt lU),rfl⟩ ?_;rintro⟨i,acc,U,Z,Sa⟩ _ ⟨hi,qW,qI,qH,rfl⟩;refine ax [2,3,4,6,21,22,23,24] ?_ ?_<;>intro aP bH
 ·have aa:i<s.names.length:=(by omega)
  have fB:=MD (G:=G) t w4 s.names[i];unfold cr at fB;have pK:acc.length=i:=(by rw[qW,length_map,length_take];omega)
  refine ay [2,3,4,6,8,21,22,23] ?_;refine cW [2,3,4,6,9,21,22,23] (fB) ?_;refine ax [2,3,4,6,9,21,22,23,31] ?_ ?_<;>intro bg cM
  ·have FG:bE t.an s.names[i]<0:=(by simpa using bg)
   have aZ:oe t s=(([],0),8):=if_pos (any_eq_true.2 ⟨s.names[i],getElem_mem _,decide_eq_true FG⟩);refine az 1 ?_;refine aN 0 [_,_] sizeOf54 ?_;exact z107
  have FG:¬bE t.an s.names[i]<0:=(by simpa using bg)
  have aqG:∀x∈s.names.take (i+1),0<=bE t.an x:=fun x hx=>by rw[take_succ_eq_append_getElem aa] at hx;rcases mem_append.1 hx with hx|hx;exact qI x hx;rw[mem_singleton] at hx;subst hx;omega
  refine dB 2 ?_;refine eR (cU 0 [_]) [.int .i64 0] [_] zeroValue3 runUnderlying27 sizeOf3 (fun b35=>?_);refine gb 0 35 1 1 ?_;refine gi (ls:=(acc)) (new:=[bE t.an s.names[i]]) (Sq:=Sa) Tw.fp Tw.pV au rfl rfl underlying27 Vm rfl w7 ot qH (dL (A:=[_,_,_])) ot bC pI pJ (fun AX QT aqH aqI=>?_);refine cg (eM (S1:=[⟨AX,3,QT*1,flatMap Tw.cI ((acc)++[bE t.an s.names[i]])⟩]) (A:=[_,_,_])) ?_;refine ap 135 [2,3,4,6,21,22,23] ?_;refine bM [2,3,4,6,21,22,23] ?_;refine⟨((i+1),(acc++[bE t.an s.names[i]]),(some ⟨AX,0,none⟩),QT,[⟨AX,3,QT*1,flatMap Tw.cI ((acc)++[bE t.an s.names[i]])⟩]),_,cR,aL,w4,(by rw[qW,<-sH aa,map_append];rfl),aqG,(bF.cast (cj aqH aqI) lU),rfl⟩
 have yJ:s.names.take i=s.names:=take_of_length_le w4;rw[yJ] at qW qI;have ye:¬(s.names.any fun n=>decide (bE t.an n<0))=true:=fun h=>by obtain⟨x,h1,h2⟩:=any_eq_true.1 h;have:=qI x h1;have:=of_decide_eq_true h2;omega
 refine qm ?_;refine iM [2,3,4] (fun aU _ aE=>∃(acc:List Int),∃(U:Option Addr),∃(Z:Nat),∃(Sa:List ag),(acc=uP t s.names)/\(bF 3 1 (acc.flatMap Tw.cI) acc.length U Z Sa)/\aE=(⟨135,(6,aS U acc.length Z)::aU,(⟨b4,54,2,[aJ,ae 0]⟩::⟨b3,34,12,aY s⟩::⟨b2,76,5,cr t⟩::Sa)⟩:St)) ?_ ?_
 ·refine ax [2,3,4,6,41] ?_ ?_<;>intro cl di
  ·have iV:s.names.length=0:=(by simpa using cl)
   have aqJ:acc=[]:=(by rw[qW,length_eq_zero_iff.1 iV];rfl)
   refine ay [2,3,4,6,44,45] ?_;refine eZ [2,3,4,44] (fun aU _ (aR:Nat×List Int×Option Addr×Nat×List ag) aE=>match aR with|(j,O,U,Z,Sa)=>(j<=t.an.length)/\(O=(range j).map Int.ofNat)/\(bF 3 1 ((O).flatMap Tw.cI) (O).length U Z Sa)/\aE=(⟨135,(6,aS U (O).length Z)::(45,ae (j:Nat))::aU,(⟨b4,54,2,[aJ,ae 0]⟩::⟨b3,34,12,aY s⟩::⟨b2,76,5,cr t⟩::Sa)⟩:St)) (fun (aR:Nat×List Int×Option Addr×Nat×List ag)=>match aR with|(j,O,U,Z,Sa)=>t.an.length-j) (0,acc,U,Z,Sa) ⟨(Nat.zero_le _),aqJ,(bF.cast qH lU),rfl⟩ ?_;rintro⟨j,O,U,Z,Sa⟩ _ ⟨hj,Pw,qH,rfl⟩;refine ax [2,3,4,6,44,45,46] ?_ ?_<;>intro da eP
   ·have awm:j<t.an.length:=(by omega)
    have awn:O.length=j:=(by rw[Pw,length_map,length_range])
    refine ay [2,3,4,6,10,44,45] ?_;refine dB 2 ?_;refine eR (cU 0 [_]) [.int .i64 0] [_] zeroValue3 runUnderlying27 sizeOf3 (fun CY=>?_);refine gb 0 50 1 1 ?_;refine gi (ls:=(O)) (new:=[(j:Int)]) (Sq:=Sa) Tw.fp Tw.pV au rfl rfl underlying27 Vm rfl w7 ot qH (dL (A:=[_,_,_])) ot bC pI pJ (fun rZ zS P1 P2=>?_);refine cg (eM (S1:=[⟨rZ,3,zS*1,flatMap Tw.cI ((O)++[(j:Int)])⟩]) (A:=[_,_,_])) ?_;refine ap 135 [2,3,4,6,44,45] ?_;refine bM [2,3,4,6,44,45] ?_;refine⟨((j+1),(O++[(j:Int)]),(some ⟨rZ,0,none⟩),zS,[⟨rZ,3,zS*1,flatMap Tw.cI ((O)++[(j:Int)])⟩]),_,cR,aL,w4,(by rw[Pw,range_succ,map_append];rfl),(bF.cast (cj P1 P2) lU),rfl⟩
   have hjf:O=uP t s.names:=(by unfold uP;rw[if_pos iV,Pw,show j=t.an.length by omega])
   refine qm ?_;refine⟨_,aL,(O),U,Z,Sa,hjf,qH,rfl⟩
  have iV:¬s.names.length=0:=(by simpa using cl)
  refine eI ?_;refine⟨_,aL,(acc),U,Z,Sa,(by unfold uP;rw[if_neg iV];exact qW),qH,rfl⟩
 rintro _ ⟨acc,U,Z,Sa,wY,qH,rfl⟩;refine cL ?_;refine mS (t:=6) (Sq:=Sa) lk qH (dg Tw.fp _) (dL (A:=[_,_,_])) ?_;refine uK ?_;refine cD (ds:=[_]) au rfl rfl zeroValue3 rfl (fun mQ=>?_);refine aN 0 [_] sizeOf3 ?_;refine ap 135 [2,3,4,6,11] ?_;refine iM [2,3,4,6,11] (fun aU _ aE=>∃(ov:Int),(0<=ov)/\(ov=rO t s)/\aE=(⟨135,aU,[⟨mQ,3,1,[ae ov]⟩,⟨b4,54,2,[aJ,ae 0]⟩,⟨b3,34,12,aY s⟩,⟨b2,76,5,cr t⟩]⟩:St)) ?_ ?_
 ·refine ax [2,3,4,6,11,55] ?_ ?_<;>intro eo fR
  ·have Dr:¬(s.order.toList==(⟨#[]⟩:ByteArray).toList)=true:=(by rw[fR];decide)
   have Kl:=MD (G:=G) t w4 s.order;unfold cr at Kl;have G3:rO t s=bE t.an s.order:=if_neg Dr;refine az 3 ?_;refine dK call105 (Kl) ?_;refine aN 0 [_] sizeOf3 ?_;refine ap 135 [2,3,4,6,11] ?_;refine ax [2,3,4,6,11,61] ?_ ?_<;>intro fH ik
   ·have FG:rO t s<0:=(by rw[G3];simpa using fH)
    have aZ:oe t s=(([],0),8):=(by unfold oe;rw[if_neg ye,if_pos FG])
    refine az 1 ?_;refine aN 1 [_,_] sizeOf54 ?_;exact z107
   have FG:¬rO t s<0:=(by rw[G3];simpa using fH)
   refine eI ?_;refine⟨_,aL,(bE t.an s.order),w4,G3.symm,rfl⟩
  have Dr:(s.order.toList==(⟨#[]⟩:ByteArray).toList)=true:=fR;have G3:rO t s=0:=if_pos Dr;refine eI ?_;refine⟨_,aL,0,(Int.le_refl 0),G3.symm,rfl⟩
 rintro _ ⟨ov,aqK,oY,rfl⟩;refine az 3 ?_;refine eH au rfl rfl rfl call106 nq ⟨ot,ot,trivial⟩ (fj _) ?_;rintro _ Sx ⟨eJ,dW,rfl,eW⟩;refine cg (eM (A:=[_,_,_,_])) ?_;refine ap 135 [2,3,4,6,11,12,13] ?_;refine ax [2,3,4,6,11,12,13,71] ?_ ?_<;>intro iu qa
 ·have Ls:em≠0:=(by simpa using iu)
  have aZ:oe t s=(([],0),em):=(by unfold oe;rw[if_neg ye,if_neg w4,<-hM];exact if_pos Ls)
  refine az 2 ?_;refine aN 1 [_,_] sizeOf54 ?_;exact z107
 have Ls:¬em≠0:=(by simpa using iu)
 refine eI ?_;refine iM [2,3,4,6] (fun aU _ aE=>∃(on:Nat),∃(lz:List Int),((on:Int)=rO t s)/\(lz=EQ t s.down on sl)/\(lz.length=sl.length)/\(∀x∈lz,gw t x)/\aE=(⟨135,(12,aj 1 Tw.cI lz)::aU,[⟨mQ,3,1,[ae (on:Nat)]⟩,⟨b4,54,2,[aJ,ae 0]⟩,⟨b3,34,12,aY s⟩,⟨b2,76,5,cr t⟩]⟩:St)) ?_ ?_
 ·obtain⟨on,rfl⟩:=Int.eq_ofNat_of_zero_le aqK;have lf:on<4:=(by have:=amn g s;omega)
  rcases eW with ⟨hn,dP,rfl,rfl,rfl⟩|⟨bx,rfl,eY,mq,rfl⟩
  ·obtain rfl:=length_eq_zero_iff.1 hn;refine dB 1 ?_;refine bS (sM (ds:=[_,_,_]) rfl ⟨ot,ot,ot,trivial⟩) ?_;refine dK call107 (ajl _) ?_;refine fF (Wk.tY (t:=12) (sz:=1) lk) ?_;refine ap 135 [2,3,4,6,12] ?_;refine⟨_,aL,on,[],oY,(N8 ⟨Perm.refl _,Pairwise.nil⟩),rfl,(fun x h=>by cases h),rfl⟩
  refine dB 1 ?_;refine bS (sM (ds:=[_,_,_]) rfl ⟨ot,ot,ot,trivial⟩) ?_;refine eH (Sf:=⟨bx,3,dW*1,sl.flatMap Tw.cI⟩::[⟨b2,76,5,cr t⟩,⟨mQ,3,1,[ae (on:Nat)]⟩,⟨b3,34,12,aY s⟩]) (R:=[⟨b4,54,2,[aJ,ae 0]⟩]) au rfl rfl rfl call107 (akM sl.length dW bx 108 [dw b2,dw mQ,dw b3] [⟨b2,76,5,cr t⟩,⟨mQ,3,1,[ae (on:Nat)]⟩,⟨b3,34,12,aY s⟩] (mK t s.down on) (gw t) (G0 t) (fun x y hx hy=>akP t g s on lf b2 mQ b3 x y hx hy) call108 (fun h1 h2=>ami t s.down on h1 h2) (fun x y h=>by have:=Vh t s.down on x y;omega) eY mq yR sl C2 rfl yP) ⟨ot,ot,trivial⟩ (show([⟨mQ,3,1,[ae (on:Nat)]⟩,⟨b4,54,2,[aJ,ae 0]⟩,⟨b3,34,12,aY s⟩,⟨b2,76,5,cr t⟩]++[⟨bx,3,dW*1,sl.flatMap Tw.cI⟩]:List ag).Perm ((⟨bx,3,dW*1,sl.flatMap Tw.cI⟩::[⟨b2,76,5,cr t⟩,⟨mQ,3,1,[ae (on:Nat)]⟩,⟨b3,34,12,aY s⟩])++[⟨b4,54,2,[aJ,ae 0]⟩]) from(kS fun oq=>by simp only[map_append,map_cons,map_nil,sum_append,sum_cons,sum_nil];omega)) ?_;rintro _ _ ⟨rfl,lz,A4,rfl⟩;have nV:=A4.1.length_eq;refine cg (S':=⟨mQ,3,1,[ae (on:Nat)]⟩::⟨b4,54,2,[aJ,ae 0]⟩::⟨b3,34,12,aY s⟩::⟨b2,76,5,cr t⟩::[⟨bx,3,dW*1,lz.flatMap Tw.cI⟩]) (show((⟨bx,3,dW*1,lz.flatMap Tw.cI⟩::[⟨b2,76,5,cr t⟩,⟨mQ,3,1,[ae (on:Nat)]⟩,⟨b3,34,12,aY s⟩])++[⟨b4,54,2,[aJ,ae 0]⟩]:List ag).Perm _ from(kS fun oq=>by simp only[map_append,map_cons,map_nil,sum_append,sum_cons,sum_nil];omega)) ?_;rw[<-nV]
  refine qN (t:=12) (Sq:=[⟨bx,3,dW*1,lz.flatMap Tw.cI⟩]) lk (cj (by rw[nV];exact eY) mq) (dg Tw.fp _) (dL (A:=[_,_,_,_])) ?_;refine ap 135 [2,3,4,6,12] ?_;refine⟨_,aL,on,lz,oY,(N8 A4),(by first|exact nV|rfl),(fun x hx=>yP x (A4.1.subset hx)),rfl⟩
 rintro _ ⟨on,lz,oY,aaA,nV,aaB,rfl⟩;refine iM [2,3,4,6] (fun aU j4 aE=>∃(E:List Int),(E=wo t s)/\(∀x∈E,gw t x)/\(E.length<=40)/\aE=(⟨135,(12,aj 1 Tw.cI E)::aU,j4⟩:St)) ?_ ?_
 ·refine az 4 ?_;refine cz 80 (fun QA Jq=>?_) (fun QA Jq=>?_)
  ·refine bL [2,3,4,6,12,86] ?_;refine bX ?_ ?_<;>intro iE nJ
   ·have pM:0<=s.iA/\s.iA<lz.length:=⟨Jq,nJ⟩
    refine fW [2,3,4,6,12] ?_;refine aM 3 ?_ (h:=by exact(fw (l:=0) (h:=s.iA.toNat) rfl ot trivial ⟨_,by rw[Int.toNat_of_nonneg pM.1];exact ot⟩ (by exact nC Tw.fp (fun h=>by cases h) runUnderlying27 sizeOf3 w4)));refine bB ?_;refine⟨_,aL,(lz.take s.iA.toNat),(by unfold wo E0;rw[<-oY,Int.toNat_natCast,<-hM,<-aaA,if_pos pM]),(fun x hx=>aaB x (mem_of_mem_take hx)),qD,rfl⟩
   exact aaz
  refine bL [2,3,4,6,12,86] ?_;refine gK ?_;exact aaz
 rintro _ ⟨E,abH,AS,awo,rfl⟩;refine az 3 ?_;refine cD (ds:=[_,_]) au rfl rfl zeroValue54 rfl (fun yM=>?_);refine aN 0 [_,_] sizeOf54 ?_;refine ap 135 [2,3,4,6,12,14] ?_;refine ax [2,4,6,12,14,95] ?_ ?_<;>intro sb CE
 ·have Fk:s.count=true:=sb;have aZ:oe t s=(([[⟨2,((E.length:Nat):Int),⟨#[]⟩⟩]],((E.length:Nat):Int)),0):=(by unfold oe;rw[if_neg ye,if_neg w4,<-hM,if_neg Ls,if_pos Fk,<-abH])
  refine az 3 ?_;refine eR (cU 0 [_]) [.int .i64 0,.int .i64 0,.string ⟨#[]⟩] [_,_,_] zeroValue36 runUnderlying30 sizeOf36 (fun Te=>?_);refine eR (cU 0 [_]) [.slice none 0 0] [_] zeroValue30 runUnderlying46 sizeOf30 (fun abI=>?_);refine aF 1 ?_;refine aN 2 [_,_] sizeOf46 ?_;refine ap 135 [4,14] ?_;refine az 1 ?_;refine aN 4 [_,_] sizeOf54 ?_;refine eA 135 [4,5] [_,_] ?_;rw[aZ];exact⟨[⟨[⟨2,(E.length:Nat),⟨#[]⟩⟩],some ⟨Te,0,none⟩,1,[⟨Te,36,1*3,[⟨2,(E.length:Nat),⟨#[]⟩⟩].flatMap cV⟩]⟩],some ⟨abI,0,none⟩,1,[_],rfl,.inr ⟨abI,rfl,Nat.le_refl _,(show 1<=maxLen by decide),rfl⟩,(fun o ho=>by rw[mem_singleton] at ho;subst ho;exact .inr ⟨Te,rfl,Nat.le_refl _,(show 1<=maxLen by decide),rfl⟩),rfl,rfl⟩
 have Fk:¬s.count=true:=(by rw[sb];decide)
 have aZ:oe t s=((E.map (Ap t acc),((E.length:Nat):Int)),0):=(by unfold oe;rw[if_neg ye,if_neg w4,<-hM,if_neg Ls,if_neg Fk,<-abH,<-wY])
 have abJ:=anM g qI;rw[<-wY] at abJ;have awp:acc.length<=1000:=(by rw[wY];unfold uP;split;(rw[length_map,length_range];omega);(rw[length_map];omega))
 refine ay [2,4,6,14,103,104,105] ?_;refine eZ [2,4,6,14,103,104] (fun aU _ (aR:Nat×List cQ×Option Addr×Nat×List ag) aE=>match aR with|(i,L,eJ,dW,Sx)=>(i<=E.length)/\(L.map cQ.r=(E.take i).map (Ap t acc))/\(∀o∈L,qh o)/\(vu L eJ dW Sx)/\aE=(⟨135,(105,ae (i:Nat))::aU,(⟨yM,54,2,[aS eJ L.length dW,ae (E.length:Nat)]⟩::⟨mQ,3,1,[ae (on:Nat)]⟩::⟨b4,54,2,[aJ,ae 0]⟩::⟨b3,34,12,aY s⟩::⟨b2,76,5,cr t⟩::(Sx++L.flatMap bR))⟩:St)) (fun (aR:Nat×List cQ×Option Addr×Nat×List ag)=>match aR with|(i,L,eJ,dW,Sx)=>E.length-i) (0,([]:List cQ),none,0,[]) ⟨(Nat.zero_le _),rfl,(fun o h=>by cases h),jt,rfl⟩ ?_;rintro⟨i,L,eJ,dW,Sx⟩ _ ⟨hi,hL,bf,eW,rfl⟩;refine ax [2,4,6,14,103,104,105,106] ?_ ?_<;>intro wX Ff
 ·have aa:i<E.length:=(by omega)
  obtain⟨iU,eY,mq⟩:=AS _ (getElem_mem aa);have hx4:=qu (g.row _ eY mq).1;have sD:L.length=i:=(by have:=congrArg length hL;rw[length_map,length_map,length_take] at this;omega)
  refine ay [2,4,6,14,16,103,104,105] ?_;refine cq ?_;refine bL [2,4,6,14,16,17,103,104,105] ?_;refine ay [2,4,6,14,16,17,103,104,105,109,110,111] ?_;refine eZ [2,4,6,14,16,103,104,105,109,110] (fun aU _ (aR:Nat×List Vl×Option Addr×Nat×List ag) aE=>match aR with|(j,I,jC,jD,Sy)=>(j<=acc.length)/\(I=(acc.take j).map fun c=>(rowAt t (E[i]'aa)).getD c.toNat aX)/\(bF 36 3 (I.flatMap cV) I.length jC jD Sy)/\aE=(⟨135,(17,aS jC I.length jD)::(111,ae (j:Nat))::aU,(⟨yM,54,2,[aS eJ L.length dW,ae (E.length:Nat)]⟩::⟨mQ,3,1,[ae (on:Nat)]⟩::⟨b4,54,2,[aJ,ae 0]⟩::⟨b3,34,12,aY s⟩::⟨b2,76,5,cr t⟩::(Sy++(Sx++L.flatMap bR)))⟩:St)) (fun (aR:Nat×List Vl×Option Addr×Nat×List ag)=>match aR with|(j,I,jC,jD,Sy)=>acc.length-j) (0,([]:List Vl),none,0,[]) ⟨(Nat.zero_le _),rfl,jt,rfl⟩ ?_;rintro⟨j,I,jC,jD,Sy⟩ _ ⟨hj,Px,hoy,rfl⟩;refine ax [2,4,6,14,16,17,103,104,105,109,110,111,112] ?_ ?_<;>intro Ka Jp
  ·have jz:j<acc.length:=(by omega)
   obtain⟨abK,awq⟩:=abJ _ (getElem_mem jz);have Tf:(acc[j]'jz).toNat<(t.rows[(E[i]'aa).toNat]'eY).length:=(by omega)
   have anO:(rowAt t (E[i]'aa)).getD (acc[j]'jz).toNat aX=(t.rows[(E[i]'aa).toNat]'eY)[(acc[j]'jz).toNat]:=(by rw[ju eY,getD_eq_getElem?_getD,getElem?_eq_getElem Tf];rfl)
   have awr:I.length=j:=(by rw[Px,length_map,length_take];omega)
   refine ay [2,4,6,14,16,17,19,103,104,105,109,110,111] ?_;refine dB 4 ?_;refine bS (ei 1 (h:=by first|exact .l (j:=(E[i]'aa).toNat) (Int.toNat_of_nonneg iU).symm eY|exact .r (j:=(E[i]'aa).toNat) (Int.toNat_of_nonneg iU).symm eY)) ?_;refine aF 2 ?_;refine bS (ei 3 (h:=by first|exact .l (j:=(acc[j]'jz).toNat) (Int.toNat_of_nonneg abK).symm Tf|exact .r (j:=(acc[j]'jz).toNat) (Int.toNat_of_nonneg abK).symm Tf)) ?_;refine aF 1 ?_;refine eR (cU 0 [_]) [.int .i64 0,.int .i64 0,.string ⟨#[]⟩] [_,_,_] zeroValue36 runUnderlying30 sizeOf36 (fun aws=>?_);refine gb 0 124 3 1 ?_;refine gi (ls:=I) (new:=[(t.rows[(E[i]'aa).toNat]'eY)[(acc[j]'jz).toNat]]) (Sq:=Sy) fX I1 au rfl rfl underlying30 aga rfl w7 ot hoy (MU (A:=[_,_,_,_,_])) ot bC pI pJ (fun QU Py anP anQ=>?_);refine cg (VO (S1:=[⟨QU,36,Py*3,flatMap cV (I++[(t.rows[(E[i]'aa).toNat]'eY)[(acc[j]'jz).toNat]])⟩]) (A:=[_,_,_,_,_])) ?_;refine ap 135 [2,4,6,14,16,17,103,104,105,109,110,111] ?_;refine bM [2,4,6,14,16,17,103,104,105,109,110,111] ?_;refine⟨((j+1),(I++[(t.rows[(E[i]'aa).toNat]'eY)[(acc[j]'jz).toNat]]),(some ⟨QU,0,none⟩),Py,[⟨QU,36,Py*3,flatMap cV (I++[(t.rows[(E[i]'aa).toNat]'eY)[(acc[j]'jz).toNat]])⟩]),_,cR,aL,w4,(by rw[Px,<-anO,<-sH jz,map_append];rfl),(cj anP anQ),rfl⟩
  have yC:(L++[(⟨I,jC,jD,Sy⟩:cQ)]).map cQ.r=(E.take (i+1)).map (Ap t acc):=(by rw[map_append,hL,<-sH aa,map_append];congr 1;show[I]=[Ap t acc (E[i]'aa)];rw[Px,take_of_length_le w4];rfl)
  have lH:∀o∈L++[(⟨I,jC,jD,Sy⟩:cQ)],qh o:=fun o ho=>by rcases mem_append.1 ho with ho|ho;exact bf o ho;rw[mem_singleton] at ho;subst ho;exact hoy
  refine dB 3 ?_;refine eR (cU 0 [_]) [.slice none 0 0] [_] zeroValue30 runUnderlying46 sizeOf30 (fun awt=>?_);refine gb 0 130 1 1 ?_;refine gi (ls:=L) (new:=[(⟨I,jC,jD,Sy⟩:cQ)]) (Sq:=Sx) En Y8 au rfl rfl underlying46 af9 rfl w7 ot eW (vT (A:=[_,_,_,_,_])) ot bC pI pJ (fun Km Jy anR anS=>?_);refine cg (ze (S2:=[⟨Km,30,Jy*1,flatMap gR (L++[(⟨I,jC,jD,Sy⟩:cQ)])⟩]) (A:=[_,_,_,_,_])) ?_;refine cg (S':=⟨yM,54,2,[aS eJ L.length dW,ae (E.length:Nat)]⟩::⟨mQ,3,1,[ae (on:Nat)]⟩::⟨b4,54,2,[aJ,ae 0]⟩::⟨b3,34,12,aY s⟩::⟨b2,76,5,cr t⟩::([⟨Km,30,Jy*1,flatMap gR (L++[(⟨I,jC,jD,Sy⟩:cQ)])⟩]++(L++[(⟨I,jC,jD,Sy⟩:cQ)]).flatMap bR)) (kS fun oq=>by simp only[map_append,map_cons,map_nil,sum_append,sum_cons,sum_nil,anN];omega) ?_;refine aF 1 ?_;refine aN 0 [_,_] sizeOf46 ?_;refine ap 135 [2,4,6,14,103,104,105] ?_;refine bM [2,4,6,14,103,104,105] ?_;refine⟨((i+1),(L++[(⟨I,jC,jD,Sy⟩:cQ)]),(some ⟨Km,0,none⟩),Jy,[⟨Km,30,Jy*1,flatMap gR (L++[(⟨I,jC,jD,Sy⟩:cQ)])⟩]),_,cR,aL,w4,yC,lH,(cj anR anS),rfl⟩
 have tK:L.map cQ.r=E.map (Ap t acc):=(by rw[hL,take_of_length_le w4])
 refine az 1 ?_;refine aN 2 [_,_] sizeOf54 ?_;refine eA 135 [4,5] (Sx++L.flatMap bR) ?_;rw[aZ];exact⟨L,eJ,dW,Sx,rfl,eW,bf,tK,rfl⟩
abbrev jh(bo:Nat)(ad:Option Addr)(n cap:Nat):ag:=⟨bo,25,1,[aS ad n cap]⟩
def iN(s:aT):aA:=⟨s.table,s.an,[],nc⟩
def Ar(s:aT):bu:=⟨iN s,[],none,0,[],[]⟩
theorem akV(s:aT):sE (Ar s):=⟨[],rfl,rfl,(fun o h=>by cases h),rfl,jt⟩
def sG(l:List aA)(s:aT):List aA×Int:=if 0<=aC l s.table then (l,9) else if l.length=4 then (l,10) else (l++[iN s],0)
def Jz(l:List aA)(bo:Nat)(S:List ag):Prop:=∃(L:List bu) (ad:Option Addr) (cap:Nat) (Sx:List ag),Ao L ad cap Sx/\(∀o∈L,okW o)/\L.map bu.t=l/\S.Perm (jh bo ad L.length cap::(Sx++L.flatMap bT))
theorem agb:(Tryz.prog.info? 76).map (fun i=>(i.zero,i.size,i.bytes))=some (some (.agg #[.string ⟨#[]⟩,.slice none 0 0,.slice none 0 0,.slice none 0 0,.int .i64 0]),5,96):=by kernel_rfl
theorem ahw(L:List bu)(bf:∀o∈L,sE o)(hL:L.length<=4)(s:aT)(fP:s.an.length<=1000)(Z:Nat)(ad:Option Addr)(cap:Nat)(Sx:List ag)(fQ:Ao L ad cap Sx):VC Tryz.prog G 63 [dw Z,.agg (aY s)] (jh Z ad L.length cap::(Sx++L.flatMap bT)) (fun r S=>r=ae (sG (L.map bu.t) s).2/\((sG (L.map bu.t) s).2=0->Jz (sG (L.map bu.t) s).1 Z S)):=by
 refine bA func63 rfl ntmps63 aO fun X0 w0 bz=>?_;have dy:=ee;have x6:=fun o ho=>(bf o ho).w;have gj:=sQ (G:=G) (L.map bu.t) JL s.table
 (first|rw[length_map] at gj|(unfold aj at gj;rw[length_map] at gj))
 unfold aY;refine cq ?_;refine dm [_,_,_,_,_,_,_,_,_,_,_,_] (fun b3=>?_);refine ap 37 [0,3] ?_;refine cJ [0,3,5] ?_;refine oD 6 ?_;refine CB (gj) (ha:=ZW) (K:=?_);refine bB ?_;refine bX ?_ ?_<;>intro aP bH
 ·have h0:0<=aC (L.map bu.t) s.table:=(by simpa using aP)
  have aZ:sG (L.map bu.t) s=(L.map bu.t,9):=if_pos h0;refine ay [4] ?_;exact KI
 have h0:¬0<=aC (L.map bu.t) s.table:=(by simpa using aP)
 refine ax [0,3,14] ?_ ?_<;>intro bg cM
 ·have h4:L.length=4:=(by have:=bg;simp at this;omega)
  have aZ:sG (L.map bu.t) s=(L.map bu.t,10):=(by unfold sG;rw[if_neg h0,if_pos (by rw[length_map];exact h4)])
  refine ay [4] ?_;exact KI
 have h4:¬L.length=4:=(by have:=bg;simp at this;omega)
 have aZ:sG (L.map bu.t) s=(L.map bu.t++[iN s],0):=(by unfold sG;rw[if_neg h0,if_neg (by rw[length_map];exact h4)])
 have rf:=al3 (G:=G);refine eI ?_;refine cL ?_;refine nj 13 [21,25,33] ?_;refine cA (Vb s.an w4) ?_;refine cA (rf) ?_;refine bB ?_;refine gi (ls:=L) (new:=[Ar s]) (Sq:=Sx) xK Y9 au rfl rfl underlying23 agb rfl w7 ot fQ (qO (A:=[_,_])) ot bC pI pJ (fun I E O U=>?_);refine cg (lP (S1:=[⟨I,76,E*5,flatMap gT (L++[Ar s])⟩]) (A:=[_,_])) ?_;refine aF 2 ?_;refine aN 1 [_] sizeOf23 ?_;refine ap 37 [] ?_;refine dS [4] (⟨Z,25,1,[_]⟩::([⟨I,76,E*5,flatMap gT (L++[Ar s])⟩]++L.flatMap bT)) ?_;rw[aZ];exact⟨rfl,fun _=>⟨L++[Ar s],some ⟨I,0,none⟩,E,[⟨I,76,E*5,flatMap gT (L++[Ar s])⟩],cj O U,(fun o ho=>by rcases mem_append.1 ho with ho|ho;exact x6 o ho;rw[mem_singleton] at ho;subst ho;exact(akV s).w),by rw[map_append];rfl,by rw[Ye,show bT (Ar s)=[] from rfl,append_nil]⟩⟩
noncomputable def gz(l:List aA)(s:aT):List aA×((List (List Vl)×Int)×Int) :=
 if s.kind=1 then ((sG l s).1,(([],0),(sG l s).2))
 else if aC l s.table<0 then (l,(([],0),8))
 else if s.kind=3 then (l.set (aC l s.table).toNat (iB (l.getD (aC l s.table).toNat (iN s)) s.row).1,(([],1),(iB (l.getD (aC l s.table).toNat (iN s)) s.row).2))
 else if s.kind=4 then (l,oe (l.getD (aC l s.table).toNat (iN s)) s)
 else if s.kind=5 then (l.set (aC l s.table).toNat (jb (l.getD (aC l s.table).toNat (iN s)) s).1,(([],(jb (l.getD (aC l s.table).toNat (iN s)) s).2.1),(jb (l.getD (aC l s.table).toNat (iN s)) s).2.2))
 else (l.set (aC l s.table).toNat (n9 (l.getD (aC l s.table).toNat (iN s)) s.ah).1,(([],(n9 (l.getD (aC l s.table).toNat (iN s)) s.ah).2.1),(n9 (l.getD (aC l s.table).toNat (iN s)) s.ah).2.2))
theorem Ui:∀(c:List D) {S:List ag},iO S c c
 | [],_=>trivial
 | _::c,_=>⟨fN,Ui c⟩
theorem ajo(L:List bu)(h:i<L.length):L.flatMap gT=(L.take i).flatMap gT++(gT L[i]++(L.drop (i+1)).flatMap gT):=by
 conv=>lhs;rw[<-take_append_drop i L,drop_eq_getElem_cons h]
 rw[flatMap_append,flatMap_cons]
theorem amo(L:List bu)(h:i<L.length)(o:bu):(L.set i o).flatMap gT=(L.take i).flatMap gT++(gT o++(L.drop (i+1)).flatMap gT):=by
 rw[set_eq_take_append_cons_drop,if_pos h,flatMap_append,flatMap_cons]
theorem OQ(f:ag->Nat):∀(L:List bu) (i:Nat) (o:bu) (h:i<L.length),(((L.set i o).flatMap bT).map f).sum=((bT o).map f).sum+(((L.eraseIdx i).flatMap bT).map f).sum
 | [],_,_,h=>absurd h (Nat.not_lt_zero _)
 | x::L,0,o,_=>by simp
 | x::L,i+1,o,h=>by
  have:=OQ f L i o (Nat.lt_of_succ_lt_succ h);simp only[set_cons_succ,flatMap_cons,map_append,sum_append,eraseIdx_cons_succ,this];omega
theorem MH{A:List ag}{L:List bu}{bx z:Nat}(h:i<L.length):(A++([(⟨bx,76,z,L.flatMap gT⟩:ag)]++L.flatMap bT)).Perm (A++((⟨bx,76,z,(L.take i).flatMap gT++(gT L[i]++(L.drop (i+1)).flatMap gT)⟩:ag)::(bT L[i]++(L.eraseIdx i).flatMap bT))):=by
 rw[<-ajo L h];exact kS fun f=>by
  have:=OQ f L i L[i] h;rw[set_getElem_self] at this;simp only[map_cons,sum_cons,map_append,sum_append,map_nil,sum_nil,this];omega
theorem Od{L:List bu}{bx E:Nat}(h:i<L.length)(h1:L.length<=cap)(h2:cap<=maxLen)(bf:∀o∈L,okW o){o:bu}(ho:okW o)(hS:S.Perm (jh E (some ⟨bx,0,none⟩) L.length cap::((⟨bx,76,cap*5,(L.take i).flatMap gT++(gT o++(L.drop (i+1)).flatMap gT)⟩::bT o)++(L.eraseIdx i).flatMap bT))):Jz ((L.map bu.t).set i o.t) E S:=by
 refine⟨L.set i o,some ⟨bx,0,none⟩,cap,[⟨bx,76,cap*5,(L.set i o).flatMap gT⟩],cj (by rw[length_set];exact h1) h2,fun x hx=>?_,by rw[map_set],?_⟩
 ·rcases mem_or_eq_of_mem_set hx with hx|hx
  ·exact bf x hx
  rw[hx];exact ho
 rw[length_set,amo L h];refine hS.trans (kS fun f=>?_);have:=OQ f L i o h;simp only[map_cons,sum_cons,map_append,sum_append,map_nil,sum_nil,this];omega
theorem Yq(h:yl t ad cap E):okW ⟨t,t.rows.flatMap eX,ad,cap,E,[]⟩:=⟨h,fun S _=>Ui _⟩
theorem ajp(h:Ki t L ad cap E):okW ⟨t,L.flatMap gR,ad,cap,E,L.flatMap bR⟩:=sE.w ⟨L,rfl,rfl,h.2.1,h.1,h.2.2⟩
theorem Uj{o:bu}(h:sE o):∃U,yl o.t o.ad o.cap U/\∀(n:Nat) (env:List (Nat×D)) (A R:List ag),Wk ⟨n,env,A++(bT o++R)⟩ ⟨n,env,A++(U++R)⟩:=by
 obtain⟨L,h1,h2,h3,h4,h5⟩:=h;have hv:=IF (S:=L.flatMap bR) h3 (fun B h=>h);have E:L.length=o.t.rows.length:=(by rw[<-h4];(first|rw[length_map]|(unfold aj;rw[length_map])))
 rcases h5 with ⟨e1,e2,I,O,Z⟩|⟨b,e1,e2,I,O⟩
 ·have hL:L=[]:=length_eq_zero_iff.1 e1;subst hL;have hr:o.t.rows=[]:=(by rw[<-h4];rfl)
  refine⟨[],.inl ⟨by rw[hr];rfl,by rw[hr];rfl,I,O,rfl⟩,fun n env A R=>?_⟩;have hb:bT o=[]:=(by unfold bT;rw[Z,h2];rfl)
  rw[hb];exact Wk.refl _
 refine⟨[⟨b,30,o.cap*1,o.t.rows.flatMap eX⟩],.inr ⟨b,e1,by rw[<-E];exact e2,I,rfl⟩,fun n env A R=>?_⟩;have hb:bT o=⟨b,30,o.cap*1,L.flatMap gR⟩::L.flatMap bR:=(by unfold bT;rw[O,h2];rfl)
 rw[hb,<-h4];have hc:=Wk.cover (n:=n) (l:=env) (S:=A++((⟨b,30,o.cap*1,L.flatMap gR⟩::L.flatMap bR)++R)) (A:=⟨b,30,o.cap*1,L.flatMap gR⟩) (R:=A++R) (Sd:=L.flatMap bR) (cs':=(L.map cQ.r).flatMap eX) (kS fun f=>by simp only[map_cons,sum_cons,map_append,sum_append,map_nil,sum_nil];omega) hv;refine hc.trans (Wk.perm (kS fun f=>by simp only[map_cons,sum_cons,map_append,sum_append,map_nil,sum_nil];omega))
theorem amq(hm:(3,marksC)∈G)(hw:(1,wordsC)∈G)(ht:(0,typesC)∈G)(hG:(2,[Value.int .i64 m])∈G)(L:List bu)(bf:∀o∈L,sE o)(hL:L.length<=4)(hg:∀o∈L,∃n,n<=260/\dN o.t n)(s:aT)(fD:¬s.kind=2)(fP:s.an.length<=1000)(wZ:s.row.length<=1000)(QB:∀v∈s.row,v.Ok)(vO:s.names.length<=1000)(ho:∀o∈s.ah,o.nm.size<=maxLen)(gM:∀o∈s.ah,o.v.Ok)(tJ:∀o∈s.bG,o.nm.size<=maxLen)(Kk:∀o∈s.bG,o.v.Ok)(E:Nat)(ad:Option Addr)(cap:Nat)(Sx:List ag)(fQ:Ao L ad cap Sx):VC Tryz.prog G 39 [dw E,.agg (aY s)] (jh E ad L.length cap::(Sx++L.flatMap bT)) (fun r S=>r=Dp (gz (L.map bu.t) s).2/\((gz (L.map bu.t) s).2.2=0->Jz (gz (L.map bu.t) s).1 E S)):=by
 refine bA func39 rfl ntmps39 aO fun X0 w0 bz=>?_;have dy:=ee;have x6:=fun o ho=>(bf o ho).w;have gj:=sQ (G:=G) (L.map bu.t) JL s.table
 (first|rw[length_map] at gj|(unfold aj at gj;rw[length_map] at gj))
 have nO:=vX (fun t:aA=>t.nm.toList==s.table.toList) (L.map bu.t);rw[show dD (fun t:aA=>t.nm.toList==s.table.toList) (L.map bu.t)=(aC (L.map bu.t) s.table) from rfl,length_map] at nO;refine cq ?_;refine dm [_,_,_,_,_,_,_,_,_,_,_,_] (fun b3=>?_);refine cD (ds:=[_,_]) au rfl rfl zeroValue54 rfl (fun b4=>?_);refine aF 1 ?_;first|refine mT (k:=0) (cs':=[.list 1 [] 0,_]) rfl ⟨bQ,aH,trivial⟩ rfl ?_|skip
 refine ap 87 [0,3,4] ?_;refine ax [0,3,4,14] ?_ ?_<;>intro aP bH
 ·have eK:s.kind=1:=(by simpa using aP)
  have aZ:gz (L.map bu.t) s=((sG (L.map bu.t) s).1,(([],0),(sG (L.map bu.t) s).2)):=(by unfold gz;rw[if_pos eK])
  refine az 3 ?_;refine eH (Sf:=jh E ad L.length cap::(Sx++L.flatMap bT)) (R:=[⟨b4,54,2,[.list 1 [] 0,ae 0]⟩,⟨b3,34,12,aY s⟩]) au rfl rfl rfl call63 (ahw L bf hL s fP E ad cap Sx fQ) ⟨ot,ot,trivial⟩ (show(⟨b4,54,2,[.list 1 [] 0,ae 0]⟩::⟨b3,34,12,aY s⟩::jh E ad L.length cap::(Sx++L.flatMap bT):List ag).Perm (jh E ad L.length cap::(Sx++L.flatMap bT)++[⟨b4,54,2,[.list 1 [] 0,ae 0]⟩,⟨b3,34,12,aY s⟩]) from(kS fun oq=>by simp only[map_append,map_cons,map_nil,sum_append,sum_cons,sum_nil];omega)) ?_;rintro _ I ⟨rfl,h9⟩;refine cg (S':=⟨b4,54,2,[.list 1 [] 0,ae 0]⟩::⟨b3,34,12,aY s⟩::I) (show(I++[⟨b4,54,2,[.list 1 [] 0,ae 0]⟩,⟨b3,34,12,aY s⟩]:List ag).Perm _ from(kS fun oq=>by simp only[map_append,map_cons,map_nil,sum_append,sum_cons,sum_nil];omega)) ?_;refine aN 0 [_,_] sizeOf54 ?_;refine aF 1 ?_;first|refine mT (k:=0) (cs':=[.list 1 [] 0,_]) rfl ⟨bQ,aH,trivial⟩ rfl ?_|skip
  refine eA 87 [4,5] I ?_;rw[aZ];exact⟨rfl,fun h=>h9 h⟩
 have eK:¬s.kind=1:=(by simpa using aP)
 refine cJ [0,3,4,6] ?_;refine oD 6 ?_;refine CB (gj) (ha:=ZW) (K:=?_);refine bB ?_;refine ax [0,3,4,6,27] ?_ ?_<;>intro bg cM
 ·have h0:(aC (L.map bu.t) s.table)<0:=(by simpa using bg)
  have aZ:gz (L.map bu.t) s=(L.map bu.t,(([],0),8)):=(by unfold gz;rw[if_neg eK,if_pos h0])
  refine az 1 ?_;refine aN 0 [_,_] sizeOf54 ?_;refine aF 1 ?_;first|refine mT (k:=0) (cs':=[.list 1 [] 0,_]) rfl ⟨bQ,aH,trivial⟩ rfl ?_|skip
  refine ap 87 [4,5] ?_;exact KI
 have h0:¬(aC (L.map bu.t) s.table)<0:=(by simpa using bg)
 have bp:(aC (L.map bu.t) s.table).toNat<L.length:=(by omega)
 obtain⟨bx,rfl,iI,jT,rfl⟩:=fQ.pos w4;have jm:(L.map bu.t).getD (aC (L.map bu.t) s.table).toNat (iN s)=(L[(aC (L.map bu.t) s.table).toNat]'bp).t:=(by rw[getD_eq_getElem?_getD,getElem?_map,getElem?_eq_getElem bp];rfl)
 refine cJ [0,3,4,6,7] ?_;refine aM 5 ?_ (h:=by exact(ei 5 (h:=by first|exact .l (j:=(aC (L.map bu.t) s.table).toNat) (Int.toNat_of_nonneg w4).symm bp|exact .r (j:=(aC (L.map bu.t) s.table).toNat) (Int.toNat_of_nonneg w4).symm bp)));refine bB ?_;refine ay [0,3,4,6,7,36] ?_;refine ax [0,3,4,6,7,36,37] ?_ ?_<;>intro cl di
 ·exact absurd cl (by exact absurd (by simpa using cl) fD)
 refine ax [3,4,7,36,51] ?_ ?_<;>intro da eP
 ·have gX:s.kind=3:=(by simpa using da)
  have aZ:gz (L.map bu.t) s=((L.map bu.t).set (aC (L.map bu.t) s.table).toNat (iB (L[(aC (L.map bu.t) s.table).toNat]'bp).t s.row).1,(([],1),(iB (L[(aC (L.map bu.t) s.table).toNat]'bp).t s.row).2)):=(by unfold gz;rw[jm,if_neg eK,if_neg h0,if_pos gX])
  obtain⟨n,hn,g⟩:=hg (L[(aC (L.map bu.t) s.table).toNat]'bp) (getElem_mem bp);obtain⟨U,Z,kQ⟩:=Uj (bf (L[(aC (L.map bu.t) s.table).toNat]'bp) (getElem_mem bp));refine rE (MH (A:=[_,_,_]) bp) ?_;refine kX (kQ _ _ [_,_,_,_] _) ?_;refine az 4 ?_
  refine eH (Sf:=(⟨bx,76,cap*5,(L.take (aC (L.map bu.t) s.table).toNat).flatMap gT++(gT (L[(aC (L.map bu.t) s.table).toNat]'bp)++(L.drop ((aC (L.map bu.t) s.table).toNat+1)).flatMap gT)⟩:ag)::U) (R:=⟨b4,54,2,[.list 1 [] 0,ae 0]⟩::⟨b3,34,12,aY s⟩::jh E (some ⟨bx,0,none⟩) L.length cap::((L.eraseIdx (aC (L.map bu.t) s.table).toNat).flatMap bT)) au rfl rfl rfl call65 (MC hm hw ht hG (L[(aC (L.map bu.t) s.table).toNat]'bp).t g w4 s.row wZ QB bx (0+(aC (L.map bu.t) s.table).toNat*5) (cap*5) ((L.take (aC (L.map bu.t) s.table).toNat).flatMap gT) ((L.drop ((aC (L.map bu.t) s.table).toNat+1)).flatMap gT) PZ (L[(aC (L.map bu.t) s.table).toNat]'bp).ad (L[(aC (L.map bu.t) s.table).toNat]'bp).cap U Z) ⟨ot,ot,trivial⟩ (show(⟨b4,54,2,[.list 1 [] 0,ae 0]⟩::⟨b3,34,12,aY s⟩::jh E (some ⟨bx,0,none⟩) L.length cap::(⟨bx,76,cap*5,(L.take (aC (L.map bu.t) s.table).toNat).flatMap gT++(gT (L[(aC (L.map bu.t) s.table).toNat]'bp)++(L.drop ((aC (L.map bu.t) s.table).toNat+1)).flatMap gT)⟩:ag)::(U++(L.eraseIdx (aC (L.map bu.t) s.table).toNat).flatMap bT):List ag).Perm (((⟨bx,76,cap*5,(L.take (aC (L.map bu.t) s.table).toNat).flatMap gT++(gT (L[(aC (L.map bu.t) s.table).toNat]'bp)++(L.drop ((aC (L.map bu.t) s.table).toNat+1)).flatMap gT)⟩:ag)::U)++(⟨b4,54,2,[.list 1 [] 0,ae 0]⟩::⟨b3,34,12,aY s⟩::jh E (some ⟨bx,0,none⟩) L.length cap::((L.eraseIdx (aC (L.map bu.t) s.table).toNat).flatMap bT))) from(kS fun oq=>by simp only[map_append,map_cons,map_nil,sum_append,sum_cons,sum_nil];omega)) ?_
  rintro _ I ⟨rfl,h9⟩;refine cg (S':=⟨b4,54,2,[.list 1 [] 0,ae 0]⟩::⟨b3,34,12,aY s⟩::jh E (some ⟨bx,0,none⟩) L.length cap::(I++(L.eraseIdx (aC (L.map bu.t) s.table).toNat).flatMap bT)) (show(I++(⟨b4,54,2,[.list 1 [] 0,ae 0]⟩::⟨b3,34,12,aY s⟩::jh E (some ⟨bx,0,none⟩) L.length cap::((L.eraseIdx (aC (L.map bu.t) s.table).toNat).flatMap bT)):List ag).Perm _ from(kS fun oq=>by simp only[map_append,map_cons,map_nil,sum_append,sum_cons,sum_nil];omega)) ?_;refine aN 0 [_,_] sizeOf54 ?_;refine aF 1 ?_;first|refine mT (k:=0) (cs':=[.list 1 [] 0,_]) rfl ⟨bQ,aH,trivial⟩ rfl ?_|skip
  refine eA 87 [4,5] (jh E (some ⟨bx,0,none⟩) L.length cap::(I++(L.eraseIdx (aC (L.map bu.t) s.table).toNat).flatMap bT)) ?_;rw[aZ];refine⟨rfl,fun h=>?_⟩;obtain⟨iF,bj,rY,O,rfl⟩:=h9 h;exact Od bp iI jT x6 (Yq O) aak
 have gX:¬s.kind=3:=(by simpa using da)
 refine ax [3,4,7,36,58] ?_ ?_<;>intro eo fR
 ·have jS:s.kind=4:=(by simpa using eo)
  have aZ:gz (L.map bu.t) s=(L.map bu.t,(oe (L[(aC (L.map bu.t) s.table).toNat]'bp).t s)):=(by unfold gz;rw[jm,if_neg eK,if_neg h0,if_neg gX,if_pos jS])
  obtain⟨n,hn,g⟩:=hg (L[(aC (L.map bu.t) s.table).toNat]'bp) (getElem_mem bp);refine cL ?_;refine nj 7 [4,65,66] ?_;refine aM 2 ?_ (h:=by exact(ez (mk:=Op.load 76) rfl ot (dM (k:=3) (i:=(aC (L.map bu.t) s.table).toNat) (ls:=L) xK rfl rfl rfl isAgg76 sizeOf76 bp)));refine oD 1 ?_;refine CA (akU hm hw ht hG (L[(aC (L.map bu.t) s.table).toNat]'bp).t g s vO ho gM) (fun r S h=>h.flat) (fun r S h=>(by have h9:=h.view;unfold Dp at h9;exact h9)) (ha:=by exact⟨⟨_,ot,(Yb (x6 _ (getElem_mem bp)) (fun B hB=>by have h9:=mem_flatMap.2 ⟨_,getElem_mem bp,hB⟩;repeat (first|exact h9|apply mem_append_right|apply mem_cons_of_mem)):View _ (.agg (gT (L[(aC (L.map bu.t) s.table).toNat]'bp))) _)⟩,⟨_,ot,fN⟩,trivial⟩) (K:=?_);refine bB ?_;refine aN 0 [_,_] sizeOf54 ?_;refine aF 1 ?_;first|refine mT (k:=0) (cs':=[.list 1 [] 0,_]) rfl ⟨bQ,aH,trivial⟩ rfl ?_|skip
  refine eA 87 [4,5] (jh E (some ⟨bx,0,none⟩) L.length cap::([⟨bx,76,cap*5,L.flatMap gT⟩]++L.flatMap bT)) ?_;rw[aZ];exact⟨rfl,fun _=>⟨L,_,cap,_,fQ,x6,rfl,Perm.refl _⟩⟩
 have jS:¬s.kind=4:=(by simpa using eo)
 refine ax [3,4,7,67] ?_ ?_<;>intro fH ik
 ·have qg:s.kind=5:=(by simpa using fH)
  have aZ:gz (L.map bu.t) s=((L.map bu.t).set (aC (L.map bu.t) s.table).toNat (jb (L[(aC (L.map bu.t) s.table).toNat]'bp).t s).1,(([],(jb (L[(aC (L.map bu.t) s.table).toNat]'bp).t s).2.1),(jb (L[(aC (L.map bu.t) s.table).toNat]'bp).t s).2.2)):=(by unfold gz;rw[jm,if_neg eK,if_neg h0,if_neg gX,if_neg jS,if_pos qg])
  obtain⟨n,hn,g⟩:=hg (L[(aC (L.map bu.t) s.table).toNat]'bp) (getElem_mem bp);obtain⟨LR,q1,q2,q3,q4,q5⟩:=bf (L[(aC (L.map bu.t) s.table).toNat]'bp) (getElem_mem bp);refine rE (MH (A:=[_,_,_]) bp) ?_;refine az 2 ?_
  refine eH (Sf:=(⟨bx,76,cap*5,(L.take (aC (L.map bu.t) s.table).toNat).flatMap gT++(gT (L[(aC (L.map bu.t) s.table).toNat]'bp)++(L.drop ((aC (L.map bu.t) s.table).toNat+1)).flatMap gT)⟩:ag)::((L[(aC (L.map bu.t) s.table).toNat]'bp).sr++LR.flatMap bR)) (R:=⟨b4,54,2,[.list 1 [] 0,ae 0]⟩::⟨b3,34,12,aY s⟩::jh E (some ⟨bx,0,none⟩) L.length cap::((L.eraseIdx (aC (L.map bu.t) s.table).toNat).flatMap bT)) au rfl rfl rfl call67 (ahv hm hw ht hG (L[(aC (L.map bu.t) s.table).toNat]'bp).t g s ho gM tJ Kk hn bx (0+(aC (L.map bu.t) s.table).toNat*5) (cap*5) ((L.take (aC (L.map bu.t) s.table).toNat).flatMap gT) ((L.drop ((aC (L.map bu.t) s.table).toNat+1)).flatMap gT) PZ LR (L[(aC (L.map bu.t) s.table).toNat]'bp).ad (L[(aC (L.map bu.t) s.table).toNat]'bp).cap (L[(aC (L.map bu.t) s.table).toNat]'bp).sr q4 q3 q5) ⟨ot,ot,trivial⟩ (show(⟨b4,54,2,[.list 1 [] 0,ae 0]⟩::⟨b3,34,12,aY s⟩::jh E (some ⟨bx,0,none⟩) L.length cap::(⟨bx,76,cap*5,(L.take (aC (L.map bu.t) s.table).toNat).flatMap gT++(gT (L[(aC (L.map bu.t) s.table).toNat]'bp)++(L.drop ((aC (L.map bu.t) s.table).toNat+1)).flatMap gT)⟩:ag)::((bT (L[(aC (L.map bu.t) s.table).toNat]'bp))++(L.eraseIdx (aC (L.map bu.t) s.table).toNat).flatMap bT):List ag).Perm (((⟨bx,76,cap*5,(L.take (aC (L.map bu.t) s.table).toNat).flatMap gT++(gT (L[(aC (L.map bu.t) s.table).toNat]'bp)++(L.drop ((aC (L.map bu.t) s.table).toNat+1)).flatMap gT)⟩:ag)::((L[(aC (L.map bu.t) s.table).toNat]'bp).sr++LR.flatMap bR))++(⟨b4,54,2,[.list 1 [] 0,ae 0]⟩::⟨b3,34,12,aY s⟩::jh E (some ⟨bx,0,none⟩) L.length cap::((L.eraseIdx (aC (L.map bu.t) s.table).toNat).flatMap bT))) from by rw[show bT (L[(aC (L.map bu.t) s.table).toNat]'bp)=((L[(aC (L.map bu.t) s.table).toNat]'bp).sr++LR.flatMap bR) from by unfold bT;rw[q2]];exact(kS fun oq=>by simp only[map_append,map_cons,map_nil,sum_append,sum_cons,sum_nil];omega)) ?_
  rintro _ I ⟨rfl,h9⟩;refine cg (S':=⟨b4,54,2,[.list 1 [] 0,ae 0]⟩::⟨b3,34,12,aY s⟩::jh E (some ⟨bx,0,none⟩) L.length cap::(I++(L.eraseIdx (aC (L.map bu.t) s.table).toNat).flatMap bT)) (show(I++(⟨b4,54,2,[.list 1 [] 0,ae 0]⟩::⟨b3,34,12,aY s⟩::jh E (some ⟨bx,0,none⟩) L.length cap::((L.eraseIdx (aC (L.map bu.t) s.table).toNat).flatMap bT)):List ag).Perm _ from(kS fun oq=>by simp only[map_append,map_cons,map_nil,sum_append,sum_cons,sum_nil];omega)) ?_;refine ap 87 [4,8,9] ?_;refine az 3 ?_;refine aN 0 [_,_] sizeOf54 ?_;refine aF 1 ?_;first|refine mT (k:=0) (cs':=[.list 1 [] 0,_]) rfl ⟨bQ,aH,trivial⟩ rfl ?_|skip
  refine eA 87 [4,5] (jh E (some ⟨bx,0,none⟩) L.length cap::(I++(L.eraseIdx (aC (L.map bu.t) s.table).toNat).flatMap bT)) ?_;rw[aZ];refine⟨rfl,fun h=>?_⟩;obtain⟨L',iF,bj,rY,aqL,rfl⟩:=h9 h;exact Od bp iI jT x6 (ajp aqL) (Perm.refl _)
 have qg:¬s.kind=5:=(by simpa using fH)
 have aZ:gz (L.map bu.t) s=((L.map bu.t).set (aC (L.map bu.t) s.table).toNat (n9 (L[(aC (L.map bu.t) s.table).toNat]'bp).t s.ah).1,(([],(n9 (L[(aC (L.map bu.t) s.table).toNat]'bp).t s.ah).2.1),(n9 (L[(aC (L.map bu.t) s.table).toNat]'bp).t s.ah).2.2)):=(by unfold gz;rw[jm,if_neg eK,if_neg h0,if_neg gX,if_neg jS,if_neg qg])
 obtain⟨n,hn,g⟩:=hg (L[(aC (L.map bu.t) s.table).toNat]'bp) (getElem_mem bp);obtain⟨U,Z,kQ⟩:=Uj (bf (L[(aC (L.map bu.t) s.table).toNat]'bp) (getElem_mem bp));refine rE (MH (A:=[_,_,_]) bp) ?_;refine kX (kQ _ _ [_,_,_,_] _) ?_;refine az 2 ?_
 refine eH (Sf:=(⟨bx,76,cap*5,(L.take (aC (L.map bu.t) s.table).toNat).flatMap gT++(gT (L[(aC (L.map bu.t) s.table).toNat]'bp)++(L.drop ((aC (L.map bu.t) s.table).toNat+1)).flatMap gT)⟩:ag)::U) (R:=⟨b4,54,2,[.list 1 [] 0,ae 0]⟩::⟨b3,34,12,aY s⟩::jh E (some ⟨bx,0,none⟩) L.length cap::((L.eraseIdx (aC (L.map bu.t) s.table).toNat).flatMap bT)) au rfl rfl rfl call68 (ahs hm hw ht hG (L[(aC (L.map bu.t) s.table).toNat]'bp).t g s ho gM bx (0+(aC (L.map bu.t) s.table).toNat*5) (cap*5) ((L.take (aC (L.map bu.t) s.table).toNat).flatMap gT) ((L.drop ((aC (L.map bu.t) s.table).toNat+1)).flatMap gT) PZ (L[(aC (L.map bu.t) s.table).toNat]'bp).ad (L[(aC (L.map bu.t) s.table).toNat]'bp).cap U Z) ⟨ot,ot,trivial⟩ (show(⟨b4,54,2,[.list 1 [] 0,ae 0]⟩::⟨b3,34,12,aY s⟩::jh E (some ⟨bx,0,none⟩) L.length cap::(⟨bx,76,cap*5,(L.take (aC (L.map bu.t) s.table).toNat).flatMap gT++(gT (L[(aC (L.map bu.t) s.table).toNat]'bp)++(L.drop ((aC (L.map bu.t) s.table).toNat+1)).flatMap gT)⟩:ag)::(U++(L.eraseIdx (aC (L.map bu.t) s.table).toNat).flatMap bT):List ag).Perm (((⟨bx,76,cap*5,(L.take (aC (L.map bu.t) s.table).toNat).flatMap gT++(gT (L[(aC (L.map bu.t) s.table).toNat]'bp)++(L.drop ((aC (L.map bu.t) s.table).toNat+1)).flatMap gT)⟩:ag)::U)++(⟨b4,54,2,[.list 1 [] 0,ae 0]⟩::⟨b3,34,12,aY s⟩::jh E (some ⟨bx,0,none⟩) L.length cap::((L.eraseIdx (aC (L.map bu.t) s.table).toNat).flatMap bT))) from(kS fun oq=>by simp only[map_append,map_cons,map_nil,sum_append,sum_cons,sum_nil];omega)) ?_
 rintro _ I ⟨rfl,h9⟩;refine cg (S':=⟨b4,54,2,[.list 1 [] 0,ae 0]⟩::⟨b3,34,12,aY s⟩::jh E (some ⟨bx,0,none⟩) L.length cap::(I++(L.eraseIdx (aC (L.map bu.t) s.table).toNat).flatMap bT)) (show(I++(⟨b4,54,2,[.list 1 [] 0,ae 0]⟩::⟨b3,34,12,aY s⟩::jh E (some ⟨bx,0,none⟩) L.length cap::((L.eraseIdx (aC (L.map bu.t) s.table).toNat).flatMap bT)):List ag).Perm _ from(kS fun oq=>by simp only[map_append,map_cons,map_nil,sum_append,sum_cons,sum_nil];omega)) ?_;refine ap 87 [4,10,11] ?_;refine az 3 ?_;refine aN 0 [_,_] sizeOf54 ?_;refine aF 1 ?_;first|refine mT (k:=0) (cs':=[.list 1 [] 0,_]) rfl ⟨bQ,aH,trivial⟩ rfl ?_|skip
 refine eA 87 [4,5] (jh E (some ⟨bx,0,none⟩) L.length cap::(I++(L.eraseIdx (aC (L.map bu.t) s.table).toNat).flatMap bT)) ?_;rw[aZ];refine⟨rfl,fun h=>?_⟩;obtain⟨iF,bj,rY,O,rfl⟩:=h9 h;exact Od bp iI jT x6 (Yq O) aak
end
variable {G:List (Nat×List Value)} {m:Int}
variable {n:Nat}
def ym(t:aA)(i:Nat):Nat:=((range i).filter fun j=>decide ((t.rows.getD j []).length≠0)).length
theorem Vq(t:aA)(i:Nat):ym t (i+1)=ym t i+if (t.rows.getD i []).length≠0 then 1 else 0:=by
 unfold ym;rw[range_succ,filter_append,length_append];congr 1;by_cases h:(t.rows.getD i []).length≠0
 ·rw[if_pos h,filter_cons_of_pos qz];rfl
 rw[if_neg h,filter_cons_of_neg qz];rfl
theorem YH(t:aA)(i:Nat):ym t i<=i:=by
 unfold ym;exact Nat.le_trans (length_filter_le _ _) (by rw[length_range];exact Nat.le_refl _)
theorem Nf{t:aA}{i:Nat}(h:i<t.rows.length):t.rows.getD i []=t.rows[i]:=by rw[getD_eq_getElem?_getD,getElem?_eq_getElem h];rfl
theorem W6{t:aA}(g:dN t n):ym t t.rows.length=(er t.ix).length:=by
 unfold ym;have hA:((er t.ix).map fun x=>x.2.toNat).Nodup:=by
  have hr:(er t.ix).Pairwise (fun a b=>bI a.1 b.1):=Mz g.ix.val;rw[Nodup,pairwise_map];refine hr.imp_of_mem fun {a b} ha hb h e=>?_;obtain⟨a0,a1,a2,a3⟩:=g.jA a ha;obtain⟨b0,b1,b2,b3⟩:=g.jA b hb;refine jK a.1 ?_;have:a.1=b.1:=(by rw[a3,b3];simp only[e])
  rw[<-this] at h;exact h
 have hB:((range t.rows.length).filter fun j=>decide ((t.rows.getD j []).length≠0)).Nodup:=List.nodup_range.filter _;have h1:=hA.length_le_of_subset (l₂:=(range t.rows.length).filter fun j=>decide ((t.rows.getD j []).length≠0)) fun i hi=>by
  obtain⟨x,hx,rfl⟩:=mem_map.1 hi;obtain⟨x0,x1,Z,x3⟩:=g.jA x hx;refine mem_filter.2 ⟨mem_range.2 x1,decide_eq_true ?_⟩;rw[Nf x1];exact fun h=>Z (length_eq_zero_iff.1 h)
 have h2:=hB.length_le_of_subset (l₂:=(er t.ix).map fun x=>x.2.toNat) fun i hi=>by
  obtain⟨O,U⟩:=mem_filter.1 hi;have E:=mem_range.1 O;have I:=of_decide_eq_true U;rw[Nf E] at I;exact mem_map.2 ⟨_,(g.row i E (fun h=>I (by rw[h];rfl))).2.2,by simp⟩
 (first|rw[length_map] at h1|(unfold aj at h1;rw[length_map] at h1));(first|rw[length_map] at h2|(unfold aj at h2;rw[length_map] at h2))
 omega
theorem ajq(hm:(3,marksC)∈G)(hw:(1,wordsC)∈G)(ht:(0,typesC)∈G)(hG:(2,[Value.int .i64 m])∈G)(t:aA)(g:dN t n)(vO:t.nm.size<=maxLen):VP Tryz.prog G 45 [.agg (cr t)] (aW true):=by
 refine bA func45 rfl ntmps45 aO fun X0 w0 bz=>?_;have dy:=ee;have kZ:=g.fm;have rf:=xE (G:=G) hm hw t.nm vO;rw[g.nm] at rf;have fB:=Pc.Iy (G:=G) hm hw ht t.an uu vB;have hco:Pc.gG t.an=0:=(by rw[g.an];exact D3)
 rw[hco] at fB;have yT:=akE (G:=G) g.ix;have oX:=W5 (G:=G) g.ix;rw[MN] at oX;unfold Tw.cT at yT oX;have yA:=W6 g;unfold cr;refine cq ?_;refine dm [_,_,_,_,_] (fun b1=>?_);refine ap 76 [1] ?_;refine az 2 ?_;refine dK call70 (rf) ?_;refine aF 2 ?_;refine cz 14 (fun E Z=>?_) (fun E Z=>?_)
 ·exact absurd E (by simp at E)
 refine aF 2 ?_;refine pS jq rfl rfl rfl call50 (fB) ⟨ot,trivial⟩ ?_;refine aF 3 ?_;refine cz 20 (fun I O9=>?_) (fun I O9=>?_)
 ·exact absurd I (by simp at I)
 refine aF 6 ?_;refine cz 26 (fun O Pp=>?_) (fun O Pp=>?_)
 ·exact absurd O (by (simp at O;omega))
 refine aF 2 ?_;refine pS jq rfl rfl rfl call59 (yT) ⟨ot,trivial⟩ ?_;refine ap 76 [1,31] ?_;refine bX ?_ ?_<;>intro aP bH
 ·exact z87
 refine ay [1,3] ?_;refine ay [1,3,33,34,35] ?_;refine kU ?_;refine oB (fun (i:Nat) aE=>(i<=t.rows.length)/\aE=(⟨76,[(1,dw b1),(3,ae (ym t i:Nat)),(33,aj 1 eX t.rows),(34,ae (t.rows.length:Nat)),(35,ae (i:Nat))],[⟨b1,76,5,cr t⟩]⟩:St)) (fun (i:Nat)=>t.rows.length-i) 0 ⟨(Nat.zero_le _),rfl⟩ (aL (h:=w71)) ?_;rintro i _ ⟨hi,rfl⟩;refine ax [1,3,33,34,35,36] ?_ ?_<;>intro bg cM
 ·have aa:i<t.rows.length:=(by omega)
  have jm:t.rows.getD i []=(t.rows[i]'aa):=Nf aa;have fP:=YH t i;refine ay [1,3,4,5,33,34,35] ?_;refine ax [1,3,4,5,33,34,35,42] ?_ ?_<;>intro cl di
  ·have JD:¬(t.rows.getD i []).length≠0:=(by rw[jm];simpa using cl)
   exact z92
  have JD:(t.rows.getD i []).length≠0:=(by rw[jm];simpa using cl)
  have hne:(t.rows[i]'aa)≠[]:=fun h=>JD (by rw[jm,h];rfl);obtain⟨p1,p2,p3⟩:=g.row i aa hne;have p4:=qu p1;have xm:=I2 (G:=G) hm hw ht t.an uu vB (t.rows[i]'aa) w4;have yE:Pc.dV t.an (t.rows[i]'aa)=0:=(by rw[g.an];exact p1)
  rw[yE] at xm;have hyv:=B7 (G:=G) hG (t.rows[i]'aa) w4 w4 p2;have gj:=OK (G:=G) g.ix (de (t.rows[i]'aa));rw[WJ g.ix (pu p1) p3] at gj;unfold Tw.cT at gj;refine ay [1,3,4,5,33,34,35] ?_;refine cW [1,3,4,5,33,34,35,49] (xm) ?_;refine bX ?_ ?_<;>intro da eP
  ·exact absurd da (by simp at da)
  refine cJ [1,3,4,6,7,33,34,35] ?_;refine cA (hyv) ?_;refine cA (gj) ?_;refine bB ?_;refine az 3 ?_;refine cz 60 (fun U Pd=>?_) (fun U Pd=>?_)
  ·exact absurd U (by simp at U)
  refine bL [1,3,33,34,35,64] ?_;refine bX ?_ ?_<;>intro eo fR
  ·exact absurd eo (by simp at eo)
  exact z92
 have rW:i=t.rows.length:=(by omega)
 subst rW;refine cW [3,8] (oX) ?_;refine dS [2] [] ?_;refine⟨?_,rfl⟩;first|rfl|(rw[yA];simp)
structure pY (l:List aA) (n:Nat):Prop where
 fm:l.length<=4
 tb:∀t∈l,dN t n
 sz:∀t∈l,t.nm.size<=maxLen
 Lu:l.Pairwise fun a b=>a.nm.toList≠b.nm.toList
theorem pY.no{l:List aA}(g:pY l n){i:Nat}(h:i<l.length):aC (l.take i) l[i].nm<0:=by
 unfold aC;rw[xq (k:=(l.take i).length) w4 (fun x hx=>?_)]
 ·decide
 rw[take_of_length_le (Nat.le_refl _)] at hx;obtain⟨j,hj,rfl⟩:=mem_iff_getElem.1 hx;rw[length_take] at hj;rw[getElem_take];have:=pairwise_iff_getElem.1 g.Lu j i w4 h w4;simpa using this
theorem Mg(hm:(3,marksC)∈G)(hw:(1,wordsC)∈G)(ht:(0,typesC)∈G)(hG:(2,[Value.int .i64 m])∈G)(l:List aA)(g:pY l n):VP Tryz.prog G 22 [.agg [aj 5 cr (l)]] (ae 0):=by
 refine bA func22 rfl ntmps22 aO fun X0 w0 bz=>?_;have dy:=ee;have kZ:=g.fm;refine cq ?_;refine dm [_] (fun b1=>?_);refine ap 31 [1] ?_;refine ax [1,8] ?_ ?_<;>intro aP bH
 ·exact absurd aP (by (simp at aP;omega))
 refine ay [1,10,11,12] ?_;refine eZ [1,10,11] (fun aU _ (i:Nat) aE=>(i<=l.length)/\aE=(⟨31,(12,ae (i:Nat))::aU,[⟨b1,25,1,[aj 5 cr (l)]⟩]⟩:St)) (fun (i:Nat)=>l.length-i) 0 ⟨(Nat.zero_le _),rfl⟩ ?_;rintro i _ ⟨hi,rfl⟩;refine ax [1,10,11,12,13] ?_ ?_<;>intro bg cM
 ·have aa:i<l.length:=(by omega)
  have O:=ajq hm hw ht hG (l[i]'aa) (g.tb _ (getElem_mem aa)) (g.sz _ (getElem_mem aa));have gj:=sQ (G:=G) (l.take i) qD (l[i]'aa).nm;have lV:=g.no aa;unfold cr at O;refine az 3 ?_;refine cD (ds:=[_,_,_,_,_]) au rfl rfl zeroValue76 rfl (fun b4=>?_);refine aF 1 ?_;refine aN 0 [_,_,_,_,_] sizeOf76 ?_;refine ap 31 [1,3,4,10,11,12] ?_;refine cL ?_;refine iX 10 (aq _) ?_ (fun _ h=>h);refine cm 0 rfl (ez (mk:=Op.load 76) rfl ot (by first|exact rD (k:=0) (ds:=[_,_,_,_,_]) rfl rfl isAgg76 sizeOf76 rfl rfl|exact jM j7 isAgg76 sizeOf76 w5|exact dM (k:=0) j7 rfl rfl rfl isAgg76 sizeOf76 w5|exact dM (k:=1) j7 rfl rfl rfl isAgg76 sizeOf76 w5|exact rL (ds:=[_,_,_,_,_]) isAgg76 sizeOf76 rfl rfl)) ?_;refine ew.later rfl ?_;refine bV (i:=1) aD ?_;refine sj call45 (O) ?_;refine dX 2 rfl mv ?_;refine dX 3 rfl eV ?_;refine HU (t:=20) lk (fun E=>?_) (fun E=>?_)
  ·exact absurd E (by simp at E)
  have I:=E;(try simp only[V.ox,ne_eq] at I)
  refine dX 4 rfl (j3 0) ?_;refine dX 6 rfl eV ?_;refine dX 8 rfl (j3 0) ?_;refine mC (i:=5) (j:=9) aD ?_ ?_
  ·refine at_ rfl (gW 1) ?_;refine dX 7 rfl (fw (l:=0) (h:=i) rfl ot trivial ⟨_,ot⟩ (by exact nC j7 (fun h=>by cases h) runUnderlying23 sizeOf76 w4)) ?_;refine bV (i:=9) aD ?_;refine at_ rfl (gW 0) ?_;exact z97
  refine at_ rfl (gW 0) ?_;refine bV (i:=5) aD ?_;refine at_ rfl (gW 1) ?_;refine dX 7 rfl (fw (l:=0) (h:=i) rfl ot trivial ⟨_,ot⟩ (by exact nC j7 (fun h=>by cases h) runUnderlying23 sizeOf76 w4)) ?_;exact z97
 refine ay [2] ?_;exact z46
end Ba
namespace Ba
open List
open Go.Proofs.Tryz
open Go.RowKit V Pk Tr Vl Go.Proofs.YtihmfhcjbmlnaaaGreatDoor.Nm Pc Cd Ex Tw
open Pa (aT aY dJ bZ)
variable {G:List (Nat×List Value)} {m:Int}
noncomputable def kK(l:List aA)(s:aT):List aA×((List (List Vl)×Int)×Int) :=
 if bZ s≠0 then ([],(([],0),bZ s)) else if 7<=s.kind then ([],(([],0),2)) else if (gz l s).2.2≠0 then ([],(([],0),(gz l s).2.2)) else ((gz l s).1,((gz l s).2.1,0))
noncomputable def yn(rr:List aA×((List (List Vl)×Int)×Int))(s:aT):List aA×((List (List Vl)×Int)×Int) :=
 if bZ s≠0 then ([],(([],0),bZ s)) else if 7<=s.kind then ([],(([],0),2)) else if rr.2.2≠0 then ([],(([],0),rr.2.2)) else (rr.1,(rr.2.1,0))
def qL(p:List aA×((List (List Vl)×Int)×Int)):D:=.dF [.agg [aj 5 cr p.1],.agg [aj 1 eX p.2.1.1,ae p.2.1.2],ae p.2.2]
theorem akW(hm:(3,marksC)∈G)(hw:(1,wordsC)∈G)(ht:(0,typesC)∈G)(hG:(2,[Value.int .i64 m])∈G)(l:List aA){n:Nat}(g:pY l n)(s:aT)(hf:dJ s)(E:List aA×((List (List Vl)×Int)×Int))(Z:∀(L:List bu),L.map bu.t=l->(∀o∈L,sE o)->∀(bo:Nat) (ad:Option Addr) (cap:Nat) (Sx:List ag),Ao L ad cap Sx->VC Tryz.prog G 39 [dw bo,.agg (aY s)] (jh bo ad L.length cap::(Sx++L.flatMap bT)) (fun r S=>r=Dp E.2/\(E.2.2=0->Jz E.1 bo S)))(hsm:E.2.2=0->E.1.length<=1000/\∀t∈E.1,B8 t):VP Tryz.prog G 17 [.agg [aj 5 cr (l)],.agg (aY s)] (qL (yn E s)):=by
 refine bA func17 rfl ntmps17 aO fun X0 w0 bz=>?_;have dy:=ee;have kZ:=g.fm;have pL:=Mg hm hw ht hG l g;have fB:=Pa.MV (G:=G) hm hw ht s hf;refine cq ?_;refine dm [_] (fun b2=>?_);refine dm [_,_,_,_,_,_,_,_,_,_,_,_] (fun b3=>?_);refine cD (ds:=[_]) au rfl rfl zeroValue25 rfl (fun b4=>?_);refine cD (ds:=[_,_]) au rfl rfl zeroValue54 rfl (fun b5=>?_);refine aF 1 ?_;first|refine mT (k:=0) (cs':=[.list 1 [] 0,_]) rfl ⟨bQ,aH,trivial⟩ rfl ?_|skip
 first|refine mT (k:=1) (cs':=[.list 1 [] 0,_]) rfl ⟨bQ,aH,trivial⟩ rfl ?_|skip
 first|refine mT (k:=1) (cs':=[.list 5 [] 0]) rfl ⟨bQ,trivial⟩ rfl ?_|skip
 first|refine mT (k:=2) (cs':=[.list 5 [] 0]) rfl ⟨bQ,trivial⟩ rfl ?_|skip
 refine ap 46 [2,3,4,5] ?_;refine cW [2,3,4,5,7] (pL) ?_;refine ax [2,3,4,5,7,15] ?_ ?_<;>intro aP bH
 ·exact z87
 refine cW [2,3,4,5,8] (fB) ?_;refine ax [2,3,4,5,8,22] ?_ ?_<;>intro bg cM
 ·have h1:bZ s≠0:=(by simpa using bg)
  have aZ:yn E s=([],(([],0),bZ s)):=if_pos h1;refine az 3 ?_;refine aN 1 [_] sizeOf25 ?_;refine aN 0 [_,_] sizeOf54 ?_;exact z154
 have h1:¬bZ s≠0:=(by simpa using bg)
 refine ax [2,3,4,5,28] ?_ ?_<;>intro cl di
 ·have h2:7<=s.kind:=(by simpa using cl)
  have aZ:yn E s=([],(([],0),2)):=(by unfold yn;rw[if_neg h1,if_pos h2])
  refine az 2 ?_;refine aN 1 [_] sizeOf25 ?_;refine aN 0 [_,_] sizeOf54 ?_;exact z154
 have h2:¬7<=s.kind:=(by simpa using cl)
 refine az 1 ?_;refine eH au rfl rfl rfl call38 (Vd l w4 (fun t h=>(g.tb t h).small)) ⟨ot,trivial⟩ (fj _) ?_;rintro _ _ ⟨L,ad,cap,Sx,rfl,fQ,bf,tK,rfl⟩;refine cg (S':=⟨b5,54,2,[.list 1 [] 0,ae 0]⟩::⟨b4,25,1,[.list 5 [] 0]⟩::⟨b3,34,12,aY s⟩::⟨b2,25,1,[aj 5 cr (l)]⟩::(Sx++L.flatMap bT)) (show((Sx++L.flatMap bT)++(⟨b5,54,2,[.list 1 [] 0,ae 0]⟩::⟨b4,25,1,[.list 5 [] 0]⟩::⟨b3,34,12,aY s⟩::[⟨b2,25,1,[aj 5 cr (l)]⟩]):List ag).Perm _ from(kS fun oq=>by simp only[map_append,map_cons,map_nil,sum_append,sum_cons,sum_nil];omega)) ?_;refine cD (ds:=[_]) au rfl rfl zeroValue25 rfl (fun b9=>?_);refine aN 0 [_] sizeOf25 ?_;refine ap 46 [3,4,5,9] ?_;refine az 1 ?_;have sD:L.length=l.length:=(by rw[<-tK];(first|rw[length_map]|(unfold aj;rw[length_map])))
 refine eH (Sf:=jh b9 ad L.length cap::(Sx++L.flatMap bT)) (R:=⟨b5,54,2,[.list 1 [] 0,ae 0]⟩::⟨b4,25,1,[.list 5 [] 0]⟩::⟨b3,34,12,aY s⟩::[⟨b2,25,1,[aj 5 cr (l)]⟩]) au rfl rfl rfl call39 (Z L tK bf b9 ad cap Sx fQ) ⟨ot,ot,trivial⟩ (show(jh b9 ad L.length cap::⟨b5,54,2,[.list 1 [] 0,ae 0]⟩::⟨b4,25,1,[.list 5 [] 0]⟩::⟨b3,34,12,aY s⟩::⟨b2,25,1,[aj 5 cr (l)]⟩::(Sx++L.flatMap bT):List ag).Perm ((jh b9 ad L.length cap::(Sx++L.flatMap bT))++(⟨b5,54,2,[.list 1 [] 0,ae 0]⟩::⟨b4,25,1,[.list 5 [] 0]⟩::⟨b3,34,12,aY s⟩::[⟨b2,25,1,[aj 5 cr (l)]⟩])) from(kS fun oq=>by simp only[map_append,map_cons,map_nil,sum_append,sum_cons,sum_nil];omega)) ?_;rintro _ S9 ⟨rfl,h9⟩;refine cg (S':=⟨b5,54,2,[.list 1 [] 0,ae 0]⟩::⟨b4,25,1,[.list 5 [] 0]⟩::⟨b3,34,12,aY s⟩::⟨b2,25,1,[aj 5 cr (l)]⟩::S9) (show(S9++(⟨b5,54,2,[.list 1 [] 0,ae 0]⟩::⟨b4,25,1,[.list 5 [] 0]⟩::⟨b3,34,12,aY s⟩::[⟨b2,25,1,[aj 5 cr (l)]⟩]):List ag).Perm _ from(kS fun oq=>by simp only[map_append,map_cons,map_nil,sum_append,sum_cons,sum_nil];omega)) ?_;unfold Dp;refine aF 3 ?_;refine cD (ds:=[_,_]) au rfl rfl zeroValue54 rfl (fun kr=>?_);refine aN 0 [_,_] sizeOf54 ?_;refine ap 46 [4,5,9,10,11] ?_;refine ax [4,5,9,10,11,39] ?_ ?_<;>intro da eP
 ·have h3:E.2.2≠0:=(by simpa using da)
  have aZ:yn E s=([],(([],0),E.2.2)):=(by unfold yn;rw[if_neg h1,if_neg h2,if_pos h3])
  refine az 3 ?_;refine aN 2 [_] sizeOf25 ?_;refine aN 1 [_,_] sizeOf54 ?_;exact z154
 have h3:¬E.2.2≠0:=(by simpa using da)
 have aZ:yn E s=(E.1,(E.2.1,0)):=(by unfold yn;rw[if_neg h1,if_neg h2,if_neg h3])
 obtain⟨L',iF,bj,I,O,U,aqM,hS⟩:=h9 (Classical.not_not.1 h3);obtain⟨Ln,wU⟩:=hsm (Classical.not_not.1 h3);have Ax:=ahn (G:=G) E.1 Ln wU;refine rE (S':=⟨kr,54,2,[aj 1 eX E.2.1.1,ae E.2.1.2]⟩::⟨b5,54,2,[.list 1 [] 0,ae 0]⟩::⟨b4,25,1,[.list 5 [] 0]⟩::⟨b3,34,12,aY s⟩::⟨b2,25,1,[aj 5 cr (l)]⟩::(jh b9 iF L'.length bj::(I++L'.flatMap bT))) (show((⟨kr,54,2,[aj 1 eX E.2.1.1,ae E.2.1.2]⟩::⟨b5,54,2,[.list 1 [] 0,ae 0]⟩::⟨b4,25,1,[.list 5 [] 0]⟩::⟨b3,34,12,aY s⟩::[⟨b2,25,1,[aj 5 cr (l)]⟩])++S9:List ag).Perm ((⟨kr,54,2,[aj 1 eX E.2.1.1,ae E.2.1.2]⟩::⟨b5,54,2,[.list 1 [] 0,ae 0]⟩::⟨b4,25,1,[.list 5 [] 0]⟩::⟨b3,34,12,aY s⟩::[⟨b2,25,1,[aj 5 cr (l)]⟩])++(jh b9 iF L'.length bj::(I++L'.flatMap bT))) from Perm.append_left ((⟨kr,54,2,[aj 1 eX E.2.1.1,ae E.2.1.2]⟩::⟨b5,54,2,[.list 1 [] 0,ae 0]⟩::⟨b4,25,1,[.list 5 [] 0]⟩::⟨b3,34,12,aY s⟩::[⟨b2,25,1,[aj 5 cr (l)]⟩]):List ag) hS) ?_
 refine kX (Wk.cover (A:=jh b9 iF L'.length bj) (R:=⟨kr,54,2,[aj 1 eX E.2.1.1,ae E.2.1.2]⟩::⟨b5,54,2,[.list 1 [] 0,ae 0]⟩::⟨b4,25,1,[.list 5 [] 0]⟩::⟨b3,34,12,aY s⟩::[⟨b2,25,1,[aj 5 cr (l)]⟩]) (Sd:=I++L'.flatMap bT) (cs':=[aj 5 cr (E.1)]) (show(⟨kr,54,2,[aj 1 eX E.2.1.1,ae E.2.1.2]⟩::⟨b5,54,2,[.list 1 [] 0,ae 0]⟩::⟨b4,25,1,[.list 5 [] 0]⟩::⟨b3,34,12,aY s⟩::⟨b2,25,1,[aj 5 cr (l)]⟩::(jh b9 iF L'.length bj::(I++L'.flatMap bT)):List ag).Perm _ from(kS fun oq=>by simp only[map_append,map_cons,map_nil,sum_append,sum_cons,sum_nil];omega)) ⟨by rw[<-aqM];(first|rw[length_map]|(unfold aj;rw[length_map]));exact Oj O U (fun B h=>h),trivial⟩) ?_;refine eI ?_;refine cL ?_;refine iX 4 (aq (eraseIdx _ 3)) ?_ (fun _ h=>(Sublist.map _ (eraseIdx_sublist _ 3)).subset h)
 refine cm 0 rfl (ez (mk:=Op.load 25) rfl ot (by first|exact rD (k:=0) (ds:=[_]) rfl rfl isAgg25 sizeOf25 rfl rfl|exact jM j7 isAgg25 sizeOf25 w5|exact jM kR isAgg25 sizeOf25 w5|exact dM (k:=0) j7 rfl rfl rfl isAgg25 sizeOf25 w5|exact dM (k:=1) j7 rfl rfl rfl isAgg25 sizeOf25 w5|exact dM (k:=2) j7 rfl rfl rfl isAgg25 sizeOf25 w5|exact dM (k:=3) j7 rfl rfl rfl isAgg25 sizeOf25 w5|exact dM (k:=4) j7 rfl rfl rfl isAgg25 sizeOf25 w5|exact dM (k:=5) j7 rfl rfl rfl isAgg25 sizeOf25 w5|exact dM (k:=0) kR rfl rfl rfl isAgg25 sizeOf25 w5|exact dM (k:=1) kR rfl rfl rfl isAgg25 sizeOf25 w5|exact dM (k:=2) kR rfl rfl rfl isAgg25 sizeOf25 w5|exact dM (k:=3) kR rfl rfl rfl isAgg25 sizeOf25 w5|exact dM (k:=4) kR rfl rfl rfl isAgg25 sizeOf25 w5|exact dM (k:=5) kR rfl rfl rfl isAgg25 sizeOf25 w5|exact rL (ds:=[_]) isAgg25 sizeOf25 rfl rfl)) ?_
 refine cm 2 rfl (ez (mk:=Op.load 54) rfl ot (by first|exact rD (k:=1) (ds:=[_,_]) rfl rfl isAgg54 sizeOf54 rfl rfl|exact jM j7 isAgg54 sizeOf54 w5|exact jM kR isAgg54 sizeOf54 w5|exact dM (k:=0) j7 rfl rfl rfl isAgg54 sizeOf54 w5|exact dM (k:=1) j7 rfl rfl rfl isAgg54 sizeOf54 w5|exact dM (k:=2) j7 rfl rfl rfl isAgg54 sizeOf54 w5|exact dM (k:=3) j7 rfl rfl rfl isAgg54 sizeOf54 w5|exact dM (k:=4) j7 rfl rfl rfl isAgg54 sizeOf54 w5|exact dM (k:=5) j7 rfl rfl rfl isAgg54 sizeOf54 w5|exact dM (k:=0) kR rfl rfl rfl isAgg54 sizeOf54 w5|exact dM (k:=1) kR rfl rfl rfl isAgg54 sizeOf54 w5|exact dM (k:=2) kR rfl rfl rfl isAgg54 sizeOf54 w5|exact dM (k:=3) kR rfl rfl rfl isAgg54 sizeOf54 w5|exact dM (k:=4) kR rfl rfl rfl isAgg54 sizeOf54 w5|exact dM (k:=5) kR rfl rfl rfl isAgg54 sizeOf54 w5|exact rL (ds:=[_,_]) isAgg54 sizeOf54 rfl rfl)) ?_;refine ew.later rfl ?_;refine bV (i:=1) aD ?_;refine sj call38 (Ax) ?_;refine bV (i:=3) aD ?_;refine eN 3 [_] sizeOf25 ?_;refine gd ?_;refine aN 2 [_,_] sizeOf54 ?_;refine aF 1 ?_;first|refine mT (k:=0) (cs':=[.list 1 [] 0,_]) rfl ⟨bQ,aH,trivial⟩ rfl ?_|skip
 first|refine mT (k:=1) (cs':=[.list 1 [] 0,_]) rfl ⟨bQ,aH,trivial⟩ rfl ?_|skip
 first|refine mT (k:=1) (cs':=[.list 5 [] 0]) rfl ⟨bQ,trivial⟩ rfl ?_|skip
 first|refine mT (k:=2) (cs':=[.list 5 [] 0]) rfl ⟨bQ,trivial⟩ rfl ?_|skip
 refine ap 46 [4,5,6] ?_;exact tg
theorem amr(hm:(3,marksC)∈G)(hw:(1,wordsC)∈G)(ht:(0,typesC)∈G)(hG:(2,[Value.int .i64 m])∈G)(l:List aA){n:Nat}(hn:n<=260)(g:pY l n)(s:aT)(hf:dJ s)(fD:¬s.kind=2)(E:∀v∈s.row,v.Ok)(ho:∀o∈s.ah,o.nm.size<=maxLen)(gM:∀o∈s.ah,o.v.Ok)(O:∀o∈s.bG,o.nm.size<=maxLen)(I:∀o∈s.bG,o.v.Ok)(U:(gz l s).2.2=0->(gz l s).1.length<=1000/\∀t∈(gz l s).1,B8 t):VP Tryz.prog G 17 [.agg [aj 5 cr (l)],.agg (aY s)] (qL (kK l s)) :=
 akW hm hw ht hG l g s hf (gz l s) (fun L Z bf bo ad cap Sx fQ=>by
  subst Z;have kZ:=g.fm
  (first|rw[length_map] at kZ|(unfold aj at kZ;rw[length_map] at kZ))
  exact amq hm hw ht hG L bf w4 (fun o ho=>⟨n,hn,g.tb _ (mem_map_of_mem ho)⟩) s fD (by have:=hf.ok.1;omega) (by have:=hf.ok.2.1;omega) E (by have:=hf.ok.2.2.1;omega) ho gM O I bo ad cap Sx fQ) U
end Ba
namespace Ba
open List
open Go.Proofs.Tryz
open Go.RowKit V Pk Tr Vl Go.Proofs.YtihmfhcjbmlnaaaGreatDoor.Nm Pc Cd Ex Tw
open Pa (aT aY)
variable {t:aA} {n:Nat} {i:Int}
theorem dN.mono{t:aA}{a b:Nat}(g:dN t a)(h:a<=b):dN t b:=⟨g.nm,g.an,g.fm,g.ix.mono h,g.row,g.jA⟩
structure pZ (t:aA) (n:Nat) (D:List Int):Prop where
 nm:dH t.nm=0
 an:t.an=cx
 fm:t.rows.length<=40
 ix:jg t.ix n
 row:∀i (h:i<t.rows.length),t.rows[i]≠[]->Pc.dV cx t.rows[i]=0/\(∀v∈t.rows[i],v.Ok)/\((i:Int)∉D->(de t.rows[i],(i:Int))∈er t.ix)
 jA:∀x∈er t.ix,0<=x.2/\x.2∉D/\∃h:x.2.toNat<t.rows.length,t.rows[x.2.toNat]≠[]/\x.1=de t.rows[x.2.toNat]
theorem dN.d(g:dN t n):pZ t n []:=⟨g.nm,g.an,g.fm,g.ix,fun i h hn=>⟨(g.row i h hn).1,(g.row i h hn).2.1,fun _=>(g.row i h hn).2.2⟩,fun x hx=>⟨(g.jA x hx).1,not_mem_nil,(g.jA x hx).2⟩⟩
theorem pZ.tb(g:pZ t n []):dN t n:=⟨g.nm,g.an,g.fm,g.ix,fun i h hn=>⟨(g.row i h hn).1,(g.row i h hn).2.1,(g.row i h hn).2.2 not_mem_nil⟩,fun x hx=>⟨(g.jA x hx).1,(g.jA x hx).2.2⟩⟩
theorem ahx(g:dN t n)(hn:n<=300){row:List Vl}(bf:∀v∈row,v.Ok)(h:(iB t row).2=0):dN (iB t row).1 (n+1)/\(iB t row).1.rows.length=t.rows.length+1:=by
 unfold iB at h |-;by_cases h1:Pc.dV t.an row=0
 ·rw[if_neg (fun e=>e h1)] at h |-;cases h2:jv t.ix (de row) (dG t.ix) with
  | true=>rw[h2,if_pos rfl] at h;cases h
  | false =>
   rw[h2,if_neg w7] at h;rw[if_neg w7];by_cases h3:t.rows.length=40
   ·rw[if_pos h3] at h;cases h
   rw[if_neg h3];have h4:Pc.dV cx row=0:=(by rw[<-g.an];exact h1)
   obtain⟨g1,g2,g3⟩:=If g.ix hn ((Ig g.ix).1 h2) (pu h4) (Int.natCast_nonneg t.rows.length);have kZ:=g.fm;refine⟨⟨g.nm,g.an,by show(t.rows++[row]).length<=40;rw[length_append,length_singleton];omega,g1,fun i hi hne=>?_,fun x hx=>?_⟩,by show(t.rows++[row]).length=_;rw[length_append,length_singleton]⟩
   ·simp only at hi hne |-;rw[length_append,length_singleton] at hi;by_cases hl:i<t.rows.length
    ·have e:(t.rows++[row])[i]'CW=t.rows[i]:=getElem_append_left hl;rw[e] at hne |-;obtain⟨p1,p2,p3⟩:=g.row i hl hne;exact⟨p1,p2,(g3 _).2 (.inr p3)⟩
    have E:i=t.rows.length:=(by omega)
    subst E;have e:(t.rows++[row])[t.rows.length]'CW=row:=(by rw[getElem_append_right (Nat.le_refl _)];simp)
    rw[e] at hne |-;exact⟨h4,bf,(g3 _).2 (.inl rfl)⟩
   rcases(g3 x).1 hx with rfl|hx
   ·refine⟨Int.natCast_nonneg _,by show t.rows.length<(t.rows++[row]).length;rw[length_append,length_singleton];omega,?_⟩;have e:(t.rows++[row])[t.rows.length]'CW=row:=(by rw[getElem_append_right (Nat.le_refl _)];simp)
    show(t.rows++[row])[t.rows.length]'_≠[]/\de row=de ((t.rows++[row])[t.rows.length]'_);rw[e];exact⟨fun e=>(by have:=qu h4;rw[e] at this;cases this),rfl⟩
   obtain⟨x0,x1,I,O⟩:=g.jA x hx;have e:(t.rows++[row])[x.2.toNat]'CW=t.rows[x.2.toNat]:=getElem_append_left x1;refine⟨x0,by show _<(t.rows++[row]).length;rw[length_append,length_singleton];omega,?_⟩;show(t.rows++[row])[x.2.toNat]'_≠[]/\x.1=de ((t.rows++[row])[x.2.toNat]'_);rw[e];exact⟨I,O⟩
 rw[if_pos h1] at h;exact absurd h h1
theorem Vn{n:Nat}:∀{l:List Int} {t:aA},dN t n->l.Nodup->(∀i∈l,gw t i)->dN (uE t l) n/\(uE t l).rows.length=t.rows.length
 | [],_,g,_,_=>⟨g,rfl⟩
 | i::r,t,g,hn,hi=>by
  rw[nodup_cons] at hn;have h1:=Vn (Vj g (hi i mem_cons_self)) hn.2 fun j hj=>Ym (hi j (mem_cons_of_mem _ hj)) (fun e=>hn.1 (e ▸ hj)) (hi i mem_cons_self).1;refine⟨h1.1,h1.2.trans ?_⟩;show(t.rows.set _ _).length=_;rw[length_set]
theorem aeW(g:dN t n)(w:List aQ):dN (n9 t w).1 n/\(n9 t w).1.rows.length=t.rows.length:=by
 unfold n9;split
 ·exact⟨g,rfl⟩
 exact Vn g (HK g w) (ug g w)
theorem Yr{r:List Vl}{c:Nat}(hc:c≠0)(v:Vl):de (r.set c v)=de r:=by
 unfold de;cases r with
 | nil=>rfl
 | cons a r=>cases c with
  | zero=>exact absurd rfl hc
  | succ c=>rfl
theorem ZM{D:List Int}(g:pZ t n D)(hi:gw t i){c:Nat}(hc:c<cx.length){v:Vl}(hv:lE (cx[c]'hc).k v)(gM:v.Ok)(h0:c=0->v.k≠0/\i∈D):pZ (uF t i c v) n D/\(∀j,gw t j->gw (uF t i c v) j):=by
 obtain⟨q0,q1,q2⟩:=hi;obtain⟨p1,p2,p3⟩:=g.row _ q1 q2;have ni:=ju (t:=t) q1;have U:Pc.dV cx ((rowAt t i).set c v)=0:=(by rw[ni];exact Yn p1 hc hv fun h=>(h0 h).1)
 have lI:(rowAt t i).set c v≠[]:=fun e=>by have:=qu U;rw[e] at this;cases this
 have hlen:(uF t i c v).rows.length=t.rows.length:=length_set;have I:∀j (h:j<t.rows.length),(uF t i c v).rows[j]'(by rw[hlen];exact h)=if i.toNat=j then (rowAt t i).set c v else t.rows[j]:=fun j h=>getElem_set ..
 refine⟨⟨g.nm,g.an,by rw[hlen];exact g.fm,g.ix,fun j hj hne=>?_,fun x hx=>?_⟩,fun j ⟨j0,j1,j2⟩=>⟨j0,by rw[hlen];exact j1,?_⟩⟩
 ·rw[hlen] at hj;rw[I j hj] at hne |-;by_cases E:i.toNat=j
  ·rw[if_pos E];refine⟨U,fun w hw=>?_,fun hd=>?_⟩
   ·rcases mem_or_eq_of_mem_set hw with hw|hw
    ·rw[ni] at hw;exact p2 w hw
    rw[hw];exact gM
   have Z:(j:Int)=i:=(by omega)
   by_cases O:c=0
   ·exact absurd (Z ▸ (h0 O).2) hd
   rw[Yr O,ni];subst E;exact p3 hd
  rw[if_neg E] at hne |-;exact g.row j hj hne
 ·obtain⟨x0,xd,x1,x2,x3⟩:=g.jA x hx;refine⟨x0,xd,by rw[hlen];exact x1,?_⟩;rw[I _ x1];by_cases E:i.toNat=x.2.toNat
  ·rw[if_pos E];refine⟨lI,?_⟩;have Z:x.2=i:=(by omega)
   by_cases O:c=0
   ·exact absurd (Z ▸ (h0 O).2) xd
   rw[Yr O,ni,x3];simp only[E]
  rw[if_neg E];exact⟨x2,x3⟩
 rw[I _ j1];split
 ·exact lI
 exact j2
theorem anT{x:aI}{D:List Int}(g:pZ {t with ix:=x} n D)(hi:gw t i)(hd:i∉D):pZ {t with ix:=iT x (dG x) (de (rowAt t i))} n (i::D):=by
 obtain⟨q0,q1,q2⟩:=hi;obtain⟨p1,p2,p3⟩:=g.row _ q1 q2;have ni:=ju (t:=t) q1;have E:(de (rowAt t i),i)∈er x:=by
  have:=p3 (by rw[Int.toNat_of_nonneg q0];exact hd);rw[Int.toNat_of_nonneg q0] at this;rw[ni];exact this
 obtain⟨d1,d2⟩:=M9 g.ix ((DK g.ix.val _).2 ⟨i,E⟩);refine⟨g.nm,g.an,g.fm,d1,fun j hj hne=>?_,fun y hy=>?_⟩
 ·obtain⟨r1,r2,r3⟩:=g.row j hj hne;refine⟨r1,r2,fun hd2=>?_⟩;have I:(j:Int)≠i:=fun e=>hd2 (e ▸ mem_cons_self);refine(d2 _).2 ⟨r3 fun e=>hd2 (mem_cons_of_mem _ e),fun e=>I ?_⟩;have:=N9 g.ix (r3 fun e=>hd2 (mem_cons_of_mem _ e)) E e;simp only[Prod.mk.injEq] at this;exact this.2
 obtain⟨y1,y2⟩:=(d2 y).1 hy;obtain⟨z0,zd,z1,z2,z3⟩:=g.jA y y1;refine⟨z0,fun hm=>?_,z1,z2,z3⟩;rcases mem_cons.1 hm with e|hm
 ·refine y2 ?_;rw[z3,ni];simp only[e]
 exact zd hm
theorem Yt{t:aA}{n:Nat}:∀(l:List Int) (x:aI) (D:List Int),pZ {t with ix:=x} n D->l.Nodup->(∀i∈l,gw t i/\i∉D)->∃D',pZ {t with ix:=qy t x l} n D'/\∀i,i∈D'↔i∈l\/i∈D
 | [],x,D,g,_,_=>⟨D,g,fun i=>by simp⟩
 | i::r,x,D,g,hn,hi=>by
  rw[nodup_cons] at hn;obtain⟨D',h1,h2⟩:=Yt r _ (i::D) (anT g (hi i mem_cons_self).1 (hi i mem_cons_self).2) hn.2 fun j hj=>⟨(hi j (mem_cons_of_mem _ hj)).1,fun e=>by
   rcases mem_cons.1 e with e|e
   ·exact hn.1 (e ▸ hj)
   exact(hi j (mem_cons_of_mem _ hj)).2 e⟩
  refine⟨D',h1,fun j=>(h2 j).trans ?_⟩;simp only[mem_cons];constructor
  ·rintro(h|h|h)
   ·exact .inl (.inr h)
   ·exact .inl (.inl h)
   exact .inr h
  rintro((h|h)|h)
  ·exact .inr (.inl h)
  ·exact .inl h
  exact .inr (.inr h)
theorem pZ.aqN{D D':List Int}(g:pZ t n D)(h:∀i,i∈D↔i∈D'):pZ t n D':=⟨g.nm,g.an,g.fm,g.ix,fun i hi hne=>⟨(g.row i hi hne).1,(g.row i hi hne).2.1,fun hd=>(g.row i hi hne).2.2 fun e=>hd ((h _).1 e)⟩,fun x hx=>⟨(g.jA x hx).1,fun e=>(g.jA x hx).2.1 ((h _).2 e),(g.jA x hx).2.2⟩⟩
theorem aqO{D:List Int}(g:pZ t n D)(hn:n<=300)(hi:gw t i)(hd:i∈D)(lV:jv t.ix (de (rowAt t i)) (dG t.ix)=false):pZ {t with ix:=iS t.ix (dG t.ix) (de (rowAt t i)) i} (n+1) (D.filter (·≠i)):=by
 obtain⟨q0,q1,q2⟩:=hi;obtain⟨p1,p2,p3⟩:=g.row _ q1 q2;have ni:=ju (t:=t) q1;obtain⟨g1,_,g3⟩:=If g.ix hn ((Ig g.ix).1 lV) (by rw[ni];exact pu p1) q0;have hf:∀j,j∈D.filter (·≠i)↔j∈D/\j≠i:=fun j=>by rw[mem_filter];simp
 refine⟨g.nm,g.an,g.fm,g1,fun j hj hne=>?_,fun y hy=>?_⟩
 ·obtain⟨r1,r2,r3⟩:=g.row j hj hne;refine⟨r1,r2,fun hd2=>(g3 _).2 ?_⟩;by_cases e:(j:Int)=i
  ·left;have E:i.toNat=j:=(by omega)
   subst E;rw[ni,Int.toNat_of_nonneg q0]
  right;exact r3 fun hm=>hd2 ((hf _).2 ⟨hm,e⟩)
 rcases(g3 y).1 hy with rfl|hy
 ·exact⟨q0,fun hm=>((hf _).1 hm).2 rfl,q1,q2,by rw[ni]⟩
 obtain⟨z0,zd,z1,z2,z3⟩:=g.jA y hy;exact⟨z0,fun hm=>zd ((hf _).1 hm).1,z1,z2,z3⟩
theorem Zd:∀(l:List Int) (vs:List Vl) (t:aA) (n:Nat) (D:List Int),pZ t n D->n+l.length<=300->l.Nodup->vs.length=l.length->(∀i∈l,gw t i/\i∈D)->(∀v∈vs,v.Ok/\lE (cx[0]'w7).k v/\v.k≠0)->(mg t l vs).2=0 ->
  ∃D',pZ (mg t l vs).1 (n+l.length) D'/\(mg t l vs).1.rows.length=t.rows.length/\∀i,i∈D'↔i∈D/\i∉l
 | [],[],t,n,D,g,_,_,_,_,_,_=>⟨D,g,rfl,fun i=>by simp⟩
 | [],_::_,_,_,_,_,_,_,h,_,_,_=>by cases h
 | _::_,[],_,_,_,_,_,_,h,_,_,_=>by cases h
 | i::r,v::s,t,n,D,g,hn,hnd,hl,hi,hv,h=>by
  rw[nodup_cons] at hnd;rw[length_cons] at hn hl;rw[length_cons] at hl;obtain⟨E,hid⟩:=hi i mem_cons_self;obtain⟨v1,v2,v3⟩:=hv v mem_cons_self;obtain⟨g1,mN⟩:=ZM g E (c:=0) w7 v2 v1 fun _=>⟨v3,hid⟩
  rw[mg] at h |-;cases jo:jv t.ix (de (rowAt (uF t i 0 v) i)) (dG t.ix) with
  | true=>rw[jo,if_pos rfl] at h;cases h
  | false =>
   rw[jo,if_neg w7] at h;rw[if_neg w7];have g2:=aqO g1 w4 (mN i E) hid jo;obtain⟨D',h1,h2,h3⟩:=Zd r s _ (n+1) _ g2 w4 hnd.2 w4 (fun j hj=>⟨mN j (hi j (mem_cons_of_mem _ hj)).1,by rw[mem_filter];exact⟨(hi j (mem_cons_of_mem _ hj)).2,by simp;exact fun e=>hnd.1 (e ▸ hj)⟩⟩) (fun w hw=>hv w (mem_cons_of_mem _ hw)) h;refine⟨D',by rw[length_cons,show n+(r.length+1)=n+1+r.length by omega];exact h1,h2.trans (by show(t.rows.set _ _).length=_;rw[length_set]),fun j=>(h3 j).trans ?_⟩;rw[mem_filter,mem_cons];simp only[decide_eq_true_eq,ne_eq,not_or,and_assoc]
theorem Yu{n:Nat}{c:Nat}(hc:c<cx.length)(aP:c≠0):∀(l:List Int) (vs:List Vl) (t:aA),dN t n->(∀i∈l,gw t i)->(∀v∈vs,v.Ok/\lE (cx[c]'hc).k v)->dN (oV c t l vs) n/\(oV c t l vs).rows.length=t.rows.length
 | [],_,t,g,_,_=>by unfold oV;exact⟨g,rfl⟩
 | _::_,[],t,g,_,_=>by unfold oV;exact⟨g,rfl⟩
 | i::r,v::s,t,g,hi,hv=>by
  rw[oV];obtain⟨v1,v2⟩:=hv v mem_cons_self;obtain⟨g1,mN⟩:=ZM g.d (hi i mem_cons_self) hc v2 v1 fun e=>absurd e aP;have h1:=Yu hc aP r s _ g1.tb (fun j hj=>mN j (hi j (mem_cons_of_mem _ hj))) fun w hw=>hv w (mem_cons_of_mem _ hw);exact⟨h1.1,h1.2.trans (by show(t.rows.set _ _).length=_;rw[length_set])⟩
theorem akX{k:Int}{c:Int}{v:Vl}(h:lE k v)(hk:¬(k≠c/\k≠0)):lE c v:=by
 refine⟨h.1,?_⟩;have:=h.2;omega
theorem ahy(g:dN t n)(s:aT)(lV:∀o∈s.bG,o.nm.size<=maxLen)(gM:∀o∈s.bG,o.v.Ok)(hn:n<=260):dN (jb t s).1 (n+t.rows.length)/\(jb t s).1.rows.length=t.rows.length:=by
 have hz:dN t (n+t.rows.length)/\t.rows.length=t.rows.length:=⟨g.mono w4,rfl⟩
 unfold jb;by_cases hA:bE t.an s.set<0
 ·rw[if_pos hA];exact hz
 rw[if_neg hA];by_cases hB:(dZ t.an s.bG).2≠0
 ·rw[if_pos hB];exact hz
 rw[if_neg hB];by_cases hC:(dZ t.an s.bG).1≠(t.an.getD (bE t.an s.set).toNat ⟨⟨#[]⟩,0⟩).k/\(dZ t.an s.bG).1≠0
 ·rw[if_pos hC];exact hz
 rw[if_neg hC];by_cases hD:(av t s.ah).2≠0
 ·rw[if_pos hD];exact hz
 rw[if_neg hD];by_cases Z:(jN t (bE t.an s.set) s.bG [] (av t s.ah).1).2≠0
 ·rw[if_pos Z];exact hz
 rw[if_neg Z];have O:=Classical.not_not.1 Z;have hkz:(dZ cx s.bG).2=0:=(by rw[<-g.an];exact Classical.not_not.1 hB)
 have E:=Nd g lV gM hkz (av t s.ah).1 [] (ug g s.ah) O (fun v hv=>by cases hv);have hlen:=WV (t:=t) (c:=bE t.an s.set) (e:=s.bG) (av t s.ah).1 [] O;have Lq:=(OP (l:=t.an) (nm:=s.set)).2;have hcc:t.an.length=cx.length:=(by rw[g.an])
 have fP:(bE t.an s.set).toNat<cx.length:=(by omega)
 have pO:∀v,lE (dZ cx s.bG).1 v->lE (cx[(bE t.an s.set).toNat]'fP).k v:=fun v hv=>by
  refine akX hv ?_;rw[g.an] at hC;have e:cx.getD (bE cx s.set).toNat ⟨⟨#[]⟩,0⟩=cx[(bE t.an s.set).toNat]'fP:=by
   rw[getD_eq_getElem?_getD];rw[show(bE cx s.set).toNat=(bE t.an s.set).toNat by rw[g.an]];rw[getElem?_eq_getElem fP];rfl
  rw[e] at hC;exact hC
 by_cases hP:0<bE t.an s.set
 ·rw[if_pos hP];have h1:=Yu (c:=(bE t.an s.set).toNat) fP w4 (av t s.ah).1 (jN t (bE t.an s.set) s.bG [] (av t s.ah).1).1 t g (ug g s.ah) fun v hv=>⟨(E v hv).1,pO v (E v hv).2.1⟩
  exact⟨h1.1.mono w4,h1.2⟩
 rw[if_neg hP];have U:bE t.an s.set=0:=(by omega)
 by_cases hM:(mg {t with ix:=qy t t.ix (av t s.ah).1} (av t s.ah).1 (jN t (bE t.an s.set) s.bG [] (av t s.ah).1).1).2≠0
 ·rw[if_pos hM];exact hz
 rw[if_neg hM];have hnd:=HK g s.ah;have I:=ug g s.ah;have kZ:=Ej g s.ah;obtain⟨D,d1,d2⟩:=Yt (av t s.ah).1 t.ix [] g.d hnd fun i hi=>⟨I i hi,not_mem_nil⟩
 obtain⟨D',e1,e2,e3⟩:=Zd (av t s.ah).1 (jN t (bE t.an s.set) s.bG [] (av t s.ah).1).1 _ n D d1 w4 hnd (by rw[hlen];simp) (fun i hi=>⟨I i hi,(d2 i).2 (.inl hi)⟩) (fun v hv=>⟨(E v hv).1,by have:=pO v (E v hv).2.1;simp only[U] at this;exact this,(E v hv).2.2 U⟩) (Classical.not_not.1 hM);have hD':dN _ _:=(e1.aqN (D':=[]) fun i=>by rw[e3,d2];simp).tb;have hle:(av t s.ah).1.length<=t.rows.length:=by
  have h1:((av t s.ah).1.map Int.toNat).Nodup:=by
   rw[Nodup,pairwise_map];refine(Pairwise.and_mem.1 hnd).imp fun {a b} h e=>h.2.2 ?_;have:=(I a h.1).1;have:=(I b h.2.1).1;omega
  have h2:=h1.length_le_of_subset (l₂:=range t.rows.length) fun x hx=>by
   obtain⟨y,hy,rfl⟩:=mem_map.1 hx;exact mem_range.2 (I y hy).2.1
  rwa [length_map,length_range] at h2
 exact⟨hD'.mono w4,e2⟩
end Ba
namespace Pa
open List
open Go.Proofs.Tryz
open Go.RowKit V Pk Vl Go.Proofs.YtihmfhcjbmlnaaaGreatDoor.Nm Pc
variable {t o:ByteArray}
theorem IK{s:ByteArray}(h:dH s=0):qs s=true/\s.size<=8:=by
 unfold dH at h;split at h
 ·cases h
 split at h
 ·cases h
 rename_i h1 h2;rw[Bool.or_eq_true,Bool.not_eq_true'] at h2;refine⟨?_,by omega⟩;cases hw:qs s with
 | true=>rfl
 | false=>exact absurd (.inl hw) h2
variable {G:List (Nat×List Value)}
def uZ:List Vl->ByteArray
 | []=>⟨#[120]⟩
 | v::_=>v.s
def cY(s:aT):Prop:=dJ s/\1<=s.kind/\s.kind<=6/\s.iA<=9223372036854775807/\cZ s=0
structure tL (w:List aQ):Prop where
 l:w.length<=40
 f:oL w=0
 b:∀o∈w,o.nm.size<=maxLen/\-9223372036854775808<=o.v.n/\o.v.n<=9223372036854775807
theorem Yv:tL []:=⟨Nat.zero_le _,rfl,fun _ h=>by cases h⟩
theorem ahz(t:Tw):∀o∈iP 3 t,-20<=o.v.n/\o.v.n<=40:=by
 have hz:∀j nm,-20<=(⟨j,aX,nm⟩:aQ).v.n/\(⟨j,aX,nm⟩:aQ).v.n<=40:=fun _ _=>⟨by show(-20:Int)<=0;decide,by show(0:Int)<=40;decide⟩
 have O:∀n s,-20<=(u5 n s).v.n/\(u5 n s).v.n<=40:=fun n s=>by
  show -20<=(rG ⟨n,cN n 40-20,s⟩).n/\(rG ⟨n,cN n 40-20,s⟩).n<=40;have U:=iK n (show(1:Int)<=40 by decide);have h2:=iK (cN n 40-20) (show(1:Int)<=2 by decide);unfold rG;split
  ·dsimp only;omega
  split
  ·dsimp only;omega
  split
  ·dsimp only;omega
  exact⟨by show(-20:Int)<=0;decide,by show(0:Int)<=40;decide⟩
 have E:∀k n s,∀o∈oI k n s,-20<=o.v.n/\o.v.n<=40:=fun k n s o ho=>by
  unfold oI at ho;split at ho<;>(simp only[mem_singleton] at ho;subst ho)
  ·exact hz _ _
  exact O _ _
 have key:∀(r:Nat) (t:Tw),∀o∈iP r t,-20<=o.v.n/\o.v.n<=40:=by
  intro r;induction r with
  | zero=>intro t;obtain⟨k,n,s,ts⟩:=t;exact E k n s
  | succ r ih =>
   intro t o ho;obtain⟨k,n,s,ts⟩:=t;have I:∀i:Nat,∀o∈iQ r ts n s i,-20<=o.v.n/\o.v.n<=40:=fun i o ho=>by
    unfold iQ at ho;split at ho
    ·exact ih _ o ho
    exact E _ _ _ o ho
   rw[za] at ho;split at ho
   ·simp only[mem_singleton] at ho;subst ho;exact O _ _
   split at ho
   ·simp only[mem_singleton] at ho;subst ho;exact hz _ _
   split at ho
   ·rcases mem_append.1 ho with ho|ho
    ·exact I 0 o ho
    simp only[mem_singleton] at ho;subst ho;exact hz _ _
   rcases mem_append.1 ho with ho|ho
   ·rcases mem_append.1 ho with ho|ho
    ·exact I 0 o ho
    exact I 1 o ho
   simp only[mem_singleton] at ho;subst ho;exact hz _ _
 exact key 3 t
theorem El(t:Tw):tL (iP 3 t):=by
 have h:=Mn t;refine⟨by omega,?_,fun o ho=>⟨aiw (aiv t) o ho,?_⟩⟩
 ·unfold oL;rw[if_neg w4];exact UM t
 have:=ahz t o ho;omega
theorem ahA(s:aT):dO s s=true:=by
 unfold dO;simp only[Bool.and_eq_true,beq_iff_eq,vY,and_self]
theorem BG{s:aT}(ht:dH s.table=0)(he:dA s=0)(hb:dr s=s):cZ s=0:=by
 unfold cZ;rw[if_neg (fun h=>h.2 ht),hb,if_neg (fun h=>by rw[ahA] at h;cases h.2),he]
theorem small{x:ByteArray}(h:dH x=0):x.size<=maxLen:=Nat.le_trans (IK h).2 w7
def q8(s:aT):Prop:=s.ah=[]/\∀w,tL w->(4<=s.kind\/w=[])->cY {s with ah:=w}
theorem q8.wL{s:aT}(h:q8 s):cY s:=by
 have:=h.2 [] Yv (.inr rfl);rw[<-h.1] at this;exact this
theorem LY(ht:dH t=0):q8 {bN with kind:=1,table:=t,an:=cx}:=⟨rfl,fun w hw h=>by
 have E:w=[]:=h.resolve_left (by show ¬(4:Int)<=1;decide);subst E;exact⟨⟨⟨by show 4<=6;decide,Nat.zero_le _,Nat.zero_le _,Nat.zero_le _,Nat.zero_le _⟩,small ht,by show ∀c∈cx,c.n.size<=maxLen;decide,(fun _ h=>by cases h),Nat.zero_le _,Nat.zero_le _,(fun _ h=>by cases h),(fun _ h=>by cases h),(fun _ h=>by cases h)⟩,by show(1:Int)<=1;decide,by show(1:Int)<=6;decide,ET,
  BG ht (show gG cx=0 by decide +kernel) aD⟩⟩
theorem Vv(ht:dH t=0):q8 {bN with kind:=2,table:=t}:=⟨rfl,fun w hw h=>by
 have E:w=[]:=h.resolve_left (by show ¬(4:Int)<=2;decide);subst E;exact⟨⟨⟨Nat.zero_le _,Nat.zero_le _,Nat.zero_le _,Nat.zero_le _,Nat.zero_le _⟩,small ht,(fun _ h=>by cases h),(fun _ h=>by cases h),Nat.zero_le _,Nat.zero_le _,(fun _ h=>by cases h),(fun _ h=>by cases h),(fun _ h=>by cases h)⟩,by show(1:Int)<=2;decide,by show(2:Int)<=6;decide,ET,
  BG ht aD aD⟩⟩
theorem Yw{x:Int}(h0:0<=x):jj ⟨2,x,⟨#[]⟩⟩=0:=by
 unfold jj;rw[if_neg (by intro h;have:=h.2;dsimp only at this;omega)];kernel_rfl
theorem akY{s:ByteArray}(h:s.size<=20):jj ⟨3,0,s⟩=0:=by
 unfold jj;rw[if_neg (by intro h;exact absurd h.1 (by show ¬(3:Int)=2;decide))];unfold bW;rw[if_neg (by show ¬(3:Int)=0;decide),if_neg (by show ¬(3:Int)=1;decide),if_neg (by show ¬(3:Int)=2;decide),if_pos rfl,if_neg (fun h=>h rfl),if_neg (by show ¬s.size>20;omega)]
theorem ahB(n:Int):jj (rK n)=0/\-9223372036854775808<=(rK n).n/\(rK n).n<=9223372036854775807:=by
 have h:=iK n (show(1:Int)<=3 by decide);unfold rK;split
 ·exact⟨by decide,by decide,by decide⟩
 have h2:cN n 3=0\/cN n 3=1:=(by omega)
 rcases h2 with h2|h2<;>rw[h2]<;>exact⟨by decide,by decide,by decide⟩
theorem TX(ht:dH t=0){x y b:Int}(hx:0<=x/\x<12)(hy:0<=y/\y<9){u:ByteArray}(U:u.size<=6):q8 {bN with kind:=3,table:=t,row:=[⟨2,x,⟨#[]⟩⟩,⟨2,y,⟨#[]⟩⟩,⟨3,0,u⟩,rK b]}:=⟨rfl,fun w hw h=>by
 have E:w=[]:=h.resolve_left (by show ¬(4:Int)<=3;decide);subst E;have l1:=Yw hx.1;have l2:=Yw hy.1;have l3:jj ⟨3,0,u⟩=0:=akY w4;obtain⟨l4,I,O⟩:=ahB b;refine⟨⟨⟨Nat.zero_le _,by show 4<=6;decide,Nat.zero_le _,Nat.zero_le _,Nat.zero_le _⟩,small ht,(fun _ h=>by cases h),(fun _ h=>by cases h),Nat.zero_le _,Nat.zero_le _,fun v hv=>?_,(fun _ h=>by cases h),(fun _ h=>by cases h)⟩,by show(1:Int)<=3;decide,by show(3:Int)<=6;decide,ET,BG ht ?_ aD⟩
 ·simp only[mem_cons,not_mem_nil,or_false] at hv;rcases hv with rfl|rfl|rfl|rfl
  ·dsimp only;omega
  ·dsimp only;omega
  ·dsimp only;omega
  exact⟨I,O⟩
 show dV [⟨2,x,⟨#[]⟩⟩,⟨2,y,⟨#[]⟩⟩,⟨3,0,u⟩,rK b]=0;unfold dV;rw[if_neg bC];simp[lC,l1,l2,l3,l4]⟩
theorem DB(ht:dH t=0){N:List ByteArray}(E:N.length<=6/\∀x∈N,dH x=0){c:Bool}(hc:c=true->N=[])(ho:o=⟨#[]⟩\/dH o=0){d:Bool}(hd:o=⟨#[]⟩->d=false){m:Int}(hm:-1<=m/\m<=7):q8 {bN with kind:=4,table:=t,names:=N,count:=c,order:=o,down:=d,iA:=m}:=⟨rfl,fun w hw h=>by
 have I:o.size<=maxLen:=(by rcases ho with rfl|h;exact Nat.zero_le _;exact small h)
 refine⟨⟨⟨Nat.zero_le _,Nat.zero_le _,E.1,hw.l,Nat.zero_le _⟩,small ht,(fun _ h=>by cases h),fun x hx=>small (E.2 x hx),I,Nat.zero_le _,(fun _ h=>by cases h),hw.b,(fun _ h=>by cases h)⟩,by show(1:Int)<=4;decide,by show(4:Int)<=6;decide,(by show _<=(9223372036854775807:Int);dsimp only;omega),BG ht ?_ aD⟩;show qU {bN with kind:=4,table:=t,names:=N,count:=c,ah:=w,order:=o,down:=d,iA:=m}=0;have iV:lC dH N=0:=by
  have key:∀l:List ByteArray,(∀x∈l,dH x=0)->lC dH l=0:=by
   intro l;induction l with
   | nil=>intro _;rfl
   | cons a r ih=>intro h;rw[lC,if_neg (by rw[h a mem_cons_self];decide)];exact ih fun x hx=>h x (mem_cons_of_mem _ hx)
  exact key N E.2
 unfold qU;dsimp only;rw[if_neg w4,if_neg w4,if_neg (by
  rintro(⟨h1,h2⟩|⟨h1,h2⟩)
  ·rw[hc h1] at h2;simp at h2
  rw[hd (vY.1 h2)] at h1;cases h1),if_neg (by rw[iV];decide),if_neg (by rw[hw.f];decide)]
 split
 ·rfl
 rename_i h2;exact ho.resolve_left fun h=>h2 (vY.2 h)⟩
theorem TZ(ht:dH t=0){c:ByteArray}(hc:dH c=0)(E:Tw):q8 {bN with kind:=5,table:=t,set:=c,bG:=iP 3 E}:=⟨rfl,fun w hw h=>by
 have ho:=El E;refine⟨⟨⟨Nat.zero_le _,Nat.zero_le _,Nat.zero_le _,hw.l,ho.l⟩,small ht,(fun _ h=>by cases h),(fun _ h=>by cases h),Nat.zero_le _,small hc,(fun _ h=>by cases h),hw.b,ho.b⟩,by show(1:Int)<=5;decide,by show(5:Int)<=6;decide,ET,BG ht ?_ aD⟩;show(if dH c=0 then (if jw (iP 3 E)=0 then oL w else jw (iP 3 E)) else dH c)=0;rw[if_pos hc,if_pos (UM E),hw.f]⟩
theorem T0(ht:dH t=0):q8 {bN with kind:=6,table:=t}:=⟨rfl,fun w hw h=>by
 refine⟨⟨⟨Nat.zero_le _,Nat.zero_le _,Nat.zero_le _,hw.l,Nat.zero_le _⟩,small ht,(fun _ h=>by cases h),(fun _ h=>by cases h),Nat.zero_le _,Nat.zero_le _,(fun _ h=>by cases h),hw.b,(fun _ h=>by cases h)⟩,by show(1:Int)<=6;decide,by show(6:Int)<=6;decide,ET,BG ht hw.f aD⟩⟩
def bJ:List ByteArray:=[⟨#[116]⟩,⟨#[117]⟩]
def gA:List ByteArray:=[⟨#[]⟩,⟨#[110]⟩,⟨#[115]⟩,⟨#[105,100]⟩]
def uI:List ByteArray:=[⟨#[110]⟩,⟨#[110]⟩,⟨#[115]⟩,⟨#[98]⟩,⟨#[105,100]⟩]
theorem EC:∀x∈bJ,dH x=0:=by decide +kernel
theorem Zo:∀x∈gA,x.size=0\/dH x=0:=by decide +kernel
theorem B9:∀x∈uI,dH x=0:=by decide +kernel
theorem DP(n:Int)(h1:-9223372036854775808<=n)(h2:n<=9223372036854775807):VP Tryz.prog G 43 [ae n] (.agg [ae (rK n).k,ae (rK n).n,aG (rK n).s]):=by
 refine bA func43 rfl ntmps43 aO fun X0 w0 bz=>?_;refine cq ?_;refine cD (ds:=[_,_,_]) au rfl rfl zeroValue36 rfl (fun b2=>?_);refine ap 10 [0,2] ?_;refine cW [0,2,5] (jU G n 3 h1 h2 w7) ?_;refine bX ?_ ?_<;>intro aP bH
 ·refine az 1 ?_;refine aN 0 [_,_,_] sizeOf36 ?_;refine eA 10 [2] [] ?_;refine⟨?_,rfl⟩;unfold rK aX;simp_all
 refine az 1 ?_;refine dK call11 (jU G n 3 h1 h2 w7) ?_;refine aF 1 ?_;refine aN 0 [_,_,_] sizeOf36 ?_;refine eA 10 [2] [] ?_;refine⟨?_,rfl⟩;unfold rK aX;simp_all
theorem Oq{s:ByteArray}(h:s.size=0):s=⟨#[]⟩:=by
 obtain⟨d⟩:=s;have:d = #[]:=Array.eq_empty_of_size_eq_zero h;rw[this]
def xJ(a b:Int):List ByteArray:=if cN a 3=1 then [⟨#[115]⟩,⟨#[105,100]⟩,⟨#[110]⟩].take (1+(cN b 3).toNat) else []
def zD(a:Int)(o:ByteArray):Bool:=if o=⟨#[]⟩ then false else cN a 2==1
theorem Ze(h:(!(o.toList==(⟨#[]⟩:ByteArray).toList))=false):o=⟨#[]⟩:=vY.1 (by unfold jQ;simpa using h)
def oR(t:Int):ByteArray:=bJ.getD (cN t 2).toNat ⟨#[]⟩
def mF(k t a b:Int)(row:List Vl)(tz:Tw):aT :=
 if cN k 6=0 then {bN with kind:=1+0,table:=oR t,an:=cx}
 else if cN k 6=2 then {bN with kind:=1+2,table:=oR t,row:=[⟨2,cN a 12,⟨#[]⟩⟩,⟨2,cN b 9,⟨#[]⟩⟩,⟨3,0,xU ((⟨#[]⟩:ByteArray)++pG (uZ row) 2)⟩,rK b]}
 else if cN k 6=3 then {bN with kind:=1+3,table:=oR t,names:=(if cN a 5=3 then [] else xJ a b),count:=(cN a 5==3),order:=gA.getD (cN b 4).toNat ⟨#[]⟩,down:=zD a (gA.getD (cN b 4).toNat ⟨#[]⟩),iA:=cN a 9-1}
 else if cN k 6=4 then {bN with kind:=1+4,table:=oR t,set:=uI.getD (cN a 5).toNat ⟨#[]⟩,bG:=iP 3 tz}
 else {bN with kind:=1+cN k 6,table:=oR t}
def mA(k t a b:Int)(row:List Vl)(tz wh:Tw)(bare:Bool):aT:=if 4<=(mF k t a b row tz).kind/\bare=false then {mF k t a b row tz with ah:=iP 3 wh} else mF k t a b row tz
theorem ahC(k t a b:Int)(row:List Vl)(O U:Int)(Z:ByteArray)(E:List Tw)(y1 y2:Int)(y3:ByteArray)(I:List Tw)(bare:Bool):VP Tryz.prog G 42 [.agg [ae k,ae t,ae a,ae b,aj 3 cV row,ae O,ae U,aG Z,.list 4 (Tw.mz E) E.length,ae y1,ae y2,aG y3,.list 4 (Tw.mz I) I.length,aW bare]] (aG (uZ row)):=by
 refine bA func42 rfl ntmps42 aO fun X0 w0 bz=>?_;refine cq ?_;refine dm [_,_,_,_,_,_,_,_,_,_,_,_,_,_] (fun b1=>?_);refine ap 12 [1] ?_;refine ax [1,6] ?_ ?_<;>intro aP bH
 ·obtain⟨v,r,rfl⟩:∃v r,row=v::r:=(by (cases row;simp at aP;exact⟨_,_,rfl⟩))
  refine cJ [2] ?_;refine aM 2 ?_ (h:=by exact(ny (mk:=Op.indexAddr 57) rfl ot bP (by first|exact qj runUnderlying57 sizeOf138 (j:=0) rfl bC|exact qp runUnderlying57 sizeOf138 (j:=0) rfl bC)));refine aM 1 ?_ (h:=by exact(ez (mk:=Op.load 9) rfl ot (by exact xR (i:=0) (j:=2) fX isAgg9 bC rfl)));refine bB ?_;refine eD [] ?_;exact⟨rfl,rfl⟩
 obtain rfl:row=[]:=eq_nil_of_length_eq_zero (by simp at aP;simp[aP]);refine ay [2] ?_;exact z46
theorem LI(k t a b:Int)(row:List Vl)(x1 x2:Int)(x3:ByteArray)(E:List Tw)(y1 y2:Int)(y3:ByteArray)(I:List Tw)(bare:Bool)(eK:-9223372036854775808<=k)(fD:k<=9223372036854775807)(ht1:-9223372036854775808<=t)(ht2:t<=9223372036854775807)(yU:-9223372036854775808<=a)(rU:a<=9223372036854775807)(iI:-9223372036854775808<=b)(jT:b<=9223372036854775807)(yh:∀v∈row,v.s.size<=maxLen)(Tg:(Tw.mk x1 x2 x3 E).Ok)(Gp:(Tw.mk y1 y2 y3 I).Ok):VC Tryz.prog G 18 [.agg [ae k,ae t,ae a,ae b,aj 3 cV row,ae x1,ae x2,aG x3,.list 4 (Tw.mz E) E.length,ae y1,ae y2,aG y3,.list 4 (Tw.mz I) I.length,aW bare]] [] (fun r S'=>∃s,r = .agg (aY s)/\S'=[]/\cY s/\s.kind=1+cN k 6/\s.table=bJ.getD (cN t 2).toNat ⟨#[]⟩/\s=mA k t a b row (.mk x1 x2 x3 E) (.mk y1 y2 y3 I) bare):=by
 refine bA func18 rfl ntmps18 aO fun X0 w0 bz=>?_;have awu:=iK k (show(1:Int)<=6 by decide);have aqP:=jU G k 6 eK fD w7;generalize Z:cN k 6=ki at *;have aqQ:=iK t (show(1:Int)<=2 by decide);have aqR:=jU G t 2 ht1 ht2 w7;generalize aqS:cN t 2=ti at *;obtain⟨tj,rfl⟩:=Int.eq_ofNat_of_zero_le aqQ.1;have Lv:tj<bJ.length:=(by show tj<2;omega)
 have nk:=EC bJ[tj] (getElem_mem Lv);have Lw:bJ[tj]=bJ.getD ((tj:Nat):Int).toNat ⟨#[]⟩:=(by rw[Int.toNat_natCast,getD_eq_getElem?_getD,getElem?_eq_getElem Lv];rfl)
 generalize aqT:bJ[tj]=tn at *;have vo:oR t=tn:=(by unfold oR;rw[aqS];exact Lw.symm)
 refine cq ?_;refine dm [_,_,_,_,_,_,_,_,_,_,_,_,_,_] (fun b1=>?_);refine cD (ds:=[_,_,_,_,_,_,_,_,_,_,_,_]) au rfl rfl zeroValue34 rfl (fun b2=>?_);refine ap 111 [1,2] ?_;refine cL ?_;refine vH 12 11 [1,2,3,14] ?_;refine cA (aqP) ?_;refine cA (aqR) ?_;refine aM 1 ?_ (h:=by exact(ez (mk:=Op.load 9) rfl ot (by exact uf (g:=cS) (ls:=bJ) (i:=tj) (d:=aG tn) kG isAgg9 Lv (by show some (D.v (.string (bJ[tj]'Lv)))=some (D.v (.string tn));rw[aqT]))));refine oD 1 ?_;refine rj ?_;refine kN ?_;refine⟨rfl,fun b3=>?_⟩;refine aN 0 [_,_,_,_,_,_,_,_,_,_,_,_] sizeOf34 ?_;refine ap 111 [1,2,3] ?_;refine iM [1,2,3] (fun aU _ aE=>∃(s:aT),(q8 s)/\(s.kind=1+ki)/\(s.table=tn)/\(s=mF k t a b row (.mk x1 x2 x3 E))/\aE=(⟨111,aU,[⟨b3,34,12,[ae s.kind,aG s.table,aj 2 cC s.an,aj 3 cV s.row,aj 1 cS s.names,aW s.count,aj 5 cO s.ah,aG s.order,aW s.down,ae s.iA,aG s.set,aj 5 cO s.bG]⟩,⟨b2,34,12,[ae 0,dj,aJ,aJ,aJ,aW false,aJ,dj,aW false,ae 0,dj,aJ]⟩,⟨b1,62,14,[ae k,ae t,ae a,ae b,aj 3 cV row,ae x1,ae x2,aG x3,.list 4 (Tw.mz E) E.length,ae y1,ae y2,aG y3,.list 4 (Tw.mz I) I.length,aW bare]⟩]⟩:St)) ?_ ?_
 ·refine cL ?_;refine VW (k:=0) (cs':=[_,_,.list 2 [] 0,.list 3 [] 0,.list 1 [] 0,_,.list 5 [] 0,_,_,_,_,.list 5 [] 0]) (S':=[_,_,_]) rfl Rg rfl ?_;refine bM [1,2,3,16] ?_;refine ax [1,2,3,16,17] ?_ ?_<;>intro aP bH
  ·obtain rfl:ki=0:=(by simp at aP;omega)
   refine uK ?_;refine pS au rfl rfl rfl call21 (UR) trivial ?_;refine aF 1 ?_;refine aN 0 [_,_,_,_,_,_,_,_,_,_,_,_] sizeOf29 ?_;refine ap 111 [1,2,3] ?_;refine⟨_,aL,{bN with kind:=1+0,table:=tn,an:=cx},(LY nk),FM,rfl,(by unfold mF;rw[if_pos Z,vo]),rfl⟩
  refine ax [1,2,3,16,21] ?_ ?_<;>intro bg cM
  ·obtain rfl:ki=2:=(by simp at bg;omega)
   have aqU:=iK a (show(1:Int)<=12 by decide);have aqV:=jU G a 12 yU rU w7;generalize aqW:cN a 12=xa at *;have aqX:=iK b (show(1:Int)<=9 by decide);have aqY:=jU G b 9 iI jT w7;generalize aqZ:cN b 9=xb at *;have AW:(uZ row).size<=maxLen:=(by (cases row;decide;exact yh _ mem_cons_self))
   have Lr:(pG (uZ row) 2).size<=maxLen:=(by rw[Mm];exact Nat.le_trans (Nat.min_le_left _ _) AW)
   have dP:((⟨#[]⟩:ByteArray)++pG (uZ row) 2).size<=maxLen:=(by rw[ByteArray.size_append];show 0+_<=_;omega)
   have vD:(⟨#[]⟩:ByteArray).size+(pG (uZ row) 2).size<=9223372036854775807:=(by (have:=Lr;unfold maxLen at this;show 0+_<=_;omega))
   have hu6:=(TY ((⟨#[]⟩:ByteArray)++pG (uZ row) 2)).2;refine nj 18 [1,2,3,40] ?_;refine cA (aqV) ?_;refine cA (aqY) ?_;refine cA (ahC k t a b row x1 x2 x3 E y1 y2 y3 I bare) ?_;refine cA (IW (uZ row) 2 AW) ?_;refine aM 0 ?_ (h:=by exact(eE rfl bP ot (zj vD)));refine cA (Nm.tZ ((⟨#[]⟩:ByteArray)++pG (uZ row) 2) dP) ?_;refine cA (DP b iI jT) ?_;refine bB ?_;refine aF 1 ?_;refine aN 0 [_,_,_,_,_,_,_,_,_,_,_,_] sizeOf30 ?_;refine ap 111 [1,2,3] ?_;refine⟨_,aL,{bN with kind:=1+2,table:=tn,row:=[⟨2,xa,⟨#[]⟩⟩,⟨2,xb,⟨#[]⟩⟩,⟨3,0,xU ((⟨#[]⟩:ByteArray)++pG (uZ row) 2)⟩,rK b]},(TX nk aqU aqX hu6),FM,rfl,(by unfold mF;rw[if_neg w4,if_pos Z,vo,aqW,aqZ]),rfl⟩
  refine ax [1,2,3,16,42] ?_ ?_<;>intro cl di
  ·obtain rfl:ki=3:=(by simp at cl;omega)
   refine iM [1,2,3] (fun aU _ aE=>∃(N:List ByteArray),((N.length<=6/\∀x∈N,dH x=0))/\(N=xJ a b)/\aE=(⟨111,aU,[⟨b3,34,12,[ae (1+3),aG tn,.list 2 [] 0,.list 3 [] 0,aj 1 cS N,aW false,.list 5 [] 0,dj,aW false,ae (-1),dj,.list 5 [] 0]⟩,⟨b2,34,12,[ae 0,dj,aJ,aJ,aJ,aW false,aJ,dj,aW false,ae 0,dj,aJ]⟩,⟨b1,62,14,[ae k,ae t,ae a,ae b,aj 3 cV row,ae x1,ae x2,aG x3,.list 4 (Tw.mz E) E.length,ae y1,ae y2,aG y3,.list 4 (Tw.mz I) I.length,aW bare]⟩]⟩:St)) ?_ ?_
   ·refine cL ?_;have awv:=iK a (show(1:Int)<=3 by decide);have aq0:=jU G a 3 yU rU w7;generalize Z9:cN a 3=xc at *;refine fW [1,2,3,47] ?_;refine cA (aq0) ?_;refine bB ?_;refine bX ?_ ?_<;>intro da eP
    ·have pyb:=iK b (show(1:Int)<=3 by decide);have Th:=jU G b 3 iI jT w7;generalize aoi:cN b 3=yb at *;have hyb:yb=0\/yb=1\/yb=2:=(by omega)
     rcases hyb with rfl|rfl|rfl
     ·refine uK ?_;refine eR (cU 0 [_,_,_]) [.string ⟨#[]⟩,.string ⟨#[]⟩,.string ⟨#[]⟩] [_,_,_] zeroValue9 runUnderlying31 sizeOf9 (fun S6=>?_);refine gb 0 48 1 3 ?_;refine aF 2 ?_;refine dK call11 (Th) ?_;refine aF 1 ?_;refine bS (fw (l:=0) (h:=1) rfl ot trivial ⟨_,ot⟩ Rb) ?_;refine aF 1 ?_;refine aN 0 [_,_,_,_,_,_,_,_,_,_,_,_] sizeOf31 ?_;refine ap 111 [1,2,3] ?_;refine⟨_,aL,[⟨#[115]⟩],⟨by decide,by decide +kernel⟩,PR,rfl⟩
     ·refine uK ?_;refine eR (cU 0 [_,_,_]) [.string ⟨#[]⟩,.string ⟨#[]⟩,.string ⟨#[]⟩] [_,_,_] zeroValue9 runUnderlying31 sizeOf9 (fun S6=>?_);refine gb 0 48 1 3 ?_;refine aF 2 ?_;refine dK call11 (Th) ?_;refine aF 1 ?_;refine bS (fw (l:=0) (h:=2) rfl ot trivial ⟨_,ot⟩ Rb) ?_;refine aF 1 ?_;refine aN 0 [_,_,_,_,_,_,_,_,_,_,_,_] sizeOf31 ?_;refine ap 111 [1,2,3] ?_;refine⟨_,aL,[⟨#[115]⟩,⟨#[105,100]⟩],⟨by decide,by decide +kernel⟩,PR,rfl⟩
     refine uK ?_;refine eR (cU 0 [_,_,_]) [.string ⟨#[]⟩,.string ⟨#[]⟩,.string ⟨#[]⟩] [_,_,_] zeroValue9 runUnderlying31 sizeOf9 (fun S6=>?_);refine gb 0 48 1 3 ?_;refine aF 2 ?_;refine dK call11 (Th) ?_;refine aF 1 ?_;refine bS (fw (l:=0) (h:=3) rfl ot trivial ⟨_,ot⟩ Rb) ?_;refine aF 1 ?_;refine aN 0 [_,_,_,_,_,_,_,_,_,_,_,_] sizeOf31 ?_;refine ap 111 [1,2,3] ?_;refine⟨_,aL,[⟨#[115]⟩,⟨#[105,100]⟩,⟨#[110]⟩],⟨by decide,by decide +kernel⟩,PR,rfl⟩
    refine eI ?_;refine⟨_,aL,[],⟨by simp,fun _ h=>by cases h⟩,(by unfold xJ;rw[Z9,if_neg (by simpa using da)]),rfl⟩
   rintro _ ⟨N,hN,hNn,rfl⟩;refine cL ?_;have aww:=iK a (show(1:Int)<=5 by decide);have aq1:=jU G a 5 yU rU w7;generalize Kn:cN a 5=xd at *;refine dB 2 ?_;refine dK call11 (aq1) ?_;refine aF 2 ?_;refine aN 0 [_,_,_,_,_,_,_,_,_,_,_,_] sizeOf4 ?_;refine ap 111 [1,2,3] ?_;refine iM [1,2,3] (fun aU _ aE=>∃(N:List ByteArray),∃(ct:Bool),((N.length<=6/\∀x∈N,dH x=0))/\(ct=true->N=[])/\(ct=(cN a 5==3))/\(N=(if cN a 5=3 then [] else xJ a b))/\aE=(⟨111,aU,[⟨b3,34,12,[ae (1+3),aG tn,.list 2 [] 0,.list 3 [] 0,aj 1 cS N,aW ct,.list 5 [] 0,dj,aW false,ae (-1),dj,.list 5 [] 0]⟩,⟨b2,34,12,[ae 0,dj,aJ,aJ,aJ,aW false,aJ,dj,aW false,ae 0,dj,aJ]⟩,⟨b1,62,14,[ae k,ae t,ae a,ae b,aj 3 cV row,ae x1,ae x2,aG x3,.list 4 (Tw.mz E) E.length,ae y1,ae y2,aG y3,.list 4 (Tw.mz I) I.length,aW bare]⟩]⟩:St)) ?_ ?_
   ·refine ax [1,2,3,61] ?_ ?_<;>intro eo fR
    ·refine dB 1 ?_;refine aN 0 [_,_,_,_,_,_,_,_,_,_,_,_] sizeOf31 ?_;refine ap 111 [1,2,3] ?_;refine⟨_,(Wk.cells (k:=0) (cs':=[_,_,_,_,.list 1 [] 0,_,_,_,_,_,_,_]) rfl Rg rfl).trans (aL),[],(xd==3),⟨Nat.zero_le _,fun _ h=>by cases h⟩,(fun _=>rfl),(by rw[Kn]),(by rw[Kn,if_pos (by simpa using eo)]),rfl⟩
    refine eI ?_;refine⟨_,aL,N,(xd==3),hN,(fun h=>absurd h (by rw[eo];decide)),(by rw[Kn]),(by rw[Kn,if_neg (by simpa using eo)];exact hNn),rfl⟩
   rintro _ ⟨N,ct,hN,hcn,RM,hNe,rfl⟩;refine cL ?_;have aq2:=iK b (show(1:Int)<=4 by decide);have aq3:=jU G b 4 iI jT w7;generalize aq4:cN b 4=xe at *;obtain⟨ej,rfl⟩:=Int.eq_ofNat_of_zero_le aq2.1;have Lx:ej<gA.length:=(by show ej<4;omega)
   have lf:=Zo gA[ej] (getElem_mem Lx);generalize abL:gA[ej]=od at *;have hoe:od=gA.getD (cN b 4).toNat ⟨#[]⟩:=(by rw[aq4,Int.toNat_natCast,getD_eq_getElem?_getD,getElem?_eq_getElem Lx,abL];rfl)
   refine uK ?_;refine eR (cU 0 [_,_,_,_]) [.string ⟨#[]⟩,.string ⟨#[]⟩,.string ⟨#[]⟩,.string ⟨#[]⟩] [_,_,_,_] zeroValue9 runUnderlying31 sizeOf9 (fun GW=>?_);refine gb 0 63 1 4 ?_;refine aF 2 ?_;refine dK call11 (aq3) ?_;refine aF 1 ?_;refine bS (ez (mk:=Op.load 9) rfl ot (by exact uf (g:=cS) (ls:=gA) (i:=ej) (d:=aG od) kG isAgg9 Lx (by show some (D.v (.string (gA[ej]'Lx)))=some (D.v (.string od));rw[abL]))) ?_;refine aF 1 ?_;refine aN 0 [_,_,_,_,_,_,_,_,_,_,_,_] sizeOf9 ?_;refine ap 111 [1,2,3] ?_;refine iM [1,2,3] (fun aU _ aE=>∃(dn:Bool),(od=⟨#[]⟩->dn=false)/\(dn=zD a od)/\aE=(⟨111,aU,[⟨b3,34,12,[ae (1+3),aG tn,.list 2 [] 0,.list 3 [] 0,aj 1 cS N,aW ct,.list 5 [] 0,aG od,aW dn,ae (-1),dj,.list 5 [] 0]⟩,⟨b2,34,12,[ae 0,dj,aJ,aJ,aJ,aW false,aJ,dj,aW false,ae 0,dj,aJ]⟩,⟨b1,62,14,[ae k,ae t,ae a,ae b,aj 3 cV row,ae x1,ae x2,aG x3,.list 4 (Tw.mz E) E.length,ae y1,ae y2,aG y3,.list 4 (Tw.mz I) I.length,aW bare]⟩]⟩:St)) ?_ ?_
   ·have awx:=iK a (show(1:Int)<=2 by decide);have aq5:=jU G a 2 yU rU w7;generalize aq6:cN a 2=xf at *;refine dB 4 ?_;refine cz 73 (fun O anU=>?_) (fun O anU=>?_)
    ·refine aF 2 ?_;refine pS jq rfl rfl rfl call11 (aq5) ⟨ot,bP,trivial⟩ ?_;refine aF 3 ?_;refine aN 0 [_,_,_,_,_,_,_,_,_,_,_,_] sizeOf4 ?_;refine ap 111 [1,2,3] ?_;refine⟨_,aL,(xf==1),(fun h=>by rw[h] at O;exact absurd O zR),(by unfold zD;rw[if_neg (fun h=>by rw[h] at O;exact absurd O zR),aq6]),rfl⟩
    refine AM 4 ?_;refine aF 2 ?_;refine aN 0 [_,_,_,_,_,_,_,_,_,_,_,_] sizeOf4 ?_;refine ap 111 [1,2,3] ?_;refine⟨_,aL,false,(fun _=>rfl),(by unfold zD;rw[if_pos (Ze O)]),rfl⟩
   rintro _ ⟨dn,C7,hde,rfl⟩;have awy:=iK a (show(1:Int)<=9 by decide);have aq7:=jU G a 9 yU rU w7;generalize aq8:cN a 9=xg at *;refine dB 2 ?_;refine dK call11 (aq7) ?_;refine aF 2 ?_;refine aN 0 [_,_,_,_,_,_,_,_,_,_,_,_] sizeOf3 ?_;refine ap 111 [1,2,3] ?_;refine⟨_,aL,{bN with kind:=1+3,table:=tn,names:=N,count:=ct,order:=od,down:=dn,iA:=xg-1},(DB nk hN hcn (lf.imp (fun h=>Oq h) id) C7 w4),FM,rfl,(by unfold mF;rw[if_neg w4,if_neg w4,if_pos Z,vo,<-hNe,<-RM,<-hoe,<-hde,aq8]),rfl⟩
  refine ax [1,2,3,85] ?_ ?_<;>intro fH ik
  ·obtain rfl:ki=4:=(by simp at fH;omega)
   refine cL ?_;have aq9:=iK a (show(1:Int)<=5 by decide);have ara:=jU G a 5 yU rU w7;generalize arb:cN a 5=xh at *;obtain⟨hj,rfl⟩:=Int.eq_ofNat_of_zero_le aq9.1;have Ly:hj<uI.length:=(by show hj<5;omega)
   have hsn:=B9 uI[hj] (getElem_mem Ly);generalize abM:uI[hj]=sn at *;have hse:sn=uI.getD (cN a 5).toNat ⟨#[]⟩:=(by rw[arb,Int.toNat_natCast,getD_eq_getElem?_getD,getElem?_eq_getElem Ly,abM];rfl)
   refine uK ?_;refine eR (cU 0 [_,_,_,_,_]) [.string ⟨#[]⟩,.string ⟨#[]⟩,.string ⟨#[]⟩,.string ⟨#[]⟩,.string ⟨#[]⟩] [_,_,_,_,_] zeroValue9 runUnderlying31 sizeOf9 (fun ry=>?_);refine gb 0 87 1 5 ?_;refine aF 2 ?_;refine dK call11 (ara) ?_;refine aF 1 ?_;refine bS (ez (mk:=Op.load 9) rfl ot (by exact uf (g:=cS) (ls:=uI) (i:=hj) (d:=aG sn) kG isAgg9 Ly (by show some (D.v (.string (uI[hj]'Ly)))=some (D.v (.string sn));rw[abM]))) ?_;refine aF 1 ?_;refine aN 0 [_,_,_,_,_,_,_,_,_,_,_,_] sizeOf9 ?_;refine ap 111 [1,2,3] ?_;refine dB 2 ?_;refine dK call44 (YY (.mk x1 x2 x3 E) Tg) ?_;refine aF 1 ?_;refine aN 0 [_,_,_,_,_,_,_,_,_,_,_,_] sizeOf32 ?_;refine ap 111 [1,2,3] ?_;refine⟨_,aL,{bN with kind:=1+4,table:=tn,set:=sn,bG:=iP 3 (.mk x1 x2 x3 E)},(TZ nk hsn (.mk x1 x2 x3 E)),FM,rfl,(by unfold mF;rw[if_neg w4,if_neg w4,if_neg w4,if_pos Z,vo,<-hse]),rfl⟩
  have arc:ki=1\/ki=5:=(by simp at aP bg cl fH;omega)
  refine eI ?_;refine⟨_,aL,{bN with kind:=1+ki,table:=tn},(by (rcases arc with rfl|rfl;exact Vv nk;exact T0 nk)),FM,rfl,(by unfold mF;rw[if_neg w4,if_neg w4,if_neg w4,if_neg w4,vo,Z]),rfl⟩
 rintro _ ⟨s,QV,QW,QX,vL,rfl⟩;refine az 4 ?_;refine cz 101 (fun U ams=>?_) (fun U ams=>?_)
 ·refine bL [1,2,3,105] ?_;refine bX ?_ ?_<;>intro iu qa
  ·have hg4:4<=s.kind/\bare=false:=(by (have q1:=iu;simp at q1;first|exact⟨by simpa using U,by simpa using q1⟩|simp_all))
   have qv:=QV.2 (iP 3 (.mk y1 y2 y3 I)) (El _) (.inl hg4.1);refine dB 2 ?_;refine dK call44 (YY (.mk y1 y2 y3 I) Gp) ?_;refine aF 1 ?_;refine aN 0 [_,_,_,_,_,_,_,_,_,_,_,_] sizeOf32 ?_;refine ap 111 [2,3] ?_;refine az 1 ?_;refine aN 1 [_,_,_,_,_,_,_,_,_,_,_,_] sizeOf34 ?_;refine eA 111 [2] [] ?_;exact⟨{s with ah:=iP 3 (.mk y1 y2 y3 I)},rfl,rfl,qv,QW,QX.trans Lw,by unfold mA;rw[<-vL,if_pos hg4]⟩
  have qv:=QV.wL;have Ti:¬(4<=s.kind/\bare=false):=(by rintro⟨q1,q2⟩;first|(simp at U;omega)|(simp[q2] at iu;done)|simp_all)
  refine az 1 ?_;refine aN 1 [_,_,_,_,_,_,_,_,_,_,_,_] sizeOf34 ?_;refine eA 111 [2] [] ?_;exact⟨s,rfl,rfl,qv,QW,QX.trans Lw,by unfold mA;rw[<-vL,if_neg Ti]⟩
 refine bL [1,2,3,105] ?_;refine gK ?_;have qv:=QV.wL;have Ti:¬(4<=s.kind/\bare=false):=(by rintro⟨q1,q2⟩;first|(simp at U;omega)|(simp[q2] at iu;done)|simp_all)
 refine az 1 ?_;refine aN 1 [_,_,_,_,_,_,_,_,_,_,_,_] sizeOf34 ?_;refine eA 111 [2] [] ?_;exact⟨s,rfl,rfl,qv,QW,QX.trans Lw,by unfold mA;rw[<-vL,if_neg Ti]⟩
theorem aeX(k t a b:Int)(row:List Vl)(U Z:Int)(x3:ByteArray)(E:List Tw)(y1 y2:Int)(y3:ByteArray)(I:List Tw)(bare:Bool)(eK:-9223372036854775808<=k)(fD:k<=9223372036854775807)(ht1:-9223372036854775808<=t)(ht2:t<=9223372036854775807)(yU:-9223372036854775808<=a)(rU:a<=9223372036854775807)(iI:-9223372036854775808<=b)(jT:b<=9223372036854775807)(O:∀v∈row,v.s.size<=maxLen)(Tg:(Tw.mk U Z x3 E).Ok)(Gp:(Tw.mk y1 y2 y3 I).Ok):VC Tryz.prog G 18 [.agg [ae k,ae t,ae a,ae b,aj 3 cV row,ae U,ae Z,aG x3,.list 4 (Tw.mz E) E.length,ae y1,ae y2,aG y3,.list 4 (Tw.mz I) I.length,aW bare]] [] (fun r S'=>∃s,r = .agg (aY s)/\S'=[]/\cY s/\s.kind=1+cN k 6/\s.table=bJ.getD (cN t 2).toNat ⟨#[]⟩):=(LI k t a b row U Z x3 E y1 y2 y3 I bare eK fD ht1 ht2 yU rU iI jT O Tg Gp).mono fun r S' ⟨s,h1,h2,h3,h4,h5,_⟩=>⟨s,h1,h2,h3,h4,h5⟩
end Pa
namespace Ba
open List
open Go.Proofs.Tryz
open Go.RowKit V Pk Tr Vl Go.Proofs.YtihmfhcjbmlnaaaGreatDoor.Nm Pc Cd Ex Tw
open Pa (aT aY dJ bZ cY cZ dA dO dr)
variable {l:List aA} {a c:Nat}
theorem Pz{v:Vl}(h:bW v=0)(h1:-9223372036854775808<=v.n)(h2:v.n<=9223372036854775807):v.Ok:=by
 unfold bW at h;have hk:(0<=v.k/\v.k<=3)/\v.s.size<=20:=by
  repeat' split at h
  all_goals first|(cases h;done)|omega
 exact⟨by omega,by omega,h1,h2,Nat.le_trans hk.2 w7⟩
theorem Vo{α:Type}{f:α->Int}:∀{l:List α},Pa.lC f l=0->∀a∈l,f a=0
 | [],_,a,ha=>by cases ha
 | x::r,h,a,ha=>by
  rw[Pa.lC] at h;split at h
  ·rename_i hx;exact absurd h hx
  rename_i hx;rcases mem_cons.1 ha with rfl|ha
  ·exact Classical.not_not.1 hx
  exact Vo h a ha
theorem Ng{w:List aQ}(h:Pa.oL w=0):∀o∈w,bW o.v=0:=fun o ho=>by
 unfold Pa.oL at h;split at h
 ·rename_i h0;rw[length_eq_zero_iff.1 h0] at ho;cases ho
 obtain⟨h',h1⟩:=Ii w 0 (zo h).2 o ho;exact HE (zh h1).2.2.1
theorem akZ{w:List aQ}(h:jw w=0):∀o∈w,bW o.v=0:=fun o ho=>by
 obtain⟨h',h1⟩:=Ii w 0 (zo h).2 o ho;exact HE (zh h1).2.2.1
structure uG (s:aT):Prop where
 fin:dJ s
 row:∀v∈s.row,v.Ok
 Tj:∀o∈s.ah,o.nm.size<=maxLen
 Tm:∀o∈s.ah,o.v.Ok
 Tn:∀o∈s.bG,o.nm.size<=maxLen
 xok:∀o∈s.bG,o.v.Ok
theorem B9{s:aT}(hf:dJ s)(eK:1<=s.kind)(C5:s.kind<=6)(hc:cZ s=0):uG s:=by
 unfold cZ at hc;split at hc
 ·rename_i h1;exact absurd hc h1.2
 split at hc
 ·cases hc
 rename_i h1 h2;have hb:dO s (dr s)=true:=by
  cases h:dO s (dr s) with
  | true=>rfl
  | false=>exact absurd ⟨hc,h⟩ h2
 unfold dO at hb;simp only[Bool.and_eq_true,beq_iff_eq] at hb;have hr:∀v∈s.row,bW v=0:=by
  by_cases h3:s.kind=3
  ·unfold dA at hc;rw[if_neg w4,if_pos h3] at hc;unfold Pa.dV at hc;split at hc
   ·cases hc
   exact fun v hv=>HE (Vo hc v hv)
  have E:(s.row.length:Int)=((dr s).row.length:Int):=hb.2.2.1;have h0:(dr s).row=[]:=(by unfold dr;split;rfl;split;rfl;split;rfl;split;rfl;rfl)
  rw[h0] at E;have:s.row=[]:=length_eq_zero_iff.1 (by simpa using E);rw[this];intro v hv;cases hv
 have hw:∀o∈s.ah,bW o.v=0:=by
  by_cases h3:4<=s.kind
  ·unfold dA at hc;rw[if_neg w4,if_neg w4] at hc;by_cases h4:s.kind=4
   ·rw[if_pos h4] at hc;unfold Pa.qU at hc;split at hc
    ·cases hc
    split at hc
    ·cases hc
    split at hc
    ·cases hc
    split at hc
    ·rename_i h9;exact absurd hc h9
    split at hc
    ·rename_i h9;exact absurd hc h9
    rename_i h9;exact Ng (Classical.not_not.1 h9)
   rw[if_neg h4] at hc;by_cases h5:s.kind=5
   ·rw[if_pos h5] at hc;split at hc
    ·split at hc
     ·exact Ng hc
     rename_i h9;exact absurd hc h9
    rename_i h9;exact absurd hc h9
   rw[if_neg h5,if_pos w4] at hc;exact Ng hc
  have E:(s.ah.length:Int)=((dr s).ah.length:Int):=hb.2.2.2.2.2.1;have h0:(dr s).ah=[]:=(by unfold dr;split;rfl;split;rfl;rw[if_neg w4,if_neg w4,if_neg w4];rfl)
  rw[h0] at E;have:s.ah=[]:=length_eq_zero_iff.1 (by simpa using E);rw[this];intro v hv;cases hv
 have hx:∀o∈s.bG,bW o.v=0:=by
  by_cases h5:s.kind=5
  ·unfold dA at hc;rw[if_neg w4,if_neg w4,if_neg w4,if_pos h5] at hc;split at hc
   ·split at hc
    ·rename_i h9;exact akZ h9
    rename_i h9;exact absurd hc h9
   rename_i h9;exact absurd hc h9
  have E:(s.bG.length:Int)=((dr s).bG.length:Int):=(by simpa using hb.2.2.2.2.2.2.2.2.2.2)
  have h0:(dr s).bG=[]:=(by unfold dr;split;rfl;split;rfl;split;rfl;split;rfl;rfl)
  rw[h0] at E;have:s.bG=[]:=length_eq_zero_iff.1 (by simpa using E);rw[this];intro v hv;cases hv
 exact⟨hf,fun v hv=>Pz (hr v hv) (hf.r v hv).1 (hf.r v hv).2,fun o ho=>(hf.w o ho).1,fun o ho=>Pz (hw o ho) (hf.w o ho).2.1 (hf.w o ho).2.2,fun o ho=>(hf.x o ho).1,fun o ho=>Pz (hx o ho) (hf.x o ho).2.1 (hf.x o ho).2.2⟩
theorem cY.st{s:aT}(h:cY s):uG s:=B9 h.1 h.2.1 h.2.2.1 h.2.2.2.2
structure mZ (l:List aA) (a c:Nat):Prop where
 g:pY l (a*(1+c))
 r:∀t∈l,t.rows.length<=a
theorem ajr(s:aT)(h:dH s.table=0)(hc:s.an=cx):dN (iN s) 0:=⟨h,hc,Nat.zero_le _,ai4,fun i h=>absurd h (Nat.not_lt_zero _),fun x hx=>by
 have:er nc=[]:=ai5;rw[show(iN s).ix=nc from rfl,this] at hx;cases hx⟩
theorem pY.mono{l:List aA}{n m:Nat}(g:pY l n)(h:n<=m):pY l m:=⟨g.fm,fun t ht=>(g.tb t ht).mono h,g.sz,g.Lu⟩
theorem pY.put{n:Nat}(g:pY l n){i:Nat}(hi:i<l.length){t:aA}(ht:dN t n)(hn:t.nm=l[i].nm):pY (l.set i t) n:=by
 refine⟨by rw[length_set];exact g.fm,fun x hx=>?_,fun x hx=>?_,?_⟩
 ·rcases mem_or_eq_of_mem_set hx with h|h
  ·exact g.tb x h
  rw[h];exact ht
 ·rcases mem_or_eq_of_mem_set hx with h|h
  ·exact g.sz x h
  rw[h,hn];exact g.sz _ (getElem_mem hi)
 have hm:(l.set i t).map aA.nm=l.map aA.nm:=by
  exact aaN
 have h1:∀l:List aA,(l.Pairwise fun a b=>a.nm.toList≠b.nm.toList)↔(l.map aA.nm).Pairwise fun a b=>a.toList≠b.toList:=fun l=>by rw[pairwise_map]
 rw[h1,hm,<-h1];exact g.Lu
theorem Zf(t:aA)(row:List Vl):(iB t row).1.nm=t.nm:=by
 unfold iB;by_cases h1:Pc.dV t.an row≠0
 ·rw[if_pos h1]
 rw[if_neg h1];cases jv t.ix (de row) (dG t.ix) with
 | true=>rw[if_pos rfl]
 | false =>
  rw[if_neg w7];by_cases h3:t.rows.length=40
  ·rw[if_pos h3]
  rw[if_neg h3]
theorem Yx:∀(l:List Int) (t:aA),(uE t l).nm=t.nm
 | [],_=>rfl
 | _::l,t=>(Yx l _).trans rfl
theorem Zg(t:aA)(w:List aQ):(n9 t w).1.nm=t.nm:=by unfold n9;split;rfl;exact Yx _ _
theorem Yy{c:Nat}:∀(l:List Int) (vs:List Vl) (t:aA),(oV c t l vs).nm=t.nm
 | [],_,t=>by unfold oV;rfl
 | _::_,[],t=>by unfold oV;rfl
 | _::l,_::vs,t=>(Yy l vs _).trans rfl
theorem WW:∀(l:List Int) (vs:List Vl) (t:aA),(mg t l vs).1.nm=t.nm
 | [],_,t=>by unfold mg;rfl
 | _::_,[],t=>by unfold mg;rfl
 | _::l,_::vs,t=>by
  rw[mg];split
  ·rfl
  exact(WW l vs _).trans rfl
theorem Zh(t:aA)(s:aT):(jb t s).1.nm=t.nm:=by
 unfold jb;repeat' split
 all_goals first|rfl|exact Yy _ _ _|exact(WW _ _ _).trans rfl
theorem amt{nm:ByteArray}(h:aC l nm<0):∀t∈l,t.nm.toList≠nm.toList:=fun t ht e=>by
 unfold aC dD at h;split at h
 ·omega
 rename_i h1;have:=findIdx?_eq_none_iff.1 h1 t ht;rw[e] at this;simp at this
theorem WX(h:a+c<=30):a*(1+c)<=260:=by
 have key:∀a<31,∀c<31,a+c<=30->a*(1+c)<=260:=(by decide +kernel)
 exact key a w4 c w4 h
theorem ZN:a*(1+c)+1<=(a+1)*(1+c):=by rw[Nat.add_mul];omega
theorem ZO:a*(1+c)+a=a*(1+(c+1)):=by rw[<-Nat.add_assoc,Nat.mul_add a (1+c) 1,Nat.mul_one]
theorem mZ.put{l:List aA}{a c a' E:Nat}(g:mZ l a c)(h:a*(1+c)<=a'*(1+E))(ha:a<=a'){i:Nat}(hi:i<l.length){t:aA}(ht:dN t (a'*(1+E)))(hr:t.rows.length<=a')(hn:t.nm=l[i].nm):mZ (l.set i t) a' E:=by
 refine⟨(g.g.mono h).put hi ht hn,fun x hx=>?_⟩;rcases mem_or_eq_of_mem_set hx with hx|hx
 ·exact Nat.le_trans (g.r x hx) ha
 rw[hx];exact hr
theorem OR{i:Nat}(hi:i<l.length){t:aA}(hn:t.nm=l[i].nm):(l.set i t).map aA.nm=l.map aA.nm:=by
 exact aaN
theorem Nh(g:mZ l a c)(I:a+c<=30){s:aT}(hs:uG s)(fD:¬s.kind=2)(O:dH s.table=0)(E:s.kind=1->s.an=cx)(h0:(gz l s).2.2=0) :
  ∃a' U,a'+U<=a+c+1/\mZ (gz l s).1 a' U/\(s.kind=1->(gz l s).1=l++[iN s]/\a'=a/\U=c)/\(¬s.kind=1->(gz l s).1.map aA.nm=l.map aA.nm):=by
 have hb:=WX I;have iI:=vX (fun t:aA=>t.nm.toList==s.table.toList) l;rw[show dD (fun t:aA=>t.nm.toList==s.table.toList) l=aC l s.table from rfl] at iI;unfold gz at h0 |-;by_cases eK:s.kind=1
 ·rw[if_pos eK] at h0 |-;dsimp only at h0;unfold sG at h0 |-;by_cases h1:0<=aC l s.table
  ·rw[if_pos h1] at h0;cases h0
  rw[if_neg h1] at h0 |-;by_cases h2:l.length=4
  ·rw[if_pos h2] at h0;cases h0
  rw[if_neg h2] at h0 |-;have Z:=ajr s O (E eK);have hf:=g.g.fm;refine⟨a,c,by omega,⟨⟨by rw[length_append,length_singleton];omega,fun t ht=>?_,fun t ht=>?_,?_⟩,fun t ht=>?_⟩,fun _=>⟨rfl,rfl,rfl⟩,fun h=>absurd eK h⟩
  ·rcases mem_append.1 ht with ht|ht
   ·exact g.g.tb t ht
   rw[mem_singleton] at ht;rw[ht];exact Z.mono (Nat.zero_le _)
  ·rcases mem_append.1 ht with ht|ht
   ·exact g.g.sz t ht
   rw[mem_singleton] at ht;rw[ht];exact hs.fin.t
  ·refine pairwise_append.2 ⟨g.g.Lu,pairwise_singleton _ _,fun x hx y hy=>?_⟩;rw[mem_singleton] at hy;subst hy;exact amt (show aC l s.table<0 by omega) x hx
  rcases mem_append.1 ht with ht|ht
  ·exact g.r t ht
  rw[mem_singleton] at ht;rw[ht];exact Nat.zero_le _
 rw[if_neg eK] at h0 |-;by_cases h1:aC l s.table<0
 ·rw[if_pos h1] at h0;cases h0
 rw[if_neg h1] at h0 |-;have bp:(aC l s.table).toNat<l.length:=(by omega)
 have jm:l.getD (aC l s.table).toNat (iN s)=l[(aC l s.table).toNat]:=(by rw[getD_eq_getElem?_getD,getElem?_eq_getElem bp];rfl)
 rw[jm] at h0 |-;have gt:=g.g.tb _ (getElem_mem bp);have gr:=g.r _ (getElem_mem bp);by_cases h3:s.kind=3
 ·rw[if_pos h3] at h0 |-;obtain⟨q1,q2⟩:=ahx gt w4 hs.row h0;exact⟨a+1,c,by omega,g.put (Nat.le_trans (Nat.le_succ _) ZN) (Nat.le_succ _) bp (q1.mono ZN) w4 (Zf _ _),fun h=>absurd h eK,fun _=>OR bp (Zf _ _)⟩
 rw[if_neg h3] at h0 |-;by_cases h4:s.kind=4
 ·rw[if_pos h4];exact⟨a,c,by omega,g,fun h=>absurd h eK,fun _=>rfl⟩
 rw[if_neg h4] at h0 |-;by_cases h5:s.kind=5
 ·rw[if_pos h5];obtain⟨q1,q2⟩:=ahy gt s hs.Tn hs.xok hb;exact⟨a,c+1,by omega,g.put (by rw[<-ZO];omega) (Nat.le_refl _) bp (q1.mono (by rw[<-ZO];omega)) w4 (Zh _ _),fun h=>absurd h eK,fun _=>OR bp (Zh _ _)⟩
 rw[if_neg h5];obtain⟨q1,q2⟩:=aeW gt s.ah;exact⟨a,c,by omega,g.put (Nat.le_refl _) (Nat.le_refl _) bp q1 w4 (Zg _ _),fun h=>absurd h eK,fun _=>OR bp (Zg _ _)⟩
end Ba
namespace Pa
open List
open Go.Proofs.Tryz
open Go.RowKit V Pk Go.Proofs.YtihmfhcjbmlnaaaGreatDoor.Vl Go.Proofs.YtihmfhcjbmlnaaaGreatDoor.Nm Go.Proofs.YtihmfhcjbmlnaaaGreatDoor.Pc
section
variable {H:Type} {enc:TypeId×Value->H} {P:Program} {w:World} {base:Nat} {sp:Nat->Bool} {held:Bool}
theorem agc {fuel:Nat} {t:TypeId} {f0 f1 f2 f3 f4 f5 f6 f7:Field} {E I O U Z α5 α6 α7:Type} {g0:E->List D} {k0:E->Prop} {g1:I->List D} {k1:I->Prop} {g2:O->List D} {k2:O->Prop} {g3:U->List D} {k3:U->Prop} {g4:Z->List D} {k4:Z->Prop} {g5:α5->List D} {k5:α5->Prop} {g6:α6->List D} {k6:α6->Prop} {g7:α7->List D} {k7:α7->Prop} {n0 n1 n2 n3 n4 n5 n6 n7:Nat}
  (ht:P.underlying t=some (.struct #[f0,f1,f2,f3,f4,f5,f6,f7])) (hc:P.cellsOf t=n0+n1+n2+n3+n4+n5+n6+n7) (o0:f0.offset=0) (c0:P.cellsOf f0.type=n0) (o1:f1.offset=n0) (c1:P.cellsOf f1.type=n1) (o2:f2.offset=n0+n1) (c2:P.cellsOf f2.type=n2) (o3:f3.offset=n0+n1+n2) (c3:P.cellsOf f3.type=n3) (o4:f4.offset=n0+n1+n2+n3) (c4:P.cellsOf f4.type=n4) (o5:f5.offset=n0+n1+n2+n3+n4) (c5:P.cellsOf f5.type=n5) (o6:f6.offset=n0+n1+n2+n3+n4+n5) (c6:P.cellsOf f6.type=n6) (o7:f7.offset=n0+n1+n2+n3+n4+n5+n6) (c7:P.cellsOf f7.type=n7)
  (r0:∀n,n+1=fuel->nM n enc P w base sp held f0.type g0 k0) (r1:∀n,n+1=fuel->nM n enc P w base sp held f1.type g1 k1) (r2:∀n,n+1=fuel->nM n enc P w base sp held f2.type g2 k2) (r3:∀n,n+1=fuel->nM n enc P w base sp held f3.type g3 k3) (r4:∀n,n+1=fuel->nM n enc P w base sp held f4.type g4 k4) (r5:∀n,n+1=fuel->nM n enc P w base sp held f5.type g5 k5) (r6:∀n,n+1=fuel->nM n enc P w base sp held f6.type g6 k6) (r7:∀n,n+1=fuel->nM n enc P w base sp held f7.type g7 k7) :
  nM fuel enc P w base sp held t (fun a:E × I × O × U × Z × α5 × α6 × α7=>(g0 (a.1)++(g1 (a.2.1)++(g2 (a.2.2.1)++(g3 (a.2.2.2.1)++(g4 (a.2.2.2.2.1)++(g5 (a.2.2.2.2.2.1)++(g6 (a.2.2.2.2.2.2.1)++g7 (a.2.2.2.2.2.2.2))))))))) (fun a=>k0 (a.1)/\k1 (a.2.1)/\k2 (a.2.2.1)/\k3 (a.2.2.2.1)/\k4 (a.2.2.2.2.1)/\k5 (a.2.2.2.2.2.1)/\k6 (a.2.2.2.2.2.2.1)/\k7 (a.2.2.2.2.2.2.2)):=fun cs x h=>by
 obtain⟨xs,n,hn,_,hl,gp,hf⟩:=DataW.trod_struct ht h;have e0:=hf 0 f0 rfl;have e1:=hf 1 f1 rfl;have e2:=hf 2 f2 rfl;have e3:=hf 3 f3 rfl;have e4:=hf 4 f4 rfl;have e5:=hf 5 f5 rfl;have e6:=hf 6 f6 rfl;have e7:=hf 7 f7 rfl;rw[o0,c0,drop_zero] at e0;rw[o1,c1] at e1;rw[o2,c2] at e2;rw[o3,c3] at e3;rw[o4,c4] at e4;rw[o5,c5] at e5;rw[o6,c6] at e6;rw[o7,c7] at e7;have hx8:xs.length=8:=gp;rw[getElem?_eq_getElem w4] at e0 e1 e2 e3 e4 e5 e6 e7;obtain⟨a0,p0,q0⟩:=r0 n hn.symm _ _ e0;obtain⟨a1,p1,q1⟩:=r1 n hn.symm _ _ e1;obtain⟨a2,p2,q2⟩:=r2 n hn.symm _ _ e2;obtain⟨a3,p3,q3⟩:=r3 n hn.symm _ _ e3;obtain⟨a4,p4,q4⟩:=r4 n hn.symm _ _ e4;obtain⟨a5,p5,q5⟩:=r5 n hn.symm _ _ e5;obtain⟨a6,p6,q6⟩:=r6 n hn.symm _ _ e6;obtain⟨a7,p7,q7⟩:=r7 n hn.symm _ _ e7;refine⟨(a0,a1,a2,a3,a4,a5,a6,a7),?_,q0,q1,q2,q3,q4,q5,q6,q7⟩;have dP:cs=(cs.take n0++((cs.drop (n0)).take n1++((cs.drop (n0+n1)).take n2++((cs.drop (n0+n1+n2)).take n3++((cs.drop (n0+n1+n2+n3)).take n4++((cs.drop (n0+n1+n2+n3+n4)).take n5++((cs.drop (n0+n1+n2+n3+n4+n5)).take n6++((cs.drop (n0+n1+n2+n3+n4+n5+n6)).take n7)))))))):=by
  rw[take_of_length_le (l:=drop (n0+n1+n2+n3+n4+n5+n6) cs) (by rw[length_drop];omega)];have d2:cs.drop (n0+n1)=(cs.drop (n0)).drop n1:=(by rw[drop_drop])
  have d3:cs.drop (n0+n1+n2)=(cs.drop (n0+n1)).drop n2:=(by rw[drop_drop])
  have d4:cs.drop (n0+n1+n2+n3)=(cs.drop (n0+n1+n2)).drop n3:=(by rw[drop_drop])
  have d5:cs.drop (n0+n1+n2+n3+n4)=(cs.drop (n0+n1+n2+n3)).drop n4:=(by rw[drop_drop])
  have d6:cs.drop (n0+n1+n2+n3+n4+n5)=(cs.drop (n0+n1+n2+n3+n4)).drop n5:=(by rw[drop_drop])
  have d7:cs.drop (n0+n1+n2+n3+n4+n5+n6)=(cs.drop (n0+n1+n2+n3+n4+n5)).drop n6:=(by rw[drop_drop])
  rw[d7,take_append_drop,d6,take_append_drop,d5,take_append_drop,d4,take_append_drop,d3,take_append_drop,d2,take_append_drop,take_append_drop]
 rw[dP];exact(p0.append (p1.append (p2.append (p3.append (p4.append (p5.append (p6.append p7)))))))
end
structure Ph where
 k:Int
 t:Int
 a:Int
 b:Int
 row:List Vl
 bG:Tw
 wh:Tw
 bare:Bool
def Ph.cs(p:Ph):List D:=[ae p.k]++([ae p.t]++([ae p.a]++([ae p.b]++([aj 3 cV p.row]++(p.bG.cs++(p.wh.cs++[aW p.bare]))))))
structure Ph.Ok (p:Ph):Prop where
 k:-9223372036854775808<=p.k/\p.k<=9223372036854775807
 t:-9223372036854775808<=p.t/\p.t<=9223372036854775807
 a:-9223372036854775808<=p.a/\p.a<=9223372036854775807
 b:-9223372036854775808<=p.b/\p.b<=9223372036854775807
 row:∀v∈p.row,v.s.size<=maxLen
 bG:p.bG.Ok
 wh:p.wh.Ok
theorem ak0{H:Type}{enc:TypeId×Value->H}{w:World}{base:Nat}{sp:Nat->Bool}{held:Bool}:rp enc Tryz.prog w base sp held 138 cV (fun v:Vl=>v.s.size<=maxLen) :=
 (afz (n0:=1) (n1:=1) (n2:=1) underlying138 aD rfl rfl rfl aD aD aD (xO underlying3) (xO underlying3) (Uy underlying9)).map (fun a=>(⟨a.1,a.2.1,a.2.2⟩:Vl)) (fun _=>rfl) (fun _ h=>h.2.2)
theorem Mc{H:Type}{enc:TypeId×Value->H}{w:World}{base:Nat}{sp:Nat->Bool}{held:Bool}(n:Nat):nM n enc Tryz.prog w base sp held 62 Ph.cs Ph.Ok:=fun cs x h=>by
 obtain⟨⟨a0,a1,a2,a3,a4,a5,a6,a7⟩,h1,q0,q1,q2,q3,E,I,O,_⟩:=agc (fuel:=n) (n0:=1) (n1:=1) (n2:=1) (n3:=1) (n4:=1) (n5:=4) (n6:=4) (n7:=1) underlying62 aD rfl aD rfl aD rfl aD rfl aD rfl aD rfl aD rfl aD rfl aD
  (fun q _=>(xO underlying3).at q) (fun q _=>(xO underlying3).at q) (fun q _=>(xO underlying3).at q) (fun q _=>(xO underlying3).at q) (fun q _=>UC (sz:=3) underlying57 aD w7 (fun z _=>ak0.at z) fX) (fun q _=>Wc q) (fun q _=>Wc q) (fun q _=>(ajK underlying4).at q) cs x h
 exact⟨⟨a0,a1,a2,a3,a4,a5,a6,a7⟩,h1,⟨q0,q1,q2,q3,E.1,I,O⟩⟩
end Pa
namespace Ba
open List
open Go.Proofs.Tryz
open Go.RowKit V Pk Tr Vl Go.Proofs.YtihmfhcjbmlnaaaGreatDoor.Nm Pc Cd Ex Tw
open Pa (aT aY dJ bZ cY cZ dA dO dr bN bJ Ph)
variable {G:List (Nat×List Value)} {m:Int}
variable {l:List aA}
theorem VC.lK{P:Program}{f:FuncId}{args args':List D}{S:List ag}{post:D->List ag->Prop}(h:VC P G f args S post)(k:sB args' args):VC P G f args' S post:=by
 obtain⟨h1,h2⟩:=k.spec;exact h.args h1.symm fun w L i q1 q2 v hr=>h2 i q2 q1 _ _ _ hr
theorem amu(hm:(3,marksC)∈G)(hw:(1,wordsC)∈G)(ht:(0,typesC)∈G)(hG:(2,[Value.int .i64 m])∈G)(p:Ph)(h:p.Ok):VC Tryz.prog G 18 [.agg p.cs] [] (fun r S'=>∃s,r = .agg (aY s)/\S'=[]/\cY s/\s.kind=1+cN p.k 6/\s.table=bJ.getD (cN p.t 2).toNat ⟨#[]⟩):=by
 obtain⟨k,t,a,b,row,⟨x1,O,U,E⟩,⟨y1,y2,y3,I⟩,bare⟩:=p;exact Pa.aeX k t a b row x1 O U E y1 y2 y3 I bare h.k.1 h.k.2 h.t.1 h.t.2 h.a.1 h.a.2 h.b.1 h.b.2 h.row h.bG h.wh
theorem YI(hm:(3,marksC)∈G)(hw:(1,wordsC)∈G)(ht:(0,typesC)∈G)(hG:(2,[Value.int .i64 m])∈G)(p:Ph)(h:p.Ok):VC Tryz.prog G 18 [.agg p.cs] [] (fun r S'=>∃s,r = .agg (aY s)/\S'=[]/\cY s/\s.kind=1+cN p.k 6):=(amu hm hw ht hG p h).mono fun r S' ⟨s,h1,h2,h3,h4,_⟩=>⟨s,h1,h2,h3,h4⟩
theorem ES(hm:(3,marksC)∈G)(hw:(1,wordsC)∈G)(ht:(0,typesC)∈G)(hG:(2,[Value.int .i64 m])∈G){a c:Nat}(g:mZ l a c)(E:a+c<=30){s:aT}(hs:uG s)(fD:¬s.kind=2)(O:s.kind<=6->dH s.table=0)(C5:s.kind<=6)(I:s.kind=1->s.an=cx):VP Tryz.prog G 17 [.agg [aj 5 cr (l)],.agg (aY s)] (qL (kK l s)):=by
 refine amr hm hw ht hG l (WX E) g.g s hs.fin fD hs.row hs.Tj hs.Tm hs.Tn hs.xok fun h0=>?_;obtain⟨a',c',_,g',_⟩:=Nh g E hs fD (O C5) I h0;exact⟨Nat.le_trans g'.g.fm w7,fun t ht=>(g'.g.tb t ht).small⟩
theorem Yz{s:aT}(h:(kK l s).2.2=0):(gz l s).2.2=0/\(kK l s).1=(gz l s).1:=by
 unfold kK at h |-;by_cases h1:bZ s≠0
 ·rw[if_pos h1] at h;exact absurd h h1
 rw[if_neg h1] at h |-;by_cases h2:7<=s.kind
 ·rw[if_pos h2] at h;cases h
 rw[if_neg h2] at h |-;by_cases h3:(gz l s).2.2≠0
 ·rw[if_pos h3] at h;exact absurd h h3
 rw[if_neg h3];exact⟨Classical.not_not.1 h3,rfl⟩
def lN(x:ByteArray):aT:={bN with kind:=1,table:=x,an:=cx}
theorem ajs:∀x∈bJ,bZ (lN x)=0:=by decide +kernel
theorem YA{x:ByteArray}(hx:x∈bJ):uG (lN x):=cY.st (Pa.q8.wL (Pa.LY (Pa.EC x hx)))
def abN:List aA:=bJ.map fun x=>iN (lN x)
theorem Zi:∀i (h:i<bJ.length),kK ((bJ.take i).map fun x=>iN (lN x)) (lN bJ[i])=((bJ.take (i+1)).map (fun x=>iN (lN x)),(([],0),0)):=by
 intro i h;have hx:bJ[i]∈bJ:=getElem_mem h;unfold kK;rw[if_neg (by rw[ajs _ hx];decide),if_neg (by show ¬(7:Int)<=1;decide)];have h1:gz ((bJ.take i).map fun x=>iN (lN x)) (lN bJ[i])=((bJ.take (i+1)).map (fun x=>iN (lN x)),(([],0),0)):=by
  have h2:i=0\/i=1:=(by have:bJ.length=2:=rfl;omega)
  rcases h2 with rfl|rfl
  ·exact(show gz ((bJ.take 0).map fun x=>iN (lN x)) (lN (bJ[0]'w7))=((bJ.take 1).map (fun x=>iN (lN x)),(([],0),0)) by kernel_rfl)
  exact(show gz ((bJ.take 1).map fun x=>iN (lN x)) (lN (bJ[1]'w7))=((bJ.take 2).map (fun x=>iN (lN x)),(([],0),0)) by kernel_rfl)
 rw[h1];rfl
theorem wg(p:Ph):p.cs.length=14:=by
 obtain⟨k,t,a,b,row,⟨x1,O,U,E⟩,⟨y1,y2,y3,I⟩,bare⟩:=p;rfl
theorem ahD:mZ [] 0 0:=⟨⟨by decide,(fun t h=>by cases h),(fun t h=>by cases h),Pairwise.nil⟩,(fun t h=>by cases h)⟩
theorem YJ:(Nm.Tw.mk 0 0 ⟨#[]⟩ []).Ok:=by constructor<;>first|decide|(simp;done)|trivial
theorem YB{s:aT}(h:cY s):dH s.table=0:=by
 have hc:=h.2.2.2.2;have h6:=h.2.2.1;unfold cZ at hc;split at hc
 ·rename_i h1;exact absurd hc h1.2
 rename_i h1;exact Classical.not_not.1 fun e=>h1 ⟨by omega,e⟩
theorem abO:∀i,i<=2->mZ ((bJ.take i).map fun x=>iN (lN x)) 0 0:=by
 intro i;induction i with
 | zero=>intro _;exact ahD
 | succ i ih =>
  intro hi;have aa:i<bJ.length:=(by have:bJ.length=2:=rfl;omega)
  have hr:=Zi i aa;have h0:(kK ((bJ.take i).map fun x=>iN (lN x)) (lN bJ[i])).2.2=0:=(by rw[hr])
  obtain⟨h1,h2⟩:=Yz h0;obtain⟨a',c',_,g',h4,_⟩:=Nh (ih w4) w7 (YA (getElem_mem aa)) (show ¬(1:Int)=2 by decide) (Pa.EC _ (getElem_mem aa)) (fun _=>rfl) h1;obtain⟨_,rfl,rfl⟩:=h4 rfl;rw[<-h2,hr] at g';exact g'
theorem zq(hm:(3,marksC)∈G)(hw:(1,wordsC)∈G)(ht:(0,typesC)∈G)(hG:(2,[Value.int .i64 m])∈G)(ps:List Ph)(gv:∀p∈ps,p.Ok)(fC:ps.length<=maxLen):VC Tryz.prog G 10 [.list 14 (ps.flatMap Ph.cs) ps.length] [] (fun r S=>∃l a c,r = .agg [aj 5 cr (l)]/\S=[]/\mZ l a c/\a+c<=30/\l.map aA.nm=bJ):=by
 refine bA func10 rfl ntmps10 aO fun X0 w0 bz=>?_;have dy:=ee;have yz:bJ.length=2:=rfl;skip;refine cq ?_;refine cD (ds:=[_]) au rfl rfl zeroValue25 rfl (fun b2=>?_);refine ap 88 [0,2] ?_;refine cq ?_;refine cD (ds:=[_]) au rfl rfl zeroValue25 rfl (fun b3=>?_);refine mT (k:=0) (cs':=[.list 5 [] 0]) rfl ⟨bQ,trivial⟩ rfl ?_;refine ap 88 [0,2,3] ?_;refine ay [0,2,3,4] ?_;refine eZ [0,2,3] (fun aU _ (i:Nat) aE=>(i<=2)/\aE=(⟨88,(4,ae (i:Nat))::aU,[⟨b3,25,1,[.list 5 ((((bJ.take i).map fun x=>iN (lN x))).flatMap cr) (((bJ.take i).map fun x=>iN (lN x))).length]⟩,⟨b2,25,1,[aJ]⟩]⟩:St)) (fun (i:Nat)=>2-i) 0 ⟨(Nat.zero_le _),rfl⟩ ?_;rintro i _ ⟨hi,rfl⟩;refine ax [0,2,3,4,14] ?_ ?_<;>intro aP bH
 ·have aa:i<bJ.length:=(by omega)
  have O:=VC.lK (ES hm hw ht hG (l:=((bJ.take i).map fun x=>iN (lN x))) (a:=0) (c:=0) (s:=lN (bJ[i]'aa)) (abO i w4) w7 (YA (getElem_mem aa)) (show ¬(1:Int)=2 by decide) (fun _=>Pa.EC _ (getElem_mem aa)) (show(1:Int)<=6 by decide) (fun _=>rfl)) (args':=[.agg [.list 5 ((((bJ.take i).map fun x=>iN (lN x))).flatMap cr) (((bJ.take i).map fun x=>iN (lN x))).length],.agg [ae 1,aG (bJ[i]'aa),aj 2 cC cx,aJ,aJ,aW false,aJ,dj,aW false,ae (-1),dj,aJ]]) ⟨aH,kW ⟨aH,aH,aH,bQ,bQ,aH,bQ,aH,aH,aH,aH,bQ,trivial⟩,trivial⟩;rw[Zi i aa] at O;unfold qL at O;refine eI ?_;refine cL ?_;refine kU ?_;refine cL ?_;refine dv_ 14 13 12 [0,2,3,4,5,6,26,27,28] ?_;refine oD 1 ?_;refine Df (g:=cS) (bJ) ?_;refine cA (UR) ?_;refine cA (O) ?_;refine oD 4 ?_;refine rj ?_;refine rj ?_;refine kN ?_;refine⟨rfl,rfl,fun b6 b5=>?_⟩;refine aN 1 [_] sizeOf25 ?_;refine aN 0 [_,_] sizeOf54 ?_;refine ap 88 [0,2,3,4,5,7] ?_;refine ax [0,2,3,4,5,30] ?_ ?_<;>intro bg cM
  ·refine dB 1 ?_;refine aN 2 [_] sizeOf25 ?_;refine ap 88 [0,2,3,4] ?_;refine bM [0,2,3,4] ?_;refine⟨(i+1),_,cR,aL,w4,rfl⟩
  exact wJ
 have nr:i=2:=(by omega)
 subst nr;have htw:((bJ.take 2).map fun x=>iN (lN x))=abN:=rfl;refine ay [0,2,3,8] ?_;refine eZ [0,2,3] (fun aU _ (aR:Nat×List aA×Nat×Nat) aE=>match aR with|(k,l,a,c)=>(k<=30)/\(k<=ps.length)/\(a+c<=k)/\(mZ l a c)/\((l).map aA.nm=bJ)/\aE=(⟨88,(8,ae (k:Nat))::aU,[⟨b3,25,1,[aj 5 cr (l)]⟩,⟨b2,25,1,[aJ]⟩]⟩:St)) (fun (aR:Nat×List aA×Nat×Nat)=>match aR with|(k,l,a,c)=>30-k) (0,abN,0,0) ⟨(Nat.zero_le _),(Nat.zero_le _),(Nat.le_refl _),(abO 2 (Nat.le_refl _)),rfl,rfl⟩ ?_;rintro⟨k,l,a,c⟩ _ ⟨gX,hkp,Bf,gn,I,rfl⟩;refine az 5 ?_;refine cz 36 (fun ard anV=>?_) (fun ard anV=>?_)
 ·refine bL [0,2,3,8,39] ?_;refine bX ?_ ?_<;>intro cl di
  ·have aa:k<ps.length:=(by first|omega|(simp at *;omega))
   have awz:k<30:=(by first|omega|(simp at *;omega))
   have uH:=gv (ps[k]'aa) (getElem_mem aa);refine az 3 ?_;refine bS (ez (mk:=Op.load 62) rfl ot (jM (g:=Ph.cs) (ls:=ps) (i:=k) wg isAgg62 sizeOf62 aa)) ?_;refine eH au rfl rfl rfl call18 (YI hm hw ht hG (ps[k]'aa) uH) ⟨ot,trivial⟩ (fj _) ?_;rintro _ _ ⟨s,rfl,rfl,U,nN⟩;refine cD (ds:=[_,_,_,_,_,_,_,_,_,_,_,_]) au rfl rfl zeroValue34 rfl (fun b9=>?_);refine aN 0 [_,_,_,_,_,_,_,_,_,_,_,_] sizeOf34 ?_;refine ap 88 [0,2,3,8,9] ?_;refine iM [0,2,3,8,9] (fun aU _ aE=>∃(s:aT),(cY s)/\(¬s.kind=1/\¬s.kind=2)/\aE=(⟨88,aU,[⟨b9,34,12,aY s⟩,⟨b3,25,1,[aj 5 cr (l)]⟩,⟨b2,25,1,[aJ]⟩]⟩:St)) ?_ ?_
   ·refine az 4 ?_;refine cz 50 (fun Z anW=>?_) (fun Z anW=>?_)
    ·refine bL [0,2,3,8,9,54] ?_;refine fu ?_;exact z23
    refine bL [0,2,3,8,9,54] ?_;refine bX ?_ ?_<;>intro da eP
    ·exact z23
    have E:¬s.kind=1/\¬s.kind=2:=(by first|exact⟨by simpa using Z,by simpa using da⟩|(simp at *;omega))
    refine eI ?_;refine⟨_,aL,s,U,E,rfl⟩
   rintro _ ⟨s,U,E,rfl⟩;refine cL ?_;have Dr:=cY.st U;have yK:=YB U;have O:=ES hm hw ht hG gn w4 Dr E.2 (fun _=>yK) U.2.2.1 (fun h=>absurd h E.1);unfold qL at O;refine dB 2 ?_;refine dK call17 (O) ?_;refine aF 4 ?_;refine cD (ds:=[_]) au rfl rfl zeroValue25 rfl (fun kr=>?_);refine cD (ds:=[_,_]) au rfl rfl zeroValue54 rfl (fun mQ=>?_);refine aN 1 [_] sizeOf25 ?_;refine aN 0 [_,_] sizeOf54 ?_;refine ap 88 [0,2,3,8,10,12] ?_;refine ax [0,2,3,8,10,85] ?_ ?_<;>intro eo fR
   ·have h0:(kK l s).2.2=0:=(by simpa using eo)
    obtain⟨h1,h2⟩:=Yz h0;obtain⟨a',c',awA,gn1,_,dQ⟩:=Nh gn w4 Dr E.2 yK (fun h=>absurd h E.1) h1;have gn2:mZ (kK l s).1 a' c':=(by rw[h2];exact gn1)
    have anX:(kK l s).1.map aA.nm=bJ:=(by rw[h2,dQ E.1];exact I)
    refine dB 1 ?_;refine aN 3 [_] sizeOf25 ?_;refine ap 88 [0,2,3,8] ?_;refine bM [0,2,3,8] ?_;refine⟨((k+1),(kK l s).1,a',c'),_,cR,aL,w4,w4,w4,gn2,anX,rfl⟩
   refine bM [0,2,3,8] ?_;refine⟨((k+1),l,a,c),_,cR,aL,w4,w4,w4,gn,I,rfl⟩
  refine az 1 ?_;refine aN 1 [_] sizeOf25 ?_;refine eA 88 [2] [] ?_;exact⟨l,a,c,rfl,rfl,gn,by omega,I⟩
 refine bL [0,2,3,8,39] ?_;refine gK ?_;refine az 1 ?_;refine aN 1 [_] sizeOf25 ?_;refine eA 88 [2] [] ?_;exact⟨l,a,c,rfl,rfl,gn,by omega,I⟩
theorem Cs(h:l.map aA.nm=bJ):aC l ⟨#[116]⟩=0:=by
 match l,h with
 | a::r,h =>
  rw[map_cons] at h;have ha:a.nm=⟨#[116]⟩:=(by injection h)
  unfold aC;rw[y9 (ls:=a::r) (k:=0) bC (fun x hx=>by cases hx) (by show(a.nm.toList==_)=true;rw[ha];exact BEq.rfl)];rfl
end Ba
namespace Ba
open List
open Go.Proofs.Tryz
open Go.RowKit V Pk Tr Vl Go.Proofs.YtihmfhcjbmlnaaaGreatDoor.Nm Pc Cd Ex Tw
open Pa (Ph)
variable {m:Int}
def tM(m:Int):List (Nat×List Value):=[(3,marksC),(1,wordsC),(0,typesC),(2,[Value.int .i64 m])]
theorem Bg:(3,marksC)∈tM m:=mem_cons_self
theorem Bh:(1,wordsC)∈tM m:=mem_cons_of_mem _ mem_cons_self
theorem Bi:(0,typesC)∈tM m:=mem_cons_of_mem _ (mem_cons_of_mem _ mem_cons_self)
theorem Bj:(2,[Value.int .i64 m])∈tM m:=mem_cons_of_mem _ (mem_cons_of_mem _ (mem_cons_of_mem _ mem_cons_self))
theorem As{w:World}(h1:MarksTab w)(h2:WordsTab w)(h3:TypesTab w)(h4:Tab.lS w 2 [Value.int .i64 m]):∀g∈tM m,g.2≠[]/\E8 w g.1 g.2:=fun g hg=>by
 rcases mem_cons.1 hg with rfl|hg
 ·exact⟨by decide,.of h1 rfl⟩
 rcases mem_cons.1 hg with rfl|hg
 ·exact⟨by decide,.of h2 rfl⟩
 rcases mem_cons.1 hg with rfl|hg
 ·exact⟨by decide,.of h3 rfl⟩
 rw[mem_singleton] at hg;subst hg;exact⟨by simp,.of h4 rfl⟩
theorem rd_phrases{H:Type}{enc:TypeId×Value->H}{w:World}{base E:Nat}{sp:Nat->Bool}{held:Bool}{v:Value}{d:DataW H}{p:List MemPlace}(hval:Value.okWide Tryz.prog w .any E 22 v)(h:DataW.Trod enc Tryz.prog w base sp held 22 v d p) :
  ∃l:List Ph,cG w (fun _=>False) (.list 14 (l.flatMap Ph.cs) l.length) v/\((∀x∈l,x.Ok)/\l.length<=maxLen)/\True:=by
 obtain⟨l,h1,h2,h3⟩:=ah6 (g:=Ph.cs) (ok:=Ph.Ok) (sz:=14) underlying22 aD w7 (fun n cs x hn=>Pa.Mc n cs x hn) wg hval h;exact⟨l,h1,⟨h2,h3⟩,trivial⟩
end Ba
namespace Ba
open List
open Go.Proofs.Tryz
open Go.RowKit V Pk Tr Vl Go.Proofs.YtihmfhcjbmlnaaaGreatDoor.Nm Pc Cd Ex Tw
open Pa (aT aY dJ bZ cY cZ dA dO dr bN bJ Ph)
variable {G:List (Nat×List Value)} {m:Int}
theorem At{l:List aA}(h:l.map aA.nm=bJ):l.length=2:=by have:=congrArg length h;(first|rw[length_map] at this|(unfold aj at this;rw[length_map] at this));rw[this];decide
end Ba
namespace Ba
open List
open Go.Proofs.Tryz
open Go.RowKit V Pk Tr Vl Go.Proofs.YtihmfhcjbmlnaaaGreatDoor.Nm Pc Cd Ex Tw
open Pa (aT aY dJ bZ cY cZ dA dO dr bN bJ Ph)
variable {G:List (Nat×List Value)} {m:Int}
variable {n:Nat} {t:aA}
structure bq where
 th:ByteArray
 m:Int
def lp(n:bq):List D:=[aG n.th,ae n.m]
theorem qQ(n:bq):(lp n).length=2:=rfl
theorem IL(n:bq):(lp n).all V.one=true:=rfl
def tB(nm:ByteArray):ByteArray:=(⟨#[116]⟩:ByteArray)++nm
def eB(nm:ByteArray):ByteArray:=(⟨#[101]⟩:ByteArray)++nm
def dI(nm:ByteArray)(k:K):ByteArray:=(((⟨#[107]⟩:ByteArray)++nm)++(⟨#[58]⟩:ByteArray))++⟨k.toArray⟩
theorem MI(nm:ByteArray)(hn:nm.size<=100):VP Tryz.prog G 31 [aG nm] (aG (tB nm)):=by
 refine bA func31 rfl ntmps31 aO fun X0 w0 bz=>?_;exact z175
theorem YC(nm:ByteArray)(hn:nm.size<=100):VP Tryz.prog G 57 [aG nm] (aG (eB nm)):=by
 refine bA func57 rfl ntmps57 aO fun X0 w0 bz=>?_;exact z175
theorem Oe(nm:ByteArray)(hn:nm.size<=100)(k:K)(hk:k.length<=200):VP Tryz.prog G 32 [aG nm,aj 1 cB k] (aG (dI nm k)):=by
 refine bA func32 rfl ntmps32 aO fun X0 w0 bz=>?_;refine ay [0,1] ?_;refine cJ [4] ?_;refine aM 1 ?_ (h:=aaq);refine aM 0 ?_ (h:=by exact(eE rfl ot bP (zj (by rw[ByteArray.size_append];show 1+nm.size+1<=_;omega))));refine aM 1 ?_ (h:=by exact Ay);refine aM 0 ?_ (h:=by exact(eE rfl ot ot (zj (by rw[ByteArray.size_append,ByteArray.size_append];show 1+nm.size+1+k.toArray.size<=_;rw[size_toArray];omega))));refine bB ?_;exact z46
theorem ahE(c:dc)(nm:ByteArray)(b:Nat):VC Tryz.prog G 53 [.agg (cC c),dw b] [⟨b,9,1,[aG nm]⟩] (fun r S=>r=aW (c.n.toList==nm.toList)/\S=[⟨b,9,1,[aG nm]⟩]):=by
 refine bA func53 rfl ntmps53 aO fun X0 w0 bz=>?_;exact RD
theorem Uk(t:aA)(hl:t.an.length<=1000)(nm:ByteArray):VP Tryz.prog G 29 [.agg (cr t),aG nm] (ae (bE t.an nm)):=by
 refine bA func29 rfl ntmps29 aO fun X0 w0 bz=>?_;unfold cr;refine cq ?_;refine dm [_,_,_,_,_] (fun b2=>?_);refine dm [_] (fun b3=>?_);refine ap 9 [2,3] ?_;refine az 2 ?_;refine bS (sM (ds:=[_]) rfl ⟨ot,trivial⟩) ?_;refine eH au rfl rfl rfl call52 (Pc.H6 t.an 53 [dw b3] _ (fun c=>c.n.toList==nm.toList) call53 (fun h _=>ahE h nm b3) w4) ⟨ot,ot,trivial⟩ (nA (k:=0) rfl) ?_;rintro _ S2 ⟨rfl,gY⟩;rw[gY];clear gY;refine ap 9 [4] ?_;exact z46
noncomputable def iy(t:aA)(s:aT):Bool :=
 if s.kind=3 then (Pc.dV t.an s.row != 0)
 else if s.kind=4/\((s.names.any fun x=>decide (bE t.an x<0))=true\/(¬s.order=⟨#[]⟩/\bE t.an s.order<0)) then true
 else if s.kind=5/\(bE t.an s.set<0\/(dZ t.an s.bG).2≠0\/((dZ t.an s.bG).1≠0/\(dZ t.an s.bG).1≠(t.an.getD (bE t.an s.set).toNat ⟨⟨#[]⟩,0⟩).k)) then true
 else ((eG t.an s.ah).2 != 0)
theorem ajt{α:Type}{p:α->Bool}{l:List α}{i:Nat}(h:i<l.length)(h0:(l.take i).any p=false)(hx:p (l[i])=false):(l.take (i+1)).any p=false:=by
 rw[take_succ_eq_append_getElem h,any_append,h0];simp[hx]
theorem ahF(hm:(3,marksC)∈G)(hw:(1,wordsC)∈G)(ht:(0,typesC)∈G)(hG:(2,[Value.int .i64 m])∈G)(t:aA)(g:dN t n)(s:aT)(hs:uG s):VP Tryz.prog G 27 [.agg (cr t),.agg (aY s)] (aW (iy t s)):=by
 refine bA func27 rfl ntmps27 aO fun X0 w0 bz=>?_;have dy:=ee;have xm:=I2 (G:=G) hm hw ht t.an uu vB s.row (Nat.le_trans hs.fin.ok.2.1 w7);have Z:=Iz (G:=G) hm hw ht t.an uu vB s.bG hs.Tn;have pL:=Mq (G:=G) hm hw ht hG t.an uu vB s.ah hs.Tj hs.Tm;have I:=Uk (G:=G) t uu;have Lq:=fun (x:ByteArray)=>vX (fun c:dc=>c.n.toList==x.toList) t.an;have h6n:=hs.fin.ok.2.2.1;unfold qY at Z;unfold Gw wm at pL;unfold cr at I |-;unfold aY;refine cq ?_;refine dm [_,_,_,_,_] (fun b2=>?_);refine dm [_,_,_,_,_,_,_,_,_,_,_,_] (fun b3=>?_);refine ap 90 [2,3] ?_;refine iM [2,3] (fun aU O aE=>∃(u:Unit),(iy t s=((eG t.an s.ah).2 != 0))/\aE=(⟨90,aU,O⟩:St)) ?_ ?_
 ·refine ay [2,3,14] ?_;refine ax [2,3,14,15] ?_ ?_<;>intro aP bH
  ·have gX:s.kind=3:=(by simpa using aP)
   have aZ:iy t s=(Pc.dV t.an s.row != 0):=(by unfold iy;rw[if_pos gX])
   refine cW [4] (xm) ?_;exact kO
  have gX:¬s.kind=3:=(by simpa using aP)
  refine ax [2,3,14,23] ?_ ?_<;>intro bg cM
  ·have jS:s.kind=4:=(by simpa using bg)
   refine ay [2,3,26,27,28] ?_;refine eZ [2,3,26,27] (fun aU O (i:Nat) aE=>(i<=s.names.length)/\((s.names.take i).any (fun x=>decide (bE t.an x<0))=false)/\aE=(⟨90,(28,ae (i:Nat))::aU,O⟩:St)) (fun (i:Nat)=>s.names.length-i) 0 ⟨(Nat.zero_le _),rfl,rfl⟩ ?_;rintro i _ ⟨hi,ye,rfl⟩;refine ax [2,3,26,27,28,29] ?_ ?_<;>intro cl di
   ·have aa:i<s.names.length:=(by omega)
    have fB:=I s.names[i];refine ay [2,3,6,26,27,28] ?_;refine cW [2,3,26,27,28,35] (fB) ?_;refine bX ?_ ?_<;>intro da eP
    ·have E:bE t.an s.names[i]<0:=(by simpa using da)
     have aZ:iy t s=true:=(by unfold iy;rw[if_neg gX,if_pos ⟨jS,.inl (any_eq_true.2 ⟨s.names[i],getElem_mem aa,decide_eq_true E⟩)⟩])
     refine ay [4] ?_;exact kO
    have are:¬bE t.an s.names[i]<0:=(by simpa using da)
    refine bM [2,3,26,27,28] ?_;refine⟨(i+1),_,cR,aL,w4,(ajt aa ye (decide_eq_false are)),rfl⟩
   have rW:i=s.names.length:=(by omega)
   rw[rW,take_of_length_le (Nat.le_refl _)] at ye;have Kl:=I s.order;refine qm ?_;refine cL ?_;rcases Bool.eq_false_or_eq_true (!(s.order.toList==(⟨#[]⟩:ByteArray).toList)) with hb|hb
   ·have U:¬s.order=⟨#[]⟩:=fun e=>by rw[e] at hb;exact absurd hb zR
    refine fW [2,3,46] ?_;refine cA (Kl) ?_;refine bB ?_;refine bX ?_ ?_<;>intro eo fR
    ·have E:bE t.an s.order<0:=(by simpa using eo)
     have aZ:iy t s=true:=(by unfold iy;rw[if_neg gX,if_pos ⟨jS,.inr ⟨U,E⟩⟩])
     refine ay [4] ?_;exact kO
    exact z98
   have U:s.order=⟨#[]⟩:=Pa.Ze hb;have lV:¬(¬s.order=⟨#[]⟩/\bE t.an s.order<0):=fun h=>h.1 U;refine bM [2,3,46] ?_;refine gK ?_;exact z98
  have jS:¬s.kind=4:=(by simpa using bg)
  refine ax [2,3,47] ?_ ?_<;>intro fH ik
  ·have qg:s.kind=5:=(by simpa using fH)
   have oX:=I s.set;refine cW [2,3,7] (oX) ?_;refine ax [2,3,7,54] ?_ ?_<;>intro iu qa
   ·have E:bE t.an s.set<0:=(by simpa using iu)
    have aZ:iy t s=true:=(by unfold iy;rw[if_neg gX,if_neg (fun h=>jS h.1),if_pos ⟨qg,.inl E⟩])
    refine ay [4] ?_;exact kO
   have rR:¬bE t.an s.set<0:=(by simpa using iu)
   have arf:=Lq s.set;rw[show dD (fun c:dc=>c.n.toList==s.set.toList) t.an=bE t.an s.set from rfl] at arf;have fP:(bE t.an s.set).toNat<t.an.length:=(by omega)
   have jm:(t.an.getD (bE t.an s.set).toNat ⟨⟨#[]⟩,0⟩).k=(t.an[(bE t.an s.set).toNat]'fP).k:=(by rw[getD_eq_getElem?_getD,getElem?_eq_getElem fP];rfl)
   refine cW [2,3,7,8,9] (Z) ?_;refine cL ?_;rcases Bool.eq_false_or_eq_true ((dZ t.an s.bG).2 != 0) with hb|hb
   ·have pD:iy t s=true:=(by unfold iy;rw[if_neg gX,if_neg (fun h=>jS h.1),if_pos ⟨qg,.inr (.inl (by simpa using hb))⟩])
    refine bM [2,3,78] ?_;refine fu ?_;exact aaY
   rcases Bool.eq_false_or_eq_true ((dZ t.an s.bG).1 != 0) with jT|jT
   ·refine fW [2,3,78] ?_;refine aM 10 ?_ (h:=by exact(ei 2 (h:=ZY)));refine bB ?_;refine bX ?_ ?_<;>intro iE nJ
    ·exact aaY
    exact z88
   have iE:True:=trivial;refine bM [2,3,78] ?_;refine gK ?_;exact z88
  have qg:¬s.kind=5:=(by simpa using fH)
  have zE:iy t s=((eG t.an s.ah).2 != 0):=(by unfold iy;rw[if_neg gX,if_neg (fun h=>jS h.1),if_neg (fun h=>qg h.1)])
  refine eI ?_;refine⟨_,aL,(),zE,rfl⟩
 rintro _ ⟨u,aZ,rfl⟩;refine cW [12] (pL) ?_;refine ay [4] ?_;exact tg
abbrev JA(l:List bq)(ad:Option Addr)(cap:Nat)(S:List ag):Prop:=bF 44 2 (l.flatMap lp) l.length ad cap S
def LS(bx:Nat)(c0 c1 c2 c3 c4:D)(l:List bq)(S:List ag):Prop:=∃ad cap So,JA l ad cap So/\S=⟨bx,78,6,[c0,c1,c2,c3,c4,aS ad (l).length cap]⟩::So
noncomputable def oN(t:aA)(k:K)(m:Int):bq:=match sR t.ix (dG t.ix) k with
 | some x=>⟨dI t.nm x.1,m⟩
 | none=>⟨eB t.nm,m⟩
noncomputable def jf(t:aA)(low high:K)(m:Int):List bq:=(jF t.ix low high).map (fun x=>(⟨dI t.nm x.1,m⟩:bq))++[if 0<high.length then oN t high m else ⟨eB t.nm,m⟩]
theorem agd:(Tryz.prog.info? 44).map (fun i=>(i.zero,i.size,i.bytes))=some (some (.agg #[.string ⟨#[]⟩,.int .i64 0]),2,24):=by kernel_rfl
theorem wv(th:ByteArray)(O:Int)(l:List bq)(hl:l.length<=100000)(c0 c1 c2 c3 c4:D)(ad:Option Addr)(cap bx:Nat)(So:List ag)(ho:JA l ad cap So):VC Tryz.prog G 24 [dw bx,aG th,ae O] (⟨bx,78,6,[c0,c1,c2,c3,c4,aS ad (l).length cap]⟩::So) (fun r S'=>r = .dF []/\LS bx c0 c1 c2 c3 c4 (l++[⟨th,O⟩]) S'):=by
 refine bA func24 rfl ntmps24 aO fun X0 w0 bz=>?_;have dy:=ee;refine dB 8 ?_;refine eR (cU 0 [_]) [.string ⟨#[]⟩,.int .i64 0] [_,_] zeroValue44 runUnderlying39 sizeOf44 (fun yM=>?_);refine gb 0 14 2 1 ?_;refine gi (ls:=l) (new:=[(⟨th,O⟩:bq)]) (Sq:=So) qQ IL au rfl rfl underlying39 agd rfl w7 ot ho (dL (A:=[_])) ot bC CS CS (fun I E U Z=>?_);refine cg (eM (S1:=[⟨I,44,E*2,flatMap lp (l++[(⟨th,O⟩:bq)])⟩]) (A:=[_])) ?_;refine aF 2 ?_;refine aN 0 [_,_,_,_,_,_] sizeOf39 ?_;refine eA 18 [] (⟨bx,78,6,[c0,c1,c2,c3,c4,aS (some ⟨I,0,none⟩) ((l++[(⟨th,O⟩:bq)])).length E]⟩::[⟨I,44,E*2,flatMap lp (l++[(⟨th,O⟩:bq)])⟩]) ?_;exact⟨rfl,(some ⟨I,0,none⟩),E,[⟨I,44,E*2,flatMap lp (l++[(⟨th,O⟩:bq)])⟩],(cj U Z),rfl⟩
theorem YD(g:dN t n){x:K×Int}(hx:x∈er t.ix):x.1.length<=100:=by
 obtain⟨h0,hl,hne,he⟩:=g.jA x hx;rw[he];exact(pu (g.row _ hl hne).1).2
theorem ak1{k:K}{x:K×Int}(h:sR t.ix (dG t.ix) k=some x):x∈er t.ix:=(mem_filter.1 (mem_of_find?_eq_some h)).1
theorem Zj(g:dN t n){k:K}(hk:k.length<=100):sV t.ix (dG t.ix) k=(match sR t.ix (dG t.ix) k with|some x=>(cE x,0)|none=>([aJ,ae 0],8)):=by
 unfold sV;rw[if_pos (Ib g.ix.val),if_pos hk];cases sR t.ix (dG t.ix) k<;>rfl
theorem YE(t:aA)(g:dN t n)(k:K)(hk:k.length<=100)(E:Int)(l:List bq)(hl:l.length<=50000)(ad:Option Addr)(cap bx:Nat)(So:List ag)(ho:JA l ad cap So):VC Tryz.prog G 33 [dw bx,aj 1 cB k,ae E] (⟨bx,78,6,[aG t.nm,aj 2 cC t.an,aj 1 eX t.rows,aj 5 cP t.ix.af,ae t.ix.root,aS ad (l).length cap]⟩::So) (fun r S'=>r = .dF []/\LS bx (aG t.nm) (aj 2 cC t.an) (aj 1 eX t.rows) (aj 5 cP t.ix.af) (ae t.ix.root) (l++[oN t k E]) S'):=by
 refine bA func33 rfl ntmps33 aO fun X0 w0 bz=>?_;have dy:=ee;have r9:=akF (G:=G) g.ix k;unfold Tw.cT at r9;have uQ:t.nm.size<=100:=Nat.le_trans (Pa.IK g.nm).2 w7;refine cL ?_;refine cL ?_;rcases hf:sR t.ix (dG t.ix) k with _|x
 ·rw[Zj g hk,hf] at r9;dsimp only at r9;have kM:oN t k E=⟨eB t.nm,E⟩:=(by unfold oN;rw[hf])
  refine dB 6 ?_;refine dK call56 (r9) ?_;refine aF 3 ?_;refine cD (ds:=[_,_]) au rfl rfl zeroValue99 rfl (fun b6=>?_);refine aN 0 [_,_] sizeOf99 ?_;refine ap 40 [0,2,6,7] ?_;refine ax [0,2,6,19] ?_ ?_<;>intro aP bH
  ·exact z87
  refine dB 6 ?_;refine dK call57 (YC t.nm uQ) ?_;refine aF 1 ?_;refine eH au rfl rfl rfl call24 (wv (eB t.nm) E l w4 (aG t.nm) (aj 2 cC t.an) (aj 1 eX t.rows) (aj 5 cP t.ix.af) (ae t.ix.root) ad cap bx So ho) ⟨ot,ot,ot,trivial⟩ (perm_append_comm (l₁:=[_]) (l₂:=_::_)) ?_;rintro _ _ ⟨rfl,I,O,U,QY,rfl⟩;refine fF (Wk.drop _ _ _ (⟨bx,78,6,[aG t.nm,aj 2 cC t.an,aj 1 eX t.rows,aj 5 cP t.ix.af,ae t.ix.root,aS I ((l++[(⟨eB t.nm,E⟩:bq)])).length O]⟩::U) (sublist_append_left _ _)) ?_;refine eA 40 [] (⟨bx,78,6,[aG t.nm,aj 2 cC t.an,aj 1 eX t.rows,aj 5 cP t.ix.af,ae t.ix.root,aS I ((l++[(⟨eB t.nm,E⟩:bq)])).length O]⟩::U) ?_;rw[kM];exact⟨rfl,I,O,U,QY,rfl⟩
 rw[Zj g hk,hf] at r9;dsimp only at r9;unfold Tw.cE at r9;have kM:oN t k E=⟨dI t.nm x.1,E⟩:=(by unfold oN;rw[hf])
 have ji:=Oe (G:=G) t.nm uQ x.1 (Nat.le_trans (YD g (ak1 hf)) w7);refine dB 6 ?_;refine dK call56 (r9) ?_;refine aF 3 ?_;refine cD (ds:=[_,_]) au rfl rfl zeroValue99 rfl (fun b6=>?_);refine aN 0 [_,_] sizeOf99 ?_;refine ap 40 [0,2,6,7] ?_;refine ax [0,2,6,19] ?_ ?_<;>intro aP bH
 ·refine cL ?_;refine nj 10 [20,28,29] ?_;refine cA (ji) ?_;refine bB ?_;refine eH au rfl rfl rfl call24 (wv (dI t.nm x.1) E l w4 (aG t.nm) (aj 2 cC t.an) (aj 1 eX t.rows) (aj 5 cP t.ix.af) (ae t.ix.root) ad cap bx So ho) ⟨ot,ot,ot,trivial⟩ (perm_append_comm (l₁:=[_]) (l₂:=_::_)) ?_;rintro _ _ ⟨rfl,Z,QZ,Q0,arh,rfl⟩;refine fF (Wk.drop _ _ _ (⟨bx,78,6,[aG t.nm,aj 2 cC t.an,aj 1 eX t.rows,aj 5 cP t.ix.af,ae t.ix.root,aS Z ((l++[(⟨dI t.nm x.1,E⟩:bq)])).length QZ]⟩::Q0) (sublist_append_left _ _)) ?_;refine eA 40 [] (⟨bx,78,6,[aG t.nm,aj 2 cC t.an,aj 1 eX t.rows,aj 5 cP t.ix.af,ae t.ix.root,aS Z ((l++[(⟨dI t.nm x.1,E⟩:bq)])).length QZ]⟩::Q0) ?_;rw[kM];exact⟨rfl,Z,QZ,Q0,arh,rfl⟩
 exact absurd aP (by simp at aP)
theorem ak2(t:aA)(g:dN t n)(low high:K)(fA:low.length<=100)(hh:high.length<=100)(E:Int)(l:List bq)(hl:l.length<=10000)(ad:Option Addr)(cap bx:Nat)(So:List ag)(ho:JA l ad cap So):VC Tryz.prog G 34 [dw bx,aj 1 cB low,aj 1 cB high,ae E] (⟨bx,78,6,[aG t.nm,aj 2 cC t.an,aj 1 eX t.rows,aj 5 cP t.ix.af,ae t.ix.root,aS ad (l).length cap]⟩::So) (fun r S'=>r = .dF []/\LS bx (aG t.nm) (aj 2 cC t.an) (aj 1 eX t.rows) (aj 5 cP t.ix.af) (ae t.ix.root) (l++jf t low high E) S'):=by
 refine bA func34 rfl ntmps34 aO fun X0 w0 bz=>?_;have dy:=ee;have oX:=OL (G:=G) g.ix low high fA hh;unfold Tw.cT at oX;have kZ:=DO g.ix low high;have uQ:t.nm.size<=100:=Nat.le_trans (Pa.IK g.nm).2 w7;refine cJ [0,2,3,8] ?_;refine cA (oX) ?_;refine bB ?_;refine ay [0,2,3,23,24,25] ?_;refine eZ [0,2,3,23,24] (fun aU _ (aR:Nat×List bq×Option Addr×Nat×List ag) aE=>match aR with|(i,acc,I,O,So)=>(i<=(jF t.ix low high).length)/\(acc=l++((jF t.ix low high).take i).map (fun x=>(⟨dI t.nm x.1,E⟩:bq)))/\(acc.length=l.length+i)/\(bF 44 2 ((acc).flatMap lp) (acc).length I O So)/\aE=(⟨57,(25,ae (i:Nat))::aU,(⟨bx,78,6,[aG t.nm,aj 2 cC t.an,aj 1 eX t.rows,aj 5 cP t.ix.af,ae t.ix.root,aS I (acc).length O]⟩::So)⟩:St)) (fun (aR:Nat×List bq×Option Addr×Nat×List ag)=>match aR with|(i,acc,I,O,So)=>(jF t.ix low high).length-i) (0,l,ad,cap,So) ⟨(Nat.zero_le _),(append_nil _).symm,rfl,(bF.cast ho lU),rfl⟩ ?_;rintro⟨i,acc,I,O,So⟩ _ ⟨hi,qW,pK,AY,rfl⟩;refine ax [0,2,3,23,24,25,26] ?_ ?_<;>intro aP bH
 ·have aa:i<(jF t.ix low high).length:=(by omega)
  have ji:=Oe (G:=G) t.nm uQ ((jF t.ix low high)[i]'aa).1 (Nat.le_trans (YD g (BF _ (getElem_mem aa))) w7);refine az 2 ?_;refine cD (ds:=[_,_]) au rfl rfl zeroValue99 rfl (fun mQ=>?_);refine aN 0 [_,_] sizeOf99 ?_;refine ap 57 [0,2,3,11,23,24,25] ?_;refine nj 10 [0,2,3,23,24,25,29,37,38] ?_;refine cA (ji) ?_;refine bB ?_;refine eH au rfl rfl rfl call24 (wv (dI t.nm ((jF t.ix low high)[i]'aa).1) E (acc) w4 (aG t.nm) (aj 2 cC t.an) (aj 1 eX t.rows) (aj 5 cP t.ix.af) (ae t.ix.root) I O bx So AY) ⟨ot,ot,ot,trivial⟩ (perm_append_comm (l₁:=[_]) (l₂:=_::_)) ?_;rintro _ _ ⟨rfl,abP,CF,abQ,QY,rfl⟩;refine fF (Wk.drop _ _ _ (⟨bx,78,6,[aG t.nm,aj 2 cC t.an,aj 1 eX t.rows,aj 5 cP t.ix.af,ae t.ix.root,aS abP (((acc)++[(⟨dI t.nm ((jF t.ix low high)[i]'aa).1,E⟩:bq)])).length CF]⟩::abQ) (sublist_append_left _ _)) ?_;refine ap 57 [0,2,3,23,24,25] ?_;refine bM [0,2,3,23,24,25] ?_;refine⟨((i+1),(acc++[(⟨dI t.nm ((jF t.ix low high)[i]'aa).1,E⟩:bq)]),abP,CF,abQ),_,cR,aL,w4,(by rw[take_succ_eq_append_getElem aa,map_append,<-append_assoc,<-qW];rfl),CW,(bF.cast QY lU),rfl⟩
 have lG:acc=l++(jF t.ix low high).map (fun x=>(⟨dI t.nm x.1,E⟩:bq)):=(by rw[qW,take_of_length_le w4])
 refine ax [0,2,3,43] ?_ ?_<;>intro bg cM
 ·have rR:0<high.length:=(by simp at bg;omega)
  have aZ:l++jf t low high E=acc++[oN t high E]:=(by unfold jf;rw[if_pos rR,lG,append_assoc])
  refine az 3 ?_;refine eH au rfl rfl rfl call33 (YE t g high hh E (acc) w4 I O bx So AY) ⟨ot,ot,ot,trivial⟩ (DN _) ?_;rintro _ _ ⟨rfl,U,ya,Z,An,rfl⟩;refine fF (Wk.drop _ _ _ (⟨bx,78,6,[aG t.nm,aj 2 cC t.an,aj 1 eX t.rows,aj 5 cP t.ix.af,ae t.ix.root,aS U (((acc)++[oN t high E])).length ya]⟩::Z) (sublist_append_left _ _)) ?_;refine eA 57 [] (⟨bx,78,6,[aG t.nm,aj 2 cC t.an,aj 1 eX t.rows,aj 5 cP t.ix.af,ae t.ix.root,aS U (((acc)++[oN t high E])).length ya]⟩::Z) ?_;rw[aZ];exact⟨rfl,U,ya,Z,An,rfl⟩
 have rR:¬0<high.length:=(by simp at bg;omega)
 have aZ:l++jf t low high E=acc++[⟨eB t.nm,E⟩]:=(by unfold jf;rw[if_neg rR,lG,append_assoc])
 refine dB 6 ?_;refine dK call57 (YC t.nm uQ) ?_;refine aF 1 ?_;refine eH au rfl rfl rfl call24 (wv (eB t.nm) E (acc) w4 (aG t.nm) (aj 2 cC t.an) (aj 1 eX t.rows) (aj 5 cP t.ix.af) (ae t.ix.root) I O bx So AY) ⟨ot,ot,ot,trivial⟩ (DN _) ?_;rintro _ _ ⟨rfl,Q1,Ai,Q2,ari,rfl⟩;refine fF (Wk.drop _ _ _ (⟨bx,78,6,[aG t.nm,aj 2 cC t.an,aj 1 eX t.rows,aj 5 cP t.ix.af,ae t.ix.root,aS Q1 (((acc)++[(⟨eB t.nm,E⟩:bq)])).length Ai]⟩::Q2) (sublist_append_left _ _)) ?_;refine eA 57 [] (⟨bx,78,6,[aG t.nm,aj 2 cC t.an,aj 1 eX t.rows,aj 5 cP t.ix.af,ae t.ix.root,aS Q1 (((acc)++[(⟨eB t.nm,E⟩:bq)])).length Ai]⟩::Q2) ?_;rw[aZ];exact⟨rfl,Q1,Ai,Q2,ari,rfl⟩
end Ba
end Go.Proofs.YtihmfhcjbmlnaaaGreatDoor
