/-
  What the proof of InsertOne leans on, part 8 of 9: walks of the program's functions at the level of values, and plain facts of what they compute.
-/
import Derived.Test.YtdgichenhdikgaaGreatDoorPInsertOne7
set_option linter.unusedVariables false
set_option linter.unusedSimpArgs false
set_option maxRecDepth 100000
set_option maxHeartbeats 4000000
namespace Go.Proofs.YtdgichenhdikgaaGreatDoor.Ba
open List
open Go.Proofs.Tryz
open Go.RowKit V Pk Tr Vl Go.Proofs.YtdgichenhdikgaaGreatDoor.Nm Pc Cd Ex Tw
open Pa (cU bX)
variable {G:List (Nat×List Value)} {m:Int}
variable {t:aO} {L:List cl} {ad:Option Addr} {cap i n:Nat} {E S:List ah} {o:cl} {p:(List (List Vl)×Int)×Int}
def GQ(t:aO)(L:List cl)(ad:Option Addr)(cap:Nat)(Sr:List ah):Prop:=L.map cl.r=t.rows∧(∀o∈L,nV o)∧sL L ad cap Sr
theorem SD(h:GQ t L ad cap E)(hs:∀B∈E++L.flatMap bR,B∈S):View S (.agg (tC t ad cap)) (.agg (c9 t)) :=
 T4 (o:=⟨t,L.flatMap gR,ad,cap,E,L.flatMap bR⟩) (qh.w ⟨L,rfl,rfl,h.2.1,h.1,h.2.2⟩) hs
theorem SE(aQ:∀o∈L,nV o)(hi:i<L.length)(hs:∀B∈L.flatMap bR,B∈S):View S (aN L[i].ad L[i].r.length L[i].cap) (.list 3 (L[i].r.flatMap cV) L[i].r.length) :=
 lK (aQ _ (getElem_mem hi)) (cr fi _) (fun B E=>hs B (mem_flatMap.2 ⟨_,getElem_mem hi,E⟩))
theorem Kl(f:ah→Nat):∀(L:List cl) (i:Nat) (o:cl) (h:i<L.length),(((L.set i o).flatMap bR).map f).sum=(o.S.map f).sum+(((L.eraseIdx i).flatMap bR).map f).sum
 | [],_,_,h=>absurd h (Nat.not_lt_zero _)
 | x::L,0,o,_=>by simp[bR]
 | x::L,i+1,o,h=>by
  have:=Kl f L i o (Nat.lt_of_succ_lt_succ h);simp only[set_cons_succ,flatMap_cons,map_append,sum_append,eraseIdx_cons_succ,this];omega
theorem SG{A B C X:ah}(h:i<L.length)(hS:L[i].S=[X]):(A::B::([C]++L.flatMap bR)).Perm (X::A::B::C::(L.eraseIdx i).flatMap bR):=iH fun f=>by
 have:=Kl f L i L[i] h;rw[set_getElem_self,hS] at this;simp only[map_cons,sum_cons,map_append,sum_append,map_nil,sum_nil,this];omega
theorem Ui{A B C X:ah}(h:i<L.length)(hS:o.S=[X]):(X::A::B::C::(L.eraseIdx i).flatMap bR).Perm (A::B::([C]++(L.set i o).flatMap bR)):=iH fun f=>by
 have:=Kl f L i o h;rw[hS] at this;simp only[map_cons,sum_cons,map_append,sum_append,map_nil,sum_nil,this];omega
theorem SH{t:aO}{c:Int}{e:List aX}:∀(l:List Int) (acc:List Vl),(iQ t c e acc l).2=0→(iQ t c e acc l).1.length=acc.length+l.length
 | [],acc,_=>rfl
 | i::r,acc,h=>by
  rw[iQ] at h ⊢;split
  ·rename_i h1;rw[if_pos h1] at h;exact absurd h h1
  rename_i h1;rw[if_neg h1] at h;split
  ·rename_i h2;rw[if_pos h2] at h;cases h
  rename_i h2;rw[if_neg h2] at h;rw[SH r _ h,length_append,length_cons,length_cons,length_nil];omega
theorem Jy{t:aO}{n:Nat}(g:eD t n){c:Int}{e:List aX}(jv:∀o∈e,o.nm.size≤maxLen)(fS:∀o∈e,o.v.Ok)(hk:(ew c8 e).2=0):∀(l:List Int) (acc:List Vl),(∀i∈l,gz t i)→(iQ t c e acc l).2=0 →
  (∀v∈acc,v.Ok∧jR (ew c8 e).1 v∧(c=0→v.k≠0))→∀v∈(iQ t c e acc l).1,v.Ok∧jR (ew c8 e).1 v∧(c=0→v.k≠0)
 | [],acc,_,_,ha=>ha
 | i::r,acc,hl,h,ha=>by
  rw[iQ] at h ⊢;have hi:=hl i mem_cons_self;obtain⟨h0,h1,h2⟩:=id hi;obtain⟨p1,p2,_⟩:=g.row _ h1 h2;rw[←iX h1] at p1 p2;split
  ·rename_i h1;rw[if_pos h1] at h;exact absurd h h1
  rename_i hne;rw[if_neg hne] at h;split
  ·rename_i h2;rw[if_pos h2] at h;cases h
  rename_i h3;rw[if_neg h3] at h;refine Jy g jv fS hk r _ (fun j hj=>hl j (mem_cons_of_mem _ hj)) h fun v E=>?_;rcases mem_append.1 E with E|E
  ·exact ha v E
  rw[mem_singleton] at E;subst E;rw[g.ay] at hne h3 ⊢;exact⟨afx p2 fS,adZ jv fS p1 hk (Classical.not_not.1 hne),fun hc hz=>h3 ⟨hc,hz⟩⟩
theorem Km{g:cl→List D}:∀(M:List cl) (i:Nat) (h:i<M.length) (o:cl),g o=g M[i]→(M.set i o).flatMap g=M.flatMap g
 | [],_,h,_,_=>absurd h (Nat.not_lt_zero _)
 | x::M,0,_,o,e=>by
  rw[set_cons_zero,flatMap_cons,flatMap_cons,e];rfl
 | x::M,i+1,h,o,e=>by
  rw[set_cons_succ,flatMap_cons,flatMap_cons,Km M i (Nat.lt_of_succ_lt_succ h) o e]
theorem QI{x:aG}{M:List cl}{i:Int}(h:i.toNat<M.length):rowAt {t with rows:=M.map cl.r,ix:=x} i=M[i.toNat].r:=by
 rw[iX (by show _<(M.map cl.r).length;rw[length_map];exact h)];exact getElem_map ..
theorem Uj{x:aG}{M:List cl}{i:Int}(h:i.toNat<M.length){c:Nat}{v:Vl}(ho:o.r=M[i.toNat].r.set c v):rB {t with rows:=M.map cl.r,ix:=x} i c v={t with rows:=(M.set i.toNat o).map cl.r,ix:=x}:=by
 unfold rB;rw[QI h,map_set,ho]
theorem ad0{c:Nat}{l:List Vl}:mP c t [] l=t:=by unfold mP;rfl
theorem ab6{l:List Vl}:kE t [] l=(t,0):=by unfold kE;rfl
theorem GR{l:List (List Vl)}(h:L.map cl.r=l)(h1:i<L.length)(h2:i<l.length):L[i].r=l[i]:=by subst h;rw[getElem_map]
theorem aaG:(Tryz.prog.info? 41).map (fun i=>(i.zero,i.size,i.bytes))=some (some (.agg #[.int .i64 0,.int .i64 0,.string ⟨#[]⟩]),3,32):=by kernel_rfl
theorem ab7(hm:(3,marksC)∈G)(hw:(1,wordsC)∈G)(ht:(0,typesC)∈G)(hG:(2,[Value.int .i64 m])∈G)(t:aO)(g:eD t n)(s:cU)(ho:∀o∈s.aj,o.nm.size≤maxLen)(fS:∀o∈s.aj,o.v.Ok)(pu:∀o∈s.bQ,o.nm.size≤maxLen)(GS:∀o∈s.bQ,o.v.Ok)(hn:n≤260)(bt off qj:Nat)(pre post:List D)(hp:pre.length=off)(L:List cl)(ad:Option Addr)(cap:Nat)(Sr:List ah)(hL:L.map cl.r=t.rows)(aQ:∀o∈L,nV o)(kH:sL L ad cap Sr):VC Tryz.prog G 45 [.v (.pointer (some ⟨bt,off,none⟩)),.agg (bX s)] (⟨bt,53,qj,pre++(tC t ad cap++post)⟩::(Sr++L.flatMap bR)) (fun r S=>r = .dI [ae (ic t s).2.1,ae (ic t s).2.2]∧((ic t s).2.2=0→∃L' nU kI oJ,GQ (ic t s).1 L' nU kI oJ∧S=⟨bt,53,qj,pre++(tC (ic t s).1 nU kI++post)⟩::(oJ++L'.flatMap bR))):=by
 refine VC.body func45 rfl ntmps45 aR fun X0 w0 aZ=>?_;have dm:=ec;have HR:GQ t L ad cap Sr:=⟨hL,aQ,kH⟩
 have rO:L.length=t.rows.length:=(by rw[←hL,length_map])
 have mN:=g.eJ;have Eb:=FB g s.aj;have mC:=u3 g s.aj;have hnd:=EO g s.aj;have akO:t.ay.length=4:=(by rw[g.ay];rfl)
 have ah9:=IW (G:=G) t w4 s.set;have vZ:=JY (G:=G) hm hw ht t.ay xQ xP s.bQ pu;unfold pT at vZ;have Y3:=wF (fun c:cz=>c.n.toList==s.set.toList) t.ay;rw[show dU (fun c:cz=>c.n.toList==s.set.toList) t.ay=(bM t.ay s.set) from rfl] at Y3;unfold tC;unfold bX;refine bY ?_;refine OD.box (ds:=[_,_,_,_,_,_,_,_,_,_,_,_]) ap rfl rfl ot rfl rfl (fun b3=>?_);refine an 205 [0,3] ?_;refine cZ [0,3,6] ?_;refine aS 2 ?_ (h:=by exact(Mk 1));refine ny 2 ?_;refine zL (ah9) (ha:=by exact⟨⟨_,ot,(SD HR (fun B U=>by repeat (first|exact U|apply mem_append_right|apply mem_cons_of_mem)):View _ (.agg (tC t ad cap)) _)⟩,⟨_,ot,eR⟩,trivial⟩) (K:=?_);refine bG ?_;refine af [0,3,6,30] ?_;refine au ?_ ?_<;>intro aM bD
 ·have hA:(bM t.ay s.set)<0:=(by simpa using aM)
  have aW:ic t s=(t,0,8):=(by unfold ic;rw[if_pos hA])
  exact z138
 have hA:¬(bM t.ay s.set)<0:=(by simpa using aM)
 have lg:(bM t.ay s.set).toNat<t.ay.length:=(by omega)
 refine cZ [0,3,6,7,8] ?_;refine aS 3 ?_ (h:=by exact(oI 1));refine dh (vZ) ?_;refine bG ?_;refine af [0,3,6,7,8,42] ?_;refine au ?_ ?_<;>intro aY cy
 ·have U:(ew t.ay s.bQ).2≠0:=(by simpa using aY)
  have aW:ic t s=(t,0,(ew t.ay s.bQ).2):=(by unfold ic;rw[if_neg hA,if_pos U])
  exact z138
 have U:¬(ew t.ay s.bQ).2≠0:=(by simpa using aY)
 have j9:t.ay.getD (bM t.ay s.set).toNat ⟨⟨#[]⟩,0⟩=t.ay[(bM t.ay s.set).toNat]:=(by rw[getD_eq_getElem?_getD,getElem?_eq_getElem lg];rfl)
 refine CD.skip ?_;refine jB [0,3,6] (fun aU rN aH=>(¬((ew t.ay s.bQ).1≠(t.ay.getD (bM t.ay s.set).toNat ⟨⟨#[]⟩,0⟩).k∧(ew t.ay s.bQ).1≠0))∧aH=(⟨205,aU,rN⟩:St)) ?_ ?_
 ·refine aD 4 ?_;refine bN (oI 1) ?_;refine aE 1 ?_;refine bN (dF 2 (h:=by first|exact .l (j:=(bM t.ay s.set).toNat) (Int.toNat_of_nonneg w4).symm lg|exact .r (j:=(bM t.ay s.set).toNat) (Int.toNat_of_nonneg w4).symm lg)) ?_;refine aE 4 ?_;refine bV 54 (fun zH zj=>?_) (fun zH zj=>?_)
  ·refine an 205 [0,3,6,57] ?_;refine au ?_ ?_<;>intro bZ cN
   ·have hC:(ew t.ay s.bQ).1≠(t.ay.getD (bM t.ay s.set).toNat ⟨⟨#[]⟩,0⟩).k∧(ew t.ay s.bQ).1≠0:=(by rw[j9];exact⟨by simpa using zH,by simpa using bZ⟩)
    have aW:ic t s=(t,0,4):=(by unfold ic;rw[if_neg hA,if_neg U,if_pos hC])
    exact z138
   exact XK
  refine an 205 [0,3,6,57] ?_;refine fM ?_;exact XK
 rintro _ ⟨hC,rfl⟩;refine cZ [0,3,6,8,9] ?_;refine aS 2 ?_ (h:=by exact(Mk 1));refine ny 2 ?_;refine zK (KM hm hw ht hG t g s.aj ho fS) (fun r S h=>h.flat) (fun r S h=>h.view) (ha:=by exact⟨⟨_,ot,(SD HR (fun B U=>by repeat (first|exact U|apply mem_append_right|apply mem_cons_of_mem)):View _ (.agg (tC t ad cap)) _)⟩,⟨_,ot,eR⟩,trivial⟩) (K:=?_);refine bG ?_;refine af [0,3,6,8,9,68] ?_;refine au ?_ ?_<;>intro cX en
 ·have hD:(ax t s.aj).2≠0:=(by simpa using cX)
  have aW:ic t s=(t,0,(ax t s.aj).2):=(by unfold ic;rw[if_neg hA,if_neg U,if_neg hC,if_pos hD])
  exact z138
 have hD:¬(ax t s.aj).2≠0:=(by simpa using cX)
 refine bY ?_;refine bg [0,3,6,9,10] ?_;refine af [0,3,6,9,10,70,71,72] ?_;refine eA [0,3,6,9,70,71] (fun aU _ (E:Nat×List Vl×Option Addr×Nat×List ah) aH=>match E with|(k,acc,dg,cR,Sx)=>(k≤(ax t s.aj).1.length)∧((acc).length=k)∧((iQ t (bM t.ay s.set) s.bQ [] (ax t s.aj).1)=iQ t (bM t.ay s.set) s.bQ acc ((ax t s.aj).1.drop k))∧(bn 41 3 ((acc).flatMap cV) (acc).length dg cR Sx)∧aH=(⟨205,(10,aN dg (acc).length cR)::(72,ae (k:Nat))::aU,(⟨b3,32,12,bX s⟩::⟨bt,53,qj,pre++([bw t.nm,av 2 cC t.ay,aN ad t.rows.length cap,av 5 cP t.ix.ag,ae t.ix.root]++post)⟩::(Sr++(Sx++L.flatMap bR)))⟩:St)) (fun (E:Nat×List Vl×Option Addr×Nat×List ah)=>match E with|(k,acc,dg,cR,Sx)=>(ax t s.aj).1.length-k) (0,([]:List Vl),none,0,[]) ⟨(Nat.zero_le _),rfl,rfl,iv,rfl⟩ ?_;rintro⟨k,acc,dg,cR,Sx⟩ _ ⟨hk,rz,Ax,dW,rfl⟩;refine af [0,3,6,9,10,70,71,72,73] ?_;refine au ?_ ?_<;>intro er fq
 ·have aa:k<(ax t s.aj).1.length:=(by omega)
  have ju:(ax t s.aj).1.drop k=((ax t s.aj).1[k]'aa)::(ax t s.aj).1.drop (k+1):=drop_eq_getElem_cons aa;have rR:gz t ((ax t s.aj).1[k]'aa):=mC _ (getElem_mem aa);obtain⟨gC,O,nW⟩:=id rR;have fZ:((ax t s.aj).1[k]'aa).toNat<L.length:=(by rw[rO];exact O)
  obtain⟨br,rfl,uy,uz,rfl⟩:=kH.pos w4;have v7:L[((ax t s.aj).1[k]'aa).toNat].r=rowAt t ((ax t s.aj).1[k]'aa):=(by rw[iX O];exact(GR hL fZ O))
  obtain⟨Y2,Ec⟩:=gz.ok g rR;have Ml:=TN (G:=G) hm hw ht t.ay xQ xP L[((ax t s.aj).1[k]'aa).toNat].r (by rw[v7];omega) (by rw[v7];exact fun v hv=>(Ec v hv).1) s.bQ pu GS;rw[show fp t.ay L[((ax t s.aj).1[k]'aa).toNat].r s.bQ=(fp t.ay (rowAt t ((ax t s.aj).1[k]'aa)) s.bQ) from by rw[v7]] at Ml;unfold mX at Ml;refine af [0,3,6,9,10,12,70,71,72] ?_;refine CD.seq ?_;refine uu 18 17 [0,3,6,9,10,13,70,71,72,91,92] ?_;refine aS 3 ?_ (h:=by exact(oI 1));refine aS 3 ?_ (h:=by exact(oI 1));refine aS 1 ?_ (h:=by exact(dF 1 (h:=by first|exact .l (j:=((ax t s.aj).1[k]'aa).toNat) (Int.toNat_of_nonneg gC).symm O|exact .r (j:=((ax t s.aj).1[k]'aa).toNat) (Int.toNat_of_nonneg gC).symm O)));refine aS 0 ?_ (h:=by exact(cW (mk:=Op.load 28) rfl ot (iY (k:=2) (i:=((ax t s.aj).1[k]'aa).toNat) (ls:=L) u0 rfl rfl rfl isAgg28 fZ rfl)));refine ny 2 ?_;refine zL (Ml) (ha:=by exact⟨⟨_,ot,eR⟩,⟨_,ot,(SE aQ fZ (fun B U=>by repeat (first|exact U|apply mem_append_right|apply mem_cons_of_mem)))⟩,⟨_,ot,eR⟩,trivial⟩) (K:=?_);refine ny 3 ?_;refine rJ ?_;refine jW ?_;refine⟨rfl,fun mB=>?_⟩;refine aP 0 [_,_,_] sizeOf41 ?_;refine an 205 [0,3,6,9,10,13,14,70,71,72] ?_;refine af [0,3,6,9,10,13,14,70,71,72,94] ?_;refine au ?_ ?_<;>intro fx gG
  ·have hE:(fp t.ay (rowAt t ((ax t s.aj).1[k]'aa)) s.bQ).2≠0:=(by simpa using fx)
   have iU:(iQ t (bM t.ay s.set) s.bQ [] (ax t s.aj).1)=([],(fp t.ay (rowAt t ((ax t s.aj).1[k]'aa)) s.bQ).2):=(by rw[Ax,ju,iQ,if_pos hE])
   have aW:ic t s=(t,0,(fp t.ay (rowAt t ((ax t s.aj).1[k]'aa)) s.bQ).2):=(by unfold ic;rw[if_neg hA,if_neg U,if_neg hC,if_neg hD,iU,if_pos hE])
   exact z138
  have hE:¬(fp t.ay (rowAt t ((ax t s.aj).1[k]'aa)) s.bQ).2≠0:=(by simpa using fx)
  refine CD.skip ?_;refine jB [0,3,6,9,10,13,70,71,72] (fun aU rN aH=>((iQ t (bM t.ay s.set) s.bQ [] (ax t s.aj).1)=iQ t (bM t.ay s.set) s.bQ (acc++[(fp t.ay (rowAt t ((ax t s.aj).1[k]'aa)) s.bQ).1]) ((ax t s.aj).1.drop (k+1)))∧aH=(⟨205,aU,rN⟩:St)) ?_ ?_
  ·refine aD 3 ?_;refine bV 98 (fun zC Gc=>?_) (fun zC Gc=>?_)
   ·refine bg [0,3,6,9,10,13,70,71,72,102] ?_;refine au ?_ ?_<;>intro gU kU
    ·have hF:(bM t.ay s.set)=0∧(fp t.ay (rowAt t ((ax t s.aj).1[k]'aa)) s.bQ).1.k=0:=⟨Gc,by simpa using gU⟩
     have iU:(iQ t (bM t.ay s.set) s.bQ [] (ax t s.aj).1)=([],4):=(by rw[Ax,ju,iQ,if_neg hE,if_pos hF])
     have aW:ic t s=(t,0,4):=(by unfold ic;rw[if_neg hA,if_neg U,if_neg hC,if_neg hD,iU,if_pos w7])
     exact z138
    exact XA
   refine bg [0,3,6,9,10,13,70,71,72,102] ?_;refine fM ?_;exact XA
  rintro _ ⟨nS,rfl⟩;refine dM 2 ?_;refine ei (bW 0 [_]) [.int .i64 0,.int .i64 0,.string ⟨#[]⟩] [_,_,_] zeroValue41 runUnderlying28 sizeOf41 (fun aql=>?_);refine fw 0 105 3 1 ?_;refine OD.ek (ls:=acc) (new:=[(fp t.ay (rowAt t ((ax t s.aj).1[k]'aa)) s.bQ).1]) (Sq:=Sx) fi FD ap rfl rfl underlying28 aaG rfl w7 ot dW (tw (A:=[_,_,_]) (S1:=[⟨br,28,cap*1,L.flatMap gR⟩]) (S2:=Sx) (S3:=L.flatMap bR)) ot bf w9 lY (fun Mm Lg aia aib=>?_);refine OD.perm (wu (S2:=[⟨Mm,41,Lg*3,flatMap cV (acc++[(fp t.ay (rowAt t ((ax t s.aj).1[k]'aa)) s.bQ).1])⟩]) (A:=[_,_,_])) ?_;refine an 205 [0,3,6,9,10,70,71,72] ?_;refine cm [0,3,6,9,10,70,71,72] ?_;refine⟨((k+1),(acc++[(fp t.ay (rowAt t ((ax t s.aj).1[k]'aa)) s.bQ).1]),(some ⟨Mm,0,none⟩),Lg,[⟨Mm,41,Lg*3,flatMap cV (acc++[(fp t.ay (rowAt t ((ax t s.aj).1[k]'aa)) s.bQ).1])⟩]),_,cD,aK,w4,Ag,nS,(bE aia aib),rfl⟩
 have Ed:(iQ t (bM t.ay s.set) s.bQ [] (ax t s.aj).1)=(acc,0):=(by rw[Ax,drop_of_length_le w4];rfl)
 have hN:¬(iQ t (bM t.ay s.set) s.bQ [] (ax t s.aj).1).2≠0:=(by rw[Ed];exact fun h=>h rfl)
 have qb:acc.length=(ax t s.aj).1.length:=(by omega)
 have WR:=Jy g pu GS (c:=(bM t.ay s.set)) (by rw[←g.ay];exact Classical.not_not.1 U) (ax t s.aj).1 [] mC (Classical.not_not.1 hN) (fun v hv=>by cases hv);rw[Ed] at WR;have hl4:∀i∈(ax t s.aj).1,∃h:i.toNat<L.length,L[i.toNat].r.length=4:=fun i hi=>by obtain⟨h0,h1,h2⟩:=mC i hi;have:=(gz.ok g (mC i hi)).1;rw[iX h1] at this;exact⟨by omega,by rw[GR hL w4 h1];exact this⟩
 have hl5:∀i∈(ax t s.aj).1,∃h:i.toNat<L.length,Pc.dO c8 L[i.toNat].r=0∧∀v∈L[i.toNat].r,v.Ok:=fun i hi=>by obtain⟨h0,h1,h2⟩:=mC i hi;obtain⟨p1,p2,_⟩:=g.row _ h1 h2;exact⟨by omega,by rw[GR hL w4 h1];exact⟨p1,p2⟩⟩
 refine CD.exit ?_;refine CD.seq ?_;refine CD.seq ?_;refine CD.gN (t:=10) (Sq:=Sx) lk dW (cr fi _) (tw (A:=[_,_])) ?_;refine s9 ?_;refine bg [0,6,9,10,109] ?_;refine au ?_ ?_<;>intro gq lA
 ·have hP:0<(bM t.ay s.set):=(by simpa using gq)
  refine af [0,6,9,10,110,111,112] ?_;refine eA [0,6,9,10,110,111] (fun aU _ (E:Nat×List cl) aH=>match E with|(k,M)=>(k≤(ax t s.aj).1.length)∧(mP (bM t.ay s.set).toNat {t with rows:=M.map cl.r} ((ax t s.aj).1.drop k) (acc.drop k)=mP (bM t.ay s.set).toNat t (ax t s.aj).1 acc)∧(∀o∈M,nV o)∧(sL M ad cap Sr)∧(M.length=t.rows.length)∧(∀i∈(ax t s.aj).1,∃h:i.toNat<M.length,M[i.toNat].r.length=4)∧aH=(⟨205,(112,ae (k:Nat))::aU,(⟨b3,32,12,bX s⟩::⟨bt,53,qj,pre++([bw t.nm,av 2 cC t.ay,aN ad t.rows.length cap,av 5 cP t.ix.ag,ae t.ix.root]++post)⟩::(Sr++M.flatMap bR))⟩:St)) (fun (E:Nat×List cl)=>match E with|(k,M)=>(ax t s.aj).1.length-k) (0,L) ⟨(Nat.zero_le _),(by rw[hL];rfl),aQ,kH,rO,hl4,rfl⟩ ?_;rintro⟨k,M⟩ _ ⟨dP,WS,Z,vY,xO,Y4,rfl⟩;refine af [0,6,9,10,110,111,112,113] ?_;refine au ?_ ?_<;>intro pZ GF
  ·have aa:k<(ax t s.aj).1.length:=(by omega)
   have dG:k<acc.length:=(by omega)
   have ju:(ax t s.aj).1.drop k=((ax t s.aj).1[k]'aa)::(ax t s.aj).1.drop (k+1):=drop_eq_getElem_cons aa;have lI:acc.drop k=(acc[k]'dG)::acc.drop (k+1):=drop_eq_getElem_cons dG;obtain⟨gC,O,nW⟩:=mC _ (getElem_mem aa);obtain⟨fZ,rS⟩:=Y4 _ (getElem_mem aa);obtain⟨br,rfl,uy,uz,rfl⟩:=vY.pos w4;obtain⟨I,yy,CW,Ee,Oz⟩:=(Z _ (getElem_mem fZ)).pos w4;have jT:∀o∈(M.set ((ax t s.aj).1[k]'aa).toNat (⟨M[((ax t s.aj).1[k]'aa).toNat].r.set (bM t.ay s.set).toNat (acc[k]'dG),some ⟨I,0,none⟩,M[((ax t s.aj).1[k]'aa).toNat].cap,[⟨I,41,M[((ax t s.aj).1[k]'aa).toNat].cap*3,(M[((ax t s.aj).1[k]'aa).toNat].r.set (bM t.ay s.set).toNat (acc[k]'dG)).flatMap cV⟩]⟩:cl)),nV o:=fun o ho=>by rcases mem_or_eq_of_mem_set ho with h|h;exact Z o h;rw[h];exact bE (g:=cV) G5 Ee
   have OA:(M.set ((ax t s.aj).1[k]'aa).toNat (⟨M[((ax t s.aj).1[k]'aa).toNat].r.set (bM t.ay s.set).toNat (acc[k]'dG),some ⟨I,0,none⟩,M[((ax t s.aj).1[k]'aa).toNat].cap,[⟨I,41,M[((ax t s.aj).1[k]'aa).toNat].cap*3,(M[((ax t s.aj).1[k]'aa).toNat].r.set (bM t.ay s.set).toNat (acc[k]'dG)).flatMap cV⟩]⟩:cl)).flatMap gR=M.flatMap gR:=Km M _ fZ _ (by show[D.v (.slice _ (M[((ax t s.aj).1[k]'aa).toNat].r.set (bM t.ay s.set).toNat (acc[k]'dG)).length _)]=[D.v (.slice _ _ _)];rw[length_set,yy]);have CQ:sL (M.set ((ax t s.aj).1[k]'aa).toNat (⟨M[((ax t s.aj).1[k]'aa).toNat].r.set (bM t.ay s.set).toNat (acc[k]'dG),some ⟨I,0,none⟩,M[((ax t s.aj).1[k]'aa).toNat].cap,[⟨I,41,M[((ax t s.aj).1[k]'aa).toNat].cap*3,(M[((ax t s.aj).1[k]'aa).toNat].r.set (bM t.ay s.set).toNat (acc[k]'dG)).flatMap cV⟩]⟩:cl)) (some ⟨br,0,none⟩) cap [⟨br,28,cap*1,M.flatMap gR⟩]:=(by rw[←OA];exact bE (by rw[length_set];exact uy) uz)
   have akP:∀i∈(ax t s.aj).1,∃h:i.toNat<(M.set ((ax t s.aj).1[k]'aa).toNat (⟨M[((ax t s.aj).1[k]'aa).toNat].r.set (bM t.ay s.set).toNat (acc[k]'dG),some ⟨I,0,none⟩,M[((ax t s.aj).1[k]'aa).toNat].cap,[⟨I,41,M[((ax t s.aj).1[k]'aa).toNat].cap*3,(M[((ax t s.aj).1[k]'aa).toNat].r.set (bM t.ay s.set).toNat (acc[k]'dG)).flatMap cV⟩]⟩:cl)).length,(M.set ((ax t s.aj).1[k]'aa).toNat (⟨M[((ax t s.aj).1[k]'aa).toNat].r.set (bM t.ay s.set).toNat (acc[k]'dG),some ⟨I,0,none⟩,M[((ax t s.aj).1[k]'aa).toNat].cap,[⟨I,41,M[((ax t s.aj).1[k]'aa).toNat].cap*3,(M[((ax t s.aj).1[k]'aa).toNat].r.set (bM t.ay s.set).toNat (acc[k]'dG)).flatMap cV⟩]⟩:cl))[i.toNat].r.length=4:=fun i hi=>by obtain⟨h1,h2⟩:=Y4 i hi;refine⟨by rw[length_set];exact h1,?_⟩;rw[getElem_set];split;(show(M[((ax t s.aj).1[k]'aa).toNat].r.set (bM t.ay s.set).toNat (acc[k]'dG)).length=4;rw[length_set];exact rS);exact h2
   have aic:mP (bM t.ay s.set).toNat {t with rows:=(M.set ((ax t s.aj).1[k]'aa).toNat (⟨M[((ax t s.aj).1[k]'aa).toNat].r.set (bM t.ay s.set).toNat (acc[k]'dG),some ⟨I,0,none⟩,M[((ax t s.aj).1[k]'aa).toNat].cap,[⟨I,41,M[((ax t s.aj).1[k]'aa).toNat].cap*3,(M[((ax t s.aj).1[k]'aa).toNat].r.set (bM t.ay s.set).toNat (acc[k]'dG)).flatMap cV⟩]⟩:cl)).map cl.r} ((ax t s.aj).1.drop (k+1)) (acc.drop (k+1))=mP (bM t.ay s.set).toNat t (ax t s.aj).1 acc:=(by rw[←WS,ju,lI,mP];congr 1;exact(Uj (x:=t.ix) fZ rfl).symm)
   refine CD.perm (SG fZ Oz) ?_;refine af [0,6,9,10,15,16,110,111,112] ?_;refine lF 12 [0,6,9,10,110,111,112,123,124,128] ?_;refine aS 3 ?_ (h:=by exact(oI 2));refine aS 1 ?_ (h:=by exact(dF 1 (h:=by first|exact .l (j:=((ax t s.aj).1[k]'aa).toNat) (Int.toNat_of_nonneg gC).symm vF|exact .r (j:=((ax t s.aj).1[k]'aa).toNat) (Int.toNat_of_nonneg gC).symm vF)));refine aS 0 ?_ (h:=by exact(cW (mk:=Op.load 28) rfl ot (iY (k:=3) (i:=((ax t s.aj).1[k]'aa).toNat) (ls:=M) (d:=aN (some ⟨I,0,none⟩) M[((ax t s.aj).1[k]'aa).toNat].r.length M[((ax t s.aj).1[k]'aa).toNat].cap) u0 rfl rfl rfl isAgg28 fZ (by rw[←yy];rfl))));refine bG ?_;refine bN (dF 3 (h:=by first|exact .l (j:=(bM t.ay s.set).toNat) (Int.toNat_of_nonneg w4).symm (by rw[rS];omega)|exact .r (j:=(bM t.ay s.set).toNat) (Int.toNat_of_nonneg w4).symm (by rw[rS];omega))) ?_;refine OD.storeAt (k:=0) (cs':=(M[((ax t s.aj).1[k]'aa).toNat].r.set (bM t.ay s.set).toNat (acc[k]'dG)).flatMap cV) ap rfl rfl ot rfl rfl ot rfl rfl sizeOf41 rfl (by show 0+(bM t.ay s.set).toNat*3+3≤(M[((ax t s.aj).1[k]'aa).toNat].r.flatMap cV).length;rw[cr fi,rS];omega) (by show dw (M[((ax t s.aj).1[k]'aa).toNat].r.flatMap cV) (0+(bM t.ay s.set).toNat*3) (cV (acc[k]'dG))=_;rw[Nat.zero_add];exact oP fi _ _ (by rw[rS];omega)) ?_;refine an 205 [0,6,9,10,110,111,112] ?_;refine dM 1 ?_
   refine OD.perm (Ui fZ (o:=(⟨M[((ax t s.aj).1[k]'aa).toNat].r.set (bM t.ay s.set).toNat (acc[k]'dG),some ⟨I,0,none⟩,M[((ax t s.aj).1[k]'aa).toNat].cap,[⟨I,41,M[((ax t s.aj).1[k]'aa).toNat].cap*3,(M[((ax t s.aj).1[k]'aa).toNat].r.set (bM t.ay s.set).toNat (acc[k]'dG)).flatMap cV⟩]⟩:cl)) rfl) ?_;refine an 205 [0,6,9,10,110,111,112] ?_;refine⟨((k+1),(M.set ((ax t s.aj).1[k]'aa).toNat (⟨M[((ax t s.aj).1[k]'aa).toNat].r.set (bM t.ay s.set).toNat (acc[k]'dG),some ⟨I,0,none⟩,M[((ax t s.aj).1[k]'aa).toNat].cap,[⟨I,41,M[((ax t s.aj).1[k]'aa).toNat].cap*3,(M[((ax t s.aj).1[k]'aa).toNat].r.set (bM t.ay s.set).toNat (acc[k]'dG)).flatMap cV⟩]⟩:cl))),_,cD,aK,w4,aic,jT,CQ,(by rw[length_set];exact xO),akP,rfl⟩
  have aid:mP (bM t.ay s.set).toNat t (ax t s.aj).1 acc={t with rows:=M.map cl.r}:=(by rw[←WS,drop_of_length_le (l:=(ax t s.aj).1) w4,ad0])
  have aW:ic t s=({t with rows:=M.map cl.r},((ax t s.aj).1.length:Int),0):=(by unfold ic;rw[if_neg hA,if_neg U,if_neg hC,if_neg hD,if_neg hN,if_pos hP,Ed,aid])
  refine af [4,5] ?_;refine aI (⟨bt,53,qj,pre++(_++post)⟩::(Sr++M.flatMap bR)) ?_;rw[aW];exact⟨rfl,fun _=>⟨M,ad,cap,Sr,⟨rfl,Z,vY⟩,by simp only[tC,length_map,xO]⟩⟩
 have hP:¬0<(bM t.ay s.set):=(by simpa using gq)
 have yz:(bM t.ay s.set)=0:=(by omega)
 refine af [0,9,10,133,134,135] ?_;refine eA [0,9,10,133,134] (fun aU _ (E:Nat×aG) aH=>match E with|(k,x)=>(k≤(ax t s.aj).1.length)∧(oo t x ((ax t s.aj).1.drop k)=oo t t.ix (ax t s.aj).1)∧(iL x n)∧(∀i∈(ax t s.aj).1.drop k,(cH (rowAt t i),i)∈eo x)∧aH=(⟨205,(135,ae (k:Nat))::aU,(⟨b3,32,12,bX s⟩::⟨bt,53,qj,pre++([bw t.nm,av 2 cC t.ay,aN ad t.rows.length cap,av 5 cP x.ag,ae x.root]++post)⟩::(Sr++L.flatMap bR))⟩:St)) (fun (E:Nat×aG)=>match E with|(k,x)=>(ax t s.aj).1.length-k) (0,t.ix) ⟨(Nat.zero_le _),rfl,g.ix,(fun i hi=>(mC i hi).iG g),rfl⟩ ?_;rintro⟨k,x⟩ _ ⟨fB,Mn,gx,yj,rfl⟩;refine af [0,9,10,133,134,135,136] ?_;refine au ?_ ?_<;>intro Dx L0
 ·have aa:k<(ax t s.aj).1.length:=(by omega)
  have ju:(ax t s.aj).1.drop k=((ax t s.aj).1[k]'aa)::(ax t s.aj).1.drop (k+1):=drop_eq_getElem_cons aa;have rR:gz t ((ax t s.aj).1[k]'aa):=mC _ (getElem_mem aa);obtain⟨gC,O,nW⟩:=id rR;have fZ:((ax t s.aj).1[k]'aa).toNat<L.length:=(by rw[rO];exact O)
  obtain⟨br,rfl,uy,uz,rfl⟩:=kH.pos w4;have v7:L[((ax t s.aj).1[k]'aa).toNat].r=rowAt t ((ax t s.aj).1[k]'aa):=(by rw[iX O];exact(GR hL fZ O))
  obtain⟨Y2,Ec⟩:=gz.ok g rR;have WT:=KK (G:=G) hG L[((ax t s.aj).1[k]'aa).toNat].r (by rw[v7];omega) (by rw[v7];omega) (by rw[v7];exact fun v hv=>(Ec v hv).1);rw[show cH L[((ax t s.aj).1[k]'aa).toNat].r=cH (rowAt t ((ax t s.aj).1[k]'aa)) from by rw[v7]] at WT;have gg:=yj _ (by rw[ju];exact mem_cons_self);have Y5:=Jr gx ((Bj gx.val _).2 ⟨_,gg⟩);have yx:=Sj (G:=G) gx (cH (rowAt t ((ax t s.aj).1[k]'aa)));rw[T2 gx (uT (by rw[iX O];exact(g.row _ O nW).1)) ((Bl gx _).2 ⟨_,gg⟩)] at yx;unfold Tw.cT at yx;have aie:oo t (gI x (dc x) (cH (rowAt t ((ax t s.aj).1[k]'aa)))) ((ax t s.aj).1.drop (k+1))=oo t t.ix (ax t s.aj).1:=(by rw[←Mn,ju];rfl)
  have akQ:∀i∈(ax t s.aj).1.drop (k+1),(cH (rowAt t i),i)∈eo (gI x (dc x) (cH (rowAt t ((ax t s.aj).1[k]'aa)))):=fun i hi=>by refine(Y5.2 _).2 ⟨yj i (by rw[ju];exact mem_cons_of_mem _ hi),fun e=>?_⟩;have h9:=hnd.sublist (drop_sublist k _);rw[ju,nodup_cons] at h9;have h8:=Kj g.ix ((mC i (mem_of_mem_drop hi)).iG g) (rR.iG g) e;simp only[Prod.mk.injEq] at h8;exact h9.1 (h8.2 ▸ hi)
  refine af [0,9,10,18,133,134,135] ?_;refine lF 17 [0,9,10,133,134,135,140,154] ?_;refine aS 4 ?_ (h:=by exact(xJ 1));refine aS 3 ?_ (h:=by exact(oI 1));refine aS 1 ?_ (h:=by exact(dF 1 (h:=by first|exact .l (j:=((ax t s.aj).1[k]'aa).toNat) (Int.toNat_of_nonneg gC).symm O|exact .r (j:=((ax t s.aj).1[k]'aa).toNat) (Int.toNat_of_nonneg gC).symm O)));refine aS 0 ?_ (h:=by exact(cW (mk:=Op.load 28) rfl ot (iY (k:=2) (i:=((ax t s.aj).1[k]'aa).toNat) (ls:=L) u0 rfl rfl rfl isAgg28 fZ rfl)));refine zK (WT) (fun r S h=>h.flat) (fun r S h=>h.view) (ha:=by exact⟨⟨_,ot,(SE aQ fZ (fun B U=>by repeat (first|exact U|apply mem_append_right|apply mem_cons_of_mem)))⟩,trivial⟩) (K:=?_);refine dh (yx) ?_;refine bG ?_;refine aE 2 ?_;refine OD.storeAt (k:=1) (cs':=pre++([bw t.nm,av 2 cC t.ay,aN (some ⟨br,0,none⟩) t.rows.length cap,.list 5 ((gI x (dc x) (cH (rowAt t ((ax t s.aj).1[k]'aa)))).ag.flatMap cP) (gI x (dc x) (cH (rowAt t ((ax t s.aj).1[k]'aa)))).ag.length,ae (gI x (dc x) (cH (rowAt t ((ax t s.aj).1[k]'aa)))).root]++post)) ap rfl rfl ot rfl rfl ot rfl rfl sizeOf51 rfl (by show off+3+2≤(pre++(([bw t.nm,av 2 cC t.ay,aN (some ⟨br,0,none⟩) t.rows.length cap,av 5 cP x.ag,ae x.root]:List D)++post)).length;simp only[length_append,length_cons,length_nil];omega) (by exact BJ (j:=3) hp aR rfl) ?_;refine an 205 [0,9,10,133,134,135] ?_
  refine cm [0,9,10,133,134,135] ?_;refine⟨((k+1),(gI x (dc x) (cH (rowAt t ((ax t s.aj).1[k]'aa))))),_,cD,aK,w4,aie,Y5.1,akQ,rfl⟩
 have yo:oo t t.ix (ax t s.aj).1=x:=(by rw[←Mn,drop_of_length_le w4];rfl)
 clear Mn yj;skip;refine af [0,9,10,159,160,161] ?_;refine eA [0,9,10,159,160] (fun aU _ (E:Nat×List cl×aG) aH=>match E with|(k,M,y)=>(k≤(ax t s.aj).1.length)∧(kE {t with rows:=M.map cl.r,ix:=y} ((ax t s.aj).1.drop k) (acc.drop k)=kE {t with ix:=oo t t.ix (ax t s.aj).1} (ax t s.aj).1 acc)∧(∀o∈M,nV o)∧(sL M ad cap Sr)∧(M.length=t.rows.length)∧(∀i∈(ax t s.aj).1,∃h:i.toNat<M.length,Pc.dO c8 M[i.toNat].r=0∧∀v∈M[i.toNat].r,v.Ok)∧(iL y (n+k))∧aH=(⟨205,(161,ae (k:Nat))::aU,(⟨b3,32,12,bX s⟩::⟨bt,53,qj,pre++([bw t.nm,av 2 cC t.ay,aN ad t.rows.length cap,av 5 cP y.ag,ae y.root]++post)⟩::(Sr++M.flatMap bR))⟩:St)) (fun (E:Nat×List cl×aG)=>match E with|(k,M,y)=>(ax t s.aj).1.length-k) (0,L,x) ⟨(Nat.zero_le _),(by rw[hL,yo];rfl),aQ,kH,rO,hl5,gx,rfl⟩ ?_;rintro⟨k,M,y⟩ _ ⟨dP,AX,Z,vY,xO,Y6,gy,rfl⟩;refine af [0,9,10,159,160,161,162] ?_;refine au ?_ ?_<;>intro Gn BS
 ·have aa:k<(ax t s.aj).1.length:=(by omega)
  have dG:k<acc.length:=(by omega)
  have ju:(ax t s.aj).1.drop k=((ax t s.aj).1[k]'aa)::(ax t s.aj).1.drop (k+1):=drop_eq_getElem_cons aa;have lI:acc.drop k=(acc[k]'dG)::acc.drop (k+1):=drop_eq_getElem_cons dG;obtain⟨gC,O,nW⟩:=mC _ (getElem_mem aa);obtain⟨fZ,Y7,hx6⟩:=Y6 _ (getElem_mem aa);have rS:=nH Y7;obtain⟨akR,WU,akS⟩:=WR _ (getElem_mem dG);have yw:(acc[k]'dG).k≠0∧jR (c8[0]'w7).k (acc[k]'dG):=(by have h1:=akS yz;refine⟨h1,WU.1,?_⟩;have h2:=WU.2;have akT:bM c8 s.set=0:=(by rw[←g.ay];exact yz);have Y8:=hC;simp only[g.ay,akT] at Y8;have h3:(ew c8 s.bQ).1=(c8[0]'w7).k∨(ew c8 s.bQ).1=0:=(Classical.em ((ew c8 s.bQ).1=(c8[0]'w7).k)).imp id fun h=>Classical.not_not.1 fun h'=>Y8 ⟨h,h'⟩;omega)
  obtain⟨br,rfl,uy,uz,rfl⟩:=vY.pos w4;obtain⟨I,yy,CW,Ee,Oz⟩:=(Z _ (getElem_mem fZ)).pos w4;have jT:∀o∈(M.set ((ax t s.aj).1[k]'aa).toNat (⟨M[((ax t s.aj).1[k]'aa).toNat].r.set 0 (acc[k]'dG),some ⟨I,0,none⟩,M[((ax t s.aj).1[k]'aa).toNat].cap,[⟨I,41,M[((ax t s.aj).1[k]'aa).toNat].cap*3,(M[((ax t s.aj).1[k]'aa).toNat].r.set 0 (acc[k]'dG)).flatMap cV⟩]⟩:cl)),nV o:=fun o ho=>by rcases mem_or_eq_of_mem_set ho with h|h;exact Z o h;rw[h];exact bE (g:=cV) G5 Ee
  have OA:(M.set ((ax t s.aj).1[k]'aa).toNat (⟨M[((ax t s.aj).1[k]'aa).toNat].r.set 0 (acc[k]'dG),some ⟨I,0,none⟩,M[((ax t s.aj).1[k]'aa).toNat].cap,[⟨I,41,M[((ax t s.aj).1[k]'aa).toNat].cap*3,(M[((ax t s.aj).1[k]'aa).toNat].r.set 0 (acc[k]'dG)).flatMap cV⟩]⟩:cl)).flatMap gR=M.flatMap gR:=Km M _ fZ _ (by show[D.v (.slice _ (M[((ax t s.aj).1[k]'aa).toNat].r.set 0 (acc[k]'dG)).length _)]=[D.v (.slice _ _ _)];rw[length_set,yy]);have CQ:sL (M.set ((ax t s.aj).1[k]'aa).toNat (⟨M[((ax t s.aj).1[k]'aa).toNat].r.set 0 (acc[k]'dG),some ⟨I,0,none⟩,M[((ax t s.aj).1[k]'aa).toNat].cap,[⟨I,41,M[((ax t s.aj).1[k]'aa).toNat].cap*3,(M[((ax t s.aj).1[k]'aa).toNat].r.set 0 (acc[k]'dG)).flatMap cV⟩]⟩:cl)) (some ⟨br,0,none⟩) cap [⟨br,28,cap*1,M.flatMap gR⟩]:=(by rw[←OA];exact bE (by rw[length_set];exact uy) uz)
  have VF:Pc.dO c8 (M[((ax t s.aj).1[k]'aa).toNat].r.set 0 (acc[k]'dG))=0:=Uh Y7 w7 yw.2 (fun _=>yw.1);have xH:∀v∈M[((ax t s.aj).1[k]'aa).toNat].r.set 0 (acc[k]'dG),v.Ok:=fun v hv=>by rcases mem_or_eq_of_mem_set hv with h|h;exact hx6 v h;rw[h];exact akR
  have akU:∀i∈(ax t s.aj).1,∃h:i.toNat<(M.set ((ax t s.aj).1[k]'aa).toNat (⟨M[((ax t s.aj).1[k]'aa).toNat].r.set 0 (acc[k]'dG),some ⟨I,0,none⟩,M[((ax t s.aj).1[k]'aa).toNat].cap,[⟨I,41,M[((ax t s.aj).1[k]'aa).toNat].cap*3,(M[((ax t s.aj).1[k]'aa).toNat].r.set 0 (acc[k]'dG)).flatMap cV⟩]⟩:cl)).length,Pc.dO c8 (M.set ((ax t s.aj).1[k]'aa).toNat (⟨M[((ax t s.aj).1[k]'aa).toNat].r.set 0 (acc[k]'dG),some ⟨I,0,none⟩,M[((ax t s.aj).1[k]'aa).toNat].cap,[⟨I,41,M[((ax t s.aj).1[k]'aa).toNat].cap*3,(M[((ax t s.aj).1[k]'aa).toNat].r.set 0 (acc[k]'dG)).flatMap cV⟩]⟩:cl))[i.toNat].r=0∧∀v∈(M.set ((ax t s.aj).1[k]'aa).toNat (⟨M[((ax t s.aj).1[k]'aa).toNat].r.set 0 (acc[k]'dG),some ⟨I,0,none⟩,M[((ax t s.aj).1[k]'aa).toNat].cap,[⟨I,41,M[((ax t s.aj).1[k]'aa).toNat].cap*3,(M[((ax t s.aj).1[k]'aa).toNat].r.set 0 (acc[k]'dG)).flatMap cV⟩]⟩:cl))[i.toNat].r,v.Ok:=fun i hi=>by obtain⟨h1,h2⟩:=Y6 i hi;refine⟨by rw[length_set];exact h1,?_⟩;rw[getElem_set];split;exact⟨VF,xH⟩;exact h2
  have ee:=uT VF;have WV:=KK (G:=G) hG (M[((ax t s.aj).1[k]'aa).toNat].r.set 0 (acc[k]'dG)) vE vE xH;have Ef:=Si (G:=G) gy (cH (M[((ax t s.aj).1[k]'aa).toNat].r.set 0 (acc[k]'dG))) ((ax t s.aj).1[k]'aa);unfold Tw.cT at Ef
  have WW:kE {t with ix:=oo t t.ix (ax t s.aj).1} (ax t s.aj).1 acc=if gE y (cH (M[((ax t s.aj).1[k]'aa).toNat].r.set 0 (acc[k]'dG))) (dc y)=true then ({t with rows:=M.map cl.r,ix:=y},9) else kE {t with rows:=(M.set ((ax t s.aj).1[k]'aa).toNat (⟨M[((ax t s.aj).1[k]'aa).toNat].r.set 0 (acc[k]'dG),some ⟨I,0,none⟩,M[((ax t s.aj).1[k]'aa).toNat].cap,[⟨I,41,M[((ax t s.aj).1[k]'aa).toNat].cap*3,(M[((ax t s.aj).1[k]'aa).toNat].r.set 0 (acc[k]'dG)).flatMap cV⟩]⟩:cl)).map cl.r,ix:=(gp y (dc y) (cH (M[((ax t s.aj).1[k]'aa).toNat].r.set 0 (acc[k]'dG))) ((ax t s.aj).1[k]'aa))} ((ax t s.aj).1.drop (k+1)) (acc.drop (k+1)):=by rw[←AX,ju,lI,kE,Uj (o:=(⟨M[((ax t s.aj).1[k]'aa).toNat].r.set 0 (acc[k]'dG),some ⟨I,0,none⟩,M[((ax t s.aj).1[k]'aa).toNat].cap,[⟨I,41,M[((ax t s.aj).1[k]'aa).toNat].cap*3,(M[((ax t s.aj).1[k]'aa).toNat].r.set 0 (acc[k]'dG)).flatMap cV⟩]⟩:cl)) fZ rfl,QI rD,show((M.set ((ax t s.aj).1[k]'aa).toNat (⟨M[((ax t s.aj).1[k]'aa).toNat].r.set 0 (acc[k]'dG),some ⟨I,0,none⟩,M[((ax t s.aj).1[k]'aa).toNat].cap,[⟨I,41,M[((ax t s.aj).1[k]'aa).toNat].cap*3,(M[((ax t s.aj).1[k]'aa).toNat].r.set 0 (acc[k]'dG)).flatMap cV⟩]⟩:cl))[((ax t s.aj).1[k]'aa).toNat]'rD)=(⟨M[((ax t s.aj).1[k]'aa).toNat].r.set 0 (acc[k]'dG),some ⟨I,0,none⟩,M[((ax t s.aj).1[k]'aa).toNat].cap,[⟨I,41,M[((ax t s.aj).1[k]'aa).toNat].cap*3,(M[((ax t s.aj).1[k]'aa).toNat].r.set 0 (acc[k]'dG)).flatMap cV⟩]⟩:cl) from getElem_set_self _]
  refine CD.perm (SG fZ Oz) ?_;refine af [0,9,10,19,20,159,160,161] ?_;refine CD.seq ?_;refine lF 11 [0,9,10,20,159,160,161,172,176] ?_;refine aS 3 ?_ (h:=by exact(oI 2));refine aS 1 ?_ (h:=by exact(dF 1 (h:=by first|exact .l (j:=((ax t s.aj).1[k]'aa).toNat) (Int.toNat_of_nonneg gC).symm vF|exact .r (j:=((ax t s.aj).1[k]'aa).toNat) (Int.toNat_of_nonneg gC).symm vF)));refine aS 0 ?_ (h:=by exact(cW (mk:=Op.load 28) rfl ot (iY (k:=3) (i:=((ax t s.aj).1[k]'aa).toNat) (ls:=M) (d:=aN (some ⟨I,0,none⟩) M[((ax t s.aj).1[k]'aa).toNat].r.length M[((ax t s.aj).1[k]'aa).toNat].cap) u0 rfl rfl rfl isAgg28 fZ (by rw[←yy];rfl))));refine bG ?_;refine bN (oM (mk:=Op.indexAddr 28) rfl ot bI (by first|exact pD runUnderlying28 sizeOf41 (j:=0) rfl (by rw[rS];decide)|exact pH runUnderlying28 sizeOf41 (j:=0) rfl (by rw[rS];decide))) ?_;refine OD.storeAt (k:=0) (cs':=(M[((ax t s.aj).1[k]'aa).toNat].r.set 0 (acc[k]'dG)).flatMap cV) ap rfl rfl ot rfl rfl ot rfl rfl sizeOf41 rfl (by show 0+0*3+3≤(M[((ax t s.aj).1[k]'aa).toNat].r.flatMap cV).length;rw[cr fi,rS];omega) (by show dw (M[((ax t s.aj).1[k]'aa).toNat].r.flatMap cV) (0+0*3) (cV (acc[k]'dG))=_;rw[Nat.zero_add];exact oP fi _ _ (by rw[rS];omega)) ?_;refine an 205 [0,9,10,20,159,160,161] ?_;refine CD.seq ?_;rcases gg:gE y (cH (M[((ax t s.aj).1[k]'aa).toNat].r.set 0 (acc[k]'dG))) (dc y) with _|_
  ·rw[U1 gy w4 ee gC gg] at Ef;have gy2:iL (gp y (dc y) (cH (M[((ax t s.aj).1[k]'aa).toNat].r.set 0 (acc[k]'dG))) ((ax t s.aj).1[k]'aa)) (n+(k+1)):=(Bw gy w4 ((wC gy).1 gg) ee gC).1;have akV:kE {t with rows:=(M.set ((ax t s.aj).1[k]'aa).toNat (⟨M[((ax t s.aj).1[k]'aa).toNat].r.set 0 (acc[k]'dG),some ⟨I,0,none⟩,M[((ax t s.aj).1[k]'aa).toNat].cap,[⟨I,41,M[((ax t s.aj).1[k]'aa).toNat].cap*3,(M[((ax t s.aj).1[k]'aa).toNat].r.set 0 (acc[k]'dG)).flatMap cV⟩]⟩:cl)).map cl.r,ix:=(gp y (dc y) (cH (M[((ax t s.aj).1[k]'aa).toNat].r.set 0 (acc[k]'dG))) ((ax t s.aj).1[k]'aa))} ((ax t s.aj).1.drop (k+1)) (acc.drop (k+1))=kE {t with ix:=oo t t.ix (ax t s.aj).1} (ax t s.aj).1 acc:=(by rw[WW,if_neg vH])
   refine uu 18 17 [0,9,10,21,159,160,161,193,194] ?_;refine aS 3 ?_ (h:=by exact(xJ 2));refine aS 3 ?_ (h:=by exact(oI 2));refine aS 1 ?_ (h:=by exact(dF 1 (h:=by first|exact .l (j:=((ax t s.aj).1[k]'aa).toNat) (Int.toNat_of_nonneg gC).symm vF|exact .r (j:=((ax t s.aj).1[k]'aa).toNat) (Int.toNat_of_nonneg gC).symm vF)));refine aS 0 ?_ (h:=by exact(cW (mk:=Op.load 28) rfl ot (iY (k:=3) (i:=((ax t s.aj).1[k]'aa).toNat) (ls:=M) (d:=aN (some ⟨I,0,none⟩) (M[((ax t s.aj).1[k]'aa).toNat].r.set 0 (acc[k]'dG)).length M[((ax t s.aj).1[k]'aa).toNat].cap) u0 rfl rfl rfl isAgg28 fZ (by rw[←yy,length_set];rfl))));refine zK (WV) (fun r S h=>h.flat) (fun r S h=>h.view) (ha:=by exact⟨⟨_,ot,(lK (bE (g:=cV) G5 Ee) (cr fi _) (fun B U=>by rw[mem_singleton] at U;rw[U];exact mem_cons_self))⟩,trivial⟩) (K:=?_);refine dh (Ef) ?_;refine ny 3 ?_;refine rJ ?_;refine jW ?_;refine⟨rfl,fun Dr=>?_⟩;refine aP 0 [_,_] sizeOf51 ?_;refine an 205 [0,9,10,21,22,159,160,161] ?_;refine af [0,9,10,21,22,159,160,161,196] ?_;refine au ?_ ?_<;>intro vh FY
   ·exact absurd vh (by simp at vh)
   refine dM 4 ?_;refine OD.storeAt (k:=3) (cs':=pre++([bw t.nm,av 2 cC t.ay,aN (some ⟨br,0,none⟩) t.rows.length cap,.list 5 ((gp y (dc y) (cH (M[((ax t s.aj).1[k]'aa).toNat].r.set 0 (acc[k]'dG))) ((ax t s.aj).1[k]'aa)).ag.flatMap cP) (gp y (dc y) (cH (M[((ax t s.aj).1[k]'aa).toNat].r.set 0 (acc[k]'dG))) ((ax t s.aj).1[k]'aa)).ag.length,ae (gp y (dc y) (cH (M[((ax t s.aj).1[k]'aa).toNat].r.set 0 (acc[k]'dG))) ((ax t s.aj).1[k]'aa)).root]++post)) ap rfl rfl ot rfl rfl ot rfl rfl sizeOf51 rfl (by show off+3+2≤(pre++(([bw t.nm,av 2 cC t.ay,aN (some ⟨br,0,none⟩) t.rows.length cap,av 5 cP y.ag,ae y.root]:List D)++post)).length;simp only[length_append,length_cons,length_nil];omega) (by exact BJ (j:=3) hp aR rfl) ?_;refine an 205 [0,9,10,159,160,161] ?_;refine dM 1 ?_;refine OD.perm ((Ui fZ (o:=(⟨M[((ax t s.aj).1[k]'aa).toNat].r.set 0 (acc[k]'dG),some ⟨I,0,none⟩,M[((ax t s.aj).1[k]'aa).toNat].cap,[⟨I,41,M[((ax t s.aj).1[k]'aa).toNat].cap*3,(M[((ax t s.aj).1[k]'aa).toNat].r.set 0 (acc[k]'dG)).flatMap cV⟩]⟩:cl)) rfl).cons _) ?_;refine an 205 [0,9,10,159,160,161] ?_
   refine⟨((k+1),(M.set ((ax t s.aj).1[k]'aa).toNat (⟨M[((ax t s.aj).1[k]'aa).toNat].r.set 0 (acc[k]'dG),some ⟨I,0,none⟩,M[((ax t s.aj).1[k]'aa).toNat].cap,[⟨I,41,M[((ax t s.aj).1[k]'aa).toNat].cap*3,(M[((ax t s.aj).1[k]'aa).toNat].r.set 0 (acc[k]'dG)).flatMap cV⟩]⟩:cl)),(gp y (dc y) (cH (M[((ax t s.aj).1[k]'aa).toNat].r.set 0 (acc[k]'dG))) ((ax t s.aj).1[k]'aa))),_,cD,aK,w4,akV,jT,CQ,(by rw[length_set];exact xO),akU,gy2,rfl⟩
  rw[afh gy ee gC gg] at Ef;have aW:ic t s=(t,0,9):=(by unfold ic;rw[if_neg hA,if_neg U,if_neg hC,if_neg hD,if_neg hN,if_neg hP,Ed,WW,if_pos gg];exact if_pos (show(9:Int)≠0 by decide))
  refine uu 18 17 [0,9,10,21,159,160,161,193,194] ?_;refine aS 3 ?_ (h:=by exact(xJ 2));refine aS 3 ?_ (h:=by exact(oI 2));refine aS 1 ?_ (h:=by exact(dF 1 (h:=by first|exact .l (j:=((ax t s.aj).1[k]'aa).toNat) (Int.toNat_of_nonneg gC).symm vF|exact .r (j:=((ax t s.aj).1[k]'aa).toNat) (Int.toNat_of_nonneg gC).symm vF)));refine aS 0 ?_ (h:=by exact(cW (mk:=Op.load 28) rfl ot (iY (k:=3) (i:=((ax t s.aj).1[k]'aa).toNat) (ls:=M) (d:=aN (some ⟨I,0,none⟩) (M[((ax t s.aj).1[k]'aa).toNat].r.set 0 (acc[k]'dG)).length M[((ax t s.aj).1[k]'aa).toNat].cap) u0 rfl rfl rfl isAgg28 fZ (by rw[←yy,length_set];rfl))));refine zK (WV) (fun r S h=>h.flat) (fun r S h=>h.view) (ha:=by exact⟨⟨_,ot,(lK (bE (g:=cV) G5 Ee) (cr fi _) (fun B U=>by rw[mem_singleton] at U;rw[U];exact mem_cons_self))⟩,trivial⟩) (K:=?_);refine dh (Ef) ?_;refine ny 3 ?_;refine rJ ?_;refine jW ?_;refine⟨rfl,fun Dr=>?_⟩;refine aP 0 [_,_] sizeOf51 ?_;refine an 205 [0,9,10,21,22,159,160,161] ?_;refine af [0,9,10,21,22,159,160,161,196] ?_;refine au ?_ ?_<;>intro vh FY
  ·exact z138
  exact absurd vh (by simp at vh)
 have aif:kE {t with ix:=oo t t.ix (ax t s.aj).1} (ax t s.aj).1 acc=({t with rows:=M.map cl.r,ix:=y},0):=(by rw[←AX,drop_of_length_le (l:=(ax t s.aj).1) w4,ab6])
 have aW:ic t s=({t with rows:=M.map cl.r,ix:=y},((ax t s.aj).1.length:Int),0):=(by unfold ic;rw[if_neg hA,if_neg U,if_neg hC,if_neg hD,if_neg hN,if_neg hP,Ed,aif];exact if_neg (fun h=>h rfl))
 refine af [4,5] ?_;refine aI (⟨bt,53,qj,pre++(_++post)⟩::(Sr++M.flatMap bR)) ?_;rw[aW];exact⟨rfl,fun _=>⟨M,ad,cap,Sr,⟨rfl,Z,vY⟩,by simp only[tC,length_map,xO]⟩⟩

open Go.Proofs.YtdgichenhdikgaaGreatDoor.So
def Cg(p:(List (List Vl)×Int)×Int)(r:D)(S:List ah):Prop:=∃(L:List cl) (ad:Option Addr) (cap:Nat) (Sx:List ah),r = .dI [.agg [aN ad L.length cap,ae p.1.2],ae p.2]∧sL L ad cap Sx∧(∀o∈L,nV o)∧L.map cl.r=p.1.1∧S=Sx++L.flatMap bR
theorem Cg.view{r:D}(h:Cg p r S):View S r (AW p):=by
 obtain⟨L,ad,cap,Sx,rfl,ho,aQ,hL,rfl⟩:=h;unfold AW;rw[←hL];unfold av;rw[length_map];exact EX ⟨uM ⟨Be ho (Fw aQ fun B E=>mem_append_right _ E) (by rw[cr jE,length_map]) (fun B E=>mem_append_left _ E),eR,trivial⟩,eR,trivial⟩
theorem agV(l:List Vl):∀d∈l.flatMap cV,kQ d=true:=fun d hd=>by
 obtain⟨v,_,hv⟩:=mem_flatMap.1 hd;unfold cV at hv;simp only[mem_cons,not_mem_nil,or_false] at hv;rcases hv with rfl|rfl|rfl<;>rfl
theorem agW(l:List cl):∀d∈l.flatMap gR,kQ d=true:=fun d hd=>by
 obtain⟨v,_,hv⟩:=mem_flatMap.1 hd;unfold gR at hv;rw[mem_singleton] at hv;subst hv;rfl
theorem Cg.flat{r:D}(h:Cg p r S):kQ r=true∧∀B∈S,∀d∈B.cs,kQ d=true:=by
 obtain⟨L,ad,cap,Sx,rfl,ho,aQ,hL,rfl⟩:=h;refine⟨rfl,fun B E=>?_⟩;rcases mem_append.1 E with E|E
 ·rcases ho with ⟨_,_,_,_,rfl⟩|⟨b,_,_,_,rfl⟩
  ·cases E
  rw[mem_singleton] at E;subst E;exact agW L
 obtain⟨o,I,E⟩:=mem_flatMap.1 E;have h1:=aQ o I;unfold bR at E;rcases h1 with ⟨_,_,_,_,h2⟩|⟨b,_,_,_,h2⟩
 ·rw[h2] at E;cases E
 rw[h2,mem_singleton] at E;subst E;exact agV o.r
theorem agX(g:eD t n)(s:cU):sN t s<4:=by
 unfold sN;split
 ·decide
 have:=(KN (l:=t.ay) (nm:=s.order)).2;rw[g.ay] at this ⊢;exact this
theorem aih(g:eD t n){names:List ByteArray}(h:∀n∈names,0≤bM t.ay n):∀c∈vX t names,0≤c∧c.toNat<4:=fun c hc=>by
 have h4:t.ay.length=4:=(by rw[g.ay];rfl)
 unfold vX at hc;split at hc
 ·obtain⟨i,hi,rfl⟩:=mem_map.1 hc;have:=mem_range.1 hi;constructor
  ·exact Int.natCast_nonneg i
  show i<4;omega
 obtain⟨x,hx,rfl⟩:=mem_map.1 hc;have:=(KN (l:=t.ay) (nm:=x)).2;have:=h x hx;omega
theorem aii(f:ah→Nat):(((L++[o]).flatMap bR).map f).sum=((L.flatMap bR).map f).sum+(o.S.map f).sum:=by
 rw[T6];simp only[bR,map_append,sum_append]
theorem QJ:(Tryz.prog.info? 3).map (fun i=>(i.zero,i.size,i.bytes))=some (some (.int .i64 0),1,8):=by kernel_rfl
theorem aaH:(Tryz.prog.info? 28).map (fun i=>(i.zero,i.size,i.bytes))=some (some (.slice none 0 0),1,24):=by kernel_rfl
theorem aaI:(Tryz.prog.info? 41).map (fun i=>(i.zero,i.size,i.bytes))=some (some (.agg #[.int .i64 0,.int .i64 0,.string ⟨#[]⟩]),3,32):=by kernel_rfl
theorem afy(hm:(3,marksC)∈G)(hw:(1,wordsC)∈G)(ht:(0,typesC)∈G)(hG:(2,[Value.int .i64 m])∈G)(t:aO)(g:eD t n)(s:cU)(sW:s.names.length≤1000)(ho:∀o∈s.aj,o.nm.size≤maxLen)(fS:∀o∈s.aj,o.v.Ok):VC Tryz.prog G 44 [.agg (c9 t),.agg (bX s)] [] (Cg (qB t s)):=by
 refine VC.body func44 rfl ntmps44 aR fun X0 w0 aZ=>?_;have dm:=ec;have AX:=KM (G:=G) hm hw ht hG t g s.aj ho fS;have Eb:=FB g s.aj;have mC:=u3 g s.aj;have OB:=Jv g s.aj;obtain⟨M,hM⟩:∃M,M=ax t s.aj:=⟨_,rfl⟩
 rw[←hM] at AX Eb mC OB;obtain⟨sl,em⟩:=M;dsimp only at Eb mC OB;have mN:=g.eJ;have akO:t.ay.length=4:=(by rw[g.ay];rfl)
 unfold c9 at AX;unfold c9 bX;refine bY ?_;refine OD.box (ds:=[_,_,_,_,_]) ap rfl rfl ot rfl rfl (fun b2=>?_);refine OD.box (ds:=[_,_,_,_,_,_,_,_,_,_,_,_]) ap rfl rfl ot rfl rfl (fun b3=>?_);refine OD.alloc (ds:=[_,_]) ap rfl rfl zeroValue36 rfl (fun b4=>?_);refine an 135 [2,3,4] ?_;refine bY ?_;refine bg [2,3,4,6] ?_;refine af [2,3,4,6,21,22,23] ?_;refine eA [2,3,4,21,22] (fun aU _ (O:Nat×List Int×Option Addr×Nat×List ah) aH=>match O with|(i,acc,Z,nX,Sa)=>(i≤s.names.length)∧(acc=(s.names.take i).map (bM t.ay))∧(∀x∈s.names.take i,0≤bM t.ay x)∧(bn 3 1 ((acc).flatMap Tw.cI) (acc).length Z nX Sa)∧aH=(⟨135,(6,aN Z (acc).length nX)::(23,ae (i:Nat))::aU,(⟨b4,36,2,[cf,ae 0]⟩::⟨b3,32,12,bX s⟩::⟨b2,53,5,c9 t⟩::Sa)⟩:St)) (fun (O:Nat×List Int×Option Addr×Nat×List ah)=>match O with|(i,acc,Z,nX,Sa)=>s.names.length-i) (0,([]:List Int),none,0,[]) ⟨(Nat.zero_le _),rfl,(fun x h=>by cases h),(bn.cast iv j6),rfl⟩ ?_;rintro⟨i,acc,Z,nX,Sa⟩ _ ⟨hi,rz,j8,oG,rfl⟩;refine af [2,3,4,6,21,22,23,24] ?_;refine au ?_ ?_<;>intro aM bD
 ·have aa:i<s.names.length:=(by omega)
  have fb:=IW (G:=G) t w4 s.names[i];unfold c9 at fb;have qb:acc.length=i:=(by rw[rz,length_map,length_take];omega)
  refine af [2,3,4,6,8,21,22,23] ?_;refine cJ [2,3,4,6,9,21,22,23] (fb) ?_;refine af [2,3,4,6,9,21,22,23,31] ?_;refine au ?_ ?_<;>intro aY cy
  ·have CR:bM t.ay s.names[i]<0:=(by simpa using aY)
   have aW:qB t s=(([],0),8):=if_pos (any_eq_true.2 ⟨s.names[i],getElem_mem _,decide_eq_true CR⟩);refine aD 1 ?_;refine aP 0 [_,_] sizeOf36 ?_;exact z80
  have CR:¬bM t.ay s.names[i]<0:=(by simpa using aY)
  have akW:∀x∈s.names.take (i+1),0≤bM t.ay x:=fun x hx=>by rw[take_succ_eq_append_getElem aa] at hx;rcases mem_append.1 hx with hx|hx;exact j8 x hx;rw[mem_singleton] at hx;subst hx;omega
  refine dM 2 ?_;refine ei (bW 0 [_]) [.int .i64 0] [_] zeroValue3 runUnderlying67 sizeOf3 (fun b35=>?_);refine fw 0 35 1 1 ?_;refine OD.ek (ls:=(acc)) (new:=[bM t.ay s.names[i]]) (Sq:=Sa) Tw.eC Tw.nF ap rfl rfl underlying67 QJ rfl w7 ot oG (de (A:=[_,_,_])) ot bf w9 lY (fun HE Mo akX akY=>?_);refine OD.perm (dZ (S1:=[⟨HE,3,Mo*1,flatMap Tw.cI ((acc)++[bM t.ay s.names[i]])⟩]) (A:=[_,_,_])) ?_;refine an 135 [2,3,4,6,21,22,23] ?_;refine cm [2,3,4,6,21,22,23] ?_;refine⟨((i+1),(acc++[bM t.ay s.names[i]]),(some ⟨HE,0,none⟩),Mo,[⟨HE,3,Mo*1,flatMap Tw.cI ((acc)++[bM t.ay s.names[i]])⟩]),_,cD,aK,w4,(by rw[rz,←py aa,map_append];rfl),akW,(bn.cast (bE akX akY) j6),rfl⟩
 have vR:s.names.take i=s.names:=take_of_length_le w4;rw[vR] at rz j8;have GU:¬(s.names.any fun n=>decide (bM t.ay n<0))=true:=fun h=>by obtain⟨x,h1,h2⟩:=any_eq_true.1 h;have:=j8 x h1;have:=of_decide_eq_true h2;omega
 refine CD.exit ?_;refine jB [2,3,4] (fun aU _ aH=>∃(acc:List Int),∃(Z:Option Addr),∃(nX:Nat),∃(Sa:List ah),(acc=vX t s.names)∧(bn 3 1 (acc.flatMap Tw.cI) acc.length Z nX Sa)∧aH=(⟨135,(6,aN Z acc.length nX)::aU,(⟨b4,36,2,[cf,ae 0]⟩::⟨b3,32,12,bX s⟩::⟨b2,53,5,c9 t⟩::Sa)⟩:St)) ?_ ?_
 ·refine af [2,3,4,6,41] ?_;refine au ?_ ?_<;>intro bZ cN
  ·have gJ:s.names.length=0:=(by simpa using bZ)
   have akZ:acc=[]:=(by rw[rz,length_eq_zero_iff.1 gJ];rfl)
   refine af [2,3,4,6,44,45] ?_;refine eA [2,3,4,44] (fun aU _ (O:Nat×List Int×Option Addr×Nat×List ah) aH=>match O with|(j,U,Z,nX,Sa)=>(j≤t.ay.length)∧(U=(range j).map Int.ofNat)∧(bn 3 1 ((U).flatMap Tw.cI) (U).length Z nX Sa)∧aH=(⟨135,(6,aN Z (U).length nX)::(45,ae (j:Nat))::aU,(⟨b4,36,2,[cf,ae 0]⟩::⟨b3,32,12,bX s⟩::⟨b2,53,5,c9 t⟩::Sa)⟩:St)) (fun (O:Nat×List Int×Option Addr×Nat×List ah)=>match O with|(j,U,Z,nX,Sa)=>t.ay.length-j) (0,acc,Z,nX,Sa) ⟨(Nat.zero_le _),akZ,(bn.cast oG j6),rfl⟩ ?_;rintro⟨j,U,Z,nX,Sa⟩ _ ⟨hj,Lh,oG,rfl⟩;refine af [2,3,4,6,44,45,46] ?_;refine au ?_ ?_<;>intro cX en
   ·have aqm:j<t.ay.length:=(by omega)
    have aqn:U.length=j:=(by rw[Lh,length_map,length_range])
    refine af [2,3,4,6,10,44,45] ?_;refine dM 2 ?_;refine ei (bW 0 [_]) [.int .i64 0] [_] zeroValue3 runUnderlying67 sizeOf3 (fun AO=>?_);refine fw 0 50 1 1 ?_;refine OD.ek (ls:=(U)) (new:=[(j:Int)]) (Sq:=Sa) Tw.eC Tw.nF ap rfl rfl underlying67 QJ rfl w7 ot oG (de (A:=[_,_,_])) ot bf w9 lY (fun yA Mp Mq Mr=>?_);refine OD.perm (dZ (S1:=[⟨yA,3,Mp*1,flatMap Tw.cI ((U)++[(j:Int)])⟩]) (A:=[_,_,_])) ?_;refine an 135 [2,3,4,6,44,45] ?_;refine cm [2,3,4,6,44,45] ?_;refine⟨((j+1),(U++[(j:Int)]),(some ⟨yA,0,none⟩),Mp,[⟨yA,3,Mp*1,flatMap Tw.cI ((U)++[(j:Int)])⟩]),_,cD,aK,w4,(by rw[Lh,range_succ,map_append];rfl),(bn.cast (bE Mq Mr) j6),rfl⟩
   have hjf:U=vX t s.names:=(by unfold vX;rw[if_pos gJ,Lh,show j=t.ay.length by omega])
   refine CD.exit ?_;refine⟨_,aK,(U),Z,nX,Sa,hjf,oG,rfl⟩
  have gJ:¬s.names.length=0:=(by simpa using bZ)
  refine CD.skip ?_;refine⟨_,aK,(acc),Z,nX,Sa,(by unfold vX;rw[if_neg gJ];exact rz),oG,rfl⟩
 rintro _ ⟨acc,Z,nX,Sa,uE,oG,rfl⟩;refine CD.seq ?_;refine CD.gN (t:=6) (Sq:=Sa) lk oG (cr Tw.eC _) (de (A:=[_,_,_])) ?_;refine s9 ?_;refine OD.alloc (ds:=[_]) ap rfl rfl zeroValue3 rfl (fun jN=>?_);refine aP 0 [_] sizeOf3 ?_;refine an 135 [2,3,4,6,11] ?_;refine jB [2,3,4,6,11] (fun aU _ aH=>∃(ov:Int),(0≤ov)∧(ov=sN t s)∧aH=(⟨135,aU,[⟨jN,3,1,[ae ov]⟩,⟨b4,36,2,[cf,ae 0]⟩,⟨b3,32,12,bX s⟩,⟨b2,53,5,c9 t⟩]⟩:St)) ?_ ?_
 ·refine af [2,3,4,6,11,55] ?_;refine au ?_ ?_<;>intro er fq
  ·have AY:¬(s.order.toList==(⟨#[]⟩:ByteArray).toList)=true:=(by rw[fq];decide)
   have WX:=IW (G:=G) t w4 s.order;unfold c9 at WX;have Eg:sN t s=bM t.ay s.order:=if_neg AY;refine aD 3 ?_;refine dQ call85 (WX) ?_;refine aP 0 [_] sizeOf3 ?_;refine an 135 [2,3,4,6,11] ?_;refine af [2,3,4,6,11,61] ?_;refine au ?_ ?_<;>intro fx gG
   ·have CR:sN t s<0:=(by rw[Eg];simpa using fx)
    have aW:qB t s=(([],0),8):=(by unfold qB;rw[if_neg GU,if_pos CR])
    refine aD 1 ?_;refine aP 1 [_,_] sizeOf36 ?_;exact z80
   have CR:¬sN t s<0:=(by rw[Eg];simpa using fx)
   refine CD.skip ?_;refine⟨_,aK,(bM t.ay s.order),w4,Eg.symm,rfl⟩
  have AY:(s.order.toList==(⟨#[]⟩:ByteArray).toList)=true:=fq;have Eg:sN t s=0:=if_pos AY;refine CD.skip ?_;refine⟨_,aK,0,(Int.le_refl 0),Eg.symm,rfl⟩
 rintro _ ⟨ov,ak0,mS,rfl⟩;refine aD 3 ?_;refine OD.call ap rfl rfl rfl call86 AX ⟨ot,ot,trivial⟩ (eO _) ?_;rintro _ Sx ⟨dg,cR,rfl,dW⟩;refine OD.perm (dZ (A:=[_,_,_,_])) ?_;refine an 135 [2,3,4,6,11,12,13] ?_;refine af [2,3,4,6,11,12,13,71] ?_;refine au ?_ ?_<;>intro gU kU
 ·have HU:em≠0:=(by simpa using gU)
  have aW:qB t s=(([],0),em):=(by unfold qB;rw[if_neg GU,if_neg w4,←hM];exact if_pos HU)
  refine aD 2 ?_;refine aP 1 [_,_] sizeOf36 ?_;exact z80
 have HU:¬em≠0:=(by simpa using gU)
 refine CD.skip ?_;refine jB [2,3,4,6] (fun aU _ aH=>∃(on:Nat),∃(lz:List Int),((on:Int)=sN t s)∧(lz=Lf t s.down on sl)∧(lz.length=sl.length)∧(∀x∈lz,gz t x)∧aH=(⟨135,(12,av 1 Tw.cI lz)::aU,[⟨jN,3,1,[ae (on:Nat)]⟩,⟨b4,36,2,[cf,ae 0]⟩,⟨b3,32,12,bX s⟩,⟨b2,53,5,c9 t⟩]⟩:St)) ?_ ?_
 ·obtain⟨on,rfl⟩:=Int.eq_ofNat_of_zero_le ak0;have jO:on<4:=(by have:=agX g s;omega)
  rcases dW with ⟨hn,dH,rfl,rfl,rfl⟩|⟨bx,rfl,qk,nW,rfl⟩
  ·obtain rfl:=length_eq_zero_iff.1 hn;refine dM 1 ?_;refine bN (pA (ds:=[_,_,_]) rfl ⟨ot,ot,ot,trivial⟩) ?_;refine dQ call87 (adY _) ?_;refine OD.wk (Wk.tL (t:=12) (sz:=1) lk) ?_;refine an 135 [2,3,4,6,12] ?_;refine⟨_,aK,on,[],mS,(Uf ⟨Perm.refl _,Pairwise.nil⟩),rfl,(fun x h=>by cases h),rfl⟩
  refine dM 1 ?_;refine bN (pA (ds:=[_,_,_]) rfl ⟨ot,ot,ot,trivial⟩) ?_;refine OD.call (Sf:=⟨bx,3,cR*1,sl.flatMap Tw.cI⟩::[⟨b2,53,5,c9 t⟩,⟨jN,3,1,[ae (on:Nat)]⟩,⟨b3,32,12,bX s⟩]) (R:=[⟨b4,36,2,[cf,ae 0]⟩]) ap rfl rfl rfl call87 (afq sl.length cR bx 88 [dL b2,dL jN,dL b3] [⟨b2,53,5,c9 t⟩,⟨jN,3,1,[ae (on:Nat)]⟩,⟨b3,32,12,bX s⟩] (lW t s.down on) (gz t) (HT t) (fun x y hx hy=>aft t g s on jO b2 jN b3 x y hx hy) call88 (fun h1 h2=>agS t s.down on h1 h2) (fun x y h=>by have:=QF t s.down on x y;omega) qk nW Eb sl OB rfl mC) ⟨ot,ot,trivial⟩ (show([⟨jN,3,1,[ae (on:Nat)]⟩,⟨b4,36,2,[cf,ae 0]⟩,⟨b3,32,12,bX s⟩,⟨b2,53,5,c9 t⟩]++[⟨bx,3,cR*1,sl.flatMap Tw.cI⟩]:List ah).Perm ((⟨bx,3,cR*1,sl.flatMap Tw.cI⟩::[⟨b2,53,5,c9 t⟩,⟨jN,3,1,[ae (on:Nat)]⟩,⟨b3,32,12,bX s⟩])++[⟨b4,36,2,[cf,ae 0]⟩]) from(iH fun jg=>by simp only[map_append,map_cons,map_nil,sum_append,sum_cons,sum_nil];omega)) ?_;rintro _ _ ⟨rfl,lz,yl,rfl⟩;have me:=yl.1.length_eq;refine OD.perm (S':=⟨jN,3,1,[ae (on:Nat)]⟩::⟨b4,36,2,[cf,ae 0]⟩::⟨b3,32,12,bX s⟩::⟨b2,53,5,c9 t⟩::[⟨bx,3,cR*1,lz.flatMap Tw.cI⟩]) (show((⟨bx,3,cR*1,lz.flatMap Tw.cI⟩::[⟨b2,53,5,c9 t⟩,⟨jN,3,1,[ae (on:Nat)]⟩,⟨b3,32,12,bX s⟩])++[⟨b4,36,2,[cf,ae 0]⟩]:List ah).Perm _ from(iH fun jg=>by simp only[map_append,map_cons,map_nil,sum_append,sum_cons,sum_nil];omega)) ?_;rw[←me]
  refine OD.gN (t:=12) (Sq:=[⟨bx,3,cR*1,lz.flatMap Tw.cI⟩]) lk (bE (by rw[me];exact qk) nW) (cr Tw.eC _) (de (A:=[_,_,_,_])) ?_;refine an 135 [2,3,4,6,12] ?_;refine⟨_,aK,on,lz,mS,(Uf yl),(by first|exact me|rfl),(fun x hx=>mC x (yl.1.subset hx)),rfl⟩
 rintro _ ⟨on,lz,mS,VQ,me,VR,rfl⟩;refine jB [2,3,4,6] (fun aU rN aH=>∃(E:List Int),(E=wK t s)∧(∀x∈E,gz t x)∧(E.length≤40)∧aH=(⟨135,(12,av 1 Tw.cI E)::aU,rN⟩:St)) ?_ ?_
 ·refine aD 4 ?_;refine bV 80 (fun Lr FX=>?_) (fun Lr FX=>?_)
  ·refine bg [2,3,4,6,12,86] ?_;refine au ?_ ?_<;>intro gq lA
   ·have mR:0≤s.ij∧s.ij<lz.length:=⟨FX,lA⟩
    refine ie [2,3,4,6,12] ?_;refine aS 3 ?_ (h:=by exact(ey (l:=0) (h:=s.ij.toNat) rfl ot trivial ⟨_,by rw[Int.toNat_of_nonneg mR.1];exact ot⟩ (by exact oO Tw.eC (fun h=>by cases h) runUnderlying67 sizeOf3 w4)));refine bG ?_;refine⟨_,aK,(lz.take s.ij.toNat),(by unfold wK vm;rw[←mS,Int.toNat_natCast,←hM,←VQ,if_pos mR]),(fun x hx=>VR x (mem_of_mem_take hx)),oW,rfl⟩
   exact XL
  refine bg [2,3,4,6,12,86] ?_;refine fM ?_;exact XL
 rintro _ ⟨E,WY,yf,aqo,rfl⟩;refine aD 3 ?_;refine OD.alloc (ds:=[_,_]) ap rfl rfl zeroValue36 rfl (fun Az=>?_);refine aP 0 [_,_] sizeOf36 ?_;refine an 135 [2,3,4,6,12,14] ?_;refine af [2,4,6,12,14,95] ?_;refine au ?_ ?_<;>intro pZ GF
 ·have Cz:s.count=true:=pZ;have aW:qB t s=(([[⟨2,((E.length:Nat):Int),⟨#[]⟩⟩]],((E.length:Nat):Int)),0):=(by unfold qB;rw[if_neg GU,if_neg w4,←hM,if_neg HU,if_pos Cz,←WY])
  refine aD 3 ?_;refine ei (bW 0 [_]) [.int .i64 0,.int .i64 0,.string ⟨#[]⟩] [_,_,_] zeroValue41 runUnderlying28 sizeOf41 (fun yB=>?_);refine ei (bW 0 [_]) [.slice none 0 0] [_] zeroValue28 runUnderlying34 sizeOf28 (fun WZ=>?_);refine aE 1 ?_;refine aP 2 [_,_] sizeOf34 ?_;refine an 135 [4,14] ?_;refine aD 1 ?_;refine aP 4 [_,_] sizeOf36 ?_;refine an 135 [4,5] ?_;refine aI [_,_] ?_;rw[aW];exact⟨[⟨[⟨2,(E.length:Nat),⟨#[]⟩⟩],some ⟨yB,0,none⟩,1,[⟨yB,41,1*3,[⟨2,(E.length:Nat),⟨#[]⟩⟩].flatMap cV⟩]⟩],some ⟨WZ,0,none⟩,1,[_],rfl,.inr ⟨WZ,rfl,Nat.le_refl _,(show 1≤maxLen by decide),rfl⟩,(fun o ho=>by rw[mem_singleton] at ho;subst ho;exact .inr ⟨yB,rfl,Nat.le_refl _,(show 1≤maxLen by decide),rfl⟩),rfl,rfl⟩
 have Cz:¬s.count=true:=(by rw[pZ];decide)
 have aW:qB t s=((E.map (zY t acc),((E.length:Nat):Int)),0):=(by unfold qB;rw[if_neg GU,if_neg w4,←hM,if_neg HU,if_neg Cz,←WY,←uE])
 have W0:=aih g j8;rw[←uE] at W0;have aqp:acc.length≤1000:=(by rw[uE];unfold vX;split;(rw[length_map,length_range];omega);(rw[length_map];omega))
 refine af [2,4,6,14,103,104,105] ?_;refine eA [2,4,6,14,103,104] (fun aU _ (O:Nat×List cl×Option Addr×Nat×List ah) aH=>match O with|(i,L,dg,cR,Sx)=>(i≤E.length)∧(L.map cl.r=(E.take i).map (zY t acc))∧(∀o∈L,nV o)∧(sL L dg cR Sx)∧aH=(⟨135,(105,ae (i:Nat))::aU,(⟨Az,36,2,[aN dg L.length cR,ae (E.length:Nat)]⟩::⟨jN,3,1,[ae (on:Nat)]⟩::⟨b4,36,2,[cf,ae 0]⟩::⟨b3,32,12,bX s⟩::⟨b2,53,5,c9 t⟩::(Sx++L.flatMap bR))⟩:St)) (fun (O:Nat×List cl×Option Addr×Nat×List ah)=>match O with|(i,L,dg,cR,Sx)=>E.length-i) (0,([]:List cl),none,0,[]) ⟨(Nat.zero_le _),rfl,(fun o h=>by cases h),iv,rfl⟩ ?_;rintro⟨i,L,dg,cR,Sx⟩ _ ⟨hi,hL,aQ,dW,rfl⟩;refine af [2,4,6,14,103,104,105,106] ?_;refine au ?_ ?_<;>intro Dx L0
 ·have aa:i<E.length:=(by omega)
  obtain⟨gC,qk,nW⟩:=yf _ (getElem_mem aa);have rS:=nH (g.row _ qk nW).1;have rO:L.length=i:=(by have:=congrArg length hL;rw[length_map,length_map,length_take] at this;omega)
  refine af [2,4,6,14,16,103,104,105] ?_;refine bY ?_;refine bg [2,4,6,14,16,17,103,104,105] ?_;refine af [2,4,6,14,16,17,103,104,105,109,110,111] ?_;refine eA [2,4,6,14,16,103,104,105,109,110] (fun aU _ (O:Nat×List Vl×Option Addr×Nat×List ah) aH=>match O with|(j,I,iC,iD,Sy)=>(j≤acc.length)∧(I=(acc.take j).map fun c=>(rowAt t (E[i]'aa)).getD c.toNat bJ)∧(bn 41 3 (I.flatMap cV) I.length iC iD Sy)∧aH=(⟨135,(17,aN iC I.length iD)::(111,ae (j:Nat))::aU,(⟨Az,36,2,[aN dg L.length cR,ae (E.length:Nat)]⟩::⟨jN,3,1,[ae (on:Nat)]⟩::⟨b4,36,2,[cf,ae 0]⟩::⟨b3,32,12,bX s⟩::⟨b2,53,5,c9 t⟩::(Sy++(Sx++L.flatMap bR)))⟩:St)) (fun (O:Nat×List Vl×Option Addr×Nat×List ah)=>match O with|(j,I,iC,iD,Sy)=>acc.length-j) (0,([]:List Vl),none,0,[]) ⟨(Nat.zero_le _),rfl,iv,rfl⟩ ?_;rintro⟨j,I,iC,iD,Sy⟩ _ ⟨hj,Li,D7,rfl⟩;refine af [2,4,6,14,16,17,103,104,105,109,110,111,112] ?_;refine au ?_ ?_<;>intro Gn BS
  ·have l9:j<acc.length:=(by omega)
   obtain⟨W4,aqq⟩:=W0 _ (getElem_mem l9);have OC:(acc[j]'l9).toNat<(t.rows[(E[i]'aa).toNat]'qk).length:=(by omega)
   have aij:(rowAt t (E[i]'aa)).getD (acc[j]'l9).toNat bJ=(t.rows[(E[i]'aa).toNat]'qk)[(acc[j]'l9).toNat]:=(by rw[iX qk,getD_eq_getElem?_getD,getElem?_eq_getElem OC];rfl)
   have aqr:I.length=j:=(by rw[Li,length_map,length_take];omega)
   refine af [2,4,6,14,16,17,19,103,104,105,109,110,111] ?_;refine dM 4 ?_;refine bN (dF 1 (h:=by first|exact .l (j:=(E[i]'aa).toNat) (Int.toNat_of_nonneg gC).symm qk|exact .r (j:=(E[i]'aa).toNat) (Int.toNat_of_nonneg gC).symm qk)) ?_;refine aE 2 ?_;refine bN (dF 3 (h:=by first|exact .l (j:=(acc[j]'l9).toNat) (Int.toNat_of_nonneg W4).symm OC|exact .r (j:=(acc[j]'l9).toNat) (Int.toNat_of_nonneg W4).symm OC)) ?_;refine aE 1 ?_;refine ei (bW 0 [_]) [.int .i64 0,.int .i64 0,.string ⟨#[]⟩] [_,_,_] zeroValue41 runUnderlying28 sizeOf41 (fun aqs=>?_);refine fw 0 124 3 1 ?_;refine OD.ek (ls:=I) (new:=[(t.rows[(E[i]'aa).toNat]'qk)[(acc[j]'l9).toNat]]) (Sq:=Sy) fi FD ap rfl rfl underlying28 aaI rfl w7 ot D7 (I9 (A:=[_,_,_,_,_])) ot bf w9 lY (fun Ms Lj aik ail=>?_);refine OD.perm (Q8 (S1:=[⟨Ms,41,Lj*3,flatMap cV (I++[(t.rows[(E[i]'aa).toNat]'qk)[(acc[j]'l9).toNat]])⟩]) (A:=[_,_,_,_,_])) ?_;refine an 135 [2,4,6,14,16,17,103,104,105,109,110,111] ?_;refine cm [2,4,6,14,16,17,103,104,105,109,110,111] ?_;refine⟨((j+1),(I++[(t.rows[(E[i]'aa).toNat]'qk)[(acc[j]'l9).toNat]]),(some ⟨Ms,0,none⟩),Lj,[⟨Ms,41,Lj*3,flatMap cV (I++[(t.rows[(E[i]'aa).toNat]'qk)[(acc[j]'l9).toNat]])⟩]),_,cD,aK,w4,(by rw[Li,←aij,←py l9,map_append];rfl),(bE aik ail),rfl⟩
  have vL:(L++[(⟨I,iC,iD,Sy⟩:cl)]).map cl.r=(E.take (i+1)).map (zY t acc):=(by rw[map_append,hL,←py aa,map_append];congr 1;show[I]=[zY t acc (E[i]'aa)];rw[Li,take_of_length_le w4];rfl)
  have jT:∀o∈L++[(⟨I,iC,iD,Sy⟩:cl)],nV o:=fun o ho=>by rcases mem_append.1 ho with ho|ho;exact aQ o ho;rw[mem_singleton] at ho;subst ho;exact D7
  refine dM 3 ?_;refine ei (bW 0 [_]) [.slice none 0 0] [_] zeroValue28 runUnderlying34 sizeOf28 (fun aqt=>?_);refine fw 0 130 1 1 ?_;refine OD.ek (ls:=L) (new:=[(⟨I,iC,iD,Sy⟩:cl)]) (Sq:=Sx) u0 U3 ap rfl rfl underlying34 aaH rfl w7 ot dW (tw (A:=[_,_,_,_,_])) ot bf w9 lY (fun GV Gh aim ain=>?_);refine OD.perm (wu (S2:=[⟨GV,28,Gh*1,flatMap gR (L++[(⟨I,iC,iD,Sy⟩:cl)])⟩]) (A:=[_,_,_,_,_])) ?_;refine OD.perm (S':=⟨Az,36,2,[aN dg L.length cR,ae (E.length:Nat)]⟩::⟨jN,3,1,[ae (on:Nat)]⟩::⟨b4,36,2,[cf,ae 0]⟩::⟨b3,32,12,bX s⟩::⟨b2,53,5,c9 t⟩::([⟨GV,28,Gh*1,flatMap gR (L++[(⟨I,iC,iD,Sy⟩:cl)])⟩]++(L++[(⟨I,iC,iD,Sy⟩:cl)]).flatMap bR)) (iH fun jg=>by simp only[map_append,map_cons,map_nil,sum_append,sum_cons,sum_nil,aii];omega) ?_;refine aE 1 ?_;refine aP 0 [_,_] sizeOf34 ?_;refine an 135 [2,4,6,14,103,104,105] ?_;refine cm [2,4,6,14,103,104,105] ?_;refine⟨((i+1),(L++[(⟨I,iC,iD,Sy⟩:cl)]),(some ⟨GV,0,none⟩),Gh,[⟨GV,28,Gh*1,flatMap gR (L++[(⟨I,iC,iD,Sy⟩:cl)])⟩]),_,cD,aK,w4,vL,jT,(bE aim ain),rfl⟩
 have px:L.map cl.r=E.map (zY t acc):=(by rw[hL,take_of_length_le w4])
 refine aD 1 ?_;refine aP 2 [_,_] sizeOf36 ?_;refine an 135 [4,5] ?_;refine aI (Sx++L.flatMap bR) ?_;rw[aW];exact⟨L,dg,cR,Sx,rfl,dW,aQ,px,rfl⟩

abbrev hU(bo:Nat)(ad:Option Addr)(n cap:Nat):ah:=⟨bo,25,1,[aN ad n cap]⟩
def gQ(s:cU):aO:=⟨s.table,s.ay,[],pU⟩
def xK(s:cU):aV:=⟨gQ s,[],none,0,[],[]⟩
theorem afz(s:cU):qh (xK s):=⟨[],rfl,rfl,(fun o h=>by cases h),rfl,iv⟩
def ql(l:List aO)(s:cU):List aO×Int:=if 0≤aT l s.table then (l,9) else if l.length=4 then (l,10) else (l++[gQ s],0)
def Gi(l:List aO)(bo:Nat)(S:List ah):Prop:=∃(L:List aV) (ad:Option Addr) (cap:Nat) (Sx:List ah),xI L ad cap Sx∧(∀o∈L,okW o)∧L.map aV.t=l∧S.Perm (hU bo ad L.length cap::(Sx++L.flatMap bT))
theorem aaJ:(Tryz.prog.info? 53).map (fun i=>(i.zero,i.size,i.bytes))=some (some (.agg #[.string ⟨#[]⟩,.slice none 0 0,.slice none 0 0,.slice none 0 0,.int .i64 0]),5,96):=by kernel_rfl
theorem ab8(L:List aV)(aQ:∀o∈L,qh o)(hL:L.length≤4)(s:cU)(lg:s.ay.length≤1000)(bo:Nat)(ad:Option Addr)(cap:Nat)(Sx:List ah)(O:xI L ad cap Sx):VC Tryz.prog G 41 [dL bo,.agg (bX s)] (hU bo ad L.length cap::(Sx++L.flatMap bT)) (fun r S=>r=ae (ql (L.map aV.t) s).2∧((ql (L.map aV.t) s).2=0→Gi (ql (L.map aV.t) s).1 bo S)):=by
 refine VC.body func41 rfl ntmps41 aR fun X0 w0 aZ=>?_;have dm:=ec;have U:=fun o ho=>(aQ o ho).w;have fO:=qt (G:=G) (L.map aV.t) Gk s.table;unfold av at fO;rw[length_map] at fO;unfold bX;refine bY ?_;refine OD.box (ds:=[_,_,_,_,_,_,_,_,_,_,_,_]) ap rfl rfl ot rfl rfl (fun b3=>?_);refine an 37 [0,3] ?_;refine cZ [0,3,5] ?_;refine ny 6 ?_;refine zL (fO) (ha:=by exact⟨⟨_,ot,(FQ O U (fun B hB=>by repeat (first|exact hB|apply mem_append_right|apply mem_cons_of_mem)))⟩,⟨_,ot,eR⟩,trivial⟩) (K:=?_);refine bG ?_;refine au ?_ ?_<;>intro aM bD
 ·have h0:0≤aT (L.map aV.t) s.table:=(by simpa using aM)
  have aW:ql (L.map aV.t) s=(L.map aV.t,9):=if_pos h0;refine af [4] ?_;exact z51
 have h0:¬0≤aT (L.map aV.t) s.table:=(by simpa using aM)
 refine af [0,3,14] ?_;refine au ?_ ?_<;>intro aY cy
 ·have h4:L.length=4:=(by have:=aY;simp at this;omega)
  have aW:ql (L.map aV.t) s=(L.map aV.t,10):=(by unfold ql;rw[if_neg h0,if_pos (by rw[length_map];exact h4)])
  refine af [4] ?_;exact z51
 have h4:¬L.length=4:=(by have:=aY;simp at this;omega)
 have aW:ql (L.map aV.t) s=(L.map aV.t++[gQ s],0):=(by unfold ql;rw[if_neg h0,if_neg (by rw[length_map];exact h4)])
 have nu:=agB (G:=G);refine CD.skip ?_;refine CD.seq ?_;refine lF 13 [21,25,33] ?_;refine dh (Qz s.ay w4) ?_;refine dh (nu) ?_;refine bG ?_;refine OD.ek (ls:=L) (new:=[xK s]) (Sq:=Sx) uU U4 ap rfl rfl underlying23 aaJ rfl w7 ot O (oN (A:=[_,_])) ot bf w9 lY (fun I E Z ak2=>?_);refine OD.perm (jk (S1:=[⟨I,53,E*5,flatMap gT (L++[xK s])⟩]) (A:=[_,_])) ?_;refine aE 2 ?_;refine aP 1 [_] sizeOf23 ?_;refine an 37 [] ?_;refine af [4] ?_;refine aI (⟨bo,25,1,[_]⟩::([⟨I,53,E*5,flatMap gT (L++[xK s])⟩]++L.flatMap bT)) ?_;rw[aW];exact⟨rfl,fun _=>⟨L++[xK s],some ⟨I,0,none⟩,E,[⟨I,53,E*5,flatMap gT (L++[xK s])⟩],bE Z ak2,(fun o ho=>by rcases mem_append.1 ho with ho|ho;exact U o ho;rw[mem_singleton] at ho;subst ho;exact(afz s).w),by rw[map_append];rfl,by rw[T7,show bT (xK s)=[] from rfl,append_nil]⟩⟩

noncomputable def gB(l:List aO)(s:cU):List aO×((List (List Vl)×Int)×Int) :=
 if s.kind=1 then ((ql l s).1,(([],0),(ql l s).2))
 else if aT l s.table<0 then (l,(([],0),8))
 else if s.kind=3 then (l.set (aT l s.table).toNat (e9 (l.getD (aT l s.table).toNat (gQ s)) s.row).1,(([],1),(e9 (l.getD (aT l s.table).toNat (gQ s)) s.row).2))
 else if s.kind=4 then (l,qB (l.getD (aT l s.table).toNat (gQ s)) s)
 else if s.kind=5 then (l.set (aT l s.table).toNat (ic (l.getD (aT l s.table).toNat (gQ s)) s).1,(([],(ic (l.getD (aT l s.table).toNat (gQ s)) s).2.1),(ic (l.getD (aT l s.table).toNat (gQ s)) s).2.2))
 else (l.set (aT l s.table).toNat (mG (l.getD (aT l s.table).toNat (gQ s)) s.aj).1,(([],(mG (l.getD (aT l s.table).toNat (gQ s)) s.aj).2.1),(mG (l.getD (aT l s.table).toNat (gQ s)) s.aj).2.2))
theorem PA:∀(c:List D) {S:List ah},gF S c c
 | [],_=>trivial
 | _::c,_=>⟨eR,PA c⟩
theorem ad4(L:List aV)(h:i<L.length):L.flatMap gT=(L.take i).flatMap gT++(gT L[i]++(L.drop (i+1)).flatMap gT):=by
 conv=>lhs;rw[←take_append_drop i L,drop_eq_getElem_cons h]
 rw[flatMap_append,flatMap_cons]
theorem agY(L:List aV)(h:i<L.length)(o:aV):(L.set i o).flatMap gT=(L.take i).flatMap gT++(gT o++(L.drop (i+1)).flatMap gT):=by
 rw[set_eq_take_append_cons_drop,if_pos h,flatMap_append,flatMap_cons]
theorem KO(f:ah→Nat):∀(L:List aV) (i:Nat) (o:aV) (h:i<L.length),(((L.set i o).flatMap bT).map f).sum=((bT o).map f).sum+(((L.eraseIdx i).flatMap bT).map f).sum
 | [],_,_,h=>absurd h (Nat.not_lt_zero _)
 | x::L,0,o,_=>by simp
 | x::L,i+1,o,h=>by
  have:=KO f L i o (Nat.lt_of_succ_lt_succ h);simp only[set_cons_succ,flatMap_cons,map_append,sum_append,eraseIdx_cons_succ,this];omega
theorem I1{A:List ah}{L:List aV}{bx z:Nat}(h:i<L.length):(A++([(⟨bx,53,z,L.flatMap gT⟩:ah)]++L.flatMap bT)).Perm (A++((⟨bx,53,z,(L.take i).flatMap gT++(gT L[i]++(L.drop (i+1)).flatMap gT)⟩:ah)::(bT L[i]++(L.eraseIdx i).flatMap bT))):=by
 rw[←ad4 L h];exact iH fun f=>by
  have:=KO f L i L[i] h;rw[set_getElem_self] at this;simp only[map_cons,sum_cons,map_append,sum_append,map_nil,sum_nil,this];omega
theorem Kn{L:List aV}{bx E:Nat}(h:i<L.length)(h1:L.length≤cap)(h2:cap≤maxLen)(aQ:∀o∈L,okW o){o:aV}(ho:okW o)(hS:S.Perm (hU E (some ⟨bx,0,none⟩) L.length cap::((⟨bx,53,cap*5,(L.take i).flatMap gT++(gT o++(L.drop (i+1)).flatMap gT)⟩::bT o)++(L.eraseIdx i).flatMap bT))):Gi ((L.map aV.t).set i o.t) E S:=by
 refine⟨L.set i o,some ⟨bx,0,none⟩,cap,[⟨bx,53,cap*5,(L.set i o).flatMap gT⟩],bE (by rw[length_set];exact h1) h2,fun x hx=>?_,by rw[map_set],?_⟩
 ·rcases mem_or_eq_of_mem_set hx with hx|hx
  ·exact aQ x hx
  rw[hx];exact ho
 rw[length_set,agY L h];refine hS.trans (iH fun f=>?_);have:=KO f L i o h;simp only[map_cons,sum_cons,map_append,sum_append,map_nil,sum_nil,this];omega
theorem Uk(h:vv t ad cap E):okW ⟨t,t.rows.flatMap fa,ad,cap,E,[]⟩:=⟨h,fun S _=>PA _⟩
theorem ad5(h:GQ t L ad cap E):okW ⟨t,L.flatMap gR,ad,cap,E,L.flatMap bR⟩:=qh.w ⟨L,rfl,rfl,h.2.1,h.1,h.2.2⟩
theorem PB{o:aV}(h:qh o):∃U,vv o.t o.ad o.cap U∧∀(n:Nat) (env:List (Nat×D)) (A R:List ah),Wk ⟨n,env,A++(bT o++R)⟩ ⟨n,env,A++(U++R)⟩:=by
 obtain⟨L,h1,h2,h3,h4,h5⟩:=h;have Z:=Fw (S:=L.flatMap bR) h3 (fun B h=>h);have E:L.length=o.t.rows.length:=(by rw[←h4,length_map])
 rcases h5 with ⟨e1,e2,I,O,e5⟩|⟨b,e1,e2,I,O⟩
 ·have hL:L=[]:=length_eq_zero_iff.1 e1;subst hL;have hr:o.t.rows=[]:=(by rw[←h4];rfl)
  refine⟨[],.inl ⟨by rw[hr];rfl,by rw[hr];rfl,I,O,rfl⟩,fun n env A R=>?_⟩;have hb:bT o=[]:=(by unfold bT;rw[e5,h2];rfl)
  rw[hb];exact Wk.refl _
 refine⟨[⟨b,28,o.cap*1,o.t.rows.flatMap fa⟩],.inr ⟨b,e1,by rw[←E];exact e2,I,rfl⟩,fun n env A R=>?_⟩;have hb:bT o=⟨b,28,o.cap*1,L.flatMap gR⟩::L.flatMap bR:=(by unfold bT;rw[O,h2];rfl)
 rw[hb,←h4];have hc:=Wk.cover (n:=n) (l:=env) (S:=A++((⟨b,28,o.cap*1,L.flatMap gR⟩::L.flatMap bR)++R)) (A:=⟨b,28,o.cap*1,L.flatMap gR⟩) (R:=A++R) (Sd:=L.flatMap bR) (cs':=(L.map cl.r).flatMap fa) (iH fun f=>by simp only[map_cons,sum_cons,map_append,sum_append,map_nil,sum_nil];omega) Z;refine hc.trans (Wk.perm (iH fun f=>by simp only[map_cons,sum_cons,map_append,sum_append,map_nil,sum_nil];omega))
theorem agZ(hm:(3,marksC)∈G)(hw:(1,wordsC)∈G)(ht:(0,typesC)∈G)(hG:(2,[Value.int .i64 m])∈G)(L:List aV)(aQ:∀o∈L,qh o)(hL:L.length≤4)(hg:∀o∈L,∃n,n≤260∧eD o.t n)(s:cU)(fB:¬s.kind=2)(lg:s.ay.length≤1000)(mY:s.row.length≤1000)(zQ:∀v∈s.row,v.Ok)(sW:s.names.length≤1000)(ho:∀o∈s.aj,o.nm.size≤maxLen)(fS:∀o∈s.aj,o.v.Ok)(pu:∀o∈s.bQ,o.nm.size≤maxLen)(GS:∀o∈s.bQ,o.v.Ok)(I:Nat)(ad:Option Addr)(cap:Nat)(Sx:List ah)(Z:xI L ad cap Sx):VC Tryz.prog G 27 [dL I,.agg (bX s)] (hU I ad L.length cap::(Sx++L.flatMap bT)) (fun r S=>r=AW (gB (L.map aV.t) s).2∧((gB (L.map aV.t) s).2.2=0→Gi (gB (L.map aV.t) s).1 I S)):=by
 refine VC.body func27 rfl ntmps27 aR fun X0 w0 aZ=>?_;have dm:=ec;have O:=fun o ho=>(aQ o ho).w;have fO:=qt (G:=G) (L.map aV.t) Gk s.table;unfold av at fO;rw[length_map] at fO;have sS:=wF (fun t:aO=>t.nm.toList==s.table.toList) (L.map aV.t);rw[show dU (fun t:aO=>t.nm.toList==s.table.toList) (L.map aV.t)=(aT (L.map aV.t) s.table) from rfl,length_map] at sS;refine bY ?_;refine OD.box (ds:=[_,_,_,_,_,_,_,_,_,_,_,_]) ap rfl rfl ot rfl rfl (fun b3=>?_);refine OD.alloc (ds:=[_,_]) ap rfl rfl zeroValue36 rfl (fun b4=>?_);refine aE 1 ?_;first|refine OD.cells (k:=0) (cs':=[.list 1 [] 0,_]) rfl ⟨fQ,ev,trivial⟩ rfl ?_|skip
 refine an 87 [0,3,4] ?_;refine af [0,3,4,14] ?_;refine au ?_ ?_<;>intro aM bD
 ·have dP:s.kind=1:=(by simpa using aM)
  have aW:gB (L.map aV.t) s=((ql (L.map aV.t) s).1,(([],0),(ql (L.map aV.t) s).2)):=(by unfold gB;rw[if_pos dP])
  refine aD 3 ?_;refine OD.call (Sf:=hU I ad L.length cap::(Sx++L.flatMap bT)) (R:=[⟨b4,36,2,[.list 1 [] 0,ae 0]⟩,⟨b3,32,12,bX s⟩]) ap rfl rfl rfl call41 (ab8 L aQ hL s lg I ad cap Sx Z) ⟨ot,ot,trivial⟩ (show(⟨b4,36,2,[.list 1 [] 0,ae 0]⟩::⟨b3,32,12,bX s⟩::hU I ad L.length cap::(Sx++L.flatMap bT):List ah).Perm (hU I ad L.length cap::(Sx++L.flatMap bT)++[⟨b4,36,2,[.list 1 [] 0,ae 0]⟩,⟨b3,32,12,bX s⟩]) from(iH fun jg=>by simp only[map_append,map_cons,map_nil,sum_append,sum_cons,sum_nil];omega)) ?_;rintro _ U ⟨rfl,h9⟩;refine OD.perm (S':=⟨b4,36,2,[.list 1 [] 0,ae 0]⟩::⟨b3,32,12,bX s⟩::U) (show(U++[⟨b4,36,2,[.list 1 [] 0,ae 0]⟩,⟨b3,32,12,bX s⟩]:List ah).Perm _ from(iH fun jg=>by simp only[map_append,map_cons,map_nil,sum_append,sum_cons,sum_nil];omega)) ?_;refine aP 0 [_,_] sizeOf36 ?_;refine aE 1 ?_;first|refine OD.cells (k:=0) (cs':=[.list 1 [] 0,_]) rfl ⟨fQ,ev,trivial⟩ rfl ?_|skip
  refine an 87 [4,5] ?_;refine aI U ?_;rw[aW];exact⟨rfl,fun h=>h9 h⟩
 have dP:¬s.kind=1:=(by simpa using aM)
 refine cZ [0,3,4,6] ?_;refine ny 6 ?_;refine zL (fO) (ha:=by exact⟨⟨_,ot,(FQ Z O (fun B hB=>by repeat (first|exact hB|apply mem_append_right|apply mem_cons_of_mem)))⟩,⟨_,ot,eR⟩,trivial⟩) (K:=?_);refine bG ?_;refine af [0,3,4,6,27] ?_;refine au ?_ ?_<;>intro aY cy
 ·have h0:(aT (L.map aV.t) s.table)<0:=(by simpa using aY)
  have aW:gB (L.map aV.t) s=(L.map aV.t,(([],0),8)):=(by unfold gB;rw[if_neg dP,if_pos h0])
  refine aD 1 ?_;refine aP 0 [_,_] sizeOf36 ?_;refine aE 1 ?_;first|refine OD.cells (k:=0) (cs':=[.list 1 [] 0,_]) rfl ⟨fQ,ev,trivial⟩ rfl ?_|skip
  refine an 87 [4,5] ?_;exact z51
 have h0:¬(aT (L.map aV.t) s.table)<0:=(by simpa using aY)
 have E:(aT (L.map aV.t) s.table).toNat<L.length:=(by omega)
 obtain⟨bx,rfl,jh,pi,rfl⟩:=Z.pos w4;have j9:(L.map aV.t).getD (aT (L.map aV.t) s.table).toNat (gQ s)=(L[(aT (L.map aV.t) s.table).toNat]'E).t:=(by rw[getD_eq_getElem?_getD,getElem?_map,getElem?_eq_getElem E];rfl)
 refine cZ [0,3,4,6,7] ?_;refine aS 5 ?_ (h:=by exact(dF 5 (h:=by first|exact .l (j:=(aT (L.map aV.t) s.table).toNat) (Int.toNat_of_nonneg w4).symm E|exact .r (j:=(aT (L.map aV.t) s.table).toNat) (Int.toNat_of_nonneg w4).symm E)));refine bG ?_;refine af [0,3,4,6,7,36] ?_;refine af [0,3,4,6,7,36,37] ?_;refine au ?_ ?_<;>intro bZ cN
 ·exact absurd bZ (by exact absurd (by simpa using bZ) fB)
 refine af [3,4,7,36,51] ?_;refine au ?_ ?_<;>intro cX en
 ·have l7:s.kind=3:=(by simpa using cX)
  have aW:gB (L.map aV.t) s=((L.map aV.t).set (aT (L.map aV.t) s.table).toNat (e9 (L[(aT (L.map aV.t) s.table).toNat]'E).t s.row).1,(([],1),(e9 (L[(aT (L.map aV.t) s.table).toNat]'E).t s.row).2)):=(by unfold gB;rw[j9,if_neg dP,if_neg h0,if_pos l7])
  obtain⟨n,hn,g⟩:=hg (L[(aT (L.map aV.t) s.table).toNat]'E) (getElem_mem E);obtain⟨Sg,OE,jK⟩:=PB (aQ (L[(aT (L.map aV.t) s.table).toNat]'E) (getElem_mem E));refine CD.perm (I1 (A:=[_,_,_]) E) ?_;refine CD.wk (jK _ _ [_,_,_,_] _) ?_;refine aD 4 ?_
  refine OD.call (Sf:=(⟨bx,53,cap*5,(L.take (aT (L.map aV.t) s.table).toNat).flatMap gT++(gT (L[(aT (L.map aV.t) s.table).toNat]'E)++(L.drop ((aT (L.map aV.t) s.table).toNat+1)).flatMap gT)⟩:ah)::Sg) (R:=⟨b4,36,2,[.list 1 [] 0,ae 0]⟩::⟨b3,32,12,bX s⟩::hU I (some ⟨bx,0,none⟩) L.length cap::((L.eraseIdx (aT (L.map aV.t) s.table).toNat).flatMap bT)) ap rfl rfl rfl call43 (IV hm hw ht hG (L[(aT (L.map aV.t) s.table).toNat]'E).t g w4 s.row mY zQ bx (0+(aT (L.map aV.t) s.table).toNat*5) (cap*5) ((L.take (aT (L.map aV.t) s.table).toNat).flatMap gT) ((L.drop ((aT (L.map aV.t) s.table).toNat+1)).flatMap gT) Lq (L[(aT (L.map aV.t) s.table).toNat]'E).ad (L[(aT (L.map aV.t) s.table).toNat]'E).cap Sg OE) ⟨ot,ot,trivial⟩ (show(⟨b4,36,2,[.list 1 [] 0,ae 0]⟩::⟨b3,32,12,bX s⟩::hU I (some ⟨bx,0,none⟩) L.length cap::(⟨bx,53,cap*5,(L.take (aT (L.map aV.t) s.table).toNat).flatMap gT++(gT (L[(aT (L.map aV.t) s.table).toNat]'E)++(L.drop ((aT (L.map aV.t) s.table).toNat+1)).flatMap gT)⟩:ah)::(Sg++(L.eraseIdx (aT (L.map aV.t) s.table).toNat).flatMap bT):List ah).Perm (((⟨bx,53,cap*5,(L.take (aT (L.map aV.t) s.table).toNat).flatMap gT++(gT (L[(aT (L.map aV.t) s.table).toNat]'E)++(L.drop ((aT (L.map aV.t) s.table).toNat+1)).flatMap gT)⟩:ah)::Sg)++(⟨b4,36,2,[.list 1 [] 0,ae 0]⟩::⟨b3,32,12,bX s⟩::hU I (some ⟨bx,0,none⟩) L.length cap::((L.eraseIdx (aT (L.map aV.t) s.table).toNat).flatMap bT))) from(iH fun jg=>by simp only[map_append,map_cons,map_nil,sum_append,sum_cons,sum_nil];omega)) ?_
  rintro _ U ⟨rfl,h9⟩;refine OD.perm (S':=⟨b4,36,2,[.list 1 [] 0,ae 0]⟩::⟨b3,32,12,bX s⟩::hU I (some ⟨bx,0,none⟩) L.length cap::(U++(L.eraseIdx (aT (L.map aV.t) s.table).toNat).flatMap bT)) (show(U++(⟨b4,36,2,[.list 1 [] 0,ae 0]⟩::⟨b3,32,12,bX s⟩::hU I (some ⟨bx,0,none⟩) L.length cap::((L.eraseIdx (aT (L.map aV.t) s.table).toNat).flatMap bT)):List ah).Perm _ from(iH fun jg=>by simp only[map_append,map_cons,map_nil,sum_append,sum_cons,sum_nil];omega)) ?_;refine aP 0 [_,_] sizeOf36 ?_;refine aE 1 ?_;first|refine OD.cells (k:=0) (cs':=[.list 1 [] 0,_]) rfl ⟨fQ,ev,trivial⟩ rfl ?_|skip
  refine an 87 [4,5] ?_;refine aI (hU I (some ⟨bx,0,none⟩) L.length cap::(U++(L.eraseIdx (aT (L.map aV.t) s.table).toNat).flatMap bT)) ?_;rw[aW];refine⟨rfl,fun h=>?_⟩;obtain⟨nU,kI,oJ,Mt,rfl⟩:=h9 h;exact Kn E jh pi O (Uk Mt) (by rw[show bT (⟨_,_,nU,kI,oJ,[]⟩:aV)=oJ from append_nil _];exact Perm.refl _)
 have l7:¬s.kind=3:=(by simpa using cX)
 refine af [3,4,7,36,58] ?_;refine au ?_ ?_<;>intro er fq
 ·have xZ:s.kind=4:=(by simpa using er)
  have aW:gB (L.map aV.t) s=(L.map aV.t,(qB (L[(aT (L.map aV.t) s.table).toNat]'E).t s)):=(by unfold gB;rw[j9,if_neg dP,if_neg h0,if_neg l7,if_pos xZ])
  obtain⟨n,hn,g⟩:=hg (L[(aT (L.map aV.t) s.table).toNat]'E) (getElem_mem E);refine CD.seq ?_;refine lF 7 [4,65,66] ?_;refine aS 2 ?_ (h:=by exact(cW (mk:=Op.load 53) rfl ot (dR (k:=3) (i:=(aT (L.map aV.t) s.table).toNat) (ls:=L) uU rfl rfl rfl isAgg53 sizeOf53 E)));refine ny 1 ?_;refine zK (afy hm hw ht hG (L[(aT (L.map aV.t) s.table).toNat]'E).t g s sW ho fS) (fun r S h=>h.flat) (fun r S h=>(by have h9:=h.view;unfold AW at h9;exact h9)) (ha:=by exact⟨⟨_,ot,(T4 (O _ (getElem_mem E)) (fun B hB=>by have h9:=mem_flatMap.2 ⟨_,getElem_mem E,hB⟩;repeat (first|exact h9|apply mem_append_right|apply mem_cons_of_mem)):View _ (.agg (gT (L[(aT (L.map aV.t) s.table).toNat]'E))) _)⟩,⟨_,ot,eR⟩,trivial⟩) (K:=?_);refine bG ?_;refine aP 0 [_,_] sizeOf36 ?_;refine aE 1 ?_;first|refine OD.cells (k:=0) (cs':=[.list 1 [] 0,_]) rfl ⟨fQ,ev,trivial⟩ rfl ?_|skip
  refine an 87 [4,5] ?_;refine aI (hU I (some ⟨bx,0,none⟩) L.length cap::([⟨bx,53,cap*5,L.flatMap gT⟩]++L.flatMap bT)) ?_;rw[aW];exact⟨rfl,fun _=>⟨L,_,cap,_,Z,O,rfl,Perm.refl _⟩⟩
 have xZ:¬s.kind=4:=(by simpa using er)
 refine af [3,4,7,67] ?_;refine au ?_ ?_<;>intro fx gG
 ·have Dv:s.kind=5:=(by simpa using fx)
  have aW:gB (L.map aV.t) s=((L.map aV.t).set (aT (L.map aV.t) s.table).toNat (ic (L[(aT (L.map aV.t) s.table).toNat]'E).t s).1,(([],(ic (L[(aT (L.map aV.t) s.table).toNat]'E).t s).2.1),(ic (L[(aT (L.map aV.t) s.table).toNat]'E).t s).2.2)):=(by unfold gB;rw[j9,if_neg dP,if_neg h0,if_neg l7,if_neg xZ,if_pos Dv])
  obtain⟨n,hn,g⟩:=hg (L[(aT (L.map aV.t) s.table).toNat]'E) (getElem_mem E);obtain⟨LR,q1,q2,q3,q4,q5⟩:=aQ (L[(aT (L.map aV.t) s.table).toNat]'E) (getElem_mem E);refine CD.perm (I1 (A:=[_,_,_]) E) ?_;refine aD 2 ?_
  refine OD.call (Sf:=(⟨bx,53,cap*5,(L.take (aT (L.map aV.t) s.table).toNat).flatMap gT++(gT (L[(aT (L.map aV.t) s.table).toNat]'E)++(L.drop ((aT (L.map aV.t) s.table).toNat+1)).flatMap gT)⟩:ah)::((L[(aT (L.map aV.t) s.table).toNat]'E).sr++LR.flatMap bR)) (R:=⟨b4,36,2,[.list 1 [] 0,ae 0]⟩::⟨b3,32,12,bX s⟩::hU I (some ⟨bx,0,none⟩) L.length cap::((L.eraseIdx (aT (L.map aV.t) s.table).toNat).flatMap bT)) ap rfl rfl rfl call45 (ab7 hm hw ht hG (L[(aT (L.map aV.t) s.table).toNat]'E).t g s ho fS pu GS hn bx (0+(aT (L.map aV.t) s.table).toNat*5) (cap*5) ((L.take (aT (L.map aV.t) s.table).toNat).flatMap gT) ((L.drop ((aT (L.map aV.t) s.table).toNat+1)).flatMap gT) Lq LR (L[(aT (L.map aV.t) s.table).toNat]'E).ad (L[(aT (L.map aV.t) s.table).toNat]'E).cap (L[(aT (L.map aV.t) s.table).toNat]'E).sr q4 q3 q5) ⟨ot,ot,trivial⟩ (show(⟨b4,36,2,[.list 1 [] 0,ae 0]⟩::⟨b3,32,12,bX s⟩::hU I (some ⟨bx,0,none⟩) L.length cap::(⟨bx,53,cap*5,(L.take (aT (L.map aV.t) s.table).toNat).flatMap gT++(gT (L[(aT (L.map aV.t) s.table).toNat]'E)++(L.drop ((aT (L.map aV.t) s.table).toNat+1)).flatMap gT)⟩:ah)::((bT (L[(aT (L.map aV.t) s.table).toNat]'E))++(L.eraseIdx (aT (L.map aV.t) s.table).toNat).flatMap bT):List ah).Perm (((⟨bx,53,cap*5,(L.take (aT (L.map aV.t) s.table).toNat).flatMap gT++(gT (L[(aT (L.map aV.t) s.table).toNat]'E)++(L.drop ((aT (L.map aV.t) s.table).toNat+1)).flatMap gT)⟩:ah)::((L[(aT (L.map aV.t) s.table).toNat]'E).sr++LR.flatMap bR))++(⟨b4,36,2,[.list 1 [] 0,ae 0]⟩::⟨b3,32,12,bX s⟩::hU I (some ⟨bx,0,none⟩) L.length cap::((L.eraseIdx (aT (L.map aV.t) s.table).toNat).flatMap bT))) from by rw[show bT (L[(aT (L.map aV.t) s.table).toNat]'E)=((L[(aT (L.map aV.t) s.table).toNat]'E).sr++LR.flatMap bR) from by unfold bT;rw[q2]];exact(iH fun jg=>by simp only[map_append,map_cons,map_nil,sum_append,sum_cons,sum_nil];omega)) ?_
  rintro _ U ⟨rfl,h9⟩;refine OD.perm (S':=⟨b4,36,2,[.list 1 [] 0,ae 0]⟩::⟨b3,32,12,bX s⟩::hU I (some ⟨bx,0,none⟩) L.length cap::(U++(L.eraseIdx (aT (L.map aV.t) s.table).toNat).flatMap bT)) (show(U++(⟨b4,36,2,[.list 1 [] 0,ae 0]⟩::⟨b3,32,12,bX s⟩::hU I (some ⟨bx,0,none⟩) L.length cap::((L.eraseIdx (aT (L.map aV.t) s.table).toNat).flatMap bT)):List ah).Perm _ from(iH fun jg=>by simp only[map_append,map_cons,map_nil,sum_append,sum_cons,sum_nil];omega)) ?_;refine an 87 [4,8,9] ?_;refine aD 3 ?_;refine aP 0 [_,_] sizeOf36 ?_;refine aE 1 ?_;first|refine OD.cells (k:=0) (cs':=[.list 1 [] 0,_]) rfl ⟨fQ,ev,trivial⟩ rfl ?_|skip
  refine an 87 [4,5] ?_;refine aI (hU I (some ⟨bx,0,none⟩) L.length cap::(U++(L.eraseIdx (aT (L.map aV.t) s.table).toNat).flatMap bT)) ?_;rw[aW];refine⟨rfl,fun h=>?_⟩;obtain⟨L',nU,kI,oJ,ak3,rfl⟩:=h9 h;exact Kn E jh pi O (ad5 ak3) (Perm.refl _)
 have Dv:¬s.kind=5:=(by simpa using fx)
 have aW:gB (L.map aV.t) s=((L.map aV.t).set (aT (L.map aV.t) s.table).toNat (mG (L[(aT (L.map aV.t) s.table).toNat]'E).t s.aj).1,(([],(mG (L[(aT (L.map aV.t) s.table).toNat]'E).t s.aj).2.1),(mG (L[(aT (L.map aV.t) s.table).toNat]'E).t s.aj).2.2)):=(by unfold gB;rw[j9,if_neg dP,if_neg h0,if_neg l7,if_neg xZ,if_neg Dv])
 obtain⟨n,hn,g⟩:=hg (L[(aT (L.map aV.t) s.table).toNat]'E) (getElem_mem E);obtain⟨Sg,OE,jK⟩:=PB (aQ (L[(aT (L.map aV.t) s.table).toNat]'E) (getElem_mem E));refine CD.perm (I1 (A:=[_,_,_]) E) ?_;refine CD.wk (jK _ _ [_,_,_,_] _) ?_;refine aD 2 ?_
 refine OD.call (Sf:=(⟨bx,53,cap*5,(L.take (aT (L.map aV.t) s.table).toNat).flatMap gT++(gT (L[(aT (L.map aV.t) s.table).toNat]'E)++(L.drop ((aT (L.map aV.t) s.table).toNat+1)).flatMap gT)⟩:ah)::Sg) (R:=⟨b4,36,2,[.list 1 [] 0,ae 0]⟩::⟨b3,32,12,bX s⟩::hU I (some ⟨bx,0,none⟩) L.length cap::((L.eraseIdx (aT (L.map aV.t) s.table).toNat).flatMap bT)) ap rfl rfl rfl call46 (ab4 hm hw ht hG (L[(aT (L.map aV.t) s.table).toNat]'E).t g s ho fS bx (0+(aT (L.map aV.t) s.table).toNat*5) (cap*5) ((L.take (aT (L.map aV.t) s.table).toNat).flatMap gT) ((L.drop ((aT (L.map aV.t) s.table).toNat+1)).flatMap gT) Lq (L[(aT (L.map aV.t) s.table).toNat]'E).ad (L[(aT (L.map aV.t) s.table).toNat]'E).cap Sg OE) ⟨ot,ot,trivial⟩ (show(⟨b4,36,2,[.list 1 [] 0,ae 0]⟩::⟨b3,32,12,bX s⟩::hU I (some ⟨bx,0,none⟩) L.length cap::(⟨bx,53,cap*5,(L.take (aT (L.map aV.t) s.table).toNat).flatMap gT++(gT (L[(aT (L.map aV.t) s.table).toNat]'E)++(L.drop ((aT (L.map aV.t) s.table).toNat+1)).flatMap gT)⟩:ah)::(Sg++(L.eraseIdx (aT (L.map aV.t) s.table).toNat).flatMap bT):List ah).Perm (((⟨bx,53,cap*5,(L.take (aT (L.map aV.t) s.table).toNat).flatMap gT++(gT (L[(aT (L.map aV.t) s.table).toNat]'E)++(L.drop ((aT (L.map aV.t) s.table).toNat+1)).flatMap gT)⟩:ah)::Sg)++(⟨b4,36,2,[.list 1 [] 0,ae 0]⟩::⟨b3,32,12,bX s⟩::hU I (some ⟨bx,0,none⟩) L.length cap::((L.eraseIdx (aT (L.map aV.t) s.table).toNat).flatMap bT))) from(iH fun jg=>by simp only[map_append,map_cons,map_nil,sum_append,sum_cons,sum_nil];omega)) ?_
 rintro _ U ⟨rfl,h9⟩;refine OD.perm (S':=⟨b4,36,2,[.list 1 [] 0,ae 0]⟩::⟨b3,32,12,bX s⟩::hU I (some ⟨bx,0,none⟩) L.length cap::(U++(L.eraseIdx (aT (L.map aV.t) s.table).toNat).flatMap bT)) (show(U++(⟨b4,36,2,[.list 1 [] 0,ae 0]⟩::⟨b3,32,12,bX s⟩::hU I (some ⟨bx,0,none⟩) L.length cap::((L.eraseIdx (aT (L.map aV.t) s.table).toNat).flatMap bT)):List ah).Perm _ from(iH fun jg=>by simp only[map_append,map_cons,map_nil,sum_append,sum_cons,sum_nil];omega)) ?_;refine an 87 [4,10,11] ?_;refine aD 3 ?_;refine aP 0 [_,_] sizeOf36 ?_;refine aE 1 ?_;first|refine OD.cells (k:=0) (cs':=[.list 1 [] 0,_]) rfl ⟨fQ,ev,trivial⟩ rfl ?_|skip
 refine an 87 [4,5] ?_;refine aI (hU I (some ⟨bx,0,none⟩) L.length cap::(U++(L.eraseIdx (aT (L.map aV.t) s.table).toNat).flatMap bT)) ?_;rw[aW];refine⟨rfl,fun h=>?_⟩;obtain⟨nU,kI,oJ,Mt,rfl⟩:=h9 h;exact Kn E jh pi O (Uk Mt) (by rw[show bT (⟨_,_,nU,kI,oJ,[]⟩:aV)=oJ from append_nil _];exact Perm.refl _)

end Go.Proofs.YtdgichenhdikgaaGreatDoor.Ba
namespace Go.Proofs.YtdgichenhdikgaaGreatDoor.Ba
open List
open Go.Proofs.Tryz
open Go.RowKit V Pk Tr Vl Go.Proofs.YtdgichenhdikgaaGreatDoor.Nm Pc Cd Ex Tw
open Pa (cU bX)
variable {G:List (Nat×List Value)} {m:Int}
variable {n:Nat}
def vw(t:aO)(i:Nat):Nat:=((range i).filter fun j=>decide ((t.rows.getD j []).length≠0)).length
theorem ER(t:aO)(i:Nat):vw t (i+1)=vw t i+if (t.rows.getD i []).length≠0 then 1 else 0:=by
 unfold vw;rw[range_succ,filter_append,length_append];congr 1;by_cases h:(t.rows.getD i []).length≠0
 ·rw[if_pos h,filter_cons_of_pos oY];rfl
 rw[if_neg h,filter_cons_of_neg oY];rfl
theorem U7(t:aO)(i:Nat):vw t i≤i:=by
 unfold vw;exact Nat.le_trans (length_filter_le _ _) (by rw[length_range];exact Nat.le_refl _)
theorem Jz{t:aO}{i:Nat}(h:i<t.rows.length):t.rows.getD i []=t.rows[i]:=by rw[getD_eq_getElem?_getD,getElem?_eq_getElem h];rfl
theorem Ul{t:aO}(g:eD t n):vw t t.rows.length=(eo t.ix).length:=by
 unfold vw;have hA:((eo t.ix).map fun x=>x.2.toNat).Nodup:=by
  have hr:(eo t.ix).Pairwise (fun a b=>bB a.1 b.1):=Bk g.ix.val;rw[Nodup,pairwise_map];refine hr.imp_of_mem fun {a b} ha hb h e=>?_;obtain⟨a0,a1,a2,a3⟩:=g.iG a ha;obtain⟨b0,b1,b2,b3⟩:=g.iG b hb;refine iZ a.1 ?_;have:a.1=b.1:=(by rw[a3,b3];simp only[e])
  rw[←this] at h;exact h
 have Z:((range t.rows.length).filter fun j=>decide ((t.rows.getD j []).length≠0)).Nodup:=List.nodup_range.filter _;have h1:=hA.length_le_of_subset (l₂:=(range t.rows.length).filter fun j=>decide ((t.rows.getD j []).length≠0)) fun i hi=>by
  obtain⟨x,hx,rfl⟩:=mem_map.1 hi;obtain⟨x0,x1,x2,x3⟩:=g.iG x hx;refine mem_filter.2 ⟨mem_range.2 x1,decide_eq_true ?_⟩;rw[Jz x1];exact fun h=>x2 (length_eq_zero_iff.1 h)
 have h2:=Z.length_le_of_subset (l₂:=(eo t.ix).map fun x=>x.2.toNat) fun i hi=>by
  obtain⟨O,U⟩:=mem_filter.1 hi;have E:=mem_range.1 O;have I:=of_decide_eq_true U;rw[Jz E] at I;exact mem_map.2 ⟨_,(g.row i E (fun h=>I (by rw[h];rfl))).2.2,by simp⟩
 rw[length_map] at h1 h2;omega
theorem ad6(hm:(3,marksC)∈G)(hw:(1,wordsC)∈G)(ht:(0,typesC)∈G)(hG:(2,[Value.int .i64 m])∈G)(t:aO)(g:eD t n)(sW:t.nm.size≤maxLen):VP Tryz.prog G 37 [.agg (c9 t)] (cj true):=by
 refine VC.body func37 rfl ntmps37 aR fun X0 w0 aZ=>?_;have dm:=ec;have mN:=g.eJ;have nu:=tK (G:=G) hm hw t.nm sW;rw[g.nm] at nu;have fb:=Pc.Fq (G:=G) hm hw ht t.ay xQ xP;have hco:Pc.fI t.ay=0:=(by rw[g.ay];exact Fb)
 rw[hco] at fb;have vZ:=afj (G:=G) g.ix;have Z:=T3 (G:=G) g.ix;rw[Js] at Z;unfold Tw.cT at vZ Z;have Y9:=Ul g;unfold c9;refine bY ?_;refine OD.box (ds:=[_,_,_,_,_]) ap rfl rfl ot rfl rfl (fun b1=>?_);refine an 76 [1] ?_;refine aD 2 ?_;refine dQ call64 (nu) ?_;refine aE 2 ?_;refine bV 14 (fun E aio=>?_) (fun E aio=>?_)
 ·exact absurd E (by simp at E)
 refine aE 2 ?_;refine OD.gM gW rfl rfl rfl call54 (fb) ⟨ot,trivial⟩ ?_;refine aE 3 ?_;refine bV 20 (fun I aip=>?_) (fun I aip=>?_)
 ·exact absurd I (by simp at I)
 refine aE 6 ?_;refine bV 26 (fun O K9=>?_) (fun O K9=>?_)
 ·exact absurd O (by (simp at O;omega))
 refine aE 2 ?_;refine OD.gM gW rfl rfl rfl call49 (vZ) ⟨ot,trivial⟩ ?_;refine an 76 [1,31] ?_;refine au ?_ ?_<;>intro aM bD
 ·exact absurd aM (by simp at aM)
 refine af [1,3] ?_;refine af [1,3,33,34,35] ?_;refine CD.block ?_;refine mV (fun (i:Nat) aH=>(i≤t.rows.length)∧aH=(⟨76,[(1,dL b1),(3,ae (vw t i:Nat)),(33,av 1 fa t.rows),(34,ae (t.rows.length:Nat)),(35,ae (i:Nat))],[⟨b1,53,5,c9 t⟩]⟩:St)) (fun (i:Nat)=>t.rows.length-i) 0 ⟨(Nat.zero_le _),rfl⟩ (aK (h:=by repeat (first|exact trivial|refine⟨(by (repeat (first|exact fD|(apply fV;focus (first|rfl|(rw[ER,if_neg zG];rfl)|(rw[ER,if_pos zG];rfl)|(simp;done)|(congr 2;omega)))|(apply fH;focus rfl)));done),?_⟩))) ?_;rintro i _ ⟨hi,rfl⟩;refine af [1,3,33,34,35,36] ?_;refine au ?_ ?_<;>intro aY cy
 ·have aa:i<t.rows.length:=(by omega)
  have j9:t.rows.getD i []=(t.rows[i]'aa):=Jz aa;have lg:=U7 t i;refine af [1,3,4,5,33,34,35] ?_;refine af [1,3,4,5,33,34,35,42] ?_;refine au ?_ ?_<;>intro bZ cN
  ·have zG:¬(t.rows.getD i []).length≠0:=(by rw[j9];simpa using bZ)
   exact z72
  have zG:(t.rows.getD i []).length≠0:=(by rw[j9];simpa using bZ)
  have hne:(t.rows[i]'aa)≠[]:=fun h=>zG (by rw[j9,h];rfl);obtain⟨p1,p2,p3⟩:=g.row i aa hne;have p4:=nH p1;have yw:=KB (G:=G) hm hw ht t.ay xQ xP (t.rows[i]'aa) w4;have Y1:Pc.dO t.ay (t.rows[i]'aa)=0:=(by rw[g.ay];exact p1)
  rw[Y1] at yw;have hyv:=ze (G:=G) hG (t.rows[i]'aa) w4 w4 p2;have fO:=KJ (G:=G) g.ix (cH (t.rows[i]'aa));rw[Se g.ix (uT p1) p3] at fO;unfold Tw.cT at fO;refine af [1,3,4,5,33,34,35] ?_;refine cJ [1,3,4,5,33,34,35,49] (yw) ?_;refine au ?_ ?_<;>intro cX en
  ·exact absurd cX (by simp at cX)
  refine cZ [1,3,4,6,7,33,34,35] ?_;refine dh (hyv) ?_;refine dh (fO) ?_;refine bG ?_;refine aD 3 ?_;refine bV 60 (fun U K3=>?_) (fun U K3=>?_)
  ·exact absurd U (by simp at U)
  refine bg [1,3,33,34,35,64] ?_;refine au ?_ ?_<;>intro er fq
  ·exact absurd er (by simp at er)
  exact z72
 have sQ:i=t.rows.length:=(by omega)
 subst sQ;refine cJ [3,8] (Z) ?_;refine af [2] ?_;refine aI [] ?_;refine⟨?_,rfl⟩;first|rfl|(rw[Y9];simp)

structure pM (l:List aO) (n:Nat):Prop where
 eJ:l.length≤4
 tb:∀t∈l,eD t n
 sz:∀t∈l,t.nm.size≤maxLen
 HV:l.Pairwise fun a b=>a.nm.toList≠b.nm.toList
theorem pM.no{l:List aO}(g:pM l n){i:Nat}(h:i<l.length):aT (l.take i) l[i].nm<0:=by
 unfold aT;rw[we (k:=(l.take i).length) w4 (fun x hx=>?_)]
 ·decide
 rw[take_of_length_le (Nat.le_refl _)] at hx;obtain⟨j,hj,rfl⟩:=mem_iff_getElem.1 hx;rw[length_take] at hj;rw[getElem_take];have:=pairwise_iff_getElem.1 g.HV j i w4 h w4;simpa using this
noncomputable def vf(l:List aO)(nm:ByteArray):List (List Vl)×Int:=if aT l nm<0 then ([],8) else ((eo (l.getD (aT l nm).toNat ⟨nm,[],[],pU⟩).ix).map fun x=>rowAt (l.getD (aT l nm).toNat ⟨nm,[],[],pU⟩) x.2,0)
theorem QK(hm:(3,marksC)∈G)(hw:(1,wordsC)∈G)(ht:(0,typesC)∈G)(hG:(2,[Value.int .i64 m])∈G)(l:List aO)(g:pM l n):VP Tryz.prog G 24 [.agg [av 5 c9 (l)]] (ae 0):=by
 refine VC.body func24 rfl ntmps24 aR fun X0 w0 aZ=>?_;have dm:=ec;have U:=g.eJ;refine bY ?_;refine OD.box (ds:=[_]) ap rfl rfl ot rfl rfl (fun b1=>?_);refine an 31 [1] ?_;refine af [1,8] ?_;refine au ?_ ?_<;>intro aM bD
 ·exact absurd aM (by (simp at aM;omega))
 refine af [1,10,11,12] ?_;refine eA [1,10,11] (fun aU _ (i:Nat) aH=>(i≤l.length)∧aH=(⟨31,(12,ae (i:Nat))::aU,[⟨b1,25,1,[av 5 c9 (l)]⟩]⟩:St)) (fun (i:Nat)=>l.length-i) 0 ⟨(Nat.zero_le _),rfl⟩ ?_;rintro i _ ⟨hi,rfl⟩;refine af [1,10,11,12,13] ?_;refine au ?_ ?_<;>intro aY cy
 ·have aa:i<l.length:=(by omega)
  have O:=ad6 hm hw ht hG (l[i]'aa) (g.tb _ (getElem_mem aa)) (g.sz _ (getElem_mem aa));have fO:=qt (G:=G) (l.take i) oW (l[i]'aa).nm;have jv:=g.no aa;unfold c9 at O;refine aD 3 ?_;refine OD.alloc (ds:=[_,_,_,_,_]) ap rfl rfl zeroValue53 rfl (fun b4=>?_);refine aE 1 ?_;refine aP 0 [_,_,_,_,_] sizeOf53 ?_;refine an 31 [1,3,4,10,11,12] ?_;refine CD.seq ?_;refine fR 10 (aq _) ?_ (fun _ h=>h);refine az 0 rfl (cW (mk:=Op.load 53) rfl ot (by first|exact qq (k:=0) (ds:=[_,_,_,_,_]) rfl rfl isAgg53 sizeOf53 rfl rfl|exact j5 j4 isAgg53 sizeOf53 w5|exact dR (k:=0) j4 rfl rfl rfl isAgg53 sizeOf53 w5|exact dR (k:=1) j4 rfl rfl rfl isAgg53 sizeOf53 w5|exact qx (ds:=[_,_,_,_,_]) isAgg53 sizeOf53 rfl rfl)) ?_;refine dD.later rfl ?_;refine AD.one (i:=1) aA ?_;refine jJ call37 (O) ?_;refine cA 2 rfl lf ?_;refine cA 3 rfl bp ?_;refine AD.split (t:=20) lk (fun E=>?_) (fun E=>?_)
  ·exact absurd E (by simp at E)
  have I:=E;(try simp only[V.nv,ne_eq] at I)
  refine cA 4 rfl (dr 0) ?_;refine cA 6 rfl bp ?_;refine cA 8 rfl (dr 0) ?_;refine AD.two (i:=5) (j:=9) aA ?_ ?_
  ·refine at_ rfl (dK 1) ?_;refine cA 7 rfl (ey (l:=0) (h:=i) rfl ot trivial ⟨_,ot⟩ (by exact oO j4 (fun h=>by cases h) runUnderlying23 sizeOf53 w4)) ?_;refine AD.one (i:=9) aA ?_;refine at_ rfl (dK 0) ?_;exact XJ
  refine at_ rfl (dK 0) ?_;refine AD.one (i:=5) aA ?_;refine at_ rfl (dK 1) ?_;refine cA 7 rfl (ey (l:=0) (h:=i) rfl ot trivial ⟨_,ot⟩ (by exact oO j4 (fun h=>by cases h) runUnderlying23 sizeOf53 w4)) ?_;exact XJ
 refine af [2] ?_;exact nT
theorem aaK:(Tryz.prog.info? 28).map (fun i=>(i.zero,i.size,i.bytes))=some (some (.slice none 0 0),1,24):=by kernel_rfl
theorem FC(hm:(3,marksC)∈G)(hw:(1,wordsC)∈G)(ht:(0,typesC)∈G)(hG:(2,[Value.int .i64 m])∈G)(l:List aO)(g:pM l n)(nm:ByteArray):VP Tryz.prog G 14 [.agg [av 5 c9 (l)],bw nm] (.dI [.list 1 ((vf l nm).1.flatMap fa) (vf l nm).1.length,ae (vf l nm).2]):=by
 refine VC.body func14 rfl ntmps14 aR fun X0 w0 aZ=>?_;have dm:=ec;have mN:=g.eJ;have oB:=QK hm hw ht hG l g;have fO:=qt (G:=G) l w4 nm;have sS:=wF (fun t:aO=>t.nm.toList==nm.toList) l;rw[show dU (fun t:aO=>t.nm.toList==nm.toList) l=aT l nm from rfl] at sS;refine bY ?_;refine OD.box (ds:=[_]) ap rfl rfl ot rfl rfl (fun b2=>?_);refine an 54 [1,2] ?_;refine cJ [1,2,6] (oB) ?_;refine af [1,2,6,17] ?_;refine au ?_ ?_<;>intro aM bD
 ·exact absurd aM (by simp at aM)
 refine cJ [2,7] (fO) ?_;refine af [2,7,24] ?_;refine au ?_ ?_<;>intro aY cy
 ·have h0:aT l nm<0:=(by simpa using aY)
  have aW:vf l nm=([],8):=if_pos h0;refine af [4,5] ?_;refine CD.wk (Wk.tL (t:=4) (sz:=1) lk) ?_;exact oC
 have h0:¬aT l nm<0:=(by simpa using aY)
 have E:(aT l nm).toNat<l.length:=(by omega)
 have O:=g.tb (l[(aT l nm).toNat]'E) (getElem_mem E);have j9:l.getD (aT l nm).toNat ⟨nm,[],[],pU⟩=(l[(aT l nm).toNat]'E):=(by rw[getD_eq_getElem?_getD,getElem?_eq_getElem E];rfl)
 have aW:vf l nm=((eo (l[(aT l nm).toNat]'E).ix).map fun x=>rowAt (l[(aT l nm).toNat]'E) x.2,0):=(by unfold vf;rw[if_neg h0,j9])
 have AU:=T3 (G:=G) O.ix;rw[Js] at AU;unfold Tw.cT at AU;have Y9:=Ul O;have lg:=U7 (l[(aT l nm).toNat]'E) (l[(aT l nm).toNat]'E).rows.length;have Og:=O.eJ;refine aD 3 ?_;refine bN (dF 5 (h:=by first|exact .l (j:=(aT l nm).toNat) (Int.toNat_of_nonneg w4).symm E|exact .r (j:=(aT l nm).toNat) (Int.toNat_of_nonneg w4).symm E)) ?_;refine aE 1 ?_;refine OD.alloc (ds:=[_,_,_,_,_]) ap rfl rfl zeroValue53 rfl (fun b8=>?_);refine aP 0 [_,_,_,_,_] sizeOf53 ?_;refine an 54 [8] ?_;refine cJ [8,9] (AU) ?_;refine bY ?_;refine bg [8,9,11] ?_;refine af [8,11,36,37,38] ?_;refine eA [8,36,37] (fun aU _ (U:Nat×List (List Vl)×Option Addr×Nat×List ah) aH=>match U with|(i,acc,dg,cR,Sx)=>(i≤(eo (l[(aT l nm).toNat]'E).ix).length)∧(acc=((eo (l[(aT l nm).toNat]'E).ix).take i).map fun x=>rowAt (l[(aT l nm).toNat]'E) x.2)∧(bn 28 1 ((acc).flatMap fa) (acc).length dg cR Sx)∧aH=(⟨54,(11,aN dg (acc).length cR)::(38,ae (i:Nat))::aU,(⟨b8,53,5,c9 (l[(aT l nm).toNat]'E)⟩::⟨b2,25,1,[av 5 c9 (l)]⟩::Sx)⟩:St)) (fun (U:Nat×List (List Vl)×Option Addr×Nat×List ah)=>match U with|(i,acc,dg,cR,Sx)=>(eo (l[(aT l nm).toNat]'E).ix).length-i) (0,([]:List (List Vl)),none,0,[]) ⟨(Nat.zero_le _),rfl,(bn.cast iv j6),rfl⟩ ?_;rintro⟨i,acc,dg,cR,Sx⟩ _ ⟨hi,rz,dW,rfl⟩;refine af [8,11,36,37,38,39] ?_;refine au ?_ ?_<;>intro bZ cN
 ·have aa:i<(eo (l[(aT l nm).toNat]'E).ix).length:=(by omega)
  obtain⟨gC,I,nW,Nr⟩:=O.iG _ (getElem_mem aa);have hra:rowAt (l[(aT l nm).toNat]'E) ((eo (l[(aT l nm).toNat]'E).ix)[i]'aa).2=((l[(aT l nm).toNat]'E).rows[((eo (l[(aT l nm).toNat]'E).ix)[i]'aa).2.toNat]'I):=iX I;have h4:=nH (O.row _ I nW).1;have fb:=Qy (G:=G) ((l[(aT l nm).toNat]'E).rows[((eo (l[(aT l nm).toNat]'E).ix)[i]'aa).2.toNat]'I) w4;have qb:acc.length=i:=(by rw[rz,length_map,length_take];omega)
  refine aD 2 ?_;refine OD.alloc (ds:=[_,_]) ap rfl rfl zeroValue90 rfl (fun mB=>?_);refine aP 0 [_,_] sizeOf90 ?_;refine an 54 [8,11,13,36,37,38] ?_;refine dM 5 ?_;refine bN (dF 1 (h:=by first|exact .l (j:=((eo (l[(aT l nm).toNat]'E).ix)[i]'aa).2.toNat) (Int.toNat_of_nonneg gC).symm I|exact .r (j:=((eo (l[(aT l nm).toNat]'E).ix)[i]'aa).2.toNat) (Int.toNat_of_nonneg gC).symm I)) ?_;refine aE 1 ?_;refine dQ call31 (fb) ?_;refine ei (bW 0 [_]) [.slice none 0 0] [_] zeroValue28 runUnderlying34 sizeOf28 (fun AO=>?_);refine fw 0 50 1 1 ?_;refine OD.ek (ls:=(acc)) (new:=[((l[(aT l nm).toNat]'E).rows[((eo (l[(aT l nm).toNat]'E).ix)[i]'aa).2.toNat]'I)]) (Sq:=Sx) jE Bx ap rfl rfl underlying34 aaK rfl w7 ot dW (de (A:=[_,_,_])) ot bf w9 lY (fun yA Z Mq Mr=>?_);refine OD.perm (dZ (S1:=[⟨yA,28,Z*1,flatMap fa ((acc)++[((l[(aT l nm).toNat]'E).rows[((eo (l[(aT l nm).toNat]'E).ix)[i]'aa).2.toNat]'I)])⟩]) (A:=[_,_,_])) ?_;refine an 54 [8,11,36,37,38] ?_;refine cm [8,11,36,37,38] ?_
  refine⟨((i+1),(acc++[((l[(aT l nm).toNat]'E).rows[((eo (l[(aT l nm).toNat]'E).ix)[i]'aa).2.toNat]'I)]),(some ⟨yA,0,none⟩),Z,[⟨yA,28,Z*1,flatMap fa ((acc)++[((l[(aT l nm).toNat]'E).rows[((eo (l[(aT l nm).toNat]'E).ix)[i]'aa).2.toNat]'I)])⟩]),_,cD,aK,w4,(by rw[rz,←hra,←py aa,map_append];rfl),(bn.cast (bE Mq Mr) j6),rfl⟩
 have nq:acc=(eo (l[(aT l nm).toNat]'E).ix).map fun x=>rowAt (l[(aT l nm).toNat]'E) x.2:=(by rw[rz,take_of_length_le w4])
 refine af [4,5] ?_;refine CD.gN (t:=4) (Sq:=Sx) lk dW (cr jE _) (de (A:=[_,_])) ?_;refine aI [] ?_;rw[aW,←nq];exact⟨rfl,rfl⟩

end Go.Proofs.YtdgichenhdikgaaGreatDoor.Ba
namespace Go.Proofs.YtdgichenhdikgaaGreatDoor.Ba
open List
open Go.Proofs.Tryz
open Go.RowKit V Pk Tr Vl Go.Proofs.YtdgichenhdikgaaGreatDoor.Nm Pc Cd Ex Tw
open Pa (cU bX lB iw)
variable {G:List (Nat×List Value)} {m:Int}
noncomputable def nr(l:List aO)(s:cU):List aO×((List (List Vl)×Int)×Int) :=
 if iw s≠0 then ([],(([],0),iw s)) else if 7≤s.kind then ([],(([],0),2)) else if (gB l s).2.2≠0 then ([],(([],0),(gB l s).2.2)) else ((gB l s).1,((gB l s).2.1,0))
noncomputable def vy(rr:List aO×((List (List Vl)×Int)×Int))(s:cU):List aO×((List (List Vl)×Int)×Int) :=
 if iw s≠0 then ([],(([],0),iw s)) else if 7≤s.kind then ([],(([],0),2)) else if rr.2.2≠0 then ([],(([],0),rr.2.2)) else (rr.1,(rr.2.1,0))
def AZ(p:List aO×((List (List Vl)×Int)×Int)):D:=.dI [.agg [av 5 c9 p.1],.agg [av 1 fa p.2.1.1,ae p.2.1.2],ae p.2.2]
theorem afA(hm:(3,marksC)∈G)(hw:(1,wordsC)∈G)(ht:(0,typesC)∈G)(hG:(2,[Value.int .i64 m])∈G)(l:List aO){n:Nat}(g:pM l n)(s:cU)(hf:lB s)(E:List aO×((List (List Vl)×Int)×Int))(nL:∀(L:List aV),L.map aV.t=l→(∀o∈L,qh o)→∀(bo:Nat) (ad:Option Addr) (cap:Nat) (Sx:List ah),xI L ad cap Sx→VC Tryz.prog G 27 [dL bo,.agg (bX s)] (hU bo ad L.length cap::(Sx++L.flatMap bT)) (fun r S=>r=AW E.2∧(E.2.2=0→Gi E.1 bo S)))(AT:E.2.2=0→E.1.length≤1000∧∀t∈E.1,zh t):VP Tryz.prog G 11 [.agg [av 5 c9 (l)],.agg (bX s)] (AZ (vy E s)):=by
 refine VC.body func11 rfl ntmps11 aR fun X0 w0 aZ=>?_;have dm:=ec;have mN:=g.eJ;have oB:=QK hm hw ht hG l g;have fb:=Pa.Ru (G:=G) hm hw ht s hf;refine bY ?_;refine OD.box (ds:=[_]) ap rfl rfl ot rfl rfl (fun b2=>?_);refine OD.box (ds:=[_,_,_,_,_,_,_,_,_,_,_,_]) ap rfl rfl ot rfl rfl (fun b3=>?_);refine OD.alloc (ds:=[_]) ap rfl rfl zeroValue25 rfl (fun b4=>?_);refine OD.alloc (ds:=[_,_]) ap rfl rfl zeroValue36 rfl (fun b5=>?_);refine aE 1 ?_;first|refine OD.cells (k:=0) (cs':=[.list 1 [] 0,_]) rfl ⟨fQ,ev,trivial⟩ rfl ?_|skip
 first|refine OD.cells (k:=1) (cs':=[.list 1 [] 0,_]) rfl ⟨fQ,ev,trivial⟩ rfl ?_|skip
 first|refine OD.cells (k:=1) (cs':=[.list 5 [] 0]) rfl ⟨fQ,trivial⟩ rfl ?_|skip
 first|refine OD.cells (k:=2) (cs':=[.list 5 [] 0]) rfl ⟨fQ,trivial⟩ rfl ?_|skip
 refine an 46 [2,3,4,5] ?_;refine cJ [2,3,4,5,7] (oB) ?_;refine af [2,3,4,5,7,15] ?_;refine au ?_ ?_<;>intro aM bD
 ·exact absurd aM (by simp at aM)
 refine cJ [2,3,4,5,8] (fb) ?_;refine af [2,3,4,5,8,22] ?_;refine au ?_ ?_<;>intro aY cy
 ·have h1:iw s≠0:=(by simpa using aY)
  have aW:vy E s=([],(([],0),iw s)):=if_pos h1;refine aD 3 ?_;refine aP 1 [_] sizeOf25 ?_;refine aP 0 [_,_] sizeOf36 ?_;exact z40
 have h1:¬iw s≠0:=(by simpa using aY)
 refine af [2,3,4,5,28] ?_;refine au ?_ ?_<;>intro bZ cN
 ·have h2:7≤s.kind:=(by simpa using bZ)
  have aW:vy E s=([],(([],0),2)):=(by unfold vy;rw[if_neg h1,if_pos h2])
  refine aD 2 ?_;refine aP 1 [_] sizeOf25 ?_;refine aP 0 [_,_] sizeOf36 ?_;exact z40
 have h2:¬7≤s.kind:=(by simpa using bZ)
 refine aD 1 ?_;refine OD.call ap rfl rfl rfl call26 (QB l w4 (fun t h=>(g.tb t h).small)) ⟨ot,trivial⟩ (eO _) ?_;rintro _ _ ⟨L,ad,cap,Sx,rfl,kH,aQ,px,rfl⟩;refine OD.perm (S':=⟨b5,36,2,[.list 1 [] 0,ae 0]⟩::⟨b4,25,1,[.list 5 [] 0]⟩::⟨b3,32,12,bX s⟩::⟨b2,25,1,[av 5 c9 (l)]⟩::(Sx++L.flatMap bT)) (show((Sx++L.flatMap bT)++(⟨b5,36,2,[.list 1 [] 0,ae 0]⟩::⟨b4,25,1,[.list 5 [] 0]⟩::⟨b3,32,12,bX s⟩::[⟨b2,25,1,[av 5 c9 (l)]⟩]):List ah).Perm _ from(iH fun jg=>by simp only[map_append,map_cons,map_nil,sum_append,sum_cons,sum_nil];omega)) ?_;refine OD.alloc (ds:=[_]) ap rfl rfl zeroValue25 rfl (fun b9=>?_);refine aP 0 [_] sizeOf25 ?_;refine an 46 [3,4,5,9] ?_;refine aD 1 ?_;have rO:L.length=l.length:=(by rw[←px,length_map])
 refine OD.call (Sf:=hU b9 ad L.length cap::(Sx++L.flatMap bT)) (R:=⟨b5,36,2,[.list 1 [] 0,ae 0]⟩::⟨b4,25,1,[.list 5 [] 0]⟩::⟨b3,32,12,bX s⟩::[⟨b2,25,1,[av 5 c9 (l)]⟩]) ap rfl rfl rfl call27 (nL L px aQ b9 ad cap Sx kH) ⟨ot,ot,trivial⟩ (show(hU b9 ad L.length cap::⟨b5,36,2,[.list 1 [] 0,ae 0]⟩::⟨b4,25,1,[.list 5 [] 0]⟩::⟨b3,32,12,bX s⟩::⟨b2,25,1,[av 5 c9 (l)]⟩::(Sx++L.flatMap bT):List ah).Perm ((hU b9 ad L.length cap::(Sx++L.flatMap bT))++(⟨b5,36,2,[.list 1 [] 0,ae 0]⟩::⟨b4,25,1,[.list 5 [] 0]⟩::⟨b3,32,12,bX s⟩::[⟨b2,25,1,[av 5 c9 (l)]⟩])) from(iH fun jg=>by simp only[map_append,map_cons,map_nil,sum_append,sum_cons,sum_nil];omega)) ?_;rintro _ S9 ⟨rfl,h9⟩;refine OD.perm (S':=⟨b5,36,2,[.list 1 [] 0,ae 0]⟩::⟨b4,25,1,[.list 5 [] 0]⟩::⟨b3,32,12,bX s⟩::⟨b2,25,1,[av 5 c9 (l)]⟩::S9) (show(S9++(⟨b5,36,2,[.list 1 [] 0,ae 0]⟩::⟨b4,25,1,[.list 5 [] 0]⟩::⟨b3,32,12,bX s⟩::[⟨b2,25,1,[av 5 c9 (l)]⟩]):List ah).Perm _ from(iH fun jg=>by simp only[map_append,map_cons,map_nil,sum_append,sum_cons,sum_nil];omega)) ?_;unfold AW;refine aE 3 ?_;refine OD.alloc (ds:=[_,_]) ap rfl rfl zeroValue36 rfl (fun k8=>?_);refine aP 0 [_,_] sizeOf36 ?_;refine an 46 [4,5,9,10,11] ?_;refine af [4,5,9,10,11,39] ?_;refine au ?_ ?_<;>intro cX en
 ·have h3:E.2.2≠0:=(by simpa using cX)
  have aW:vy E s=([],(([],0),E.2.2)):=(by unfold vy;rw[if_neg h1,if_neg h2,if_pos h3])
  refine aD 3 ?_;refine aP 2 [_] sizeOf25 ?_;refine aP 1 [_,_] sizeOf36 ?_;exact z40
 have h3:¬E.2.2≠0:=(by simpa using cX)
 have aW:vy E s=(E.1,(E.2.1,0)):=(by unfold vy;rw[if_neg h1,if_neg h2,if_neg h3])
 obtain⟨L',I,kI,O,U,Z,ak4,hS⟩:=h9 (Classical.not_not.1 h3);obtain⟨HP,uA⟩:=AT (Classical.not_not.1 h3);have xW:=abZ (G:=G) E.1 HP uA;refine CD.perm (S':=⟨k8,36,2,[av 1 fa E.2.1.1,ae E.2.1.2]⟩::⟨b5,36,2,[.list 1 [] 0,ae 0]⟩::⟨b4,25,1,[.list 5 [] 0]⟩::⟨b3,32,12,bX s⟩::⟨b2,25,1,[av 5 c9 (l)]⟩::(hU b9 I L'.length kI::(O++L'.flatMap bT))) (show((⟨k8,36,2,[av 1 fa E.2.1.1,ae E.2.1.2]⟩::⟨b5,36,2,[.list 1 [] 0,ae 0]⟩::⟨b4,25,1,[.list 5 [] 0]⟩::⟨b3,32,12,bX s⟩::[⟨b2,25,1,[av 5 c9 (l)]⟩])++S9:List ah).Perm ((⟨k8,36,2,[av 1 fa E.2.1.1,ae E.2.1.2]⟩::⟨b5,36,2,[.list 1 [] 0,ae 0]⟩::⟨b4,25,1,[.list 5 [] 0]⟩::⟨b3,32,12,bX s⟩::[⟨b2,25,1,[av 5 c9 (l)]⟩])++(hU b9 I L'.length kI::(O++L'.flatMap bT))) from Perm.append_left ((⟨k8,36,2,[av 1 fa E.2.1.1,ae E.2.1.2]⟩::⟨b5,36,2,[.list 1 [] 0,ae 0]⟩::⟨b4,25,1,[.list 5 [] 0]⟩::⟨b3,32,12,bX s⟩::[⟨b2,25,1,[av 5 c9 (l)]⟩]):List ah) hS) ?_
 refine CD.wk (Wk.cover (A:=hU b9 I L'.length kI) (R:=⟨k8,36,2,[av 1 fa E.2.1.1,ae E.2.1.2]⟩::⟨b5,36,2,[.list 1 [] 0,ae 0]⟩::⟨b4,25,1,[.list 5 [] 0]⟩::⟨b3,32,12,bX s⟩::[⟨b2,25,1,[av 5 c9 (l)]⟩]) (Sd:=O++L'.flatMap bT) (cs':=[av 5 c9 (E.1)]) (show(⟨k8,36,2,[av 1 fa E.2.1.1,ae E.2.1.2]⟩::⟨b5,36,2,[.list 1 [] 0,ae 0]⟩::⟨b4,25,1,[.list 5 [] 0]⟩::⟨b3,32,12,bX s⟩::⟨b2,25,1,[av 5 c9 (l)]⟩::(hU b9 I L'.length kI::(O++L'.flatMap bT)):List ah).Perm _ from(iH fun jg=>by simp only[map_append,map_cons,map_nil,sum_append,sum_cons,sum_nil];omega)) ⟨by rw[←ak4];unfold av;rw[length_map];exact FQ U Z (fun B h=>h),trivial⟩) ?_;refine CD.skip ?_;refine CD.seq ?_;refine fR 4 (aq (eraseIdx _ 3)) ?_ (fun _ h=>(Sublist.map _ (eraseIdx_sublist _ 3)).subset h)
 refine az 0 rfl (cW (mk:=Op.load 25) rfl ot (by first|exact qq (k:=0) (ds:=[_]) rfl rfl isAgg25 sizeOf25 rfl rfl|exact j5 j4 isAgg25 sizeOf25 w5|exact j5 jE isAgg25 sizeOf25 w5|exact dR (k:=0) j4 rfl rfl rfl isAgg25 sizeOf25 w5|exact dR (k:=1) j4 rfl rfl rfl isAgg25 sizeOf25 w5|exact dR (k:=2) j4 rfl rfl rfl isAgg25 sizeOf25 w5|exact dR (k:=3) j4 rfl rfl rfl isAgg25 sizeOf25 w5|exact dR (k:=4) j4 rfl rfl rfl isAgg25 sizeOf25 w5|exact dR (k:=5) j4 rfl rfl rfl isAgg25 sizeOf25 w5|exact dR (k:=0) jE rfl rfl rfl isAgg25 sizeOf25 w5|exact dR (k:=1) jE rfl rfl rfl isAgg25 sizeOf25 w5|exact dR (k:=2) jE rfl rfl rfl isAgg25 sizeOf25 w5|exact dR (k:=3) jE rfl rfl rfl isAgg25 sizeOf25 w5|exact dR (k:=4) jE rfl rfl rfl isAgg25 sizeOf25 w5|exact dR (k:=5) jE rfl rfl rfl isAgg25 sizeOf25 w5|exact qx (ds:=[_]) isAgg25 sizeOf25 rfl rfl)) ?_
 refine az 2 rfl (cW (mk:=Op.load 36) rfl ot (by first|exact qq (k:=1) (ds:=[_,_]) rfl rfl isAgg36 sizeOf36 rfl rfl|exact j5 j4 isAgg36 sizeOf36 w5|exact j5 jE isAgg36 sizeOf36 w5|exact dR (k:=0) j4 rfl rfl rfl isAgg36 sizeOf36 w5|exact dR (k:=1) j4 rfl rfl rfl isAgg36 sizeOf36 w5|exact dR (k:=2) j4 rfl rfl rfl isAgg36 sizeOf36 w5|exact dR (k:=3) j4 rfl rfl rfl isAgg36 sizeOf36 w5|exact dR (k:=4) j4 rfl rfl rfl isAgg36 sizeOf36 w5|exact dR (k:=5) j4 rfl rfl rfl isAgg36 sizeOf36 w5|exact dR (k:=0) jE rfl rfl rfl isAgg36 sizeOf36 w5|exact dR (k:=1) jE rfl rfl rfl isAgg36 sizeOf36 w5|exact dR (k:=2) jE rfl rfl rfl isAgg36 sizeOf36 w5|exact dR (k:=3) jE rfl rfl rfl isAgg36 sizeOf36 w5|exact dR (k:=4) jE rfl rfl rfl isAgg36 sizeOf36 w5|exact dR (k:=5) jE rfl rfl rfl isAgg36 sizeOf36 w5|exact qx (ds:=[_,_]) isAgg36 sizeOf36 rfl rfl)) ?_;refine dD.later rfl ?_;refine AD.one (i:=1) aA ?_;refine jJ call26 (xW) ?_;refine AD.one (i:=3) aA ?_;refine dV 3 [_] sizeOf25 ?_;refine eH ?_;refine aP 2 [_,_] sizeOf36 ?_;refine aE 1 ?_;first|refine OD.cells (k:=0) (cs':=[.list 1 [] 0,_]) rfl ⟨fQ,ev,trivial⟩ rfl ?_|skip
 first|refine OD.cells (k:=1) (cs':=[.list 1 [] 0,_]) rfl ⟨fQ,ev,trivial⟩ rfl ?_|skip
 first|refine OD.cells (k:=1) (cs':=[.list 5 [] 0]) rfl ⟨fQ,trivial⟩ rfl ?_|skip
 first|refine OD.cells (k:=2) (cs':=[.list 5 [] 0]) rfl ⟨fQ,trivial⟩ rfl ?_|skip
 refine an 46 [4,5,6] ?_;exact ur
theorem ag0(hm:(3,marksC)∈G)(hw:(1,wordsC)∈G)(ht:(0,typesC)∈G)(hG:(2,[Value.int .i64 m])∈G)(l:List aO){n:Nat}(hn:n≤260)(g:pM l n)(s:cU)(hf:lB s)(fB:¬s.kind=2)(E:∀v∈s.row,v.Ok)(ho:∀o∈s.aj,o.nm.size≤maxLen)(fS:∀o∈s.aj,o.v.Ok)(Z:∀o∈s.bQ,o.nm.size≤maxLen)(I:∀o∈s.bQ,o.v.Ok)(AT:(gB l s).2.2=0→(gB l s).1.length≤1000∧∀t∈(gB l s).1,zh t):VP Tryz.prog G 11 [.agg [av 5 c9 (l)],.agg (bX s)] (AZ (nr l s)) :=
 afA hm hw ht hG l g s hf (gB l s) (fun L px aQ bo ad cap Sx O=>by
  subst px;have U:=g.eJ;rw[length_map] at U;exact agZ hm hw ht hG L aQ w4 (fun o ho=>⟨n,hn,g.tb _ (mem_map_of_mem ho)⟩) s fB (by have:=hf.ok.1;omega) (by have:=hf.ok.2.1;omega) E (by have:=hf.ok.2.2.1;omega) ho fS Z I bo ad cap Sx O) AT

end Go.Proofs.YtdgichenhdikgaaGreatDoor.Ba
namespace Go.Proofs.YtdgichenhdikgaaGreatDoor.Ba
open List
open Go.Proofs.Tryz
open Go.RowKit V Pk Tr Vl Go.Proofs.YtdgichenhdikgaaGreatDoor.Nm Pc Cd Ex Tw
open Pa (cU bX)
variable {t:aO} {n:Nat} {i:Int}
theorem eD.mono{t:aO}{a b:Nat}(g:eD t a)(h:a≤b):eD t b:=⟨g.nm,g.ay,g.eJ,g.ix.mono h,g.row,g.iG⟩
structure nJ (t:aO) (n:Nat) (D:List Int):Prop where
 nm:cY t.nm=0
 ay:t.ay=c8
 eJ:t.rows.length≤40
 ix:iL t.ix n
 row:∀i (h:i<t.rows.length),t.rows[i]≠[]→Pc.dO c8 t.rows[i]=0∧(∀v∈t.rows[i],v.Ok)∧((i:Int)∉D→(cH t.rows[i],(i:Int))∈eo t.ix)
 iG:∀x∈eo t.ix,0≤x.2∧x.2∉D∧∃h:x.2.toNat<t.rows.length,t.rows[x.2.toNat]≠[]∧x.1=cH t.rows[x.2.toNat]
theorem eD.d(g:eD t n):nJ t n []:=⟨g.nm,g.ay,g.eJ,g.ix,fun i h hn=>⟨(g.row i h hn).1,(g.row i h hn).2.1,fun _=>(g.row i h hn).2.2⟩,fun x hx=>⟨(g.iG x hx).1,not_mem_nil,(g.iG x hx).2⟩⟩
theorem nJ.tb(g:nJ t n []):eD t n:=⟨g.nm,g.ay,g.eJ,g.ix,fun i h hn=>⟨(g.row i h hn).1,(g.row i h hn).2.1,(g.row i h hn).2.2 not_mem_nil⟩,fun x hx=>⟨(g.iG x hx).1,(g.iG x hx).2.2⟩⟩
theorem ab9(g:eD t n)(hn:n≤300){row:List Vl}(aQ:∀v∈row,v.Ok)(h:(e9 t row).2=0):eD (e9 t row).1 (n+1)∧(e9 t row).1.rows.length=t.rows.length+1:=by
 unfold e9 at h ⊢;by_cases h1:Pc.dO t.ay row=0
 ·rw[if_neg (fun e=>e h1)] at h ⊢;cases h2:gE t.ix (cH row) (dc t.ix) with
  | true=>rw[h2,if_pos rfl] at h;cases h
  | false =>
   rw[h2,if_neg w7] at h;rw[if_neg w7];by_cases h3:t.rows.length=40
   ·rw[if_pos h3] at h;cases h
   rw[if_neg h3];have h4:Pc.dO c8 row=0:=(by rw[←g.ay];exact h1)
   obtain⟨g1,g2,g3⟩:=Bw g.ix hn ((wC g.ix).1 h2) (uT h4) (Int.natCast_nonneg t.rows.length);have I:=g.eJ;refine⟨⟨g.nm,g.ay,by show(t.rows++[row]).length≤40;rw[length_append,length_singleton];omega,g1,fun i hi hne=>?_,fun x hx=>?_⟩,by show(t.rows++[row]).length=_;rw[length_append,length_singleton]⟩
   ·simp only at hi hne ⊢;rw[length_append,length_singleton] at hi;by_cases hl:i<t.rows.length
    ·have e:(t.rows++[row])[i]'Ag=t.rows[i]:=getElem_append_left hl;rw[e] at hne ⊢;obtain⟨p1,p2,p3⟩:=g.row i hl hne;exact⟨p1,p2,(g3 _).2 (.inr p3)⟩
    have E:i=t.rows.length:=(by omega)
    subst E;have e:(t.rows++[row])[t.rows.length]'Ag=row:=(by rw[getElem_append_right (Nat.le_refl _)];simp)
    rw[e] at hne ⊢;exact⟨h4,aQ,(g3 _).2 (.inl rfl)⟩
   rcases(g3 x).1 hx with rfl|hx
   ·refine⟨Int.natCast_nonneg _,by show t.rows.length<(t.rows++[row]).length;rw[length_append,length_singleton];omega,?_⟩;have e:(t.rows++[row])[t.rows.length]'Ag=row:=(by rw[getElem_append_right (Nat.le_refl _)];simp)
    show(t.rows++[row])[t.rows.length]'_≠[]∧cH row=cH ((t.rows++[row])[t.rows.length]'_);rw[e];exact⟨fun e=>(by have:=nH h4;rw[e] at this;cases this),rfl⟩
   obtain⟨x0,x1,O,U⟩:=g.iG x hx;have e:(t.rows++[row])[x.2.toNat]'Ag=t.rows[x.2.toNat]:=getElem_append_left x1;refine⟨x0,by show _<(t.rows++[row]).length;rw[length_append,length_singleton];omega,?_⟩;show(t.rows++[row])[x.2.toNat]'_≠[]∧x.1=cH ((t.rows++[row])[x.2.toNat]'_);rw[e];exact⟨O,U⟩
 rw[if_pos h1] at h;exact absurd h h1
theorem QL{n:Nat}:∀{l:List Int} {t:aO},eD t n→l.Nodup→(∀i∈l,gz t i)→eD (rA t l) n∧(rA t l).rows.length=t.rows.length
 | [],_,g,_,_=>⟨g,rfl⟩
 | i::r,t,g,hn,hi=>by
  rw[nodup_cons] at hn;have h1:=QL (QH g (hi i mem_cons_self)) hn.2 fun j hj=>Ug (hi j (mem_cons_of_mem _ hj)) (fun e=>hn.1 (e ▸ hj)) (hi i mem_cons_self).1;refine⟨h1.1,h1.2.trans ?_⟩;show(t.rows.set _ _).length=_;rw[length_set]
theorem ZC(g:eD t n)(w:List aX):eD (mG t w).1 n∧(mG t w).1.rows.length=t.rows.length:=by
 unfold mG;split
 ·exact⟨g,rfl⟩
 exact QL g (EO g w) (u3 g w)
theorem Um{r:List Vl}{c:Nat}(hc:c≠0)(v:Vl):cH (r.set c v)=cH r:=by
 unfold cH;cases r with
 | nil=>rfl
 | cons a r=>cases c with
  | zero=>exact absurd rfl hc
  | succ c=>rfl
theorem VG{D:List Int}(g:nJ t n D)(hi:gz t i){c:Nat}(hc:c<c8.length){v:Vl}(hv:jR (c8[c]'hc).k v)(fS:v.Ok)(h0:c=0→v.k≠0∧i∈D):nJ (rB t i c v) n D∧(∀j,gz t j→gz (rB t i c v) j):=by
 obtain⟨q0,q1,q2⟩:=hi;obtain⟨p1,p2,p3⟩:=g.row _ q1 q2;have U:=iX (t:=t) q1;have Z:Pc.dO c8 ((rowAt t i).set c v)=0:=(by rw[U];exact Uh p1 hc hv fun h=>(h0 h).1)
 have jU:(rowAt t i).set c v≠[]:=fun e=>by have:=nH Z;rw[e] at this;cases this
 have hlen:(rB t i c v).rows.length=t.rows.length:=length_set;have I:∀j (h:j<t.rows.length),(rB t i c v).rows[j]'(by rw[hlen];exact h)=if i.toNat=j then (rowAt t i).set c v else t.rows[j]:=fun j h=>getElem_set ..
 refine⟨⟨g.nm,g.ay,by rw[hlen];exact g.eJ,g.ix,fun j hj hne=>?_,fun x hx=>?_⟩,fun j ⟨j0,j1,j2⟩=>⟨j0,by rw[hlen];exact j1,?_⟩⟩
 ·rw[hlen] at hj;rw[I j hj] at hne ⊢;by_cases E:i.toNat=j
  ·rw[if_pos E];refine⟨Z,fun w hw=>?_,fun hd=>?_⟩
   ·rcases mem_or_eq_of_mem_set hw with hw|hw
    ·rw[U] at hw;exact p2 w hw
    rw[hw];exact fS
   have rL:(j:Int)=i:=(by omega)
   by_cases O:c=0
   ·exact absurd (rL ▸ (h0 O).2) hd
   rw[Um O,U];subst E;exact p3 hd
  rw[if_neg E] at hne ⊢;exact g.row j hj hne
 ·obtain⟨x0,xd,x1,x2,x3⟩:=g.iG x hx;refine⟨x0,xd,by rw[hlen];exact x1,?_⟩;rw[I _ x1];by_cases E:i.toNat=x.2.toNat
  ·rw[if_pos E];refine⟨jU,?_⟩;have rL:x.2=i:=(by omega)
   by_cases O:c=0
   ·exact absurd (rL ▸ (h0 O).2) xd
   rw[Um O,U,x3];simp only[E]
  rw[if_neg E];exact⟨x2,x3⟩
 rw[I _ j1];split
 ·exact jU
 exact j2
theorem aiq{x:aG}{D:List Int}(g:nJ {t with ix:=x} n D)(hi:gz t i)(hd:i∉D):nJ {t with ix:=gI x (dc x) (cH (rowAt t i))} n (i::D):=by
 obtain⟨q0,q1,q2⟩:=hi;obtain⟨p1,p2,p3⟩:=g.row _ q1 q2;have E:=iX (t:=t) q1;have I:(cH (rowAt t i),i)∈eo x:=by
  have:=p3 (by rw[Int.toNat_of_nonneg q0];exact hd);rw[Int.toNat_of_nonneg q0] at this;rw[E];exact this
 obtain⟨d1,d2⟩:=Jr g.ix ((Bj g.ix.val _).2 ⟨i,I⟩);refine⟨g.nm,g.ay,g.eJ,d1,fun j hj hne=>?_,fun y hy=>?_⟩
 ·obtain⟨r1,r2,r3⟩:=g.row j hj hne;refine⟨r1,r2,fun hd2=>?_⟩;have O:(j:Int)≠i:=fun e=>hd2 (e ▸ mem_cons_self);refine(d2 _).2 ⟨r3 fun e=>hd2 (mem_cons_of_mem _ e),fun e=>O ?_⟩;have:=Kj g.ix (r3 fun e=>hd2 (mem_cons_of_mem _ e)) I e;simp only[Prod.mk.injEq] at this;exact this.2
 obtain⟨y1,y2⟩:=(d2 y).1 hy;obtain⟨z0,zd,z1,z2,z3⟩:=g.iG y y1;refine⟨z0,fun hm=>?_,z1,z2,z3⟩;rcases mem_cons.1 hm with e|hm
 ·refine y2 ?_;rw[z3,E];simp only[e]
 exact zd hm
theorem Un{t:aO}{n:Nat}:∀(l:List Int) (x:aG) (D:List Int),nJ {t with ix:=x} n D→l.Nodup→(∀i∈l,gz t i∧i∉D)→∃D',nJ {t with ix:=oo t x l} n D'∧∀i,i∈D'↔i∈l∨i∈D
 | [],x,D,g,_,_=>⟨D,g,fun i=>by simp⟩
 | i::r,x,D,g,hn,hi=>by
  rw[nodup_cons] at hn;obtain⟨D',h1,h2⟩:=Un r _ (i::D) (aiq g (hi i mem_cons_self).1 (hi i mem_cons_self).2) hn.2 fun j hj=>⟨(hi j (mem_cons_of_mem _ hj)).1,fun e=>by
   rcases mem_cons.1 e with e|e
   ·exact hn.1 (e ▸ hj)
   exact(hi j (mem_cons_of_mem _ hj)).2 e⟩
  refine⟨D',h1,fun j=>(h2 j).trans ?_⟩;simp only[mem_cons];constructor
  ·rintro(h|h|h)
   ·exact .inl (.inr h)
   ·exact .inl (.inl h)
   exact .inr h
  rintro((h|h)|h)
  ·exact .inr (.inl h)
  ·exact .inl h
  exact .inr (.inr h)
theorem nJ.ak5{D D':List Int}(g:nJ t n D)(h:∀i,i∈D↔i∈D'):nJ t n D':=⟨g.nm,g.ay,g.eJ,g.ix,fun i hi hne=>⟨(g.row i hi hne).1,(g.row i hi hne).2.1,fun hd=>(g.row i hi hne).2.2 fun e=>hd ((h _).1 e)⟩,fun x hx=>⟨(g.iG x hx).1,fun e=>(g.iG x hx).2.1 ((h _).2 e),(g.iG x hx).2.2⟩⟩
theorem ak6{D:List Int}(g:nJ t n D)(hn:n≤300)(hi:gz t i)(hd:i∈D)(jv:gE t.ix (cH (rowAt t i)) (dc t.ix)=false):nJ {t with ix:=gp t.ix (dc t.ix) (cH (rowAt t i)) i} (n+1) (D.filter (·≠i)):=by
 obtain⟨q0,q1,q2⟩:=hi;obtain⟨p1,p2,p3⟩:=g.row _ q1 q2;have E:=iX (t:=t) q1;obtain⟨g1,_,g3⟩:=Bw g.ix hn ((wC g.ix).1 jv) (by rw[E];exact uT p1) q0;have hf:∀j,j∈D.filter (·≠i)↔j∈D∧j≠i:=fun j=>by rw[mem_filter];simp
 refine⟨g.nm,g.ay,g.eJ,g1,fun j hj hne=>?_,fun y hy=>?_⟩
 ·obtain⟨r1,r2,r3⟩:=g.row j hj hne;refine⟨r1,r2,fun hd2=>(g3 _).2 ?_⟩;by_cases e:(j:Int)=i
  ·left;have I:i.toNat=j:=(by omega)
   subst I;rw[E,Int.toNat_of_nonneg q0]
  right;exact r3 fun hm=>hd2 ((hf _).2 ⟨hm,e⟩)
 rcases(g3 y).1 hy with rfl|hy
 ·exact⟨q0,fun hm=>((hf _).1 hm).2 rfl,q1,q2,by rw[E]⟩
 obtain⟨z0,zd,z1,z2,z3⟩:=g.iG y hy;exact⟨z0,fun hm=>zd ((hf _).1 hm).1,z1,z2,z3⟩
theorem U8:∀(l:List Int) (vs:List Vl) (t:aO) (n:Nat) (D:List Int),nJ t n D→n+l.length≤300→l.Nodup→vs.length=l.length→(∀i∈l,gz t i∧i∈D)→(∀v∈vs,v.Ok∧jR (c8[0]'w7).k v∧v.k≠0)→(kE t l vs).2=0 →
  ∃D',nJ (kE t l vs).1 (n+l.length) D'∧(kE t l vs).1.rows.length=t.rows.length∧∀i,i∈D'↔i∈D∧i∉l
 | [],[],t,n,D,g,_,_,_,_,_,_=>⟨D,g,rfl,fun i=>by simp⟩
 | [],_::_,_,_,_,_,_,_,h,_,_,_=>by cases h
 | _::_,[],_,_,_,_,_,_,h,_,_,_=>by cases h
 | i::r,v::s,t,n,D,g,hn,hnd,hl,hi,hv,h=>by
  rw[nodup_cons] at hnd;rw[length_cons] at hn hl;rw[length_cons] at hl;obtain⟨E,hid⟩:=hi i mem_cons_self;obtain⟨v1,v2,v3⟩:=hv v mem_cons_self;obtain⟨g1,kj⟩:=VG g E (c:=0) w7 v2 v1 fun _=>⟨v3,hid⟩
  rw[kE] at h ⊢;cases gg:gE t.ix (cH (rowAt (rB t i 0 v) i)) (dc t.ix) with
  | true=>rw[gg,if_pos rfl] at h;cases h
  | false =>
   rw[gg,if_neg w7] at h;rw[if_neg w7];have g2:=ak6 g1 w4 (kj i E) hid gg;obtain⟨D',h1,h2,h3⟩:=U8 r s _ (n+1) _ g2 w4 hnd.2 w4 (fun j hj=>⟨kj j (hi j (mem_cons_of_mem _ hj)).1,by rw[mem_filter];exact⟨(hi j (mem_cons_of_mem _ hj)).2,by simp;exact fun e=>hnd.1 (e ▸ hj)⟩⟩) (fun w hw=>hv w (mem_cons_of_mem _ hw)) h;refine⟨D',by rw[length_cons,show n+(r.length+1)=n+1+r.length by omega];exact h1,h2.trans (by show(t.rows.set _ _).length=_;rw[length_set]),fun j=>(h3 j).trans ?_⟩;rw[mem_filter,mem_cons];simp only[decide_eq_true_eq,ne_eq,not_or,and_assoc]
theorem Uo{n:Nat}{c:Nat}(hc:c<c8.length)(aM:c≠0):∀(l:List Int) (vs:List Vl) (t:aO),eD t n→(∀i∈l,gz t i)→(∀v∈vs,v.Ok∧jR (c8[c]'hc).k v)→eD (mP c t l vs) n∧(mP c t l vs).rows.length=t.rows.length
 | [],_,t,g,_,_=>by unfold mP;exact⟨g,rfl⟩
 | _::_,[],t,g,_,_=>by unfold mP;exact⟨g,rfl⟩
 | i::r,v::s,t,g,hi,hv=>by
  rw[mP];obtain⟨v1,v2⟩:=hv v mem_cons_self;obtain⟨g1,kj⟩:=VG g.d (hi i mem_cons_self) hc v2 v1 fun e=>absurd e aM;have h1:=Uo hc aM r s _ g1.tb (fun j hj=>kj j (hi j (mem_cons_of_mem _ hj))) fun w hw=>hv w (mem_cons_of_mem _ hw);exact⟨h1.1,h1.2.trans (by show(t.rows.set _ _).length=_;rw[length_set])⟩
theorem afB{k:Int}{c:Int}{v:Vl}(h:jR k v)(hk:¬(k≠c∧k≠0)):jR c v:=by
 refine⟨h.1,?_⟩;have:=h.2;omega
theorem acd(g:eD t n)(s:cU)(jv:∀o∈s.bQ,o.nm.size≤maxLen)(fS:∀o∈s.bQ,o.v.Ok)(hn:n≤260):eD (ic t s).1 (n+t.rows.length)∧(ic t s).1.rows.length=t.rows.length:=by
 have hz:eD t (n+t.rows.length)∧t.rows.length=t.rows.length:=⟨g.mono w4,rfl⟩
 unfold ic;by_cases hA:bM t.ay s.set<0
 ·rw[if_pos hA];exact hz
 rw[if_neg hA];by_cases hB:(ew t.ay s.bQ).2≠0
 ·rw[if_pos hB];exact hz
 rw[if_neg hB];by_cases hC:(ew t.ay s.bQ).1≠(t.ay.getD (bM t.ay s.set).toNat ⟨⟨#[]⟩,0⟩).k∧(ew t.ay s.bQ).1≠0
 ·rw[if_pos hC];exact hz
 rw[if_neg hC];by_cases hD:(ax t s.aj).2≠0
 ·rw[if_pos hD];exact hz
 rw[if_neg hD];by_cases hN:(iQ t (bM t.ay s.set) s.bQ [] (ax t s.aj).1).2≠0
 ·rw[if_pos hN];exact hz
 rw[if_neg hN];have Z:=Classical.not_not.1 hN;have hkz:(ew c8 s.bQ).2=0:=(by rw[←g.ay];exact Classical.not_not.1 hB)
 have E:=Jy g jv fS hkz (ax t s.aj).1 [] (u3 g s.aj) Z (fun v O=>by cases O);have hlen:=SH (t:=t) (c:=bM t.ay s.set) (e:=s.bQ) (ax t s.aj).1 [] Z;have Y3:=(KN (l:=t.ay) (nm:=s.set)).2;have hcc:t.ay.length=c8.length:=(by rw[g.ay])
 have U:(bM t.ay s.set).toNat<c8.length:=(by omega)
 have yu:∀v,jR (ew c8 s.bQ).1 v→jR (c8[(bM t.ay s.set).toNat]'U).k v:=fun v O=>by
  refine afB O ?_;rw[g.ay] at hC;have e:c8.getD (bM c8 s.set).toNat ⟨⟨#[]⟩,0⟩=c8[(bM t.ay s.set).toNat]'U:=by
   rw[getD_eq_getElem?_getD];rw[show(bM c8 s.set).toNat=(bM t.ay s.set).toNat by rw[g.ay]];rw[getElem?_eq_getElem U];rfl
  rw[e] at hC;exact hC
 by_cases hP:0<bM t.ay s.set
 ·rw[if_pos hP];have h1:=Uo (c:=(bM t.ay s.set).toNat) U w4 (ax t s.aj).1 (iQ t (bM t.ay s.set) s.bQ [] (ax t s.aj).1).1 t g (u3 g s.aj) fun v O=>⟨(E v O).1,yu v (E v O).2.1⟩
  exact⟨h1.1.mono w4,h1.2⟩
 rw[if_neg hP];have yz:bM t.ay s.set=0:=(by omega)
 by_cases hM:(kE {t with ix:=oo t t.ix (ax t s.aj).1} (ax t s.aj).1 (iQ t (bM t.ay s.set) s.bQ [] (ax t s.aj).1).1).2≠0
 ·rw[if_pos hM];exact hz
 rw[if_neg hM];have hnd:=EO g s.aj;have I:=u3 g s.aj;have mN:=FB g s.aj;obtain⟨D,d1,d2⟩:=Un (ax t s.aj).1 t.ix [] g.d hnd fun i hi=>⟨I i hi,not_mem_nil⟩
 obtain⟨D',e1,e2,e3⟩:=U8 (ax t s.aj).1 (iQ t (bM t.ay s.set) s.bQ [] (ax t s.aj).1).1 _ n D d1 w4 hnd (by rw[hlen];simp) (fun i hi=>⟨I i hi,(d2 i).2 (.inl hi)⟩) (fun v O=>⟨(E v O).1,by have:=yu v (E v O).2.1;simp only[yz] at this;exact this,(E v O).2.2 yz⟩) (Classical.not_not.1 hM);have hD':eD _ _:=(e1.ak5 (D':=[]) fun i=>by rw[e3,d2];simp).tb;have hle:(ax t s.aj).1.length≤t.rows.length:=by
  have h1:((ax t s.aj).1.map Int.toNat).Nodup:=by
   rw[Nodup,pairwise_map];refine(Pairwise.and_mem.1 hnd).imp fun {a b} h e=>h.2.2 ?_;have:=(I a h.1).1;have:=(I b h.2.1).1;omega
  have h2:=h1.length_le_of_subset (l₂:=range t.rows.length) fun x hx=>by
   obtain⟨y,hy,rfl⟩:=mem_map.1 hx;exact mem_range.2 (I y hy).2.1
  rwa [length_map,length_range] at h2
 exact⟨hD'.mono w4,e2⟩

end Go.Proofs.YtdgichenhdikgaaGreatDoor.Ba
namespace Go.Proofs.YtdgichenhdikgaaGreatDoor.Pa
open List
open Go.Proofs.Tryz
open Go.RowKit V Pk Vl Go.Proofs.YtdgichenhdikgaaGreatDoor.Nm Pc
variable {t:ByteArray}
theorem afC{s:ByteArray}(h:cY s=0):oe s=true∧s.size≤8:=by
 unfold cY at h;split at h
 ·cases h
 split at h
 ·cases h
 rename_i h1 h2;rw[Bool.or_eq_true,Bool.not_eq_true'] at h2;refine⟨?_,by omega⟩;cases hw:oe s with
 | true=>rfl
 | false=>exact absurd (.inl hw) h2
variable {G:List (Nat×List Value)}
def tP:List Vl→ByteArray
 | []=>⟨#[120]⟩
 | v::_=>v.s
def kR(s:cU):Prop:=lB s∧1≤s.kind∧s.kind≤6∧s.ij≤9223372036854775807∧gZ s=0
structure OF (w:List aX):Prop where
 l:w.length≤40
 f:nG w=0
 b:∀o∈w,o.nm.size≤maxLen∧-9223372036854775808≤o.v.n∧o.v.n≤9223372036854775807
theorem afD:OF []:=⟨Nat.zero_le _,rfl,fun _ h=>by cases h⟩
theorem ace(t:Tw):∀o∈iy 3 t,-20≤o.v.n∧o.v.n≤40:=by
 have hz:∀j nm,-20≤(⟨j,bJ,nm⟩:aX).v.n∧(⟨j,bJ,nm⟩:aX).v.n≤40:=fun _ _=>⟨by show(-20:Int)≤0;decide,by show(0:Int)≤40;decide⟩
 have vg:∀n s,-20≤(sc n s).v.n∧(sc n s).v.n≤40:=fun n s=>by
  show -20≤(pF ⟨n,dS n 40-20,s⟩).n∧(pF ⟨n,dS n 40-20,s⟩).n≤40;have O:=iW n (show(1:Int)≤40 by decide);have h2:=iW (dS n 40-20) (show(1:Int)≤2 by decide);unfold pF;split
  ·dsimp only;omega
  split
  ·dsimp only;omega
  split
  ·dsimp only;omega
  exact⟨by show(-20:Int)≤0;decide,by show(0:Int)≤40;decide⟩
 have E:∀k n s,∀o∈mE k n s,-20≤o.v.n∧o.v.n≤40:=fun k n s o ho=>by
  unfold mE at ho;split at ho<;>(simp only[mem_singleton] at ho;subst ho)
  ·exact hz _ _
  exact vg _ _
 have key:∀(r:Nat) (t:Tw),∀o∈iy r t,-20≤o.v.n∧o.v.n≤40:=by
  intro r;induction r with
  | zero=>intro t;obtain⟨k,n,s,ts⟩:=t;exact E k n s
  | succ r ih =>
   intro t o ho;obtain⟨k,n,s,ts⟩:=t;have I:∀i:Nat,∀o∈gH r ts n s i,-20≤o.v.n∧o.v.n≤40:=fun i o ho=>by
    unfold gH at ho;split at ho
    ·exact ih _ o ho
    exact E _ _ _ o ho
   rw[wo] at ho;split at ho
   ·simp only[mem_singleton] at ho;subst ho;exact vg _ _
   split at ho
   ·simp only[mem_singleton] at ho;subst ho;exact hz _ _
   split at ho
   ·rcases mem_append.1 ho with ho|ho
    ·exact I 0 o ho
    simp only[mem_singleton] at ho;subst ho;exact hz _ _
   rcases mem_append.1 ho with ho|ho
   ·rcases mem_append.1 ho with ho|ho
    ·exact I 0 o ho
    exact I 1 o ho
   simp only[mem_singleton] at ho;subst ho;exact hz _ _
 exact key 3 t
theorem Up(t:Tw):OF (iy 3 t):=by
 have h:=Qa t;refine⟨by omega,?_,fun o ho=>⟨acY (acX t) o ho,?_⟩⟩
 ·unfold nG;rw[if_neg w4];exact Qb t
 have:=ace t o ho;omega
theorem acf(s:cU):kN s s=true:=by
 unfold kN;simp only[Bool.and_eq_true,beq_iff_eq,wE,and_self]
theorem yR{s:cU}(ht:cY s.table=0)(he:jM s=0)(hb:iM s=s):gZ s=0:=by
 unfold gZ;rw[if_neg (fun h=>h.2 ht),hb,if_neg (fun h=>by rw[acf] at h;cases h.2),he]
theorem small{x:ByteArray}(h:cY x=0):x.size≤maxLen:=Nat.le_trans (afC h).2 w7
def rC(s:cU):Prop:=s.aj=[]∧∀w,OF w→(4≤s.kind∨w=[])→kR {s with aj:=w}
theorem rC.vo{s:cU}(h:rC s):kR s:=by
 have:=h.2 [] afD (.inr rfl);rw[←h.1] at this;exact this
theorem PC(ht:cY t=0):rC {gX with kind:=1,table:=t,ay:=c8}:=⟨rfl,fun w hw h=>by
 have E:w=[]:=h.resolve_left (by show ¬(4:Int)≤1;decide);subst E;exact⟨⟨⟨by show 4≤6;decide,Nat.zero_le _,Nat.zero_le _,Nat.zero_le _,Nat.zero_le _⟩,small ht,by show ∀c∈c8,c.n.size≤maxLen;decide,(fun _ h=>by cases h),Nat.zero_le _,Nat.zero_le _,(fun _ h=>by cases h),(fun _ h=>by cases h),(fun _ h=>by cases h)⟩,by show(1:Int)≤1;decide,by show(1:Int)≤6;decide,CV,
  yR ht (show fI c8=0 by decide +kernel) aA⟩⟩
theorem ad8(ht:cY t=0):rC {gX with kind:=2,table:=t}:=⟨rfl,fun w hw h=>by
 have E:w=[]:=h.resolve_left (by show ¬(4:Int)≤2;decide);subst E;exact⟨⟨⟨Nat.zero_le _,Nat.zero_le _,Nat.zero_le _,Nat.zero_le _,Nat.zero_le _⟩,small ht,(fun _ h=>by cases h),(fun _ h=>by cases h),Nat.zero_le _,Nat.zero_le _,(fun _ h=>by cases h),(fun _ h=>by cases h),(fun _ h=>by cases h)⟩,by show(1:Int)≤2;decide,by show(2:Int)≤6;decide,CV,
  yR ht aA aA⟩⟩
theorem Uq{x:Int}(h0:0≤x):iS ⟨2,x,⟨#[]⟩⟩=0:=by
 unfold iS;rw[if_neg (by intro h;have:=h.2;dsimp only at this;omega)];kernel_rfl
theorem afE{s:ByteArray}(h:s.size≤20):iS ⟨3,0,s⟩=0:=by
 unfold iS;rw[if_neg (by intro h;exact absurd h.1 (by show ¬(3:Int)=2;decide))];unfold cn;rw[if_neg (by show ¬(3:Int)=0;decide),if_neg (by show ¬(3:Int)=1;decide),if_neg (by show ¬(3:Int)=2;decide),if_pos rfl,if_neg (fun h=>h rfl),if_neg (by show ¬s.size>20;omega)]
theorem acg(n:Int):iS (ku n)=0∧-9223372036854775808≤(ku n).n∧(ku n).n≤9223372036854775807:=by
 have h:=iW n (show(1:Int)≤3 by decide);unfold ku;split
 ·exact⟨by decide,by decide,by decide⟩
 have h2:dS n 3=0∨dS n 3=1:=(by omega)
 rcases h2 with h2|h2<;>rw[h2]<;>exact⟨by decide,by decide,by decide⟩
theorem PF(ht:cY t=0){x y b:Int}(hx:0≤x∧x<12)(hy:0≤y∧y<9){u:ByteArray}(Z:u.size≤6):rC {gX with kind:=3,table:=t,row:=[⟨2,x,⟨#[]⟩⟩,⟨2,y,⟨#[]⟩⟩,⟨3,0,u⟩,ku b]}:=⟨rfl,fun w hw h=>by
 have E:w=[]:=h.resolve_left (by show ¬(4:Int)≤3;decide);subst E;have l1:=Uq hx.1;have l2:=Uq hy.1;have l3:iS ⟨3,0,u⟩=0:=afE w4;obtain⟨l4,O,U⟩:=acg b;refine⟨⟨⟨Nat.zero_le _,by show 4≤6;decide,Nat.zero_le _,Nat.zero_le _,Nat.zero_le _⟩,small ht,(fun _ h=>by cases h),(fun _ h=>by cases h),Nat.zero_le _,Nat.zero_le _,fun v I=>?_,(fun _ h=>by cases h),(fun _ h=>by cases h)⟩,by show(1:Int)≤3;decide,by show(3:Int)≤6;decide,CV,yR ht ?_ aA⟩
 ·simp only[mem_cons,not_mem_nil,or_false] at I;rcases I with rfl|rfl|rfl|rfl
  ·dsimp only;omega
  ·dsimp only;omega
  ·dsimp only;omega
  exact⟨O,U⟩
 show dO [⟨2,x,⟨#[]⟩⟩,⟨2,y,⟨#[]⟩⟩,⟨3,0,u⟩,ku b]=0;unfold dO;rw[if_neg bf];simp[jQ,l1,l2,l3,l4]⟩
theorem aaL(ht:cY t=0){N:List ByteArray}(E:N.length≤6∧∀x∈N,cY x=0){c:Bool}(hc:c=true→N=[]){o:ByteArray}(ho:o=⟨#[]⟩∨cY o=0){d:Bool}(hd:o=⟨#[]⟩→d=false){m:Int}(hm:-1≤m∧m≤7):rC {gX with kind:=4,table:=t,names:=N,count:=c,order:=o,down:=d,ij:=m}:=⟨rfl,fun w hw h=>by
 have I:o.size≤maxLen:=(by rcases ho with rfl|h;exact Nat.zero_le _;exact small h)
 refine⟨⟨⟨Nat.zero_le _,Nat.zero_le _,E.1,hw.l,Nat.zero_le _⟩,small ht,(fun _ h=>by cases h),fun x hx=>small (E.2 x hx),I,Nat.zero_le _,(fun _ h=>by cases h),hw.b,(fun _ h=>by cases h)⟩,by show(1:Int)≤4;decide,by show(4:Int)≤6;decide,(by show _≤(9223372036854775807:Int);dsimp only;omega),yR ht ?_ aA⟩;show oS {gX with kind:=4,table:=t,names:=N,count:=c,aj:=w,order:=o,down:=d,ij:=m}=0;have gJ:jQ cY N=0:=by
  have key:∀l:List ByteArray,(∀x∈l,cY x=0)→jQ cY l=0:=by
   intro l;induction l with
   | nil=>intro _;rfl
   | cons a r ih=>intro h;rw[jQ,if_neg (by rw[h a mem_cons_self];decide)];exact ih fun x hx=>h x (mem_cons_of_mem _ hx)
  exact key N E.2
 unfold oS;dsimp only;rw[if_neg w4,if_neg w4,if_neg (by
  rintro(⟨h1,h2⟩|⟨h1,h2⟩)
  ·rw[hc h1] at h2;simp at h2
  rw[hd (wE.1 h2)] at h1;cases h1),if_neg (by rw[gJ];decide),if_neg (by rw[hw.f];decide)]
 split
 ·rfl
 rename_i h2;exact ho.resolve_left fun h=>h2 (wE.2 h)⟩
theorem aaM(ht:cY t=0){c:ByteArray}(hc:cY c=0)(E:Tw):rC {gX with kind:=5,table:=t,set:=c,bQ:=iy 3 E}:=⟨rfl,fun w hw h=>by
 have ho:=Up E;refine⟨⟨⟨Nat.zero_le _,Nat.zero_le _,Nat.zero_le _,hw.l,ho.l⟩,small ht,(fun _ h=>by cases h),(fun _ h=>by cases h),Nat.zero_le _,small hc,(fun _ h=>by cases h),hw.b,ho.b⟩,by show(1:Int)≤5;decide,by show(5:Int)≤6;decide,CV,yR ht ?_ aA⟩;show(if cY c=0 then (if iR (iy 3 E)=0 then nG w else iR (iy 3 E)) else cY c)=0;rw[if_pos hc,if_pos (Qb E),hw.f]⟩
theorem aaN(ht:cY t=0):rC {gX with kind:=6,table:=t}:=⟨rfl,fun w hw h=>by
 refine⟨⟨⟨Nat.zero_le _,Nat.zero_le _,Nat.zero_le _,hw.l,Nat.zero_le _⟩,small ht,(fun _ h=>by cases h),(fun _ h=>by cases h),Nat.zero_le _,Nat.zero_le _,(fun _ h=>by cases h),hw.b,(fun _ h=>by cases h)⟩,by show(1:Int)≤6;decide,by show(6:Int)≤6;decide,CV,yR ht hw.f aA⟩⟩
def eE:List ByteArray:=[⟨#[116]⟩,⟨#[117]⟩]
def gh:List ByteArray:=[⟨#[]⟩,⟨#[110]⟩,⟨#[115]⟩,⟨#[105,100]⟩]
def A3:List ByteArray:=[⟨#[110]⟩,⟨#[110]⟩,⟨#[115]⟩,⟨#[98]⟩,⟨#[105,100]⟩]
theorem Gj:∀x∈eE,cY x=0:=by decide +kernel
theorem air:∀x∈gh,x.size=0∨cY x=0:=by decide +kernel
theorem Ll:∀x∈A3,cY x=0:=by decide +kernel
theorem qU(n:Int)(h1:-9223372036854775808≤n)(h2:n≤9223372036854775807):VP Tryz.prog G 28 [ae n] (.agg [ae (ku n).k,ae (ku n).n,bw (ku n).s]):=by
 refine VC.body func28 rfl ntmps28 aR fun X0 w0 aZ=>?_;refine bY ?_;refine OD.alloc (ds:=[_,_,_]) ap rfl rfl zeroValue41 rfl (fun b2=>?_);refine an 10 [0,2] ?_;refine cJ [0,2,5] (jP G n 3 h1 h2 w7) ?_;refine au ?_ ?_<;>intro aM bD
 ·refine aD 1 ?_;refine aP 0 [_,_,_] sizeOf41 ?_;refine an 10 [2] ?_;refine aI [] ?_;refine⟨?_,rfl⟩;unfold ku bJ;simp_all
 refine aD 1 ?_;refine dQ call21 (jP G n 3 h1 h2 w7) ?_;refine aE 1 ?_;refine aP 0 [_,_,_] sizeOf41 ?_;refine an 10 [2] ?_;refine aI [] ?_;refine⟨?_,rfl⟩;unfold ku bJ;simp_all

theorem ag1{s:ByteArray}(h:s.size=0):s=⟨#[]⟩:=by
 obtain⟨d⟩:=s;have:d = #[]:=Array.eq_empty_of_size_eq_zero h;rw[this]
theorem ach(k t a b:Int)(row:List Vl)(O U:Int)(Z:ByteArray)(E:List Tw)(y1 y2:Int)(y3:ByteArray)(I:List Tw)(bare:Bool):VP Tryz.prog G 36 [.agg [ae k,ae t,ae a,ae b,av 3 cV row,ae O,ae U,bw Z,.list 4 (Tw.mA E) E.length,ae y1,ae y2,bw y3,.list 4 (Tw.mA I) I.length,cj bare]] (bw (tP row)):=by
 refine VC.body func36 rfl ntmps36 aR fun X0 w0 aZ=>?_;refine bY ?_;refine OD.box (ds:=[_,_,_,_,_,_,_,_,_,_,_,_,_,_]) ap rfl rfl ot rfl rfl (fun b1=>?_);refine an 12 [1] ?_;refine af [1,6] ?_;refine au ?_ ?_<;>intro aM bD
 ·obtain⟨v,r,rfl⟩:∃v r,row=v::r:=(by (cases row;simp at aM;exact⟨_,_,rfl⟩))
  refine cZ [2] ?_;refine aS 2 ?_ (h:=by exact(oM (mk:=Op.indexAddr 75) rfl ot bI (by first|exact pD runUnderlying75 sizeOf114 (j:=0) rfl bf|exact pH runUnderlying75 sizeOf114 (j:=0) rfl bf)));refine aS 1 ?_ (h:=by exact(cW (mk:=Op.load 9) rfl ot (by exact u5 (i:=0) (j:=2) fi isAgg9 bf rfl)));refine bG ?_;refine aI [] ?_;exact⟨rfl,rfl⟩
 obtain rfl:row=[]:=eq_nil_of_length_eq_zero (by simp at aM;simp[aM]);refine af [2] ?_;exact nT
theorem OZ : ∀ w, ((#[{ name := "Kind", type := 3, offset := 0, embedded := false, tag := "", pkgPath := "", byteOffset := 0 }, { name := "Table", type := 9, offset := 1, embedded := false, tag := "", pkgPath := "", byteOffset := 8 }, { name := "Cols", type := 27, offset := 2, embedded := false, tag := "", pkgPath := "", byteOffset := 24 }, { name := "Row", type := 28, offset := 3, embedded := false, tag := "", pkgPath := "", byteOffset := 48 }, { name := "Names", type := 29, offset := 4, embedded := false, tag := "", pkgPath := "", byteOffset := 72 }, { name := "Count", type := 4, offset := 5, embedded := false, tag := "", pkgPath := "", byteOffset := 96 }, { name := "Where", type := 30, offset := 6, embedded := false, tag := "", pkgPath := "", byteOffset := 104 }, { name := "Order", type := 9, offset := 7, embedded := false, tag := "", pkgPath := "", byteOffset := 128 }, { name := "Down", type := 4, offset := 8, embedded := false, tag := "", pkgPath := "", byteOffset := 144 }, { name := "Limit", type := 3, offset := 9, embedded := false, tag := "", pkgPath := "", byteOffset := 152 }, { name := "Set", type := 9, offset := 10, embedded := false, tag := "", pkgPath := "", byteOffset := 160 }, { name := "To", type := 30, offset := 11, embedded := false, tag := "", pkgPath := "", byteOffset := 176 }] : Array Field).mapM fun f => do pure (f.offset, ← sizeOf f.type) : Sem (Array (Nat × Nat))).run Tryz.prog w = .ok #[(0, 1), (1, 1), (2, 1), (3, 1), (4, 1), (5, 1), (6, 1), (7, 1), (8, 1), (9, 1), (10, 1), (11, 1)] w := fun w => by simp [sizeOf27, sizeOf28, sizeOf29, sizeOf3, sizeOf30, sizeOf4, sizeOf9]
theorem ZD(k t a b:Int)(row:List Vl)(x1 x2:Int)(x3:ByteArray)(E:List Tw)(y1 y2:Int)(y3:ByteArray)(I:List Tw)(bare:Bool)(dP:-9223372036854775808≤k)(fB:k≤9223372036854775807)(ht1:-9223372036854775808≤t)(ht2:t≤9223372036854775807)(U:-9223372036854775808≤a)(pX:a≤9223372036854775807)(jh:-9223372036854775808≤b)(pi:b≤9223372036854775807)(vt:∀v∈row,v.s.size≤maxLen)(hto:(Tw.mk x1 x2 x3 E).Ok)(N0:(Tw.mk y1 y2 y3 I).Ok):VC Tryz.prog G 23 [.agg [ae k,ae t,ae a,ae b,av 3 cV row,ae x1,ae x2,bw x3,.list 4 (Tw.mA E) E.length,ae y1,ae y2,bw y3,.list 4 (Tw.mA I) I.length,cj bare]] [] (fun r S'=>∃s,r = .agg (bX s)∧S'=[]∧kR s∧s.kind=1+dS k 6):=by
 refine VC.body func23 rfl ntmps23 aR fun X0 w0 aZ=>?_;have aqu:=iW k (show(1:Int)≤6 by decide);have O:=jP G k 6 dP fB w7;generalize dS k 6=ki at *;have ak7:=iW t (show(1:Int)≤2 by decide);have Gw:=jP G t 2 ht1 ht2 w7;generalize dS t 2=ti at *;obtain⟨tj,rfl⟩:=Int.eq_ofNat_of_zero_le ak7.1;have rF:tj<eE.length:=(by show tj<2;omega)
 have Z:=Gj eE[tj] (getElem_mem rF);generalize VL:eE[tj]=tn at *;refine bY ?_;refine OD.box (ds:=[_,_,_,_,_,_,_,_,_,_,_,_,_,_]) ap rfl rfl ot rfl rfl (fun b1=>?_);refine OD.alloc (ds:=[_,_,_,_,_,_,_,_,_,_,_,_]) ap rfl rfl zeroValue32 rfl (fun b2=>?_);refine an 111 [1,2] ?_;refine CD.seq ?_;refine CD.mono (Q:=fun aU aH=>aU=Exit.normal∧∃(b3:Nat),(True)∧Wk aH (⟨111,[(1,dL b1),(2,dL b2),(3,dL b3)],[⟨b3,32,12,[ae (1+ki),bw tn,cf,cf,cf,cj false,cf,gb,cj false,ae (-1),gb,cf]⟩,⟨b2,32,12,[ae 0,gb,cf,cf,cf,cj false,cf,gb,cj false,ae 0,gb,cf]⟩,⟨b1,77,14,[ae k,ae t,ae a,ae b,av 3 cV row,ae x1,ae x2,bw x3,.list 4 (Tw.mA E) E.length,ae y1,ae y2,bw y3,.list 4 (Tw.mA I) I.length,cj bare]⟩]⟩:St)) ?_ ?_
 ·refine CD.draw (aq _) aA (fun _ h=>h) ?_;refine az 0 rfl (dr 0) ?_;refine az 1 rfl (dK 1) ?_;refine az 5 rfl (dr 1) ?_;refine az 6 rfl (dK 1) ?_;refine dD.later rfl ?_;refine AD.three (i:=2) (j:=4) (k:=11) aA ?_ ?_ ?_
  ·refine jJ call21 (O) ?_;refine cA 3 rfl mT ?_;refine AD.three (i:=4) (j:=7) (k:=11) aA ?_ ?_ ?_
   ·refine js (bW 0 [_,_]) [.string ⟨#[]⟩,.string ⟨#[]⟩] [_,_] zeroValue9 runUnderlying29 sizeOf9 (fun b8=>?_);refine jt 0 8 1 2 ?_;exact Wf
   ·refine jJ call21 (Gw) ?_;refine AD.two (i:=4) (j:=11) aA ?_ ?_
    ·refine js (bW 0 [_,_]) [.string ⟨#[]⟩,.string ⟨#[]⟩] [_,_] zeroValue9 runUnderlying29 sizeOf9 (fun b8=>?_);refine jt 0 8 1 2 ?_;exact V1
    refine bj.alloc (ds:=[_,_,_,_,_,_,_,_,_,_,_,_]) rfl ap rfl rfl zeroValue32 rfl (fun b3=>?_);refine AD.one (i:=4) aA ?_;refine js (bW 0 [_,_]) [.string ⟨#[]⟩,.string ⟨#[]⟩] [_,_] zeroValue9 runUnderlying29 sizeOf9 (fun b8=>?_);refine jt 0 8 1 2 ?_;exact z116
   refine bj.alloc (ds:=[_,_,_,_,_,_,_,_,_,_,_,_]) rfl ap rfl rfl zeroValue32 rfl (fun b3=>?_);exact z143
  ·refine js (bW 0 [_,_]) [.string ⟨#[]⟩,.string ⟨#[]⟩] [_,_] zeroValue9 runUnderlying29 sizeOf9 (fun b8=>?_);refine jt 0 8 1 2 ?_;refine AD.two (i:=2) (j:=11) aA ?_ ?_
   ·refine jJ call21 (O) ?_;refine cA 3 rfl mT ?_;exact Wf
   refine bj.alloc (ds:=[_,_,_,_,_,_,_,_,_,_,_,_]) rfl ap rfl rfl zeroValue32 rfl (fun b3=>?_);refine AD.one (i:=2) aA ?_;refine jJ call21 (O) ?_;refine cA 3 rfl mT ?_;exact Gu
  refine bj.alloc (ds:=[_,_,_,_,_,_,_,_,_,_,_,_]) rfl ap rfl rfl zeroValue32 rfl (fun b3=>?_);refine AD.two (i:=2) (j:=4) aA ?_ ?_
  ·refine jJ call21 (O) ?_;refine cA 3 rfl mT ?_;exact z143
  refine js (bW 0 [_,_]) [.string ⟨#[]⟩,.string ⟨#[]⟩] [_,_] zeroValue9 runUnderlying29 sizeOf9 (fun b8=>?_);refine jt 0 8 1 2 ?_;refine AD.one (i:=2) aA ?_;refine jJ call21 (O) ?_;refine cA 3 rfl mT ?_;exact Gu
 rintro _ _ ⟨rfl,b3,_,K8⟩;refine CD.wk K8 ?_;refine jB [1,2,3] (fun aU _ aH=>∃(s:cU),(rC s)∧(s.kind=1+ki)∧aH=(⟨111,aU,[⟨b3,32,12,[ae s.kind,bw s.table,av 2 cC s.ay,av 3 cV s.row,av 1 cS s.names,cj s.count,av 5 cO s.aj,bw s.order,cj s.down,ae s.ij,bw s.set,av 5 cO s.bQ]⟩,⟨b2,32,12,[ae 0,gb,cf,cf,cf,cj false,cf,gb,cj false,ae 0,gb,cf]⟩,⟨b1,77,14,[ae k,ae t,ae a,ae b,av 3 cV row,ae x1,ae x2,bw x3,.list 4 (Tw.mA E) E.length,ae y1,ae y2,bw y3,.list 4 (Tw.mA I) I.length,cj bare]⟩]⟩:St)) ?_ ?_
 ·refine CD.seq ?_;refine CD.cells (k:=0) (cs':=[_,_,.list 2 [] 0,.list 3 [] 0,.list 1 [] 0,_,.list 5 [] 0,_,_,_,_,.list 5 [] 0]) (S':=[_,_,_]) rfl (by repeat (first|exact trivial|exact⟨ev,trivial⟩|exact⟨fQ,trivial⟩|refine⟨ev,?_⟩|refine⟨fQ,?_⟩)) rfl ?_;refine cm [1,2,3,16] ?_;refine af [1,2,3,16,17] ?_;refine au ?_ ?_<;>intro aM bD
  ·obtain rfl:ki=0:=(by simp at aM;omega)
   refine s9 ?_;refine OD.gM ap rfl rfl rfl call18 (Qf) trivial ?_;refine aE 1 ?_;refine aP 0 [_,_,_,_,_,_,_,_,_,_,_,_] sizeOf27 ?_;refine an 111 [1,2,3] ?_;refine⟨_,aK,{gX with kind:=1+0,table:=tn,ay:=c8},(PC Z),CU,rfl⟩
  refine af [1,2,3,16,21] ?_;refine au ?_ ?_<;>intro aY cy
  ·obtain rfl:ki=2:=(by simp at aY;omega)
   have ak8:=iW a (show(1:Int)≤12 by decide);have ak9:=jP G a 12 U pX w7;generalize dS a 12=xa at *;have ala:=iW b (show(1:Int)≤9 by decide);have alb:=jP G b 9 jh pi w7;generalize dS b 9=xb at *;have tq:(tP row).size≤maxLen:=(by (cases row;decide;exact vt _ mem_cons_self))
   have yz:(lT (tP row) 2).size≤maxLen:=(by rw[EF];exact Nat.le_trans (Nat.min_le_left _ _) tq)
   have dH:((⟨#[]⟩:ByteArray)++lT (tP row) 2).size≤maxLen:=(by rw[ByteArray.size_append];show 0+_≤_;omega)
   have sX:(⟨#[]⟩:ByteArray).size+(lT (tP row) 2).size≤9223372036854775807:=(by (have:=yz;unfold maxLen at this;show 0+_≤_;omega))
   have hu6:=(Io ((⟨#[]⟩:ByteArray)++lT (tP row) 2)).2;refine lF 18 [1,2,3,40] ?_;refine dh (ak9) ?_;refine dh (alb) ?_;refine dh (ach k t a b row x1 x2 x3 E y1 y2 y3 I bare) ?_;refine dh (BK (tP row) 2 tq) ?_;refine aS 0 ?_ (h:=by exact(dj rfl bI ot (JM sX)));refine dh (Nm.qs ((⟨#[]⟩:ByteArray)++lT (tP row) 2) dH) ?_;refine dh (qU b jh pi) ?_;refine bG ?_;refine aE 1 ?_;refine aP 0 [_,_,_,_,_,_,_,_,_,_,_,_] sizeOf28 ?_;refine an 111 [1,2,3] ?_;refine⟨_,aK,{gX with kind:=1+2,table:=tn,row:=[⟨2,xa,⟨#[]⟩⟩,⟨2,xb,⟨#[]⟩⟩,⟨3,0,sj ((⟨#[]⟩:ByteArray)++lT (tP row) 2)⟩,ku b]},(PF Z ak8 ala hu6),CU,rfl⟩
  refine af [1,2,3,16,42] ?_;refine au ?_ ?_<;>intro bZ cN
  ·obtain rfl:ki=3:=(by simp at bZ;omega)
   refine jB [1,2,3] (fun aU _ aH=>∃(N:List ByteArray),((N.length≤6∧∀x∈N,cY x=0))∧aH=(⟨111,aU,[⟨b3,32,12,[ae (1+3),bw tn,.list 2 [] 0,.list 3 [] 0,av 1 cS N,cj false,.list 5 [] 0,gb,cj false,ae (-1),gb,.list 5 [] 0]⟩,⟨b2,32,12,[ae 0,gb,cf,cf,cf,cj false,cf,gb,cj false,ae 0,gb,cf]⟩,⟨b1,77,14,[ae k,ae t,ae a,ae b,av 3 cV row,ae x1,ae x2,bw x3,.list 4 (Tw.mA E) E.length,ae y1,ae y2,bw y3,.list 4 (Tw.mA I) I.length,cj bare]⟩]⟩:St)) ?_ ?_
   ·refine CD.seq ?_;have aqv:=iW a (show(1:Int)≤3 by decide);have alc:=jP G a 3 U pX w7;generalize dS a 3=xc at *;refine ie [1,2,3,47] ?_;refine dh (alc) ?_;refine bG ?_;refine au ?_ ?_<;>intro cX en
    ·have pyb:=iW b (show(1:Int)≤3 by decide);have OG:=jP G b 3 jh pi w7;generalize dS b 3=yb at *;have hyb:yb=0∨yb=1∨yb=2:=(by omega)
     rcases hyb with rfl|rfl|rfl
     ·refine s9 ?_;refine ei (bW 0 [_,_,_]) [.string ⟨#[]⟩,.string ⟨#[]⟩,.string ⟨#[]⟩] [_,_,_] zeroValue9 runUnderlying29 sizeOf9 (fun Ow=>?_);refine fw 0 48 1 3 ?_;refine aE 2 ?_;refine dQ call21 (OG) ?_;refine aE 1 ?_;refine bN (ey (l:=0) (h:=1) rfl ot trivial ⟨_,ot⟩ MJ) ?_;refine aE 1 ?_;refine aP 0 [_,_,_,_,_,_,_,_,_,_,_,_] sizeOf29 ?_;refine an 111 [1,2,3] ?_;refine⟨_,aK,[⟨#[115]⟩],⟨by decide,by decide +kernel⟩,rfl⟩
     ·refine s9 ?_;refine ei (bW 0 [_,_,_]) [.string ⟨#[]⟩,.string ⟨#[]⟩,.string ⟨#[]⟩] [_,_,_] zeroValue9 runUnderlying29 sizeOf9 (fun Ow=>?_);refine fw 0 48 1 3 ?_;refine aE 2 ?_;refine dQ call21 (OG) ?_;refine aE 1 ?_;refine bN (ey (l:=0) (h:=2) rfl ot trivial ⟨_,ot⟩ MJ) ?_;refine aE 1 ?_;refine aP 0 [_,_,_,_,_,_,_,_,_,_,_,_] sizeOf29 ?_;refine an 111 [1,2,3] ?_;refine⟨_,aK,[⟨#[115]⟩,⟨#[105,100]⟩],⟨by decide,by decide +kernel⟩,rfl⟩
     refine s9 ?_;refine ei (bW 0 [_,_,_]) [.string ⟨#[]⟩,.string ⟨#[]⟩,.string ⟨#[]⟩] [_,_,_] zeroValue9 runUnderlying29 sizeOf9 (fun Ow=>?_);refine fw 0 48 1 3 ?_;refine aE 2 ?_;refine dQ call21 (OG) ?_;refine aE 1 ?_;refine bN (ey (l:=0) (h:=3) rfl ot trivial ⟨_,ot⟩ MJ) ?_;refine aE 1 ?_;refine aP 0 [_,_,_,_,_,_,_,_,_,_,_,_] sizeOf29 ?_;refine an 111 [1,2,3] ?_;refine⟨_,aK,[⟨#[115]⟩,⟨#[105,100]⟩,⟨#[110]⟩],⟨by decide,by decide +kernel⟩,rfl⟩
    refine CD.skip ?_;refine⟨_,aK,[],⟨by simp,fun _ h=>by cases h⟩,rfl⟩
   rintro _ ⟨N,hN,rfl⟩;refine CD.seq ?_;have aqw:=iW a (show(1:Int)≤5 by decide);have ald:=jP G a 5 U pX w7;generalize dS a 5=xd at *;refine dM 2 ?_;refine dQ call21 (ald) ?_;refine aE 2 ?_;refine aP 0 [_,_,_,_,_,_,_,_,_,_,_,_] sizeOf4 ?_;refine an 111 [1,2,3] ?_;refine jB [1,2,3] (fun aU _ aH=>∃(N:List ByteArray),∃(ct:Bool),((N.length≤6∧∀x∈N,cY x=0))∧(ct=true→N=[])∧aH=(⟨111,aU,[⟨b3,32,12,[ae (1+3),bw tn,.list 2 [] 0,.list 3 [] 0,av 1 cS N,cj ct,.list 5 [] 0,gb,cj false,ae (-1),gb,.list 5 [] 0]⟩,⟨b2,32,12,[ae 0,gb,cf,cf,cf,cj false,cf,gb,cj false,ae 0,gb,cf]⟩,⟨b1,77,14,[ae k,ae t,ae a,ae b,av 3 cV row,ae x1,ae x2,bw x3,.list 4 (Tw.mA E) E.length,ae y1,ae y2,bw y3,.list 4 (Tw.mA I) I.length,cj bare]⟩]⟩:St)) ?_ ?_
   ·refine af [1,2,3,61] ?_;refine au ?_ ?_<;>intro er fq
    ·refine dM 1 ?_;refine aP 0 [_,_,_,_,_,_,_,_,_,_,_,_] sizeOf29 ?_;refine an 111 [1,2,3] ?_;refine⟨_,(Wk.cells (k:=0) (cs':=[_,_,_,_,.list 1 [] 0,_,_,_,_,_,_,_]) rfl (by repeat (first|exact trivial|exact⟨ev,trivial⟩|exact⟨fQ,trivial⟩|refine⟨ev,?_⟩|refine⟨fQ,?_⟩)) rfl).trans (aK),[],(xd==3),⟨Nat.zero_le _,fun _ h=>by cases h⟩,(fun _=>rfl),rfl⟩
    refine CD.skip ?_;refine⟨_,aK,N,(xd==3),hN,(fun h=>absurd h (by rw[er];decide)),rfl⟩
   rintro _ ⟨N,ct,hN,hcn,rfl⟩;refine CD.seq ?_;have ale:=iW b (show(1:Int)≤4 by decide);have alf:=jP G b 4 jh pi w7;generalize dS b 4=xe at *;obtain⟨ej,rfl⟩:=Int.eq_ofNat_of_zero_le ale.1;have OH:ej<gh.length:=(by show ej<4;omega)
   have jO:=air gh[ej] (getElem_mem OH);generalize alg:gh[ej]=od at *;refine s9 ?_;refine ei (bW 0 [_,_,_,_]) [.string ⟨#[]⟩,.string ⟨#[]⟩,.string ⟨#[]⟩,.string ⟨#[]⟩] [_,_,_,_] zeroValue9 runUnderlying29 sizeOf9 (fun D6=>?_);refine fw 0 63 1 4 ?_;refine aE 2 ?_;refine dQ call21 (alf) ?_;refine aE 1 ?_;refine bN (cW (mk:=Op.load 9) rfl ot (by exact qu (g:=cS) (ls:=gh) (i:=ej) (d:=bw od) jl isAgg9 OH (by show some (D.v (.string (gh[ej]'OH)))=some (D.v (.string od));rw[alg]))) ?_;refine aE 1 ?_;refine aP 0 [_,_,_,_,_,_,_,_,_,_,_,_] sizeOf9 ?_;refine an 111 [1,2,3] ?_;refine jB [1,2,3] (fun aU _ aH=>∃(dn:Bool),(od=⟨#[]⟩→dn=false)∧aH=(⟨111,aU,[⟨b3,32,12,[ae (1+3),bw tn,.list 2 [] 0,.list 3 [] 0,av 1 cS N,cj ct,.list 5 [] 0,bw od,cj dn,ae (-1),gb,.list 5 [] 0]⟩,⟨b2,32,12,[ae 0,gb,cf,cf,cf,cj false,cf,gb,cj false,ae 0,gb,cf]⟩,⟨b1,77,14,[ae k,ae t,ae a,ae b,av 3 cV row,ae x1,ae x2,bw x3,.list 4 (Tw.mA E) E.length,ae y1,ae y2,bw y3,.list 4 (Tw.mA I) I.length,cj bare]⟩]⟩:St)) ?_ ?_
   ·have aqx:=iW a (show(1:Int)≤2 by decide);have alh:=jP G a 2 U pX w7;generalize dS a 2=xf at *;refine dM 4 ?_;refine bV 73 (fun Mu ais=>?_) (fun Mu ais=>?_)
    ·refine aE 2 ?_;refine OD.gM gW rfl rfl rfl call21 (alh) ⟨ot,bI,trivial⟩ ?_;refine aE 3 ?_;refine aP 0 [_,_,_,_,_,_,_,_,_,_,_,_] sizeOf4 ?_;refine an 111 [1,2,3] ?_;refine⟨_,aK,(xf==1),(fun h=>by rw[h] at Mu;exact absurd Mu (by decide +kernel)),rfl⟩
    refine x4 4 ?_;refine aE 2 ?_;refine aP 0 [_,_,_,_,_,_,_,_,_,_,_,_] sizeOf4 ?_;refine an 111 [1,2,3] ?_;refine⟨_,aK,false,(fun _=>rfl),rfl⟩
   rintro _ ⟨dn,Ay,rfl⟩;have aqy:=iW a (show(1:Int)≤9 by decide);have ali:=jP G a 9 U pX w7;generalize dS a 9=xg at *;refine dM 2 ?_;refine dQ call21 (ali) ?_;refine aE 2 ?_;refine aP 0 [_,_,_,_,_,_,_,_,_,_,_,_] sizeOf3 ?_;refine an 111 [1,2,3] ?_;refine⟨_,aK,{gX with kind:=1+3,table:=tn,names:=N,count:=ct,order:=od,down:=dn,ij:=xg-1},(aaL Z hN hcn (jO.imp (fun h=>ag1 h) id) Ay w4),CU,rfl⟩
  refine af [1,2,3,85] ?_;refine au ?_ ?_<;>intro fx gG
  ·obtain rfl:ki=4:=(by simp at fx;omega)
   refine CD.seq ?_;have alj:=iW a (show(1:Int)≤5 by decide);have alk:=jP G a 5 U pX w7;generalize dS a 5=xh at *;obtain⟨hj,rfl⟩:=Int.eq_ofNat_of_zero_le alj.1;have OI:hj<A3.length:=(by show hj<5;omega)
   have hsn:=Ll A3[hj] (getElem_mem OI);generalize alm:A3[hj]=sn at *;refine s9 ?_;refine ei (bW 0 [_,_,_,_,_]) [.string ⟨#[]⟩,.string ⟨#[]⟩,.string ⟨#[]⟩,.string ⟨#[]⟩,.string ⟨#[]⟩] [_,_,_,_,_] zeroValue9 runUnderlying29 sizeOf9 (fun b87=>?_);refine fw 0 87 1 5 ?_;refine aE 2 ?_;refine dQ call21 (alk) ?_;refine aE 1 ?_;refine bN (cW (mk:=Op.load 9) rfl ot (by exact qu (g:=cS) (ls:=A3) (i:=hj) (d:=bw sn) jl isAgg9 OI (by show some (D.v (.string (A3[hj]'OI)))=some (D.v (.string sn));rw[alm]))) ?_;refine aE 1 ?_;refine aP 0 [_,_,_,_,_,_,_,_,_,_,_,_] sizeOf9 ?_;refine an 111 [1,2,3] ?_;refine dM 2 ?_;refine dQ call19 (UQ (.mk x1 x2 x3 E) hto) ?_;refine aE 1 ?_;refine aP 0 [_,_,_,_,_,_,_,_,_,_,_,_] sizeOf30 ?_;refine an 111 [1,2,3] ?_;refine⟨_,aK,{gX with kind:=1+4,table:=tn,set:=sn,bQ:=iy 3 (.mk x1 x2 x3 E)},(aaM Z hsn (.mk x1 x2 x3 E)),CU,rfl⟩
  have aln:ki=1∨ki=5:=(by simp at aM aY bZ fx;omega)
  refine CD.skip ?_;refine⟨_,aK,{gX with kind:=1+ki,table:=tn},(by (rcases aln with rfl|rfl;exact ad8 Z;exact aaN Z)),CU,rfl⟩
 rintro _ ⟨s,Mw,Mx,rfl⟩;refine aD 4 ?_;refine bV 101 (fun VH ag2=>?_) (fun VH ag2=>?_)
 ·refine bg [1,2,3,105] ?_;refine au ?_ ?_<;>intro gU kU
  ·have hg4:4≤s.kind∧bare=false:=(by (have q1:=gU;simp at q1;first|exact⟨by simpa using VH,by simpa using q1⟩|simp_all))
   have oh:=Mw.2 (iy 3 (.mk y1 y2 y3 I)) (Up _) (.inl hg4.1);refine dM 2 ?_;refine dQ call19 (UQ (.mk y1 y2 y3 I) N0) ?_;refine aE 1 ?_;refine aP 0 [_,_,_,_,_,_,_,_,_,_,_,_] sizeOf30 ?_;refine an 111 [2,3] ?_;refine aD 1 ?_;refine aP 1 [_,_,_,_,_,_,_,_,_,_,_,_] sizeOf32 ?_;refine an 111 [2] ?_;refine aI [] ?_;exact⟨{s with aj:=iy 3 (.mk y1 y2 y3 I)},rfl,rfl,oh,Mx⟩
  have oh:=Mw.vo;refine aD 1 ?_;refine aP 1 [_,_,_,_,_,_,_,_,_,_,_,_] sizeOf32 ?_;refine an 111 [2] ?_;refine aI [] ?_;exact⟨s,rfl,rfl,oh,Mx⟩
 refine bg [1,2,3,105] ?_;refine fM ?_;have oh:=Mw.vo;refine aD 1 ?_;refine aP 1 [_,_,_,_,_,_,_,_,_,_,_,_] sizeOf32 ?_;refine an 111 [2] ?_;refine aI [] ?_;exact⟨s,rfl,rfl,oh,Mx⟩

end Go.Proofs.YtdgichenhdikgaaGreatDoor.Pa
namespace Go.Proofs.YtdgichenhdikgaaGreatDoor.Ba
open List
open Go.Proofs.Tryz
open Go.RowKit V Pk Tr Vl Go.Proofs.YtdgichenhdikgaaGreatDoor.Nm Pc Cd Ex Tw
open Pa (cU bX lB iw kR gZ jM kN iM)
variable {l:List aO} {a c:Nat}
theorem Lm{v:Vl}(h:cn v=0)(h1:-9223372036854775808≤v.n)(h2:v.n≤9223372036854775807):v.Ok:=by
 unfold cn at h;have hk:(0≤v.k∧v.k≤3)∧v.s.size≤20:=by
  repeat' split at h
  all_goals first|(cases h;done)|omega
 exact⟨by omega,by omega,h1,h2,Nat.le_trans hk.2 w7⟩
theorem QM{α:Type}{f:α→Int}:∀{l:List α},Pa.jQ f l=0→∀a∈l,f a=0
 | [],_,a,ha=>by cases ha
 | x::r,h,a,ha=>by
  rw[Pa.jQ] at h;split at h
  ·rename_i hx;exact absurd h hx
  rename_i hx;rcases mem_cons.1 ha with rfl|ha
  ·exact Classical.not_not.1 hx
  exact QM h a ha
theorem JA{w:List aX}(h:Pa.nG w=0):∀o∈w,cn o.v=0:=fun o ho=>by
 unfold Pa.nG at h;split at h
 ·rename_i h0;rw[length_eq_zero_iff.1 h0] at ho;cases ho
 obtain⟨h',h1⟩:=E8 w 0 (wG h).2 o ho;exact EJ (wA h1).2.2.1
theorem afF{w:List aX}(h:iR w=0):∀o∈w,cn o.v=0:=fun o ho=>by
 obtain⟨h',h1⟩:=E8 w 0 (wG h).2 o ho;exact EJ (wA h1).2.2.1
structure CS (s:cU):Prop where
 fin:lB s
 row:∀v∈s.row,v.Ok
 wnm:∀o∈s.aj,o.nm.size≤maxLen
 wok:∀o∈s.aj,o.v.Ok
 Za:∀o∈s.bQ,o.nm.size≤maxLen
 Zb:∀o∈s.bQ,o.v.Ok
theorem Ll{s:cU}(hf:lB s)(dP:1≤s.kind)(Aw:s.kind≤6)(hc:gZ s=0):CS s:=by
 unfold gZ at hc;split at hc
 ·rename_i h1;exact absurd hc h1.2
 split at hc
 ·cases hc
 rename_i h1 h2;have hb:kN s (iM s)=true:=by
  cases h:kN s (iM s) with
  | true=>rfl
  | false=>exact absurd ⟨hc,h⟩ h2
 unfold kN at hb;simp only[Bool.and_eq_true,beq_iff_eq] at hb;have hr:∀v∈s.row,cn v=0:=by
  by_cases h3:s.kind=3
  ·unfold jM at hc;rw[if_neg w4,if_pos h3] at hc;unfold Pa.dO at hc;split at hc
   ·cases hc
   exact fun v O=>EJ (QM hc v O)
  have E:(s.row.length:Int)=((iM s).row.length:Int):=hb.2.2.1;have h0:(iM s).row=[]:=(by unfold iM;split;rfl;split;rfl;split;rfl;split;rfl;rfl)
  rw[h0] at E;have:s.row=[]:=length_eq_zero_iff.1 (by simpa using E);rw[this];intro v O;cases O
 have hw:∀o∈s.aj,cn o.v=0:=by
  by_cases h3:4≤s.kind
  ·unfold jM at hc;rw[if_neg w4,if_neg w4] at hc;by_cases h4:s.kind=4
   ·rw[if_pos h4] at hc;unfold Pa.oS at hc;split at hc
    ·cases hc
    split at hc
    ·cases hc
    split at hc
    ·cases hc
    split at hc
    ·rename_i I;exact absurd hc I
    split at hc
    ·rename_i I;exact absurd hc I
    rename_i I;exact JA (Classical.not_not.1 I)
   rw[if_neg h4] at hc;by_cases h5:s.kind=5
   ·rw[if_pos h5] at hc;split at hc
    ·split at hc
     ·exact JA hc
     rename_i I;exact absurd hc I
    rename_i I;exact absurd hc I
   rw[if_neg h5,if_pos w4] at hc;exact JA hc
  have E:(s.aj.length:Int)=((iM s).aj.length:Int):=hb.2.2.2.2.2.1;have h0:(iM s).aj=[]:=(by unfold iM;split;rfl;split;rfl;rw[if_neg w4,if_neg w4,if_neg w4];rfl)
  rw[h0] at E;have:s.aj=[]:=length_eq_zero_iff.1 (by simpa using E);rw[this];intro v O;cases O
 have hx:∀o∈s.bQ,cn o.v=0:=by
  by_cases h5:s.kind=5
  ·unfold jM at hc;rw[if_neg w4,if_neg w4,if_neg w4,if_pos h5] at hc;split at hc
   ·split at hc
    ·rename_i I;exact afF I
    rename_i I;exact absurd hc I
   rename_i I;exact absurd hc I
  have E:(s.bQ.length:Int)=((iM s).bQ.length:Int):=(by simpa using hb.2.2.2.2.2.2.2.2.2.2)
  have h0:(iM s).bQ=[]:=(by unfold iM;split;rfl;split;rfl;split;rfl;split;rfl;rfl)
  rw[h0] at E;have:s.bQ=[]:=length_eq_zero_iff.1 (by simpa using E);rw[this];intro v O;cases O
 exact⟨hf,fun v O=>Lm (hr v O) (hf.r v O).1 (hf.r v O).2,fun o ho=>(hf.w o ho).1,fun o ho=>Lm (hw o ho) (hf.w o ho).2.1 (hf.w o ho).2.2,fun o ho=>(hf.x o ho).1,fun o ho=>Lm (hx o ho) (hf.x o ho).2.1 (hf.x o ho).2.2⟩
theorem kR.st{s:cU}(h:kR s):CS s:=Ll h.1 h.2.1 h.2.2.1 h.2.2.2.2
structure pN (l:List aO) (a c:Nat):Prop where
 g:pM l (a*(1+c))
 r:∀t∈l,t.rows.length≤a
theorem ad9(s:cU)(h:cY s.table=0)(hc:s.ay=c8):eD (gQ s) 0:=⟨h,hc,Nat.zero_le _,adH,fun i h=>absurd h (Nat.not_lt_zero _),fun x hx=>by
 have:eo pU=[]:=adI;rw[show(gQ s).ix=pU from rfl,this] at hx;cases hx⟩
theorem pM.mono{l:List aO}{n m:Nat}(g:pM l n)(h:n≤m):pM l m:=⟨g.eJ,fun t ht=>(g.tb t ht).mono h,g.sz,g.HV⟩
theorem pM.put{n:Nat}(g:pM l n){i:Nat}(hi:i<l.length){t:aO}(ht:eD t n)(hn:t.nm=l[i].nm):pM (l.set i t) n:=by
 refine⟨by rw[length_set];exact g.eJ,fun x hx=>?_,fun x hx=>?_,?_⟩
 ·rcases mem_or_eq_of_mem_set hx with h|h
  ·exact g.tb x h
  rw[h];exact ht
 ·rcases mem_or_eq_of_mem_set hx with h|h
  ·exact g.sz x h
  rw[h,hn];exact g.sz _ (getElem_mem hi)
 have hm:(l.set i t).map aO.nm=l.map aO.nm:=by
  exact XZ
 have h1:∀l:List aO,(l.Pairwise fun a b=>a.nm.toList≠b.nm.toList)↔(l.map aO.nm).Pairwise fun a b=>a.toList≠b.toList:=fun l=>by rw[pairwise_map]
 rw[h1,hm,←h1];exact g.HV

theorem U9(t:aO)(row:List Vl):(e9 t row).1.nm=t.nm:=by
 unfold e9;by_cases h1:Pc.dO t.ay row≠0
 ·rw[if_pos h1]
 rw[if_neg h1];cases gE t.ix (cH row) (dc t.ix) with
 | true=>rw[if_pos rfl]
 | false =>
  rw[if_neg w7];by_cases h3:t.rows.length=40
  ·rw[if_pos h3]
  rw[if_neg h3]
theorem Ur:∀(l:List Int) (t:aO),(rA t l).nm=t.nm
 | [],_=>rfl
 | _::l,t=>(Ur l _).trans rfl
theorem Va(t:aO)(w:List aX):(mG t w).1.nm=t.nm:=by unfold mG;split;rfl;exact Ur _ _
theorem Us{c:Nat}:∀(l:List Int) (vs:List Vl) (t:aO),(mP c t l vs).nm=t.nm
 | [],_,t=>by unfold mP;rfl
 | _::_,[],t=>by unfold mP;rfl
 | _::l,_::vs,t=>(Us l vs _).trans rfl
theorem SI:∀(l:List Int) (vs:List Vl) (t:aO),(kE t l vs).1.nm=t.nm
 | [],_,t=>by unfold kE;rfl
 | _::_,[],t=>by unfold kE;rfl
 | _::l,_::vs,t=>by
  rw[kE];split
  ·rfl
  exact(SI l vs _).trans rfl
theorem Vb(t:aO)(s:cU):(ic t s).1.nm=t.nm:=by
 unfold ic;repeat' split
 all_goals first|rfl|exact Us _ _ _|exact(SI _ _ _).trans rfl
theorem ag3{nm:ByteArray}(h:aT l nm<0):∀t∈l,t.nm.toList≠nm.toList:=fun t ht e=>by
 unfold aT dU at h;split at h
 ·omega
 rename_i h1;have:=findIdx?_eq_none_iff.1 h1 t ht;rw[e] at this;simp at this
theorem JB(h:a+c≤30):a*(1+c)≤260:=by
 have key:∀a<31,∀c<31,a+c≤30→a*(1+c)≤260:=(by decide +kernel)
 exact key a w4 c w4 h
theorem VJ:a*(1+c)+1≤(a+1)*(1+c):=by rw[Nat.add_mul];omega
theorem VK:a*(1+c)+a=a*(1+(c+1)):=by rw[←Nat.add_assoc,Nat.mul_add a (1+c) 1,Nat.mul_one]
theorem pN.put{l:List aO}{a c a' E:Nat}(g:pN l a c)(h:a*(1+c)≤a'*(1+E))(ha:a≤a'){i:Nat}(hi:i<l.length){t:aO}(ht:eD t (a'*(1+E)))(hr:t.rows.length≤a')(hn:t.nm=l[i].nm):pN (l.set i t) a' E:=by
 refine⟨(g.g.mono h).put hi ht hn,fun x hx=>?_⟩;rcases mem_or_eq_of_mem_set hx with hx|hx
 ·exact Nat.le_trans (g.r x hx) ha
 rw[hx];exact hr
theorem KP{i:Nat}(hi:i<l.length){t:aO}(hn:t.nm=l[i].nm):(l.set i t).map aO.nm=l.map aO.nm:=by
 exact XZ
theorem E9(g:pN l a c)(O:a+c≤30){s:cU}(hs:CS s)(fB:¬s.kind=2)(oE:cY s.table=0)(I:s.kind=1→s.ay=c8)(h0:(gB l s).2.2=0) :
  ∃a' U,a'+U≤a+c+1∧pN (gB l s).1 a' U∧(s.kind=1→(gB l s).1=l++[gQ s]∧a'=a∧U=c)∧(¬s.kind=1→(gB l s).1.map aO.nm=l.map aO.nm):=by
 have hb:=JB O;have jh:=wF (fun t:aO=>t.nm.toList==s.table.toList) l;rw[show dU (fun t:aO=>t.nm.toList==s.table.toList) l=aT l s.table from rfl] at jh;unfold gB at h0 ⊢;by_cases dP:s.kind=1
 ·rw[if_pos dP] at h0 ⊢;dsimp only at h0;unfold ql at h0 ⊢;by_cases h1:0≤aT l s.table
  ·rw[if_pos h1] at h0;cases h0
  rw[if_neg h1] at h0 ⊢;by_cases h2:l.length=4
  ·rw[if_pos h2] at h0;cases h0
  rw[if_neg h2] at h0 ⊢;have Z:=ad9 s oE (I dP);have hf:=g.g.eJ;refine⟨a,c,by omega,⟨⟨by rw[length_append,length_singleton];omega,fun t ht=>?_,fun t ht=>?_,?_⟩,fun t ht=>?_⟩,fun _=>⟨rfl,rfl,rfl⟩,fun h=>absurd dP h⟩
  ·rcases mem_append.1 ht with ht|ht
   ·exact g.g.tb t ht
   rw[mem_singleton] at ht;rw[ht];exact Z.mono (Nat.zero_le _)
  ·rcases mem_append.1 ht with ht|ht
   ·exact g.g.sz t ht
   rw[mem_singleton] at ht;rw[ht];exact hs.fin.t
  ·refine pairwise_append.2 ⟨g.g.HV,pairwise_singleton _ _,fun x hx y hy=>?_⟩;rw[mem_singleton] at hy;subst hy;exact ag3 (show aT l s.table<0 by omega) x hx
  rcases mem_append.1 ht with ht|ht
  ·exact g.r t ht
  rw[mem_singleton] at ht;rw[ht];exact Nat.zero_le _
 rw[if_neg dP] at h0 ⊢;by_cases h1:aT l s.table<0
 ·rw[if_pos h1] at h0;cases h0
 rw[if_neg h1] at h0 ⊢;have E:(aT l s.table).toNat<l.length:=(by omega)
 have j9:l.getD (aT l s.table).toNat (gQ s)=l[(aT l s.table).toNat]:=(by rw[getD_eq_getElem?_getD,getElem?_eq_getElem E];rfl)
 rw[j9] at h0 ⊢;have gt:=g.g.tb _ (getElem_mem E);have gr:=g.r _ (getElem_mem E);by_cases h3:s.kind=3
 ·rw[if_pos h3] at h0 ⊢;obtain⟨q1,q2⟩:=ab9 gt w4 hs.row h0;exact⟨a+1,c,by omega,g.put (Nat.le_trans (Nat.le_succ _) VJ) (Nat.le_succ _) E (q1.mono VJ) w4 (U9 _ _),fun h=>absurd h dP,fun _=>KP E (U9 _ _)⟩
 rw[if_neg h3] at h0 ⊢;by_cases h4:s.kind=4
 ·rw[if_pos h4];exact⟨a,c,by omega,g,fun h=>absurd h dP,fun _=>rfl⟩
 rw[if_neg h4] at h0 ⊢;by_cases h5:s.kind=5
 ·rw[if_pos h5];obtain⟨q1,q2⟩:=acd gt s hs.Za hs.Zb hb;exact⟨a,c+1,by omega,g.put (by rw[←VK];omega) (Nat.le_refl _) E (q1.mono (by rw[←VK];omega)) w4 (Vb _ _),fun h=>absurd h dP,fun _=>KP E (Vb _ _)⟩
 rw[if_neg h5];obtain⟨q1,q2⟩:=ZC gt s.aj;exact⟨a,c,by omega,g.put (Nat.le_refl _) (Nat.le_refl _) E q1 w4 (Va _ _),fun h=>absurd h dP,fun _=>KP E (Va _ _)⟩

end Go.Proofs.YtdgichenhdikgaaGreatDoor.Ba

namespace Go.Proofs.YtdgichenhdikgaaGreatDoor.Pa
open List
open Go.Proofs.Tryz
open Go.RowKit V Pk Go.Proofs.YtdgichenhdikgaaGreatDoor.Vl Go.Proofs.YtdgichenhdikgaaGreatDoor.Nm Go.Proofs.YtdgichenhdikgaaGreatDoor.Pc
section
variable {H:Type} {enc:TypeId×Value→H} {P:Program} {w:World} {base:Nat} {sp:Nat→Bool} {held:Bool}
theorem aaO {fuel:Nat} {t:TypeId} {f0 f1 f2 f3 f4 f5 f6 f7:Field} {E I O U Z α5 α6 α7:Type} {g0:E→List D} {k0:E→Prop} {g1:I→List D} {k1:I→Prop} {g2:O→List D} {k2:O→Prop} {g3:U→List D} {k3:U→Prop} {g4:Z→List D} {k4:Z→Prop} {g5:α5→List D} {k5:α5→Prop} {g6:α6→List D} {k6:α6→Prop} {g7:α7→List D} {k7:α7→Prop} {n0 n1 n2 n3 n4 n5 n6 n7:Nat}
  (ht:P.underlying t=some (.struct #[f0,f1,f2,f3,f4,f5,f6,f7])) (hc:P.cellsOf t=n0+n1+n2+n3+n4+n5+n6+n7) (o0:f0.offset=0) (c0:P.cellsOf f0.type=n0) (o1:f1.offset=n0) (c1:P.cellsOf f1.type=n1) (o2:f2.offset=n0+n1) (c2:P.cellsOf f2.type=n2) (o3:f3.offset=n0+n1+n2) (c3:P.cellsOf f3.type=n3) (o4:f4.offset=n0+n1+n2+n3) (c4:P.cellsOf f4.type=n4) (o5:f5.offset=n0+n1+n2+n3+n4) (c5:P.cellsOf f5.type=n5) (o6:f6.offset=n0+n1+n2+n3+n4+n5) (c6:P.cellsOf f6.type=n6) (o7:f7.offset=n0+n1+n2+n3+n4+n5+n6) (c7:P.cellsOf f7.type=n7)
  (r0:∀n,n+1=fuel→mu n enc P w base sp held f0.type g0 k0) (r1:∀n,n+1=fuel→mu n enc P w base sp held f1.type g1 k1) (r2:∀n,n+1=fuel→mu n enc P w base sp held f2.type g2 k2) (r3:∀n,n+1=fuel→mu n enc P w base sp held f3.type g3 k3) (r4:∀n,n+1=fuel→mu n enc P w base sp held f4.type g4 k4) (r5:∀n,n+1=fuel→mu n enc P w base sp held f5.type g5 k5) (r6:∀n,n+1=fuel→mu n enc P w base sp held f6.type g6 k6) (r7:∀n,n+1=fuel→mu n enc P w base sp held f7.type g7 k7) :
  mu fuel enc P w base sp held t (fun a:E × I × O × U × Z × α5 × α6 × α7=>(g0 (a.1)++(g1 (a.2.1)++(g2 (a.2.2.1)++(g3 (a.2.2.2.1)++(g4 (a.2.2.2.2.1)++(g5 (a.2.2.2.2.2.1)++(g6 (a.2.2.2.2.2.2.1)++g7 (a.2.2.2.2.2.2.2))))))))) (fun a=>k0 (a.1)∧k1 (a.2.1)∧k2 (a.2.2.1)∧k3 (a.2.2.2.1)∧k4 (a.2.2.2.2.1)∧k5 (a.2.2.2.2.2.1)∧k6 (a.2.2.2.2.2.2.1)∧k7 (a.2.2.2.2.2.2.2)):=fun cs x h=>by
 obtain⟨xs,n,hn,_,hl,fZ,hf⟩:=DataW.trod_struct ht h;have e0:=hf 0 f0 rfl;have e1:=hf 1 f1 rfl;have e2:=hf 2 f2 rfl;have e3:=hf 3 f3 rfl;have e4:=hf 4 f4 rfl;have e5:=hf 5 f5 rfl;have e6:=hf 6 f6 rfl;have e7:=hf 7 f7 rfl;rw[o0,c0,drop_zero] at e0;rw[o1,c1] at e1;rw[o2,c2] at e2;rw[o3,c3] at e3;rw[o4,c4] at e4;rw[o5,c5] at e5;rw[o6,c6] at e6;rw[o7,c7] at e7;have hx8:xs.length=8:=fZ;rw[getElem?_eq_getElem w4] at e0 e1 e2 e3 e4 e5 e6 e7;obtain⟨a0,p0,q0⟩:=r0 n hn.symm _ _ e0;obtain⟨a1,p1,q1⟩:=r1 n hn.symm _ _ e1;obtain⟨a2,p2,q2⟩:=r2 n hn.symm _ _ e2;obtain⟨a3,p3,q3⟩:=r3 n hn.symm _ _ e3;obtain⟨a4,p4,q4⟩:=r4 n hn.symm _ _ e4;obtain⟨a5,p5,q5⟩:=r5 n hn.symm _ _ e5;obtain⟨a6,p6,q6⟩:=r6 n hn.symm _ _ e6;obtain⟨a7,p7,q7⟩:=r7 n hn.symm _ _ e7;refine⟨(a0,a1,a2,a3,a4,a5,a6,a7),?_,q0,q1,q2,q3,q4,q5,q6,q7⟩;have dH:cs=(cs.take n0++((cs.drop (n0)).take n1++((cs.drop (n0+n1)).take n2++((cs.drop (n0+n1+n2)).take n3++((cs.drop (n0+n1+n2+n3)).take n4++((cs.drop (n0+n1+n2+n3+n4)).take n5++((cs.drop (n0+n1+n2+n3+n4+n5)).take n6++((cs.drop (n0+n1+n2+n3+n4+n5+n6)).take n7)))))))):=by
  rw[take_of_length_le (l:=drop (n0+n1+n2+n3+n4+n5+n6) cs) (by rw[length_drop];omega)];have d2:cs.drop (n0+n1)=(cs.drop (n0)).drop n1:=(by rw[drop_drop])
  have d3:cs.drop (n0+n1+n2)=(cs.drop (n0+n1)).drop n2:=(by rw[drop_drop])
  have d4:cs.drop (n0+n1+n2+n3)=(cs.drop (n0+n1+n2)).drop n3:=(by rw[drop_drop])
  have d5:cs.drop (n0+n1+n2+n3+n4)=(cs.drop (n0+n1+n2+n3)).drop n4:=(by rw[drop_drop])
  have d6:cs.drop (n0+n1+n2+n3+n4+n5)=(cs.drop (n0+n1+n2+n3+n4)).drop n5:=(by rw[drop_drop])
  have d7:cs.drop (n0+n1+n2+n3+n4+n5+n6)=(cs.drop (n0+n1+n2+n3+n4+n5)).drop n6:=(by rw[drop_drop])
  rw[d7,take_append_drop,d6,take_append_drop,d5,take_append_drop,d4,take_append_drop,d3,take_append_drop,d2,take_append_drop,take_append_drop]
 rw[dH];exact(p0.append (p1.append (p2.append (p3.append (p4.append (p5.append (p6.append p7)))))))
end


structure Ph where
 k:Int
 t:Int
 a:Int
 b:Int
 row:List Vl
 bQ:Tw
 wh:Tw
 bare:Bool
def Ph.cs(p:Ph):List D:=[ae p.k]++([ae p.t]++([ae p.a]++([ae p.b]++([av 3 cV p.row]++(p.bQ.cs++(p.wh.cs++[cj p.bare]))))))
structure Ph.Ok (p:Ph):Prop where
 k:-9223372036854775808≤p.k∧p.k≤9223372036854775807
 t:-9223372036854775808≤p.t∧p.t≤9223372036854775807
 a:-9223372036854775808≤p.a∧p.a≤9223372036854775807
 b:-9223372036854775808≤p.b∧p.b≤9223372036854775807
 row:∀v∈p.row,v.s.size≤maxLen
 bQ:p.bQ.Ok
 wh:p.wh.Ok
theorem afG{H:Type}{enc:TypeId×Value→H}{w:World}{base:Nat}{sp:Nat→Bool}{held:Bool}:o9 enc Tryz.prog w base sp held 114 cV (fun v:Vl=>v.s.size≤maxLen) :=
 (Z7 (n0:=1) (n1:=1) (n2:=1) underlying114 aA rfl rfl rfl aA aA aA (uY underlying3) (uY underlying3) (PT underlying9)).map (fun a=>(⟨a.1,a.2.1,a.2.2⟩:Vl)) (fun _=>rfl) (fun _ h=>h.2.2)
theorem aaP{H:Type}{enc:TypeId×Value→H}{w:World}{base:Nat}{sp:Nat→Bool}{held:Bool}(n:Nat):mu n enc Tryz.prog w base sp held 77 Ph.cs Ph.Ok:=fun cs x h=>by
 obtain⟨⟨a0,a1,a2,a3,a4,a5,a6,a7⟩,h1,q0,q1,q2,q3,q4,E,I,_⟩:=aaO (fuel:=n) (n0:=1) (n1:=1) (n2:=1) (n3:=1) (n4:=1) (n5:=4) (n6:=4) (n7:=1) underlying77 aA rfl aA rfl aA rfl aA rfl aA rfl aA rfl aA rfl aA rfl aA
  (fun q _=>(uY underlying3).at q) (fun q _=>(uY underlying3).at q) (fun q _=>(uY underlying3).at q) (fun q _=>(uY underlying3).at q) (fun q _=>PX (sz:=3) underlying75 aA w7 (fun z _=>afG.at z) fi) (fun q _=>RA q) (fun q _=>RA q) (fun q _=>(aem underlying4).at q) cs x h
 exact⟨⟨a0,a1,a2,a3,a4,a5,a6,a7⟩,h1,⟨q0,q1,q2,q3,q4.1,E,I⟩⟩
end Go.Proofs.YtdgichenhdikgaaGreatDoor.Pa

namespace Go.Proofs.YtdgichenhdikgaaGreatDoor.Ba
open List
open Go.Proofs.Tryz
open Go.RowKit V Pk Tr Vl Go.Proofs.YtdgichenhdikgaaGreatDoor.Nm Pc Cd Ex Tw
open Pa (cU bX lB iw kR gZ jM kN iM gX eE Ph)
variable {G:List (Nat×List Value)} {m:Int}
variable {l:List aO} {x:ByteArray}
theorem VC.M9{P:Program}{f:FuncId}{args args':List D}{S:List ah}{post:D→List ah→Prop}(h:VC P G f args S post)(k:qd args' args):VC P G f args' S post:=by
 obtain⟨h1,h2⟩:=k.spec;exact h.args h1.symm fun w L i q1 q2 v hr=>h2 i q2 q1 _ _ _ hr
theorem Ux(hm:(3,marksC)∈G)(hw:(1,wordsC)∈G)(ht:(0,typesC)∈G)(hG:(2,[Value.int .i64 m])∈G)(p:Ph)(h:p.Ok):VC Tryz.prog G 23 [.agg p.cs] [] (fun r S'=>∃s,r = .agg (bX s)∧S'=[]∧kR s∧s.kind=1+dS p.k 6):=by
 obtain⟨k,t,a,b,row,⟨x1,O,U,E⟩,⟨y1,y2,y3,I⟩,bare⟩:=p;exact Pa.ZD k t a b row x1 O U E y1 y2 y3 I bare h.k.1 h.k.2 h.t.1 h.t.2 h.a.1 h.a.2 h.b.1 h.b.2 h.row h.bQ h.wh
theorem Ln(hm:(3,marksC)∈G)(hw:(1,wordsC)∈G)(ht:(0,typesC)∈G)(hG:(2,[Value.int .i64 m])∈G){a c:Nat}(g:pN l a c)(E:a+c≤30){s:cU}(hs:CS s)(fB:¬s.kind=2)(oE:s.kind≤6→cY s.table=0)(Aw:s.kind≤6)(I:s.kind=1→s.ay=c8):VP Tryz.prog G 11 [.agg [av 5 c9 (l)],.agg (bX s)] (AZ (nr l s)):=by
 refine ag0 hm hw ht hG l (JB E) g.g s hs.fin fB hs.row hs.wnm hs.wok hs.Za hs.Zb fun h0=>?_;obtain⟨a',c',_,g',_⟩:=E9 g E hs fB (oE Aw) I h0;exact⟨Nat.le_trans g'.g.eJ w7,fun t ht=>(g'.g.tb t ht).small⟩
theorem Ut{s:cU}(h:(nr l s).2.2=0):(gB l s).2.2=0∧(nr l s).1=(gB l s).1:=by
 unfold nr at h ⊢;by_cases h1:iw s≠0
 ·rw[if_pos h1] at h;exact absurd h h1
 rw[if_neg h1] at h ⊢;by_cases h2:7≤s.kind
 ·rw[if_pos h2] at h;cases h
 rw[if_neg h2] at h ⊢;by_cases h3:(gB l s).2.2≠0
 ·rw[if_pos h3] at h;exact absurd h h3
 rw[if_neg h3];exact⟨Classical.not_not.1 h3,rfl⟩
def jZ(x:ByteArray):cU:={gX with kind:=1,table:=x,ay:=c8}
theorem aea:∀x∈eE,iw (jZ x)=0:=by decide +kernel
theorem Uu(hx:x∈eE):CS (jZ x):=kR.st (Pa.rC.vo (Pa.PC (Pa.Gj x hx)))
def W5:List aO:=eE.map fun x=>gQ (jZ x)
theorem Vc:∀i (h:i<eE.length),nr ((eE.take i).map fun x=>gQ (jZ x)) (jZ eE[i])=((eE.take (i+1)).map (fun x=>gQ (jZ x)),(([],0),0)):=by
 intro i h;have hx:eE[i]∈eE:=getElem_mem h;unfold nr;rw[if_neg (by rw[aea _ hx];decide),if_neg (by show ¬(7:Int)≤1;decide)];have h1:gB ((eE.take i).map fun x=>gQ (jZ x)) (jZ eE[i])=((eE.take (i+1)).map (fun x=>gQ (jZ x)),(([],0),0)):=by
  have h2:i=0∨i=1:=(by have:eE.length=2:=rfl;omega)
  rcases h2 with rfl|rfl
  ·exact(show gB ((eE.take 0).map fun x=>gQ (jZ x)) (jZ (eE[0]'w7))=((eE.take 1).map (fun x=>gQ (jZ x)),(([],0),0)) by kernel_rfl)
  exact(show gB ((eE.take 1).map fun x=>gQ (jZ x)) (jZ (eE[1]'w7))=((eE.take 2).map (fun x=>gQ (jZ x)),(([],0),0)) by kernel_rfl)
 rw[h1];rfl
theorem y8(p:Ph):p.cs.length=14:=by
 obtain⟨k,t,a,b,row,⟨x1,O,U,E⟩,⟨y1,y2,y3,I⟩,bare⟩:=p;rfl
theorem aci:pN [] 0 0:=⟨⟨by decide,(fun t h=>by cases h),(fun t h=>by cases h),Pairwise.nil⟩,(fun t h=>by cases h)⟩
theorem Uy:(Nm.Tw.mk 0 0 ⟨#[]⟩ []).Ok:=by constructor<;>first|decide|(simp;done)|trivial
theorem Ko{s:cU}(h:kR s):cY s.table=0:=by
 have hc:=h.2.2.2.2;have h6:=h.2.2.1;unfold gZ at hc;split at hc
 ·rename_i h1;exact absurd hc h1.2
 rename_i h1;exact Classical.not_not.1 fun e=>h1 ⟨by omega,e⟩
theorem W6:∀i,i≤2→pN ((eE.take i).map fun x=>gQ (jZ x)) 0 0:=by
 intro i;induction i with
 | zero=>intro _;exact aci
 | succ i ih =>
  intro hi;have aa:i<eE.length:=(by have:eE.length=2:=rfl;omega)
  have hr:=Vc i aa;have h0:(nr ((eE.take i).map fun x=>gQ (jZ x)) (jZ eE[i])).2.2=0:=(by rw[hr])
  obtain⟨h1,h2⟩:=Ut h0;obtain⟨a',c',_,g',h4,_⟩:=E9 (ih w4) w7 (Uu (getElem_mem aa)) (show ¬(1:Int)=2 by decide) (Pa.Gj _ (getElem_mem aa)) (fun _=>rfl) h1;obtain⟨_,rfl,rfl⟩:=h4 rfl;rw[←h2,hr] at g';exact g'
theorem afH(hm:(3,marksC)∈G)(hw:(1,wordsC)∈G)(ht:(0,typesC)∈G)(hG:(2,[Value.int .i64 m])∈G)(ps:List Ph)(ig:∀p∈ps,p.Ok)(fN:ps.length≤maxLen):VC Tryz.prog G 9 [.list 14 (ps.flatMap Ph.cs) ps.length] [] (fun r S=>∃l a c,r = .agg [av 5 c9 (l)]∧S=[]∧pN l a c∧a+c≤30∧l.map aO.nm=eE):=by
 refine VC.body func9 rfl ntmps9 aR fun X0 w0 aZ=>?_;have dm:=ec;have oV:eE.length=2:=rfl;skip;refine bY ?_;refine OD.alloc (ds:=[_]) ap rfl rfl zeroValue25 rfl (fun b2=>?_);refine an 88 [0,2] ?_;refine bY ?_;refine OD.alloc (ds:=[_]) ap rfl rfl zeroValue25 rfl (fun b3=>?_);refine OD.cells (k:=0) (cs':=[.list 5 [] 0]) rfl ⟨fQ,trivial⟩ rfl ?_;refine an 88 [0,2,3] ?_;refine af [0,2,3,4] ?_;refine eA [0,2,3] (fun aU _ (i:Nat) aH=>(i≤2)∧aH=(⟨88,(4,ae (i:Nat))::aU,[⟨b3,25,1,[.list 5 ((((eE.take i).map fun x=>gQ (jZ x))).flatMap c9) (((eE.take i).map fun x=>gQ (jZ x))).length]⟩,⟨b2,25,1,[cf]⟩]⟩:St)) (fun (i:Nat)=>2-i) 0 ⟨(Nat.zero_le _),rfl⟩ ?_;rintro i _ ⟨hi,rfl⟩;refine af [0,2,3,4,14] ?_;refine au ?_ ?_<;>intro aM bD
 ·have aa:i<eE.length:=(by omega)
  have O:=VC.M9 (Ln hm hw ht hG (l:=((eE.take i).map fun x=>gQ (jZ x))) (a:=0) (c:=0) (s:=jZ (eE[i]'aa)) (W6 i w4) w7 (Uu (getElem_mem aa)) (show ¬(1:Int)=2 by decide) (fun _=>Pa.Gj _ (getElem_mem aa)) (show(1:Int)≤6 by decide) (fun _=>rfl)) (args':=[.agg [.list 5 ((((eE.take i).map fun x=>gQ (jZ x))).flatMap c9) (((eE.take i).map fun x=>gQ (jZ x))).length],.agg [ae 1,bw (eE[i]'aa),av 2 cC c8,cf,cf,cj false,cf,gb,cj false,ae (-1),gb,cf]]) ⟨ev,FE ⟨ev,ev,ev,fQ,fQ,ev,fQ,ev,ev,ev,ev,fQ,trivial⟩,trivial⟩;rw[Vc i aa] at O;unfold AZ at O;refine CD.skip ?_;refine CD.seq ?_;refine CD.block ?_;refine CD.seq ?_;refine dv_ 14 13 12 [0,2,3,4,5,6,26,27,28] ?_;refine ny 1 ?_;refine NG (g:=cS) (eE) ?_;refine dh (Qf) ?_;refine dh (O) ?_;refine ny 4 ?_;refine rJ ?_;refine rJ ?_;refine jW ?_;refine⟨rfl,rfl,fun b6 b5=>?_⟩;refine aP 1 [_] sizeOf25 ?_;refine aP 0 [_,_] sizeOf36 ?_;refine an 88 [0,2,3,4,5,7] ?_;refine af [0,2,3,4,5,30] ?_;refine au ?_ ?_<;>intro aY cy
  ·refine dM 1 ?_;refine aP 2 [_] sizeOf25 ?_;refine an 88 [0,2,3,4] ?_;refine cm [0,2,3,4] ?_;refine⟨(i+1),_,cD,aK,w4,rfl⟩
  exact absurd aY (by simp at aY)
 have mb:i=2:=(by omega)
 subst mb;have htw:((eE.take 2).map fun x=>gQ (jZ x))=W5:=rfl;refine af [0,2,3,8] ?_;refine eA [0,2,3] (fun aU _ (U:Nat×List aO×Nat×Nat) aH=>match U with|(k,l,a,c)=>(k≤30)∧(k≤ps.length)∧(a+c≤k)∧(pN l a c)∧((l).map aO.nm=eE)∧aH=(⟨88,(8,ae (k:Nat))::aU,[⟨b3,25,1,[av 5 c9 (l)]⟩,⟨b2,25,1,[cf]⟩]⟩:St)) (fun (U:Nat×List aO×Nat×Nat)=>match U with|(k,l,a,c)=>30-k) (0,W5,0,0) ⟨(Nat.zero_le _),(Nat.zero_le _),(Nat.le_refl _),(W6 2 (Nat.le_refl _)),rfl,rfl⟩ ?_;rintro⟨k,l,a,c⟩ _ ⟨l7,hkp,OJ,gn,I,rfl⟩;refine aD 5 ?_;refine bV 36 (fun alo ait=>?_) (fun alo ait=>?_)
 ·refine bg [0,2,3,8,39] ?_;refine au ?_ ?_<;>intro bZ cN
  ·have aa:k<ps.length:=(by first|omega|(simp at *;omega))
   have aqz:k<30:=(by first|omega|(simp at *;omega))
   have rI:=ig (ps[k]'aa) (getElem_mem aa);refine aD 3 ?_;refine bN (cW (mk:=Op.load 77) rfl ot (j5 (g:=Ph.cs) (ls:=ps) (i:=k) y8 isAgg77 sizeOf77 aa)) ?_;refine OD.call ap rfl rfl rfl call23 (Ux hm hw ht hG (ps[k]'aa) rI) ⟨ot,trivial⟩ (eO _) ?_;rintro _ _ ⟨s,rfl,rfl,Z,HQ⟩;refine OD.alloc (ds:=[_,_,_,_,_,_,_,_,_,_,_,_]) ap rfl rfl zeroValue32 rfl (fun b9=>?_);refine aP 0 [_,_,_,_,_,_,_,_,_,_,_,_] sizeOf32 ?_;refine an 88 [0,2,3,8,9] ?_;refine jB [0,2,3,8,9] (fun aU _ aH=>∃(s:cU),(kR s)∧(¬s.kind=1∧¬s.kind=2)∧aH=(⟨88,aU,[⟨b9,32,12,bX s⟩,⟨b3,25,1,[av 5 c9 (l)]⟩,⟨b2,25,1,[cf]⟩]⟩:St)) ?_ ?_
   ·refine aD 4 ?_;refine bV 50 (fun W7 aiu=>?_) (fun W7 aiu=>?_)
    ·refine bg [0,2,3,8,9,54] ?_;refine eI ?_;exact Xh
    refine bg [0,2,3,8,9,54] ?_;refine au ?_ ?_<;>intro cX en
    ·exact Xh
    have E:¬s.kind=1∧¬s.kind=2:=(by first|exact⟨by simpa using W7,by simpa using cX⟩|(simp at *;omega))
    refine CD.skip ?_;refine⟨_,aK,s,Z,E,rfl⟩
   rintro _ ⟨s,Z,E,rfl⟩;refine CD.seq ?_;have AY:=kR.st Z;have oE:=Ko Z;have O:=Ln hm hw ht hG gn w4 AY E.2 (fun _=>oE) Z.2.2.1 (fun h=>absurd h E.1);unfold AZ at O;refine dM 2 ?_;refine dQ call11 (O) ?_;refine aE 4 ?_;refine OD.alloc (ds:=[_]) ap rfl rfl zeroValue25 rfl (fun k8=>?_);refine OD.alloc (ds:=[_,_]) ap rfl rfl zeroValue36 rfl (fun jN=>?_);refine aP 1 [_] sizeOf25 ?_;refine aP 0 [_,_] sizeOf36 ?_;refine an 88 [0,2,3,8,10,12] ?_;refine af [0,2,3,8,10,85] ?_;refine au ?_ ?_<;>intro er fq
   ·have h0:(nr l s).2.2=0:=(by simpa using er)
    obtain⟨h1,h2⟩:=Ut h0;obtain⟨a',c',aqA,gn1,_,gv⟩:=E9 gn w4 AY E.2 oE (fun h=>absurd h E.1) h1;have Eh:pN (nr l s).1 a' c':=(by rw[h2];exact gn1)
    have aiv:(nr l s).1.map aO.nm=eE:=(by rw[h2,gv E.1];exact I)
    refine dM 1 ?_;refine aP 3 [_] sizeOf25 ?_;refine an 88 [0,2,3,8] ?_;refine cm [0,2,3,8] ?_;refine⟨((k+1),(nr l s).1,a',c'),_,cD,aK,w4,w4,w4,Eh,aiv,rfl⟩
   refine cm [0,2,3,8] ?_;refine⟨((k+1),l,a,c),_,cD,aK,w4,w4,w4,gn,I,rfl⟩
  refine aD 1 ?_;refine aP 1 [_] sizeOf25 ?_;refine an 88 [2] ?_;refine aI [] ?_;exact⟨l,a,c,rfl,rfl,gn,by omega,I⟩
 refine bg [0,2,3,8,39] ?_;refine fM ?_;refine aD 1 ?_;refine aP 1 [_] sizeOf25 ?_;refine an 88 [2] ?_;refine aI [] ?_;exact⟨l,a,c,rfl,rfl,gn,by omega,I⟩

theorem aeb(a:Int)(a1:-9223372036854775808≤a)(a2:a≤9223372036854775807)(b:Int)(b1:-9223372036854775808≤b)(b2:b≤9223372036854775807)(s:ByteArray)(hs:s.size≤maxLen)(c:Int)(I:-9223372036854775808≤c)(O:c≤9223372036854775807):VC Tryz.prog G 13 [ae a,ae b,bw s,ae c] [] (fun r S=>∃b0,r=aN (some ⟨b0,0,none⟩) 4 4∧S=[⟨b0,41,12,(lC a b s c).flatMap cV⟩]):=by
 refine VC.body func13 rfl ntmps13 aR fun X0 w0 aZ=>?_;refine af [0,1,2,3] ?_;refine aD 1 ?_;refine dQ call21 (jP G a 12 a1 a2 w7) ?_;refine aE 2 ?_;refine dQ call21 (jP G b 9 b1 b2 w7) ?_;refine aE 2 ?_;refine dQ call16 (BK s 2 hs) ?_;refine dQ call17 (Nm.qs (lT s 2) (by rw[EF];exact Nat.le_trans (Nat.min_le_left _ _) hs)) ?_;refine aE 2 ?_;refine dQ call28 (Pc.qU c I O) ?_;refine ei (bW 0 [_,_,_,_]) [.int .i64 0,.int .i64 0,.string ⟨#[]⟩,.int .i64 0,.int .i64 0,.string ⟨#[]⟩,.int .i64 0,.int .i64 0,.string ⟨#[]⟩,.int .i64 0,.int .i64 0,.string ⟨#[]⟩] [_,_,_,_,_,_,_,_,_,_,_,_] zeroValue41 runUnderlying28 sizeOf41 (fun E=>?_);refine an 22 [8] ?_;refine aI [_] ?_;exact⟨E,rfl,rfl⟩
def nD(x:ByteArray)(r:List Vl):cU:={gX with kind:=3,table:=x,row:=r}
theorem CT{r:List Vl}:¬(nD x r).kind=1:=(by decide:¬(3:Int)=1)
theorem alp{r:List Vl}:¬7≤(nD x r).kind:=(by decide:¬(7:Int)≤3)
theorem xL{r:List Vl}:(nD x r).kind=3:=rfl
theorem My(h:l.map aO.nm=eE):aT l ⟨#[116]⟩=0:=by
 match l,h with
 | a::r,h =>
  rw[map_cons] at h;have ha:a.nm=⟨#[116]⟩:=(by injection h)
  unfold aT;rw[uL (ls:=a::r) (k:=0) bf (fun x hx=>by cases hx) (by show(a.nm.toList==_)=true;rw[ha];exact BEq.rfl)];rfl

end Go.Proofs.YtdgichenhdikgaaGreatDoor.Ba
namespace Go.Proofs.YtdgichenhdikgaaGreatDoor.Ba
open List
open Go.Proofs.Tryz
open Go.RowKit V Pk Tr Vl Go.Proofs.YtdgichenhdikgaaGreatDoor.Nm Pc Cd Ex Tw
open Pa (Ph)
variable {m:Int}
def A4(m:Int):List (Nat×List Value):=[(3,marksC),(1,wordsC),(0,typesC),(2,[Value.int .i64 m])]
theorem tm1:(3,marksC)∈A4 m:=mem_cons_self
theorem tm2:(1,wordsC)∈A4 m:=mem_cons_of_mem _ mem_cons_self
theorem tm3:(0,typesC)∈A4 m:=mem_cons_of_mem _ (mem_cons_of_mem _ mem_cons_self)
theorem tm4:(2,[Value.int .i64 m])∈A4 m:=mem_cons_of_mem _ (mem_cons_of_mem _ (mem_cons_of_mem _ mem_cons_self))
theorem alq{w:World}(h1:MarksTab w)(h2:WordsTab w)(h3:TypesTab w)(h4:Tab.mI w 2 [Value.int .i64 m]):∀g∈A4 m,g.2≠[]∧Cr w g.1 g.2:=fun g hg=>by
 rcases mem_cons.1 hg with rfl|hg
 ·exact⟨by decide,.of h1 rfl⟩
 rcases mem_cons.1 hg with rfl|hg
 ·exact⟨by decide,.of h2 rfl⟩
 rcases mem_cons.1 hg with rfl|hg
 ·exact⟨by decide,.of h3 rfl⟩
 rw[mem_singleton] at hg;subst hg;exact⟨by simp,.of h4 rfl⟩
theorem rd_phrases{H:Type}{enc:TypeId×Value→H}{w:World}{base E:Nat}{sp:Nat→Bool}{held:Bool}{v:Value}{d:DataW H}{p:List MemPlace}(hval:Value.okWide Tryz.prog w .any E 22 v)(h:DataW.Trod enc Tryz.prog w base sp held 22 v d p) :
  ∃l:List Ph,cq w (fun _=>False) (.list 14 (l.flatMap Ph.cs) l.length) v∧((∀x∈l,x.Ok)∧l.length≤maxLen)∧True:=by
 obtain⟨l,h1,h2,h3⟩:=acz (g:=Ph.cs) (ok:=Ph.Ok) (sz:=14) underlying22 aA w7 (fun n cs x hn=>Pa.aaP n cs x hn) y8 hval h;exact⟨l,h1,⟨h2,h3⟩,trivial⟩

end Go.Proofs.YtdgichenhdikgaaGreatDoor.Ba
namespace Go.Proofs.YtdgichenhdikgaaGreatDoor.Ba
open List
open Go.Proofs.Tryz
open Go.RowKit V Pk Tr Vl Go.Proofs.YtdgichenhdikgaaGreatDoor.Nm Pc Cd Ex Tw
open Pa (cU bX lB iw kR gZ jM kN iM gX eE Ph)
variable {G:List (Nat×List Value)} {m:Int}
variable {t:aO} {n i:Nat}
theorem Uv{v:Vl}(h:cn v=0)(hk:v.k=2):fY [v]=(eX [v],0):=by
 unfold fY;rw[if_neg bf,Fj (fun x hx=>by rw[mem_singleton] at hx;rw[hx];exact h),if_neg bf,if_neg];show ¬(eX [v]).length>100;unfold eX Cd.pO sG;simp[hk,lX]
theorem acj(g:eD t n){i:Int}(h:gz t i):∃(v:Vl) (r:List Vl),rowAt t i=v::r∧r.length=3∧v.k=2∧v.s.size=0∧v.Ok∧cn v=0∧cH (rowAt t i)=eX [v]:=by
 obtain⟨h4,aQ⟩:=gz.ok g h;obtain⟨h0,h1,h2⟩:=h;have hf:=(g.row _ h1 h2).1;rw[←iX h1] at hf;match hr:rowAt t i,h4 with
 | v::r,h4 =>
  rw[hr] at hf aQ;obtain⟨hv,hc⟩:=aQ v mem_cons_self;have hk:v.k=2:=by
   unfold Pc.dO at hf;rw[if_neg Ar,if_neg xS] at hf;unfold c8 Pc.nN at hf;split at hf
   ·rename_i h1;exact absurd hf h1
   rename_i h1;have h1:=Decidable.not_not.1 h1;unfold Pc.jL at h1;rw[if_neg (by rw[hc];decide)] at h1;split at h1
   ·cases h1
   rename_i h3;exact Decidable.not_not.1 fun e=>h3 ⟨e,.inl rfl⟩
  refine⟨v,r,rfl,by simpa using h4,hk,?_,hv,hc,?_⟩
  ·unfold cn at hc;rw[if_neg w4,if_neg w4,if_pos hk] at hc;split at hc
   ·cases hc
   rename_i h3;exact Decidable.not_not.1 h3
  unfold cH;rw[show(v::r).take 1=[v] from rfl,Uv hc hk]
theorem int_lt{v w:Vl}(E:cn v=0)(I:v.Ok)(U:v.k=2)(sv:v.s.size=0)(hw:cn w=0)(O:w.Ok)(Z:w.k=2)(sw:w.s.size=0)(h:bB (eX [v]) (eX [w])):v.n<w.n:=by
 rcases Int.lt_trichotomy v.n w.n with q|q|q
 ·exact q
 ·have hs:v.s=w.s:=by
   exact XN
  have:v=w:=(by cases v;cases w;simp_all)
  rw[this] at h;exact absurd h (iZ _)
 have hl:fu w v<0:=(Ki w v).2 (.inr ⟨by omega,.inl q⟩);have h3:=Ty hw O E I [] [] w4;rw[append_nil,append_nil] at h3;have h4:bB (eX [w]) (eX [v]):=by
  unfold bB eX;rw[flatMap_singleton,flatMap_singleton,h3];exact hl
 exact absurd (lP h h4) (iZ _)
noncomputable def kS(t:aO):List (List Vl):=(eo t.ix).map fun x=>rowAt t x.2
theorem FT{l:List aO}{nm:ByteArray}(h:aT l nm=(i:Int))(hi:i<l.length):vf l nm=(kS l[i],0):=by
 unfold vf;rw[h,if_neg w4,Int.toNat_natCast,getD_eq_getElem?_getD,getElem?_eq_getElem hi];rfl
theorem afI(g:eD t n)(h:i<(kS t).length):∃h':i<(eo t.ix).length,(kS t)[i]=rowAt t (eo t.ix)[i].2∧gz t (eo t.ix)[i].2∧(eo t.ix)[i].1=cH (rowAt t (eo t.ix)[i].2):=by
 have h':i<(eo t.ix).length:=(by unfold kS at h;rwa [length_map] at h)
 obtain⟨h0,h1,h2,h3⟩:=g.iG _ (getElem_mem h');exact⟨h',by show((eo t.ix).map fun x=>rowAt t x.2)[i]=_;exact getElem_map _,⟨h0,h1,h2⟩,by rw[iX h1];exact h3⟩
theorem PG(g:eD t n)(h:i<(kS t).length):∃(v:Vl) (r:List Vl),(kS t)[i]=v::r∧r.length=3∧v.k=2∧v.s.size=0∧v.Ok∧cn v=0:=by
 obtain⟨h',e,kj,_⟩:=afI g h;obtain⟨v,r,h1,h2,h3,h4,h5,h6,_⟩:=acj g kj;exact⟨v,r,e.trans h1,h2,h3,h4,h5,h6⟩
theorem By(g:eD t n):(kS t).length≤16000:=by
 have:=Sk g.ix [] [];rw[Js] at this;unfold kS;rwa [length_map]
theorem alr{l:List aO}(h:l.map aO.nm=eE):l.length=2:=by have:=congrArg length h;rw[length_map] at this;rw[this];decide

end Go.Proofs.YtdgichenhdikgaaGreatDoor.Ba
namespace Go.Proofs.YtdgichenhdikgaaGreatDoor.Ba
open List
open Go.Proofs.Tryz
open Go.RowKit V Pk Tr Vl Go.Proofs.YtdgichenhdikgaaGreatDoor.Nm Pc Cd Ex Tw
open Pa (cU bX lB iw kR gZ jM kN iM gX eE Ph)
variable {t:aO} {n:Nat} {row:List Vl} {α:Type}
def fst(r:List Vl):Vl:=r.getD 0 bJ
theorem Kp{v w:Vl}(E:cn v=0)(I:v.Ok)(U:v.k=2)(sv:v.s.size=0)(hw:cn w=0)(O:w.Ok)(Z:w.k=2)(sw:w.s.size=0):bB (eX [v]) (eX [w])↔v.n<w.n:=by
 refine⟨int_lt E I U sv hw O Z sw,fun h=>?_⟩;have hl:fu v w<0:=(Ki v w).2 (.inr ⟨by omega,.inl h⟩);have h3:=Ty E I hw O [] [] w4;rw[append_nil,append_nil] at h3;unfold bB eX;rw[flatMap_singleton,flatMap_singleton,h3];exact hl
theorem aec{v w:Vl}(E:cn v=0)(I:v.Ok)(O:v.k=2)(sv:v.s.size=0)(hw:cn w=0)(U:w.Ok)(Z:w.k=2)(sw:w.s.size=0):eX [v]=eX [w]↔v=w:=by
 refine⟨fun h=>?_,fun h=>by rw[h]⟩;have h1:¬v.n<w.n:=fun q=>iZ _ (h ▸ (Kp E I O sv hw U Z sw).2 q);have h2:¬w.n<v.n:=fun q=>iZ _ (h ▸ (Kp hw U Z sw E I O sv).2 q);have hs:v.s=w.s:=by
  exact XN
 have hn:v.n=w.n:=(by omega)
 cases v;cases w;simp_all
theorem SJ{r:List Vl}(hf:Pc.dO c8 r=0)(aQ:∀v∈r,v.Ok):(fst r).k=2∧(fst r).s.size=0∧(fst r).Ok∧cn (fst r)=0∧cH r=eX [fst r]∧r.length=4:=by
 have h4:=nH hf;have hz:=Ju hf;match r,h4 with
 | v::r,h4 =>
  have E:=aQ v mem_cons_self;have hc:=hz v mem_cons_self;have hk:v.k=2:=by
   unfold Pc.dO at hf;rw[if_neg Ar,if_neg xS] at hf;unfold c8 Pc.nN at hf;split at hf
   ·rename_i h1;exact absurd hf h1
   rename_i h1;have h1:=Decidable.not_not.1 h1;unfold Pc.jL at h1;rw[if_neg (by rw[hc];decide)] at h1;split at h1
   ·cases h1
   rename_i h3;exact Decidable.not_not.1 fun e=>h3 ⟨e,.inl rfl⟩
  refine⟨hk,?_,E,hc,?_,h4⟩
  ·show v.s.size=0;unfold cn at hc;rw[if_neg w4,if_neg w4,if_pos hk] at hc;split at hc
   ·cases hc
   rename_i h3;exact Decidable.not_not.1 h3
  unfold cH;rw[show(v::r).take 1=[v] from rfl,Uv hc hk];rfl
theorem JC(g:eD t n)(hf:Pc.dO c8 row=0)(aQ:∀v∈row,v.Ok):∀x∈eo t.ix,(bB (cH row) x.1↔(fst row).n<(fst (rowAt t x.2)).n)∧(x.1=cH row↔fst (rowAt t x.2)=fst row):=fun x hx=>by
 obtain⟨h0,h1,h2,h3⟩:=g.iG x hx;obtain⟨p1,p2,_⟩:=g.row _ h1 h2;rw[←iX h1] at p1 p2 h3;obtain⟨a1,a2,a3,a4,a5,_⟩:=SJ p1 p2;obtain⟨b1,b2,b3,b4,b5,_⟩:=SJ hf aQ;rw[h3,a5,b5];exact⟨Kp b4 b3 b1 b2 a4 a3 a1 a2,aec a4 a3 a1 a2 b4 b3 b1 b2⟩
def nK(row:List Vl):Bool→List (List Vl)→List (List Vl)
 | d,[]=>if d=true then [] else [row]
 | d,r::rs=>if d=false∧(fst row).n<(fst r).n then row::r::nK row true rs else r::nK row d rs
theorem QN{row:List Vl}:∀l,nK row true l=l
 | []=>rfl
 | r::rs=>by rw[nK,if_neg (fun h=>by cases h.1),QN rs]
def sO(x:K×Int):List (K×Int)→List (K×Int)
 | []=>[x]
 | y::r=>if bB x.1 y.1 then x::y::r else y::sO x r
theorem JD{x z:K×Int}:∀{l:List (K×Int)},z∈sO x l↔z=x∨z∈l
 | []=>by simp[sO]
 | y::r=>by
  rw[sO];split
  ·simp
  rw[mem_cons,JD,mem_cons];exact⟨fun h=>by rcases h with h|h|h<;>simp[h],fun h=>by rcases h with h|h|h<;>simp[h]⟩
theorem QO{x:K×Int}:∀{l:List (K×Int)},l.Pairwise (fun a b=>bB a.1 b.1)→(∀y∈l,y.1≠x.1)→(sO x l).Pairwise fun a b=>bB a.1 b.1
 | [],_,_=>pairwise_singleton _ _
 | y::r,h,jv=>by
  obtain⟨h1,h2⟩:=pairwise_cons.1 h;rw[sO];split
  ·rename_i hk;exact pairwise_cons.2 ⟨fun z hz=>by rcases mem_cons.1 hz with rfl|hz;exact hk;exact lP hk (h1 z hz),h⟩
  rename_i hk;refine pairwise_cons.2 ⟨fun z hz=>?_,QO h2 fun z hz=>jv z (mem_cons_of_mem _ hz)⟩;rcases JD.1 hz with rfl|hz
  ·rcases wO y.1 z.1 with q|q|q
   ·exact q
   ·exact absurd q (jv y mem_cons_self)
   exact absurd q hk
  exact h1 z hz
theorem QR{f E:K×Int→List Vl}{x:K×Int}{row:List Vl}(hx:E x=row):∀{l:List (K×Int)},(∀y∈l,E y=f y)→(∀y∈l,bB x.1 y.1↔(fst row).n<(fst (f y)).n)→(sO x l).map E=nK row false (l.map f)
 | [],_,_=>by rw[sO,map_cons,hx];rfl
 | y::r,h,hk=>by
  have e:=h y mem_cons_self;have I:r.map E=r.map f:=map_congr_left fun z hz=>h z (mem_cons_of_mem _ hz);rw[sO,map_cons,nK];by_cases c:bB x.1 y.1
  ·rw[if_pos c,if_pos ⟨rfl,(hk y mem_cons_self).1 c⟩,map_cons,map_cons,hx,e,I,QN]
  rw[if_neg c,if_neg (fun q=>c ((hk y mem_cons_self).2 q.2)),map_cons,e,QR hx (fun z hz=>h z (mem_cons_of_mem _ hz)) fun z hz=>hk z (mem_cons_of_mem _ hz)]
theorem ack(g:eD t n)(hf:Pc.dO c8 row=0)(aQ:∀v∈row,v.Ok):gE t.ix (cH row) (dc t.ix)=(kS t).any fun r=>tg (fst r) (fst row):=by
 cases h:gE t.ix (cH row) (dc t.ix) with
 | false =>
  have:=(wC g.ix).1 h;symm;rw[any_eq_false];intro r hr hd;obtain⟨x,hx,rfl⟩:=mem_map.1 hr;exact this x hx ((JC g hf aQ x hx).2.2 (JQ.1 hd))
 | true =>
  symm;rw[any_eq_true];refine Classical.byContradiction fun hn=>?_;have:gE t.ix (cH row) (dc t.ix)=false:=(wC g.ix).2 fun x hx e=>hn ⟨_,mem_map_of_mem hx,JQ.2 ((JC g hf aQ x hx).2.1 e)⟩;rw[this] at h;cases h
theorem aed(g:eD t n)(hn:n≤300)(hf:Pc.dO c8 row=0)(aQ:∀v∈row,v.Ok)(h:(e9 t row).2=0):kS (e9 t row).1=nK row false (kS t):=by
 unfold e9 at h ⊢;have h1:Pc.dO t.ay row=0:=(by rw[g.ay];exact hf)
 rw[if_neg (fun e=>e h1)] at h ⊢;cases h2:gE t.ix (cH row) (dc t.ix) with
 | true=>rw[h2,if_pos rfl] at h;cases h
 | false =>
  rw[h2,if_neg w7] at h;rw[if_neg w7];by_cases h3:t.rows.length=40
  ·rw[if_pos h3] at h;cases h
  rw[if_neg h3];have jv:=(wC g.ix).1 h2;obtain⟨g1,g2,g3⟩:=Bw g.ix hn jv (uT hf) (Int.natCast_nonneg t.rows.length);have hr:(eo t.ix).Pairwise fun x y=>bB x.1 y.1:=Bk g.ix.val;have he:eo (gp t.ix (dc t.ix) (cH row) t.rows.length)=sO (cH row,(t.rows.length:Int)) (eo t.ix):=R9 (Bk g1.val) (QO hr jv) fun x=>by rw[JD];exact g3 x
  show(eo (gp t.ix (dc t.ix) (cH row) t.rows.length)).map _=_;rw[he];refine QR (f:=fun x=>rowAt t x.2) ?_ (fun y hy=>?_) fun y hy=>(JC g hf aQ y hy).1
  ·show(t.rows++[row]).getD ((t.rows.length:Int)).toNat []=row;rw[Int.toNat_natCast,getD_eq_getElem?_getD,getElem?_append_right (Nat.le_refl _)];simp
  obtain⟨y0,y1,_⟩:=g.iG y hy;show(t.rows++[row]).getD y.2.toNat []=t.rows.getD y.2.toNat [];rw[getD_eq_getElem?_getD,getD_eq_getElem?_getD,getElem?_append_left y1]

variable {G:List (Nat×List Value)} {m:Int}
open Classical in
noncomputable def pJ(a b:α):Bool:=decide (a=b)
theorem EU{a b:α}(h:a=b):pJ a b=true:=by unfold pJ;simp[h]
theorem JG{a b:α}(h:¬a=b):pJ a b=false:=by unfold pJ;simp[h]
theorem afJ{a b:α}(h:pJ a b=true):a=b:=by unfold pJ at h;simpa using h
theorem aee(a b:List Vl)(ha:a.length≤1000000)(hb:b.length≤1000000):VP Tryz.prog G 22 [av 3 cV a,av 3 cV b] (cj (pJ a b)):=by
 refine VC.body func22 rfl ntmps22 aR fun X0 w0 aZ=>?_;have dm:=ec;refine af [0,1] ?_;refine af [0,1,10] ?_;refine au ?_ ?_<;>intro aM bD
 ·exact z141
 have E:a.length=b.length:=(by simp at aM;omega)
 refine af [0,1,5] ?_;refine eA [0,1] (fun aU _ (i:Nat) aH=>(i≤a.length)∧(a.take i=b.take i)∧aH=(⟨26,(5,ae (i:Nat))::aU,[]⟩:St)) (fun (i:Nat)=>a.length-i) 0 ⟨(Nat.zero_le _),rfl,rfl⟩ ?_;rintro i _ ⟨hi,Hl,rfl⟩;refine af [0,1,5,14] ?_;refine au ?_ ?_<;>intro aY cy
 ·have aa:i<a.length:=(by omega)
  have sD:i<b.length:=(by omega)
  refine cZ [0,1,5,25] ?_;refine aS 8 ?_ (h:=by exact(PP rfl ot ot eqGuardType41 (Go.Proofs.YtdgichenhdikgaaGreatDoor.Vl.F9 _ _)));refine jW ?_;refine au ?_ ?_<;>intro bZ cN
  ·have hne:¬a[i]'aa=b[i]'sD:=fun e=>by rw[e] at bZ;exact absurd bZ bf
   have eZ:pJ a b=false:=JG fun e=>hne (by subst e;rfl);refine af [4] ?_;exact z75
  have XY:a[i]'aa=b[i]'sD:=(by have h3:tg (a[i]'aa) (b[i]'sD)=true:=(by simpa[tg] using bZ);exact JQ.1 h3)
  exact XX
 exact Wa
theorem SK(a b:List (List Vl))(ha:a.length≤1000000)(hb:b.length≤1000000)(E:∀r∈a,r.length≤1000000)(I:∀r∈b,r.length≤1000000):VP Tryz.prog G 15 [av 1 fa a,av 1 fa b] (cj (pJ a b)):=by
 refine VC.body func15 rfl ntmps15 aR fun X0 w0 aZ=>?_;have dm:=ec;refine af [0,1] ?_;refine af [0,1,10] ?_;refine au ?_ ?_<;>intro aM bD
 ·exact z141
 have O:a.length=b.length:=(by simp at aM;omega)
 refine af [0,1,5] ?_;refine eA [0,1] (fun aU _ (i:Nat) aH=>(i≤a.length)∧(a.take i=b.take i)∧aH=(⟨27,(5,ae (i:Nat))::aU,[]⟩:St)) (fun (i:Nat)=>a.length-i) 0 ⟨(Nat.zero_le _),rfl,rfl⟩ ?_;rintro i _ ⟨hi,Hl,rfl⟩;refine af [0,1,5,14] ?_;refine au ?_ ?_<;>intro aY cy
 ·have aa:i<a.length:=(by omega)
  have sD:i<b.length:=(by omega)
  refine cJ [0,1,5,26] (aee (a[i]'aa) (b[i]'sD) (E _ (getElem_mem aa)) (I _ (getElem_mem sD))) ?_;refine au ?_ ?_<;>intro bZ cN
  ·have hne:¬a[i]'aa=b[i]'sD:=fun e=>by rw[EU e] at bZ;cases bZ
   have eZ:pJ a b=false:=JG fun e=>hne (by subst e;rfl);refine af [4] ?_;exact z75
  have XY:a[i]'aa=b[i]'sD:=(by cases h3:pJ (a[i]'aa) (b[i]'sD) with|false=>(rw[h3] at bZ;cases bZ)|true=>exact afJ h3)
  exact XX
 exact Wa

end Go.Proofs.YtdgichenhdikgaaGreatDoor.Ba
