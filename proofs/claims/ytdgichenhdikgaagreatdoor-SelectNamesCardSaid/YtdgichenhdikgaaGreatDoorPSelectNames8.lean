/-
  What the proof of SelectNames leans on, part 8 of 9: walks of the program's functions at the level of values, and plain facts of what they compute.
-/
import Derived.Test.YtdgichenhdikgaaGreatDoorPSelectNames7
set_option linter.unusedVariables false
set_option linter.unusedSimpArgs false
set_option maxRecDepth 100000
set_option maxHeartbeats 4000000
namespace Go.Proofs.YtdgichenhdikgaaGreatDoor.Ba
open List
open Go.Proofs.Tryz
open Go.RowKit V Pk Tr Vl Go.Proofs.YtdgichenhdikgaaGreatDoor.Nm Pc Cd Ex Tw
open Pa (cA bU)
variable {G:List (Nat×List Value)} {m:Int}
variable {t:aM} {L:List cj} {ad:Option Addr} {cap i n:Nat} {E S:List ah} {o:cj} {p:(List (List Vl)×Int)×Int}
def GG(t:aM)(L:List cj)(ad:Option Addr)(cap:Nat)(Sr:List ah):Prop:=L.map cj.r=t.rows∧(∀o∈L,nW o)∧sQ L ad cap Sr
theorem RL(h:GG t L ad cap E)(hs:∀B∈E++L.flatMap bR,B∈S):View S (.agg (tC t ad cap)) (.agg (c8 t)) :=
 Tz (o:=⟨t,L.flatMap gR,ad,cap,E,L.flatMap bR⟩) (qj.w ⟨L,rfl,rfl,h.2.1,h.1,h.2.2⟩) hs
theorem RM(aR:∀o∈L,nW o)(hi:i<L.length)(hs:∀B∈L.flatMap bR,B∈S):View S (aP L[i].ad L[i].r.length L[i].cap) (.list 3 (L[i].r.flatMap cV) L[i].r.length) :=
 lK (aR _ (getElem_mem hi)) (cu eS _) (fun B E=>hs B (mem_flatMap.2 ⟨_,getElem_mem hi,E⟩))
theorem J2(f:ah→Nat):∀(L:List cj) (i:Nat) (o:cj) (h:i<L.length),(((L.set i o).flatMap bR).map f).sum=(o.S.map f).sum+(((L.eraseIdx i).flatMap bR).map f).sum
 | [],_,_,h=>absurd h (Nat.not_lt_zero _)
 | x::L,0,o,_=>by simp[bR]
 | x::L,i+1,o,h=>by
  have:=J2 f L i o (Nat.lt_of_succ_lt_succ h);simp only[set_cons_succ,flatMap_cons,map_append,sum_append,eraseIdx_cons_succ,this];omega
theorem RN{A B C X:ah}(h:i<L.length)(hS:L[i].S=[X]):(A::B::([C]++L.flatMap bR)).Perm (X::A::B::C::(L.eraseIdx i).flatMap bR):=iH fun f=>by
 have:=J2 f L i L[i] h;rw[set_getElem_self,hS] at this;simp only[map_cons,sum_cons,map_append,sum_append,map_nil,sum_nil,this];omega
theorem TM{A B C X:ah}(h:i<L.length)(hS:o.S=[X]):(X::A::B::C::(L.eraseIdx i).flatMap bR).Perm (A::B::([C]++(L.set i o).flatMap bR)):=iH fun f=>by
 have:=J2 f L i o h;rw[hS] at this;simp only[map_cons,sum_cons,map_append,sum_append,map_nil,sum_nil,this];omega
theorem RO{t:aM}{c:Int}{e:List aX}:∀(l:List Int) (acc:List Vl),(iQ t c e acc l).2=0→(iQ t c e acc l).1.length=acc.length+l.length
 | [],acc,_=>rfl
 | i::r,acc,h=>by
  rw[iQ] at h ⊢;split
  ·rename_i h1;rw[if_pos h1] at h;exact absurd h h1
  rename_i h1;rw[if_neg h1] at h;split
  ·rename_i h2;rw[if_pos h2] at h;cases h
  rename_i h2;rw[if_neg h2] at h;rw[RO r _ h,length_append,length_cons,length_cons,length_nil];omega
theorem Ji{t:aM}{n:Nat}(g:ew t n){c:Int}{e:List aX}(lg:∀o∈e,o.nm.size≤maxLen)(fR:∀o∈e,o.v.Ok)(hk:(ey cM e).2=0):∀(l:List Int) (acc:List Vl),(∀i∈l,gb t i)→(iQ t c e acc l).2=0 →
  (∀v∈acc,v.Ok∧jU (ey cM e).1 v∧(c=0→v.k≠0))→∀v∈(iQ t c e acc l).1,v.Ok∧jU (ey cM e).1 v∧(c=0→v.k≠0)
 | [],acc,_,_,ha=>ha
 | i::r,acc,hl,h,ha=>by
  rw[iQ] at h ⊢;have hi:=hl i mem_cons_self;obtain⟨h0,h1,h2⟩:=id hi;obtain⟨p1,p2,_⟩:=g.row _ h1 h2;rw[←ja h1] at p1 p2;split
  ·rename_i h1;rw[if_pos h1] at h;exact absurd h h1
  rename_i hne;rw[if_neg hne] at h;split
  ·rename_i h2;rw[if_pos h2] at h;cases h
  rename_i h3;rw[if_neg h3] at h;refine Ji g lg fR hk r _ (fun j hj=>hl j (mem_cons_of_mem _ hj)) h fun v E=>?_;rcases mem_append.1 E with E|E
  ·exact ha v E
  rw[mem_singleton] at E;subst E;rw[g.az] at hne h3 ⊢;exact⟨ae3 p2 fR,adp lg fR p1 hk (Classical.not_not.1 hne),fun hc hz=>h3 ⟨hc,hz⟩⟩
theorem J3{g:cj→List D}:∀(M:List cj) (i:Nat) (h:i<M.length) (o:cj),g o=g M[i]→(M.set i o).flatMap g=M.flatMap g
 | [],_,h,_,_=>absurd h (Nat.not_lt_zero _)
 | x::M,0,_,o,e=>by
  rw[set_cons_zero,flatMap_cons,flatMap_cons,e];rfl
 | x::M,i+1,h,o,e=>by
  rw[set_cons_succ,flatMap_cons,flatMap_cons,J3 M i (Nat.lt_of_succ_lt_succ h) o e]
theorem Qe{x:aF}{M:List cj}{i:Int}(h:i.toNat<M.length):rowAt {t with rows:=M.map cj.r,ix:=x} i=M[i.toNat].r:=by
 rw[ja (by show _<(M.map cj.r).length;rw[length_map];exact h)];exact getElem_map ..
theorem TN{x:aF}{M:List cj}{i:Int}(h:i.toNat<M.length){c:Nat}{v:Vl}(ho:o.r=M[i.toNat].r.set c v):rF {t with rows:=M.map cj.r,ix:=x} i c v={t with rows:=(M.set i.toNat o).map cj.r,ix:=x}:=by
 unfold rF;rw[Qe h,map_set,ho]
theorem adq{c:Nat}{l:List Vl}:mP c t [] l=t:=by unfold mP;rfl
theorem abD{l:List Vl}:kH t [] l=(t,0):=by unfold kH;rfl
theorem GH{l:List (List Vl)}(h:L.map cj.r=l)(h1:i<L.length)(h2:i<l.length):L[i].r=l[i]:=by subst h;rw[getElem_map]
theorem aac:(Tryz.prog.info? 41).map (fun i=>(i.zero,i.size,i.bytes))=some (some (.agg #[.int .i64 0,.int .i64 0,.string ⟨#[]⟩]),3,32):=by kernel_rfl
theorem abE(hm:(3,marksC)∈G)(hw:(1,wordsC)∈G)(ht:(0,typesC)∈G)(hG:(2,[Value.int .i64 m])∈G)(t:aM)(g:ew t n)(s:cA)(ho:∀o∈s.aj,o.nm.size≤maxLen)(fR:∀o∈s.aj,o.v.Ok)(pC:∀o∈s.bV,o.nm.size≤maxLen)(GI:∀o∈s.bV,o.v.Ok)(hn:n≤260)(bt off ql:Nat)(pre post:List D)(hp:pre.length=off)(L:List cj)(ad:Option Addr)(cap:Nat)(Sr:List ah)(hL:L.map cj.r=t.rows)(aR:∀o∈L,nW o)(kJ:sQ L ad cap Sr):VC Tryz.prog G 45 [.v (.pointer (some ⟨bt,off,none⟩)),.agg (bU s)] (⟨bt,53,ql,pre++(tC t ad cap++post)⟩::(Sr++L.flatMap bR)) (fun r S=>r = .dJ [ae (ig t s).2.1,ae (ig t s).2.2]∧((ig t s).2.2=0→∃L' nV kK oL,GG (ig t s).1 L' nV kK oL∧S=⟨bt,53,ql,pre++(tC (ig t s).1 nV kK++post)⟩::(oL++L'.flatMap bR))):=by
 refine VC.body func45 rfl ntmps45 aQ fun X0 w0 bg=>?_;have dz:=ei;have HE:GG t L ad cap Sr:=⟨hL,aR,kJ⟩
 have rV:L.length=t.rows.length:=(by rw[←hL,length_map])
 have mO:=g.eJ;have DZ:=Fs g s.aj;have mD:=tZ g s.aj;have hnd:=EB g s.aj;have aku:t.az.length=4:=(by rw[g.az];rfl)
 have ahQ:=IK (G:=G) t w4 s.set;have vY:=JH (G:=G) hm hw ht t.az xQ xP s.bV pC;unfold pV at vY;have Yu:=wD (fun c:cG=>c.n.toList==s.set.toList) t.az;rw[show dR (fun c:cG=>c.n.toList==s.set.toList) t.az=(bD t.az s.set) from rfl] at Yu;unfold tC;unfold bU;refine bY ?_;refine OD.box (ds:=[_,_,_,_,_,_,_,_,_,_,_,_]) ap rfl rfl ot rfl rfl (fun b3=>?_);refine an 205 [0,3] ?_;refine cZ [0,3,6] ?_;refine aS 2 ?_ (h:=by exact(L0 1));refine nA 2 ?_;refine zK (ahQ) (ha:=by exact⟨⟨_,ot,(RL HE (fun B U=>by repeat (first|exact U|apply mem_append_right|apply mem_cons_of_mem)):View _ (.agg (tC t ad cap)) _)⟩,⟨_,ot,eU⟩,trivial⟩) (K:=?_);refine bK ?_;refine af [0,3,6,30] ?_;refine au ?_ ?_<;>intro aO bE
 ·have hA:(bD t.az s.set)<0:=(by simpa using aO)
  have aV:ig t s=(t,0,8):=(by unfold ig;rw[if_pos hA])
  exact xu
 have hA:¬(bD t.az s.set)<0:=(by simpa using aO)
 have lm:(bD t.az s.set).toNat<t.az.length:=(by omega)
 refine cZ [0,3,6,7,8] ?_;refine aS 3 ?_ (h:=by exact(oK 1));refine di (vY) ?_;refine bK ?_;refine af [0,3,6,7,8,42] ?_;refine au ?_ ?_<;>intro aY cJ
 ·have U:(ey t.az s.bV).2≠0:=(by simpa using aY)
  have aV:ig t s=(t,0,(ey t.az s.bV).2):=(by unfold ig;rw[if_neg hA,if_pos U])
  exact xu
 have U:¬(ey t.az s.bV).2≠0:=(by simpa using aY)
 have ke:t.az.getD (bD t.az s.set).toNat ⟨⟨#[]⟩,0⟩=t.az[(bD t.az s.set).toNat]:=(by rw[getD_eq_getElem?_getD,getElem?_eq_getElem lm];rfl)
 refine CD.skip ?_;refine jQ [0,3,6] (fun aW uL aH=>(¬((ey t.az s.bV).1≠(t.az.getD (bD t.az s.set).toNat ⟨⟨#[]⟩,0⟩).k∧(ey t.az s.bV).1≠0))∧aH=(⟨205,aW,uL⟩:St)) ?_ ?_
 ·refine aD 4 ?_;refine bN (oK 1) ?_;refine aE 1 ?_;refine bN (dc 2 (h:=by first|exact .l (j:=(bD t.az s.set).toNat) (Int.toNat_of_nonneg w4).symm lm|exact .r (j:=(bD t.az s.set).toNat) (Int.toNat_of_nonneg w4).symm lm)) ?_;refine aE 4 ?_;refine bW 54 (fun zH zj=>?_) (fun zH zj=>?_)
  ·refine an 205 [0,3,6,57] ?_;refine au ?_ ?_<;>intro cm cW
   ·have hC:(ey t.az s.bV).1≠(t.az.getD (bD t.az s.set).toNat ⟨⟨#[]⟩,0⟩).k∧(ey t.az s.bV).1≠0:=(by rw[ke];exact⟨by simpa using zH,by simpa using cm⟩)
    have aV:ig t s=(t,0,4):=(by unfold ig;rw[if_neg hA,if_neg U,if_pos hC])
    exact xu
   exact Xa
  refine an 205 [0,3,6,57] ?_;refine fN ?_;exact Xa
 rintro _ ⟨hC,rfl⟩;refine cZ [0,3,6,8,9] ?_;refine aS 2 ?_ (h:=by exact(L0 1));refine nA 2 ?_;refine zJ (Ks hm hw ht hG t g s.aj ho fR) (fun r S h=>h.flat) (fun r S h=>h.view) (ha:=by exact⟨⟨_,ot,(RL HE (fun B U=>by repeat (first|exact U|apply mem_append_right|apply mem_cons_of_mem)):View _ (.agg (tC t ad cap)) _)⟩,⟨_,ot,eU⟩,trivial⟩) (K:=?_);refine bK ?_;refine af [0,3,6,8,9,68] ?_;refine au ?_ ?_<;>intro da ek
 ·have hD:(ax t s.aj).2≠0:=(by simpa using da)
  have aV:ig t s=(t,0,(ax t s.aj).2):=(by unfold ig;rw[if_neg hA,if_neg U,if_neg hC,if_pos hD])
  exact xu
 have hD:¬(ax t s.aj).2≠0:=(by simpa using da)
 refine bY ?_;refine bf [0,3,6,9,10] ?_;refine af [0,3,6,9,10,70,71,72] ?_;refine eD [0,3,6,9,70,71] (fun aW _ (E:Nat×List Vl×Option Addr×Nat×List ah) aH=>match E with|(k,acc,dr,cY,Sx)=>(k≤(ax t s.aj).1.length)∧((acc).length=k)∧((iQ t (bD t.az s.set) s.bV [] (ax t s.aj).1)=iQ t (bD t.az s.set) s.bV acc ((ax t s.aj).1.drop k))∧(bp 41 3 ((acc).flatMap cV) (acc).length dr cY Sx)∧aH=(⟨205,(10,aP dr (acc).length cY)::(72,ae (k:Nat))::aW,(⟨b3,32,12,bU s⟩::⟨bt,53,ql,pre++([bn t.nm,av 2 cC t.az,aP ad t.rows.length cap,av 5 cP t.ix.ag,ae t.ix.root]++post)⟩::(Sr++(Sx++L.flatMap bR)))⟩:St)) (fun (E:Nat×List Vl×Option Addr×Nat×List ah)=>match E with|(k,acc,dr,cY,Sx)=>(ax t s.aj).1.length-k) (0,([]:List Vl),none,0,[]) ⟨(Nat.zero_le _),rfl,rfl,ik,rfl⟩ ?_;rintro⟨k,acc,dr,cY,Sx⟩ _ ⟨hk,oZ,Au,dY,rfl⟩;refine af [0,3,6,9,10,70,71,72,73] ?_;refine au ?_ ?_<;>intro ez fw
 ·have aa:k<(ax t s.aj).1.length:=(by omega)
  have jx:(ax t s.aj).1.drop k=((ax t s.aj).1[k]'aa)::(ax t s.aj).1.drop (k+1):=drop_eq_getElem_cons aa;have rY:gb t ((ax t s.aj).1[k]'aa):=mD _ (getElem_mem aa);obtain⟨gF,O,nX⟩:=id rY;have fY:((ax t s.aj).1[k]'aa).toNat<L.length:=(by rw[rV];exact O)
  obtain⟨br,rfl,uD,uE,rfl⟩:=kJ.pos w4;have th:L[((ax t s.aj).1[k]'aa).toNat].r=rowAt t ((ax t s.aj).1[k]'aa):=(by rw[ja O];exact(GH hL fY O))
  obtain⟨Yt,D0⟩:=gb.ok g rY;have L1:=Tc (G:=G) hm hw ht t.az xQ xP L[((ax t s.aj).1[k]'aa).toNat].r (by rw[th];omega) (by rw[th];exact fun v hv=>(D0 v hv).1) s.bV pC GI;rw[show fu t.az L[((ax t s.aj).1[k]'aa).toNat].r s.bV=(fu t.az (rowAt t ((ax t s.aj).1[k]'aa)) s.bV) from by rw[th]] at L1;unfold mX at L1;refine af [0,3,6,9,10,12,70,71,72] ?_;refine CD.seq ?_;refine uA 18 17 [0,3,6,9,10,13,70,71,72,91,92] ?_;refine aS 3 ?_ (h:=by exact(oK 1));refine aS 3 ?_ (h:=by exact(oK 1));refine aS 1 ?_ (h:=by exact(dc 1 (h:=by first|exact .l (j:=((ax t s.aj).1[k]'aa).toNat) (Int.toNat_of_nonneg gF).symm O|exact .r (j:=((ax t s.aj).1[k]'aa).toNat) (Int.toNat_of_nonneg gF).symm O)));refine aS 0 ?_ (h:=by exact(cU (mk:=Op.load 28) rfl ot (jb (k:=2) (i:=((ax t s.aj).1[k]'aa).toNat) (ls:=L) u5 rfl rfl rfl isAgg28 fY rfl)));refine nA 2 ?_;refine zK (L1) (ha:=by exact⟨⟨_,ot,eU⟩,⟨_,ot,(RM aR fY (fun B U=>by repeat (first|exact U|apply mem_append_right|apply mem_cons_of_mem)))⟩,⟨_,ot,eU⟩,trivial⟩) (K:=?_);refine nA 3 ?_;refine rP ?_;refine jZ ?_;refine⟨rfl,fun mC=>?_⟩;refine aN 0 [_,_,_] sizeOf41 ?_;refine an 205 [0,3,6,9,10,13,14,70,71,72] ?_;refine af [0,3,6,9,10,13,14,70,71,72,94] ?_;refine au ?_ ?_<;>intro fg gB
  ·have hE:(fu t.az (rowAt t ((ax t s.aj).1[k]'aa)) s.bV).2≠0:=(by simpa using fg)
   have iX:(iQ t (bD t.az s.set) s.bV [] (ax t s.aj).1)=([],(fu t.az (rowAt t ((ax t s.aj).1[k]'aa)) s.bV).2):=(by rw[Au,jx,iQ,if_pos hE])
   have aV:ig t s=(t,0,(fu t.az (rowAt t ((ax t s.aj).1[k]'aa)) s.bV).2):=(by unfold ig;rw[if_neg hA,if_neg U,if_neg hC,if_neg hD,iX,if_pos hE])
   exact xu
  have hE:¬(fu t.az (rowAt t ((ax t s.aj).1[k]'aa)) s.bV).2≠0:=(by simpa using fg)
  refine CD.skip ?_;refine jQ [0,3,6,9,10,13,70,71,72] (fun aW uL aH=>((iQ t (bD t.az s.set) s.bV [] (ax t s.aj).1)=iQ t (bD t.az s.set) s.bV (acc++[(fu t.az (rowAt t ((ax t s.aj).1[k]'aa)) s.bV).1]) ((ax t s.aj).1.drop (k+1)))∧aH=(⟨205,aW,uL⟩:St)) ?_ ?_
  ·refine aD 3 ?_;refine bW 98 (fun zC F0=>?_) (fun zC F0=>?_)
   ·refine bf [0,3,6,9,10,13,70,71,72,102] ?_;refine au ?_ ?_<;>intro gY kS
    ·have hF:(bD t.az s.set)=0∧(fu t.az (rowAt t ((ax t s.aj).1[k]'aa)) s.bV).1.k=0:=⟨F0,by simpa using gY⟩
     have iX:(iQ t (bD t.az s.set) s.bV [] (ax t s.aj).1)=([],4):=(by rw[Au,jx,iQ,if_neg hE,if_pos hF])
     have aV:ig t s=(t,0,4):=(by unfold ig;rw[if_neg hA,if_neg U,if_neg hC,if_neg hD,iX,if_pos w7])
     exact xu
    exact WX
   refine bf [0,3,6,9,10,13,70,71,72,102] ?_;refine fN ?_;exact WX
  rintro _ ⟨nT,rfl⟩;refine dO 2 ?_;refine ev (cc 0 [_]) [.int .i64 0,.int .i64 0,.string ⟨#[]⟩] [_,_,_] zeroValue41 runUnderlying28 sizeOf41 (fun akv=>?_);refine fF 0 105 3 1 ?_;refine OD.en (ls:=acc) (new:=[(fu t.az (rowAt t ((ax t s.aj).1[k]'aa)) s.bV).1]) (Sq:=Sx) eS BA ap rfl rfl underlying28 aac rfl w7 ot dY (tw (A:=[_,_,_]) (S1:=[⟨br,28,cap*1,L.flatMap gR⟩]) (S2:=Sx) (S3:=L.flatMap bR)) ot bq mr mu (fun xJ xj KW KX=>?_);refine OD.perm (wq (S2:=[⟨xJ,41,xj*3,flatMap cV (acc++[(fu t.az (rowAt t ((ax t s.aj).1[k]'aa)) s.bV).1])⟩]) (A:=[_,_,_])) ?_;refine an 205 [0,3,6,9,10,70,71,72] ?_;refine cl [0,3,6,9,10,70,71,72] ?_;refine⟨((k+1),(acc++[(fu t.az (rowAt t ((ax t s.aj).1[k]'aa)) s.bV).1]),(some ⟨xJ,0,none⟩),xj,[⟨xJ,41,xj*3,flatMap cV (acc++[(fu t.az (rowAt t ((ax t s.aj).1[k]'aa)) s.bV).1])⟩]),_,cz,aK,w4,xM,nT,(bH KW KX),rfl⟩
 have D2:(iQ t (bD t.az s.set) s.bV [] (ax t s.aj).1)=(acc,0):=(by rw[Au,drop_of_length_le w4];rfl)
 have hN:¬(iQ t (bD t.az s.set) s.bV [] (ax t s.aj).1).2≠0:=(by rw[D2];exact fun h=>h rfl)
 have qc:acc.length=(ax t s.aj).1.length:=(by omega)
 have Wh:=Ji g pC GI (c:=(bD t.az s.set)) (by rw[←g.az];exact Classical.not_not.1 U) (ax t s.aj).1 [] mD (Classical.not_not.1 hN) (fun v hv=>by cases hv);rw[D2] at Wh;have hl4:∀i∈(ax t s.aj).1,∃h:i.toNat<L.length,L[i.toNat].r.length=4:=fun i hi=>by obtain⟨h0,h1,h2⟩:=mD i hi;have:=(gb.ok g (mD i hi)).1;rw[ja h1] at this;exact⟨by omega,by rw[GH hL w4 h1];exact this⟩
 have hl5:∀i∈(ax t s.aj).1,∃h:i.toNat<L.length,Pc.ec cM L[i.toNat].r=0∧∀v∈L[i.toNat].r,v.Ok:=fun i hi=>by obtain⟨h0,h1,h2⟩:=mD i hi;obtain⟨p1,p2,_⟩:=g.row _ h1 h2;exact⟨by omega,by rw[GH hL w4 h1];exact⟨p1,p2⟩⟩
 refine CD.exit ?_;refine CD.seq ?_;refine CD.seq ?_;refine CD.ic (t:=10) (Sq:=Sx) lk dY (cu eS _) (tw (A:=[_,_])) ?_;refine rS ?_;refine bf [0,6,9,10,109] ?_;refine au ?_ ?_<;>intro gq lB
 ·have hP:0<(bD t.az s.set):=(by simpa using gq)
  refine af [0,6,9,10,110,111,112] ?_;refine eD [0,6,9,10,110,111] (fun aW _ (E:Nat×List cj) aH=>match E with|(k,M)=>(k≤(ax t s.aj).1.length)∧(mP (bD t.az s.set).toNat {t with rows:=M.map cj.r} ((ax t s.aj).1.drop k) (acc.drop k)=mP (bD t.az s.set).toNat t (ax t s.aj).1 acc)∧(∀o∈M,nW o)∧(sQ M ad cap Sr)∧(M.length=t.rows.length)∧(∀i∈(ax t s.aj).1,∃h:i.toNat<M.length,M[i.toNat].r.length=4)∧aH=(⟨205,(112,ae (k:Nat))::aW,(⟨b3,32,12,bU s⟩::⟨bt,53,ql,pre++([bn t.nm,av 2 cC t.az,aP ad t.rows.length cap,av 5 cP t.ix.ag,ae t.ix.root]++post)⟩::(Sr++M.flatMap bR))⟩:St)) (fun (E:Nat×List cj)=>match E with|(k,M)=>(ax t s.aj).1.length-k) (0,L) ⟨(Nat.zero_le _),(by rw[hL];rfl),aR,kJ,rV,hl4,rfl⟩ ?_;rintro⟨k,M⟩ _ ⟨dP,Wi,Z,vX,xO,Yv,rfl⟩;refine af [0,6,9,10,110,111,112,113] ?_;refine au ?_ ?_<;>intro p9 Gs
  ·have aa:k<(ax t s.aj).1.length:=(by omega)
   have dG:k<acc.length:=(by omega)
   have jx:(ax t s.aj).1.drop k=((ax t s.aj).1[k]'aa)::(ax t s.aj).1.drop (k+1):=drop_eq_getElem_cons aa;have lI:acc.drop k=(acc[k]'dG)::acc.drop (k+1):=drop_eq_getElem_cons dG;obtain⟨gF,O,nX⟩:=mD _ (getElem_mem aa);obtain⟨fY,rZ⟩:=Yv _ (getElem_mem aa);obtain⟨br,rfl,uD,uE,rfl⟩:=vX.pos w4;obtain⟨I,yA,CK,D3,N7⟩:=(Z _ (getElem_mem fY)).pos w4;have jW:∀o∈(M.set ((ax t s.aj).1[k]'aa).toNat (⟨M[((ax t s.aj).1[k]'aa).toNat].r.set (bD t.az s.set).toNat (acc[k]'dG),some ⟨I,0,none⟩,M[((ax t s.aj).1[k]'aa).toNat].cap,[⟨I,41,M[((ax t s.aj).1[k]'aa).toNat].cap*3,(M[((ax t s.aj).1[k]'aa).toNat].r.set (bD t.az s.set).toNat (acc[k]'dG)).flatMap cV⟩]⟩:cj)),nW o:=fun o ho=>by rcases mem_or_eq_of_mem_set ho with h|h;exact Z o h;rw[h];exact bH (g:=cV) GV D3
   have N8:(M.set ((ax t s.aj).1[k]'aa).toNat (⟨M[((ax t s.aj).1[k]'aa).toNat].r.set (bD t.az s.set).toNat (acc[k]'dG),some ⟨I,0,none⟩,M[((ax t s.aj).1[k]'aa).toNat].cap,[⟨I,41,M[((ax t s.aj).1[k]'aa).toNat].cap*3,(M[((ax t s.aj).1[k]'aa).toNat].r.set (bD t.az s.set).toNat (acc[k]'dG)).flatMap cV⟩]⟩:cj)).flatMap gR=M.flatMap gR:=J3 M _ fY _ (by show[D.v (.slice _ (M[((ax t s.aj).1[k]'aa).toNat].r.set (bD t.az s.set).toNat (acc[k]'dG)).length _)]=[D.v (.slice _ _ _)];rw[length_set,yA]);have CE:sQ (M.set ((ax t s.aj).1[k]'aa).toNat (⟨M[((ax t s.aj).1[k]'aa).toNat].r.set (bD t.az s.set).toNat (acc[k]'dG),some ⟨I,0,none⟩,M[((ax t s.aj).1[k]'aa).toNat].cap,[⟨I,41,M[((ax t s.aj).1[k]'aa).toNat].cap*3,(M[((ax t s.aj).1[k]'aa).toNat].r.set (bD t.az s.set).toNat (acc[k]'dG)).flatMap cV⟩]⟩:cj)) (some ⟨br,0,none⟩) cap [⟨br,28,cap*1,M.flatMap gR⟩]:=(by rw[←N8];exact bH (by rw[length_set];exact uD) uE)
   have akw:∀i∈(ax t s.aj).1,∃h:i.toNat<(M.set ((ax t s.aj).1[k]'aa).toNat (⟨M[((ax t s.aj).1[k]'aa).toNat].r.set (bD t.az s.set).toNat (acc[k]'dG),some ⟨I,0,none⟩,M[((ax t s.aj).1[k]'aa).toNat].cap,[⟨I,41,M[((ax t s.aj).1[k]'aa).toNat].cap*3,(M[((ax t s.aj).1[k]'aa).toNat].r.set (bD t.az s.set).toNat (acc[k]'dG)).flatMap cV⟩]⟩:cj)).length,(M.set ((ax t s.aj).1[k]'aa).toNat (⟨M[((ax t s.aj).1[k]'aa).toNat].r.set (bD t.az s.set).toNat (acc[k]'dG),some ⟨I,0,none⟩,M[((ax t s.aj).1[k]'aa).toNat].cap,[⟨I,41,M[((ax t s.aj).1[k]'aa).toNat].cap*3,(M[((ax t s.aj).1[k]'aa).toNat].r.set (bD t.az s.set).toNat (acc[k]'dG)).flatMap cV⟩]⟩:cj))[i.toNat].r.length=4:=fun i hi=>by obtain⟨h1,h2⟩:=Yv i hi;refine⟨by rw[length_set];exact h1,?_⟩;rw[getElem_set];split;(show(M[((ax t s.aj).1[k]'aa).toNat].r.set (bD t.az s.set).toNat (acc[k]'dG)).length=4;rw[length_set];exact rZ);exact h2
   have ahR:mP (bD t.az s.set).toNat {t with rows:=(M.set ((ax t s.aj).1[k]'aa).toNat (⟨M[((ax t s.aj).1[k]'aa).toNat].r.set (bD t.az s.set).toNat (acc[k]'dG),some ⟨I,0,none⟩,M[((ax t s.aj).1[k]'aa).toNat].cap,[⟨I,41,M[((ax t s.aj).1[k]'aa).toNat].cap*3,(M[((ax t s.aj).1[k]'aa).toNat].r.set (bD t.az s.set).toNat (acc[k]'dG)).flatMap cV⟩]⟩:cj)).map cj.r} ((ax t s.aj).1.drop (k+1)) (acc.drop (k+1))=mP (bD t.az s.set).toNat t (ax t s.aj).1 acc:=(by rw[←Wi,jx,lI,mP];congr 1;exact(TN (x:=t.ix) fY rfl).symm)
   refine CD.perm (RN fY N7) ?_;refine af [0,6,9,10,15,16,110,111,112] ?_;refine mv 12 [0,6,9,10,110,111,112,123,124,128] ?_;refine aS 3 ?_ (h:=by exact(oK 2));refine aS 1 ?_ (h:=by exact(dc 1 (h:=by first|exact .l (j:=((ax t s.aj).1[k]'aa).toNat) (Int.toNat_of_nonneg gF).symm vG|exact .r (j:=((ax t s.aj).1[k]'aa).toNat) (Int.toNat_of_nonneg gF).symm vG)));refine aS 0 ?_ (h:=by exact(cU (mk:=Op.load 28) rfl ot (jb (k:=3) (i:=((ax t s.aj).1[k]'aa).toNat) (ls:=M) (d:=aP (some ⟨I,0,none⟩) M[((ax t s.aj).1[k]'aa).toNat].r.length M[((ax t s.aj).1[k]'aa).toNat].cap) u5 rfl rfl rfl isAgg28 fY (by rw[←yA];rfl))));refine bK ?_;refine bN (dc 3 (h:=by first|exact .l (j:=(bD t.az s.set).toNat) (Int.toNat_of_nonneg w4).symm (by rw[rZ];omega)|exact .r (j:=(bD t.az s.set).toNat) (Int.toNat_of_nonneg w4).symm (by rw[rZ];omega))) ?_;refine OD.storeAt (k:=0) (cs':=(M[((ax t s.aj).1[k]'aa).toNat].r.set (bD t.az s.set).toNat (acc[k]'dG)).flatMap cV) ap rfl rfl ot rfl rfl ot rfl rfl sizeOf41 rfl (by show 0+(bD t.az s.set).toNat*3+3≤(M[((ax t s.aj).1[k]'aa).toNat].r.flatMap cV).length;rw[cu eS,rZ];omega) (by show dx (M[((ax t s.aj).1[k]'aa).toNat].r.flatMap cV) (0+(bD t.az s.set).toNat*3) (cV (acc[k]'dG))=_;rw[Nat.zero_add];exact oQ eS _ _ (by rw[rZ];omega)) ?_;refine an 205 [0,6,9,10,110,111,112] ?_;refine dO 1 ?_
   refine OD.perm (TM fY (o:=(⟨M[((ax t s.aj).1[k]'aa).toNat].r.set (bD t.az s.set).toNat (acc[k]'dG),some ⟨I,0,none⟩,M[((ax t s.aj).1[k]'aa).toNat].cap,[⟨I,41,M[((ax t s.aj).1[k]'aa).toNat].cap*3,(M[((ax t s.aj).1[k]'aa).toNat].r.set (bD t.az s.set).toNat (acc[k]'dG)).flatMap cV⟩]⟩:cj)) rfl) ?_;refine an 205 [0,6,9,10,110,111,112] ?_;refine⟨((k+1),(M.set ((ax t s.aj).1[k]'aa).toNat (⟨M[((ax t s.aj).1[k]'aa).toNat].r.set (bD t.az s.set).toNat (acc[k]'dG),some ⟨I,0,none⟩,M[((ax t s.aj).1[k]'aa).toNat].cap,[⟨I,41,M[((ax t s.aj).1[k]'aa).toNat].cap*3,(M[((ax t s.aj).1[k]'aa).toNat].r.set (bD t.az s.set).toNat (acc[k]'dG)).flatMap cV⟩]⟩:cj))),_,cz,aK,w4,ahR,jW,CE,(by rw[length_set];exact xO),akw,rfl⟩
  have ahS:mP (bD t.az s.set).toNat t (ax t s.aj).1 acc={t with rows:=M.map cj.r}:=(by rw[←Wi,drop_of_length_le (l:=(ax t s.aj).1) w4,adq])
  have aV:ig t s=({t with rows:=M.map cj.r},((ax t s.aj).1.length:Int),0):=(by unfold ig;rw[if_neg hA,if_neg U,if_neg hC,if_neg hD,if_neg hN,if_pos hP,D2,ahS])
  refine af [4,5] ?_;refine aJ (⟨bt,53,ql,pre++(_++post)⟩::(Sr++M.flatMap bR)) ?_;rw[aV];exact⟨rfl,fun _=>⟨M,ad,cap,Sr,⟨rfl,Z,vX⟩,by simp only[tC,length_map,xO]⟩⟩
 have hP:¬0<(bD t.az s.set):=(by simpa using gq)
 have yB:(bD t.az s.set)=0:=(by omega)
 refine af [0,9,10,133,134,135] ?_;refine eD [0,9,10,133,134] (fun aW _ (E:Nat×aF) aH=>match E with|(k,x)=>(k≤(ax t s.aj).1.length)∧(ou t x ((ax t s.aj).1.drop k)=ou t t.ix (ax t s.aj).1)∧(iM x n)∧(∀i∈(ax t s.aj).1.drop k,(c9 (rowAt t i),i)∈eB x)∧aH=(⟨205,(135,ae (k:Nat))::aW,(⟨b3,32,12,bU s⟩::⟨bt,53,ql,pre++([bn t.nm,av 2 cC t.az,aP ad t.rows.length cap,av 5 cP x.ag,ae x.root]++post)⟩::(Sr++L.flatMap bR))⟩:St)) (fun (E:Nat×aF)=>match E with|(k,x)=>(ax t s.aj).1.length-k) (0,t.ix) ⟨(Nat.zero_le _),rfl,g.ix,(fun i hi=>(mD i hi).iZ g),rfl⟩ ?_;rintro⟨k,x⟩ _ ⟨fy,L4,gx,ym,rfl⟩;refine af [0,9,10,133,134,135,136] ?_;refine au ?_ ?_<;>intro Dj LA
 ·have aa:k<(ax t s.aj).1.length:=(by omega)
  have jx:(ax t s.aj).1.drop k=((ax t s.aj).1[k]'aa)::(ax t s.aj).1.drop (k+1):=drop_eq_getElem_cons aa;have rY:gb t ((ax t s.aj).1[k]'aa):=mD _ (getElem_mem aa);obtain⟨gF,O,nX⟩:=id rY;have fY:((ax t s.aj).1[k]'aa).toNat<L.length:=(by rw[rV];exact O)
  obtain⟨br,rfl,uD,uE,rfl⟩:=kJ.pos w4;have th:L[((ax t s.aj).1[k]'aa).toNat].r=rowAt t ((ax t s.aj).1[k]'aa):=(by rw[ja O];exact(GH hL fY O))
  obtain⟨Yt,D0⟩:=gb.ok g rY;have Wj:=Kq (G:=G) hG L[((ax t s.aj).1[k]'aa).toNat].r (by rw[th];omega) (by rw[th];omega) (by rw[th];exact fun v hv=>(D0 v hv).1);rw[show c9 L[((ax t s.aj).1[k]'aa).toNat].r=c9 (rowAt t ((ax t s.aj).1[k]'aa)) from by rw[th]] at Wj;have iU:=ym _ (by rw[jx];exact mem_cons_self);have Yw:=Je gx ((Bc gx.val _).2 ⟨_,iU⟩);have yz:=RB (G:=G) gx (c9 (rowAt t ((ax t s.aj).1[k]'aa)));rw[Tv gx (wF (by rw[ja O];exact(g.row _ O nX).1)) ((Be gx _).2 ⟨_,iU⟩)] at yz;unfold Tw.cT at yz;have ahT:ou t (gL x (dL x) (c9 (rowAt t ((ax t s.aj).1[k]'aa)))) ((ax t s.aj).1.drop (k+1))=ou t t.ix (ax t s.aj).1:=(by rw[←L4,jx];rfl)
  have akx:∀i∈(ax t s.aj).1.drop (k+1),(c9 (rowAt t i),i)∈eB (gL x (dL x) (c9 (rowAt t ((ax t s.aj).1[k]'aa)))):=fun i hi=>by refine(Yw.2 _).2 ⟨ym i (by rw[jx];exact mem_cons_of_mem _ hi),fun e=>?_⟩;have h9:=hnd.sublist (drop_sublist k _);rw[jx,nodup_cons] at h9;have h8:=J0 g.ix ((mD i (mem_of_mem_drop hi)).iZ g) (rY.iZ g) e;simp only[Prod.mk.injEq] at h8;exact h9.1 (h8.2 ▸ hi)
  refine af [0,9,10,18,133,134,135] ?_;refine mv 17 [0,9,10,133,134,135,140,154] ?_;refine aS 4 ?_ (h:=by exact(xI 1));refine aS 3 ?_ (h:=by exact(oK 1));refine aS 1 ?_ (h:=by exact(dc 1 (h:=by first|exact .l (j:=((ax t s.aj).1[k]'aa).toNat) (Int.toNat_of_nonneg gF).symm O|exact .r (j:=((ax t s.aj).1[k]'aa).toNat) (Int.toNat_of_nonneg gF).symm O)));refine aS 0 ?_ (h:=by exact(cU (mk:=Op.load 28) rfl ot (jb (k:=2) (i:=((ax t s.aj).1[k]'aa).toNat) (ls:=L) u5 rfl rfl rfl isAgg28 fY rfl)));refine zJ (Wj) (fun r S h=>h.flat) (fun r S h=>h.view) (ha:=by exact⟨⟨_,ot,(RM aR fY (fun B U=>by repeat (first|exact U|apply mem_append_right|apply mem_cons_of_mem)))⟩,trivial⟩) (K:=?_);refine di (yz) ?_;refine bK ?_;refine aE 2 ?_;refine OD.storeAt (k:=1) (cs':=pre++([bn t.nm,av 2 cC t.az,aP (some ⟨br,0,none⟩) t.rows.length cap,.list 5 ((gL x (dL x) (c9 (rowAt t ((ax t s.aj).1[k]'aa)))).ag.flatMap cP) (gL x (dL x) (c9 (rowAt t ((ax t s.aj).1[k]'aa)))).ag.length,ae (gL x (dL x) (c9 (rowAt t ((ax t s.aj).1[k]'aa)))).root]++post)) ap rfl rfl ot rfl rfl ot rfl rfl sizeOf51 rfl (by show off+3+2≤(pre++(([bn t.nm,av 2 cC t.az,aP (some ⟨br,0,none⟩) t.rows.length cap,av 5 cP x.ag,ae x.root]:List D)++post)).length;simp only[length_append,length_cons,length_nil];omega) (by exact Bz (j:=3) hp aQ rfl) ?_;refine an 205 [0,9,10,133,134,135] ?_
  refine cl [0,9,10,133,134,135] ?_;refine⟨((k+1),(gL x (dL x) (c9 (rowAt t ((ax t s.aj).1[k]'aa))))),_,cz,aK,w4,ahT,Yw.1,akx,rfl⟩
 have yt:ou t t.ix (ax t s.aj).1=x:=(by rw[←L4,drop_of_length_le w4];rfl)
 clear L4 ym;skip;refine af [0,9,10,159,160,161] ?_;refine eD [0,9,10,159,160] (fun aW _ (E:Nat×List cj×aF) aH=>match E with|(k,M,y)=>(k≤(ax t s.aj).1.length)∧(kH {t with rows:=M.map cj.r,ix:=y} ((ax t s.aj).1.drop k) (acc.drop k)=kH {t with ix:=ou t t.ix (ax t s.aj).1} (ax t s.aj).1 acc)∧(∀o∈M,nW o)∧(sQ M ad cap Sr)∧(M.length=t.rows.length)∧(∀i∈(ax t s.aj).1,∃h:i.toNat<M.length,Pc.ec cM M[i.toNat].r=0∧∀v∈M[i.toNat].r,v.Ok)∧(iM y (n+k))∧aH=(⟨205,(161,ae (k:Nat))::aW,(⟨b3,32,12,bU s⟩::⟨bt,53,ql,pre++([bn t.nm,av 2 cC t.az,aP ad t.rows.length cap,av 5 cP y.ag,ae y.root]++post)⟩::(Sr++M.flatMap bR))⟩:St)) (fun (E:Nat×List cj×aF)=>match E with|(k,M,y)=>(ax t s.aj).1.length-k) (0,L,x) ⟨(Nat.zero_le _),(by rw[hL,yt];rfl),aR,kJ,rV,hl5,gx,rfl⟩ ?_;rintro⟨k,M,y⟩ _ ⟨dP,AR,Z,vX,xO,Yx,gy,rfl⟩;refine af [0,9,10,159,160,161,162] ?_;refine au ?_ ?_<;>intro Gb BI
 ·have aa:k<(ax t s.aj).1.length:=(by omega)
  have dG:k<acc.length:=(by omega)
  have jx:(ax t s.aj).1.drop k=((ax t s.aj).1[k]'aa)::(ax t s.aj).1.drop (k+1):=drop_eq_getElem_cons aa;have lI:acc.drop k=(acc[k]'dG)::acc.drop (k+1):=drop_eq_getElem_cons dG;obtain⟨gF,O,nX⟩:=mD _ (getElem_mem aa);obtain⟨fY,Yy,hx6⟩:=Yx _ (getElem_mem aa);have rZ:=oW Yy;obtain⟨aky,Wl,akz⟩:=Wh _ (getElem_mem dG);have yy:(acc[k]'dG).k≠0∧jU (cM[0]'w7).k (acc[k]'dG):=(by have h1:=akz yB;refine⟨h1,Wl.1,?_⟩;have h2:=Wl.2;have akA:bD cM s.set=0:=(by rw[←g.az];exact yB);have Yz:=hC;simp only[g.az,akA] at Yz;have h3:(ey cM s.bV).1=(cM[0]'w7).k∨(ey cM s.bV).1=0:=(Classical.em ((ey cM s.bV).1=(cM[0]'w7).k)).imp id fun h=>Classical.not_not.1 fun h'=>Yz ⟨h,h'⟩;omega)
  obtain⟨br,rfl,uD,uE,rfl⟩:=vX.pos w4;obtain⟨I,yA,CK,D3,N7⟩:=(Z _ (getElem_mem fY)).pos w4;have jW:∀o∈(M.set ((ax t s.aj).1[k]'aa).toNat (⟨M[((ax t s.aj).1[k]'aa).toNat].r.set 0 (acc[k]'dG),some ⟨I,0,none⟩,M[((ax t s.aj).1[k]'aa).toNat].cap,[⟨I,41,M[((ax t s.aj).1[k]'aa).toNat].cap*3,(M[((ax t s.aj).1[k]'aa).toNat].r.set 0 (acc[k]'dG)).flatMap cV⟩]⟩:cj)),nW o:=fun o ho=>by rcases mem_or_eq_of_mem_set ho with h|h;exact Z o h;rw[h];exact bH (g:=cV) GV D3
  have N8:(M.set ((ax t s.aj).1[k]'aa).toNat (⟨M[((ax t s.aj).1[k]'aa).toNat].r.set 0 (acc[k]'dG),some ⟨I,0,none⟩,M[((ax t s.aj).1[k]'aa).toNat].cap,[⟨I,41,M[((ax t s.aj).1[k]'aa).toNat].cap*3,(M[((ax t s.aj).1[k]'aa).toNat].r.set 0 (acc[k]'dG)).flatMap cV⟩]⟩:cj)).flatMap gR=M.flatMap gR:=J3 M _ fY _ (by show[D.v (.slice _ (M[((ax t s.aj).1[k]'aa).toNat].r.set 0 (acc[k]'dG)).length _)]=[D.v (.slice _ _ _)];rw[length_set,yA]);have CE:sQ (M.set ((ax t s.aj).1[k]'aa).toNat (⟨M[((ax t s.aj).1[k]'aa).toNat].r.set 0 (acc[k]'dG),some ⟨I,0,none⟩,M[((ax t s.aj).1[k]'aa).toNat].cap,[⟨I,41,M[((ax t s.aj).1[k]'aa).toNat].cap*3,(M[((ax t s.aj).1[k]'aa).toNat].r.set 0 (acc[k]'dG)).flatMap cV⟩]⟩:cj)) (some ⟨br,0,none⟩) cap [⟨br,28,cap*1,M.flatMap gR⟩]:=(by rw[←N8];exact bH (by rw[length_set];exact uD) uE)
  have U9:Pc.ec cM (M[((ax t s.aj).1[k]'aa).toNat].r.set 0 (acc[k]'dG))=0:=TL Yy w7 yy.2 (fun _=>yy.1);have xG:∀v∈M[((ax t s.aj).1[k]'aa).toNat].r.set 0 (acc[k]'dG),v.Ok:=fun v hv=>by rcases mem_or_eq_of_mem_set hv with h|h;exact hx6 v h;rw[h];exact aky
  have akB:∀i∈(ax t s.aj).1,∃h:i.toNat<(M.set ((ax t s.aj).1[k]'aa).toNat (⟨M[((ax t s.aj).1[k]'aa).toNat].r.set 0 (acc[k]'dG),some ⟨I,0,none⟩,M[((ax t s.aj).1[k]'aa).toNat].cap,[⟨I,41,M[((ax t s.aj).1[k]'aa).toNat].cap*3,(M[((ax t s.aj).1[k]'aa).toNat].r.set 0 (acc[k]'dG)).flatMap cV⟩]⟩:cj)).length,Pc.ec cM (M.set ((ax t s.aj).1[k]'aa).toNat (⟨M[((ax t s.aj).1[k]'aa).toNat].r.set 0 (acc[k]'dG),some ⟨I,0,none⟩,M[((ax t s.aj).1[k]'aa).toNat].cap,[⟨I,41,M[((ax t s.aj).1[k]'aa).toNat].cap*3,(M[((ax t s.aj).1[k]'aa).toNat].r.set 0 (acc[k]'dG)).flatMap cV⟩]⟩:cj))[i.toNat].r=0∧∀v∈(M.set ((ax t s.aj).1[k]'aa).toNat (⟨M[((ax t s.aj).1[k]'aa).toNat].r.set 0 (acc[k]'dG),some ⟨I,0,none⟩,M[((ax t s.aj).1[k]'aa).toNat].cap,[⟨I,41,M[((ax t s.aj).1[k]'aa).toNat].cap*3,(M[((ax t s.aj).1[k]'aa).toNat].r.set 0 (acc[k]'dG)).flatMap cV⟩]⟩:cj))[i.toNat].r,v.Ok:=fun i hi=>by obtain⟨h1,h2⟩:=Yx i hi;refine⟨by rw[length_set];exact h1,?_⟩;rw[getElem_set];split;exact⟨U9,xG⟩;exact h2
  have dX:=wF U9;have Wm:=Kq (G:=G) hG (M[((ax t s.aj).1[k]'aa).toNat].r.set 0 (acc[k]'dG)) vF vF xG;have D4:=RA (G:=G) gy (c9 (M[((ax t s.aj).1[k]'aa).toNat].r.set 0 (acc[k]'dG))) ((ax t s.aj).1[k]'aa);unfold Tw.cT at D4
  have Wn:kH {t with ix:=ou t t.ix (ax t s.aj).1} (ax t s.aj).1 acc=if iA y (c9 (M[((ax t s.aj).1[k]'aa).toNat].r.set 0 (acc[k]'dG))) (dL y)=true then ({t with rows:=M.map cj.r,ix:=y},9) else kH {t with rows:=(M.set ((ax t s.aj).1[k]'aa).toNat (⟨M[((ax t s.aj).1[k]'aa).toNat].r.set 0 (acc[k]'dG),some ⟨I,0,none⟩,M[((ax t s.aj).1[k]'aa).toNat].cap,[⟨I,41,M[((ax t s.aj).1[k]'aa).toNat].cap*3,(M[((ax t s.aj).1[k]'aa).toNat].r.set 0 (acc[k]'dG)).flatMap cV⟩]⟩:cj)).map cj.r,ix:=(gK y (dL y) (c9 (M[((ax t s.aj).1[k]'aa).toNat].r.set 0 (acc[k]'dG))) ((ax t s.aj).1[k]'aa))} ((ax t s.aj).1.drop (k+1)) (acc.drop (k+1)):=by rw[←AR,jx,lI,kH,TN (o:=(⟨M[((ax t s.aj).1[k]'aa).toNat].r.set 0 (acc[k]'dG),some ⟨I,0,none⟩,M[((ax t s.aj).1[k]'aa).toNat].cap,[⟨I,41,M[((ax t s.aj).1[k]'aa).toNat].cap*3,(M[((ax t s.aj).1[k]'aa).toNat].r.set 0 (acc[k]'dG)).flatMap cV⟩]⟩:cj)) fY rfl,Qe rH,show((M.set ((ax t s.aj).1[k]'aa).toNat (⟨M[((ax t s.aj).1[k]'aa).toNat].r.set 0 (acc[k]'dG),some ⟨I,0,none⟩,M[((ax t s.aj).1[k]'aa).toNat].cap,[⟨I,41,M[((ax t s.aj).1[k]'aa).toNat].cap*3,(M[((ax t s.aj).1[k]'aa).toNat].r.set 0 (acc[k]'dG)).flatMap cV⟩]⟩:cj))[((ax t s.aj).1[k]'aa).toNat]'rH)=(⟨M[((ax t s.aj).1[k]'aa).toNat].r.set 0 (acc[k]'dG),some ⟨I,0,none⟩,M[((ax t s.aj).1[k]'aa).toNat].cap,[⟨I,41,M[((ax t s.aj).1[k]'aa).toNat].cap*3,(M[((ax t s.aj).1[k]'aa).toNat].r.set 0 (acc[k]'dG)).flatMap cV⟩]⟩:cj) from getElem_set_self _]
  refine CD.perm (RN fY N7) ?_;refine af [0,9,10,19,20,159,160,161] ?_;refine CD.seq ?_;refine mv 11 [0,9,10,20,159,160,161,172,176] ?_;refine aS 3 ?_ (h:=by exact(oK 2));refine aS 1 ?_ (h:=by exact(dc 1 (h:=by first|exact .l (j:=((ax t s.aj).1[k]'aa).toNat) (Int.toNat_of_nonneg gF).symm vG|exact .r (j:=((ax t s.aj).1[k]'aa).toNat) (Int.toNat_of_nonneg gF).symm vG)));refine aS 0 ?_ (h:=by exact(cU (mk:=Op.load 28) rfl ot (jb (k:=3) (i:=((ax t s.aj).1[k]'aa).toNat) (ls:=M) (d:=aP (some ⟨I,0,none⟩) M[((ax t s.aj).1[k]'aa).toNat].r.length M[((ax t s.aj).1[k]'aa).toNat].cap) u5 rfl rfl rfl isAgg28 fY (by rw[←yA];rfl))));refine bK ?_;refine bN (so (mk:=Op.indexAddr 28) rfl ot bP (by first|exact tO runUnderlying28 sizeOf41 (j:=0) rfl (by rw[rZ];decide)|exact tX runUnderlying28 sizeOf41 (j:=0) rfl (by rw[rZ];decide))) ?_;refine OD.storeAt (k:=0) (cs':=(M[((ax t s.aj).1[k]'aa).toNat].r.set 0 (acc[k]'dG)).flatMap cV) ap rfl rfl ot rfl rfl ot rfl rfl sizeOf41 rfl (by show 0+0*3+3≤(M[((ax t s.aj).1[k]'aa).toNat].r.flatMap cV).length;rw[cu eS,rZ];omega) (by show dx (M[((ax t s.aj).1[k]'aa).toNat].r.flatMap cV) (0+0*3) (cV (acc[k]'dG))=_;rw[Nat.zero_add];exact oQ eS _ _ (by rw[rZ];omega)) ?_;refine an 205 [0,9,10,20,159,160,161] ?_;refine CD.seq ?_;rcases iU:iA y (c9 (M[((ax t s.aj).1[k]'aa).toNat].r.set 0 (acc[k]'dG))) (dL y) with _|_
  ·rw[Uv gy w4 dX gF iU] at D4;have gy2:iM (gK y (dL y) (c9 (M[((ax t s.aj).1[k]'aa).toNat].r.set 0 (acc[k]'dG))) ((ax t s.aj).1[k]'aa)) (n+(k+1)):=(EV gy w4 ((EW gy).1 iU) dX gF).1;have akC:kH {t with rows:=(M.set ((ax t s.aj).1[k]'aa).toNat (⟨M[((ax t s.aj).1[k]'aa).toNat].r.set 0 (acc[k]'dG),some ⟨I,0,none⟩,M[((ax t s.aj).1[k]'aa).toNat].cap,[⟨I,41,M[((ax t s.aj).1[k]'aa).toNat].cap*3,(M[((ax t s.aj).1[k]'aa).toNat].r.set 0 (acc[k]'dG)).flatMap cV⟩]⟩:cj)).map cj.r,ix:=(gK y (dL y) (c9 (M[((ax t s.aj).1[k]'aa).toNat].r.set 0 (acc[k]'dG))) ((ax t s.aj).1[k]'aa))} ((ax t s.aj).1.drop (k+1)) (acc.drop (k+1))=kH {t with ix:=ou t t.ix (ax t s.aj).1} (ax t s.aj).1 acc:=(by rw[Wn,if_neg xR])
   refine uA 18 17 [0,9,10,21,159,160,161,193,194] ?_;refine aS 3 ?_ (h:=by exact(xI 2));refine aS 3 ?_ (h:=by exact(oK 2));refine aS 1 ?_ (h:=by exact(dc 1 (h:=by first|exact .l (j:=((ax t s.aj).1[k]'aa).toNat) (Int.toNat_of_nonneg gF).symm vG|exact .r (j:=((ax t s.aj).1[k]'aa).toNat) (Int.toNat_of_nonneg gF).symm vG)));refine aS 0 ?_ (h:=by exact(cU (mk:=Op.load 28) rfl ot (jb (k:=3) (i:=((ax t s.aj).1[k]'aa).toNat) (ls:=M) (d:=aP (some ⟨I,0,none⟩) (M[((ax t s.aj).1[k]'aa).toNat].r.set 0 (acc[k]'dG)).length M[((ax t s.aj).1[k]'aa).toNat].cap) u5 rfl rfl rfl isAgg28 fY (by rw[←yA,length_set];rfl))));refine zJ (Wm) (fun r S h=>h.flat) (fun r S h=>h.view) (ha:=by exact⟨⟨_,ot,(lK (bH (g:=cV) GV D3) (cu eS _) (fun B U=>by rw[mem_singleton] at U;rw[U];exact mem_cons_self))⟩,trivial⟩) (K:=?_);refine di (D4) ?_;refine nA 3 ?_;refine rP ?_;refine jZ ?_;refine⟨rfl,fun Dc=>?_⟩;refine aN 0 [_,_] sizeOf51 ?_;refine an 205 [0,9,10,21,22,159,160,161] ?_;refine af [0,9,10,21,22,159,160,161,196] ?_;refine au ?_ ?_<;>intro vm FL
   ·exact absurd vm (by simp at vm)
   refine dO 4 ?_;refine OD.storeAt (k:=3) (cs':=pre++([bn t.nm,av 2 cC t.az,aP (some ⟨br,0,none⟩) t.rows.length cap,.list 5 ((gK y (dL y) (c9 (M[((ax t s.aj).1[k]'aa).toNat].r.set 0 (acc[k]'dG))) ((ax t s.aj).1[k]'aa)).ag.flatMap cP) (gK y (dL y) (c9 (M[((ax t s.aj).1[k]'aa).toNat].r.set 0 (acc[k]'dG))) ((ax t s.aj).1[k]'aa)).ag.length,ae (gK y (dL y) (c9 (M[((ax t s.aj).1[k]'aa).toNat].r.set 0 (acc[k]'dG))) ((ax t s.aj).1[k]'aa)).root]++post)) ap rfl rfl ot rfl rfl ot rfl rfl sizeOf51 rfl (by show off+3+2≤(pre++(([bn t.nm,av 2 cC t.az,aP (some ⟨br,0,none⟩) t.rows.length cap,av 5 cP y.ag,ae y.root]:List D)++post)).length;simp only[length_append,length_cons,length_nil];omega) (by exact Bz (j:=3) hp aQ rfl) ?_;refine an 205 [0,9,10,159,160,161] ?_;refine dO 1 ?_;refine OD.perm ((TM fY (o:=(⟨M[((ax t s.aj).1[k]'aa).toNat].r.set 0 (acc[k]'dG),some ⟨I,0,none⟩,M[((ax t s.aj).1[k]'aa).toNat].cap,[⟨I,41,M[((ax t s.aj).1[k]'aa).toNat].cap*3,(M[((ax t s.aj).1[k]'aa).toNat].r.set 0 (acc[k]'dG)).flatMap cV⟩]⟩:cj)) rfl).cons _) ?_;refine an 205 [0,9,10,159,160,161] ?_
   refine⟨((k+1),(M.set ((ax t s.aj).1[k]'aa).toNat (⟨M[((ax t s.aj).1[k]'aa).toNat].r.set 0 (acc[k]'dG),some ⟨I,0,none⟩,M[((ax t s.aj).1[k]'aa).toNat].cap,[⟨I,41,M[((ax t s.aj).1[k]'aa).toNat].cap*3,(M[((ax t s.aj).1[k]'aa).toNat].r.set 0 (acc[k]'dG)).flatMap cV⟩]⟩:cj)),(gK y (dL y) (c9 (M[((ax t s.aj).1[k]'aa).toNat].r.set 0 (acc[k]'dG))) ((ax t s.aj).1[k]'aa))),_,cz,aK,w4,akC,jW,CE,(by rw[length_set];exact xO),akB,gy2,rfl⟩
  rw[aeN gy dX gF iU] at D4;have aV:ig t s=(t,0,9):=(by unfold ig;rw[if_neg hA,if_neg U,if_neg hC,if_neg hD,if_neg hN,if_neg hP,D2,Wn,if_pos iU];exact if_pos (show(9:Int)≠0 by decide))
  refine uA 18 17 [0,9,10,21,159,160,161,193,194] ?_;refine aS 3 ?_ (h:=by exact(xI 2));refine aS 3 ?_ (h:=by exact(oK 2));refine aS 1 ?_ (h:=by exact(dc 1 (h:=by first|exact .l (j:=((ax t s.aj).1[k]'aa).toNat) (Int.toNat_of_nonneg gF).symm vG|exact .r (j:=((ax t s.aj).1[k]'aa).toNat) (Int.toNat_of_nonneg gF).symm vG)));refine aS 0 ?_ (h:=by exact(cU (mk:=Op.load 28) rfl ot (jb (k:=3) (i:=((ax t s.aj).1[k]'aa).toNat) (ls:=M) (d:=aP (some ⟨I,0,none⟩) (M[((ax t s.aj).1[k]'aa).toNat].r.set 0 (acc[k]'dG)).length M[((ax t s.aj).1[k]'aa).toNat].cap) u5 rfl rfl rfl isAgg28 fY (by rw[←yA,length_set];rfl))));refine zJ (Wm) (fun r S h=>h.flat) (fun r S h=>h.view) (ha:=by exact⟨⟨_,ot,(lK (bH (g:=cV) GV D3) (cu eS _) (fun B U=>by rw[mem_singleton] at U;rw[U];exact mem_cons_self))⟩,trivial⟩) (K:=?_);refine di (D4) ?_;refine nA 3 ?_;refine rP ?_;refine jZ ?_;refine⟨rfl,fun Dc=>?_⟩;refine aN 0 [_,_] sizeOf51 ?_;refine an 205 [0,9,10,21,22,159,160,161] ?_;refine af [0,9,10,21,22,159,160,161,196] ?_;refine au ?_ ?_<;>intro vm FL
  ·exact xu
  exact absurd vm (by simp at vm)
 have ahU:kH {t with ix:=ou t t.ix (ax t s.aj).1} (ax t s.aj).1 acc=({t with rows:=M.map cj.r,ix:=y},0):=(by rw[←AR,drop_of_length_le (l:=(ax t s.aj).1) w4,abD])
 have aV:ig t s=({t with rows:=M.map cj.r,ix:=y},((ax t s.aj).1.length:Int),0):=(by unfold ig;rw[if_neg hA,if_neg U,if_neg hC,if_neg hD,if_neg hN,if_neg hP,D2,ahU];exact if_neg (fun h=>h rfl))
 refine af [4,5] ?_;refine aJ (⟨bt,53,ql,pre++(_++post)⟩::(Sr++M.flatMap bR)) ?_;rw[aV];exact⟨rfl,fun _=>⟨M,ad,cap,Sr,⟨rfl,Z,vX⟩,by simp only[tC,length_map,xO]⟩⟩

open Go.Proofs.YtdgichenhdikgaaGreatDoor.So
def B5(p:(List (List Vl)×Int)×Int)(r:D)(S:List ah):Prop:=∃(L:List cj) (ad:Option Addr) (cap:Nat) (Sx:List ah),r = .dJ [.agg [aP ad L.length cap,ae p.1.2],ae p.2]∧sQ L ad cap Sx∧(∀o∈L,nW o)∧L.map cj.r=p.1.1∧S=Sx++L.flatMap bR
theorem B5.view{r:D}(h:B5 p r S):View S r (AP p):=by
 obtain⟨L,ad,cap,Sx,rfl,ho,aR,hL,rfl⟩:=h;unfold AP;rw[←hL];unfold av;rw[length_map];exact EL ⟨uS ⟨A6 ho (Fk aR fun B E=>mem_append_right _ E) (by rw[cu jq,length_map]) (fun B E=>mem_append_left _ E),eU,trivial⟩,eU,trivial⟩
theorem agw(l:List Vl):∀d∈l.flatMap cV,kQ d=true:=fun d hd=>by
 obtain⟨v,_,hv⟩:=mem_flatMap.1 hd;unfold cV at hv;simp only[mem_cons,not_mem_nil,or_false] at hv;rcases hv with rfl|rfl|rfl<;>rfl
theorem agx(l:List cj):∀d∈l.flatMap gR,kQ d=true:=fun d hd=>by
 obtain⟨v,_,hv⟩:=mem_flatMap.1 hd;unfold gR at hv;rw[mem_singleton] at hv;subst hv;rfl
theorem B5.flat{r:D}(h:B5 p r S):kQ r=true∧∀B∈S,∀d∈B.cs,kQ d=true:=by
 obtain⟨L,ad,cap,Sx,rfl,ho,aR,hL,rfl⟩:=h;refine⟨rfl,fun B E=>?_⟩;rcases mem_append.1 E with E|E
 ·rcases ho with ⟨_,_,_,_,rfl⟩|⟨b,_,_,_,rfl⟩
  ·cases E
  rw[mem_singleton] at E;subst E;exact agx L
 obtain⟨o,I,E⟩:=mem_flatMap.1 E;have h1:=aR o I;unfold bR at E;rcases h1 with ⟨_,_,_,_,h2⟩|⟨b,_,_,_,h2⟩
 ·rw[h2] at E;cases E
 rw[h2,mem_singleton] at E;subst E;exact agw o.r
theorem agy(g:ew t n)(s:cA):rD t s<4:=by
 unfold rD;split
 ·decide
 have:=(Kt (l:=t.az) (nm:=s.order)).2;rw[g.az] at this ⊢;exact this
theorem ahV(g:ew t n){names:List ByteArray}(h:∀n∈names,0≤bD t.az n):∀c∈mY t names,0≤c∧c.toNat<4:=fun c hc=>by
 have h4:t.az.length=4:=(by rw[g.az];rfl)
 unfold mY at hc;split at hc
 ·obtain⟨i,hi,rfl⟩:=mem_map.1 hc;have:=mem_range.1 hi;constructor
  ·exact Int.natCast_nonneg i
  show i<4;omega
 obtain⟨x,hx,rfl⟩:=mem_map.1 hc;have:=(Kt (l:=t.az) (nm:=x)).2;have:=h x hx;omega
theorem ahW(f:ah→Nat):(((L++[o]).flatMap bR).map f).sum=((L.flatMap bR).map f).sum+(o.S.map f).sum:=by
 rw[TB];simp only[bR,map_append,sum_append]
theorem Qf:(Tryz.prog.info? 3).map (fun i=>(i.zero,i.size,i.bytes))=some (some (.int .i64 0),1,8):=by kernel_rfl
theorem aad:(Tryz.prog.info? 28).map (fun i=>(i.zero,i.size,i.bytes))=some (some (.slice none 0 0),1,24):=by kernel_rfl
theorem aae:(Tryz.prog.info? 41).map (fun i=>(i.zero,i.size,i.bytes))=some (some (.agg #[.int .i64 0,.int .i64 0,.string ⟨#[]⟩]),3,32):=by kernel_rfl
theorem ae4(hm:(3,marksC)∈G)(hw:(1,wordsC)∈G)(ht:(0,typesC)∈G)(hG:(2,[Value.int .i64 m])∈G)(t:aM)(g:ew t n)(s:cA)(rK:s.names.length≤1000)(ho:∀o∈s.aj,o.nm.size≤maxLen)(fR:∀o∈s.aj,o.v.Ok):VC Tryz.prog G 44 [.agg (c8 t),.agg (bU s)] [] (B5 (lQ t s)):=by
 refine VC.body func44 rfl ntmps44 aQ fun X0 w0 bg=>?_;have dz:=ei;have AR:=Ks (G:=G) hm hw ht hG t g s.aj ho fR;have DZ:=Fs g s.aj;have mD:=tZ g s.aj;have N9:=E0 g s.aj;obtain⟨M,hM⟩:∃M,M=ax t s.aj:=⟨_,rfl⟩
 rw[←hM] at AR DZ mD N9;obtain⟨sl,em⟩:=M;dsimp only at DZ mD N9;have mO:=g.eJ;have aku:t.az.length=4:=(by rw[g.az];rfl)
 unfold c8 at AR;unfold c8 bU;refine bY ?_;refine OD.box (ds:=[_,_,_,_,_]) ap rfl rfl ot rfl rfl (fun b2=>?_);refine OD.box (ds:=[_,_,_,_,_,_,_,_,_,_,_,_]) ap rfl rfl ot rfl rfl (fun b3=>?_);refine OD.alloc (ds:=[_,_]) ap rfl rfl zeroValue36 rfl (fun b4=>?_);refine an 135 [2,3,4] ?_;refine bY ?_;refine bf [2,3,4,6] ?_;refine af [2,3,4,6,21,22,23] ?_;refine eD [2,3,4,21,22] (fun aW _ (O:Nat×List Int×Option Addr×Nat×List ah) aH=>match O with|(i,acc,Z,nY,Sa)=>(i≤s.names.length)∧(acc=(s.names.take i).map (bD t.az))∧(∀x∈s.names.take i,0≤bD t.az x)∧(bp 3 1 ((acc).flatMap Tw.cI) (acc).length Z nY Sa)∧aH=(⟨135,(6,aP Z (acc).length nY)::(23,ae (i:Nat))::aW,(⟨b4,36,2,[bA,ae 0]⟩::⟨b3,32,12,bU s⟩::⟨b2,53,5,c8 t⟩::Sa)⟩:St)) (fun (O:Nat×List Int×Option Addr×Nat×List ah)=>match O with|(i,acc,Z,nY,Sa)=>s.names.length-i) (0,([]:List Int),none,0,[]) ⟨(Nat.zero_le _),rfl,(fun x h=>by cases h),(bp.cast ik jN),rfl⟩ ?_;rintro⟨i,acc,Z,nY,Sa⟩ _ ⟨hi,oZ,j9,oH,rfl⟩;refine af [2,3,4,6,21,22,23,24] ?_;refine au ?_ ?_<;>intro aO bE
 ·have aa:i<s.names.length:=(by omega)
  have e9:=IK (G:=G) t w4 s.names[i];unfold c8 at e9;have qc:acc.length=i:=(by rw[oZ,length_map,length_take];omega)
  refine af [2,3,4,6,8,21,22,23] ?_;refine cX [2,3,4,6,9,21,22,23] (e9) ?_;refine af [2,3,4,6,9,21,22,23,31] ?_;refine au ?_ ?_<;>intro aY cJ
  ·have CF:bD t.az s.names[i]<0:=(by simpa using aY)
   have aV:lQ t s=(([],0),8):=if_pos (any_eq_true.2 ⟨s.names[i],getElem_mem _,decide_eq_true CF⟩);refine aD 1 ?_;refine aN 0 [_,_] sizeOf36 ?_;exact MP
  have CF:¬bD t.az s.names[i]<0:=(by simpa using aY)
  have akD:∀x∈s.names.take (i+1),0≤bD t.az x:=fun x hx=>by rw[take_succ_eq_append_getElem aa] at hx;rcases mem_append.1 hx with hx|hx;exact j9 x hx;rw[mem_singleton] at hx;subst hx;omega
  refine dO 2 ?_;refine ev (cc 0 [_]) [.int .i64 0] [_] zeroValue3 runUnderlying67 sizeOf3 (fun b35=>?_);refine fF 0 35 1 1 ?_;refine OD.en (ls:=(acc)) (new:=[bD t.az s.names[i]]) (Sq:=Sa) Tw.eo Tw.nG ap rfl rfl underlying67 Qf rfl w7 ot oH (dg (A:=[_,_,_])) ot bq mr mu (fun Hr L5 akE akF=>?_);refine OD.perm (ee (S1:=[⟨Hr,3,L5*1,flatMap Tw.cI ((acc)++[bD t.az s.names[i]])⟩]) (A:=[_,_,_])) ?_;refine an 135 [2,3,4,6,21,22,23] ?_;refine cl [2,3,4,6,21,22,23] ?_;refine⟨((i+1),(acc++[bD t.az s.names[i]]),(some ⟨Hr,0,none⟩),L5,[⟨Hr,3,L5*1,flatMap Tw.cI ((acc)++[bD t.az s.names[i]])⟩]),_,cz,aK,w4,(by rw[oZ,←pE aa,map_append];rfl),akD,(bp.cast (bH akE akF) jN),rfl⟩
 have td:s.names.take i=s.names:=take_of_length_le w4;rw[td] at oZ j9;have GJ:¬(s.names.any fun n=>decide (bD t.az n<0))=true:=fun h=>by obtain⟨x,h1,h2⟩:=any_eq_true.1 h;have:=j9 x h1;have:=of_decide_eq_true h2;omega
 refine CD.exit ?_;refine jQ [2,3,4] (fun aW _ aH=>∃(acc:List Int),∃(Z:Option Addr),∃(nY:Nat),∃(Sa:List ah),(acc=mY t s.names)∧(bp 3 1 (acc.flatMap Tw.cI) acc.length Z nY Sa)∧aH=(⟨135,(6,aP Z acc.length nY)::aW,(⟨b4,36,2,[bA,ae 0]⟩::⟨b3,32,12,bU s⟩::⟨b2,53,5,c8 t⟩::Sa)⟩:St)) ?_ ?_
 ·refine af [2,3,4,6,41] ?_;refine au ?_ ?_<;>intro cm cW
  ·have gN:s.names.length=0:=(by simpa using cm)
   have akG:acc=[]:=(by rw[oZ,length_eq_zero_iff.1 gN];rfl)
   refine af [2,3,4,6,44,45] ?_;refine eD [2,3,4,44] (fun aW _ (O:Nat×List Int×Option Addr×Nat×List ah) aH=>match O with|(j,U,Z,nY,Sa)=>(j≤t.az.length)∧(U=(range j).map Int.ofNat)∧(bp 3 1 ((U).flatMap Tw.cI) (U).length Z nY Sa)∧aH=(⟨135,(6,aP Z (U).length nY)::(45,ae (j:Nat))::aW,(⟨b4,36,2,[bA,ae 0]⟩::⟨b3,32,12,bU s⟩::⟨b2,53,5,c8 t⟩::Sa)⟩:St)) (fun (O:Nat×List Int×Option Addr×Nat×List ah)=>match O with|(j,U,Z,nY,Sa)=>t.az.length-j) (0,acc,Z,nY,Sa) ⟨(Nat.zero_le _),akG,(bp.cast oH jN),rfl⟩ ?_;rintro⟨j,U,Z,nY,Sa⟩ _ ⟨hj,KY,oH,rfl⟩;refine af [2,3,4,6,44,45,46] ?_;refine au ?_ ?_<;>intro da ek
   ·have apJ:j<t.az.length:=(by omega)
    have apK:U.length=j:=(by rw[KY,length_map,length_range])
    refine af [2,3,4,6,10,44,45] ?_;refine dO 2 ?_;refine ev (cc 0 [_]) [.int .i64 0] [_] zeroValue3 runUnderlying67 sizeOf3 (fun AK=>?_);refine fF 0 50 1 1 ?_;refine OD.en (ls:=(U)) (new:=[(j:Int)]) (Sq:=Sa) Tw.eo Tw.nG ap rfl rfl underlying67 Qf rfl w7 ot oH (dg (A:=[_,_,_])) ot bq mr mu (fun yC L6 L7 L8=>?_);refine OD.perm (ee (S1:=[⟨yC,3,L6*1,flatMap Tw.cI ((U)++[(j:Int)])⟩]) (A:=[_,_,_])) ?_;refine an 135 [2,3,4,6,44,45] ?_;refine cl [2,3,4,6,44,45] ?_;refine⟨((j+1),(U++[(j:Int)]),(some ⟨yC,0,none⟩),L6,[⟨yC,3,L6*1,flatMap Tw.cI ((U)++[(j:Int)])⟩]),_,cz,aK,w4,(by rw[KY,range_succ,map_append];rfl),(bp.cast (bH L7 L8) jN),rfl⟩
   have hjf:U=mY t s.names:=(by unfold mY;rw[if_pos gN,KY,show j=t.az.length by omega])
   refine CD.exit ?_;refine⟨_,aK,(U),Z,nY,Sa,hjf,oH,rfl⟩
  have gN:¬s.names.length=0:=(by simpa using cm)
  refine CD.skip ?_;refine⟨_,aK,(acc),Z,nY,Sa,(by unfold mY;rw[if_neg gN];exact oZ),oH,rfl⟩
 rintro _ ⟨acc,Z,nY,Sa,uK,oH,rfl⟩;refine CD.seq ?_;refine CD.ic (t:=6) (Sq:=Sa) lk oH (cu Tw.eo _) (dg (A:=[_,_,_])) ?_;refine rS ?_;refine OD.alloc (ds:=[_]) ap rfl rfl zeroValue3 rfl (fun k8=>?_);refine aN 0 [_] sizeOf3 ?_;refine an 135 [2,3,4,6,11] ?_;refine jQ [2,3,4,6,11] (fun aW _ aH=>∃(ov:Int),(0≤ov)∧(ov=rD t s)∧aH=(⟨135,aW,[⟨k8,3,1,[ae ov]⟩,⟨b4,36,2,[bA,ae 0]⟩,⟨b3,32,12,bU s⟩,⟨b2,53,5,c8 t⟩]⟩:St)) ?_ ?_
 ·refine af [2,3,4,6,11,55] ?_;refine au ?_ ?_<;>intro ez fw
  ·have AS:¬(s.order.toList==(⟨#[]⟩:ByteArray).toList)=true:=(by rw[fw];decide)
   have Wo:=IK (G:=G) t w4 s.order;unfold c8 at Wo;have D5:rD t s=bD t.az s.order:=if_neg AS;refine aD 3 ?_;refine dV call85 (Wo) ?_;refine aN 0 [_] sizeOf3 ?_;refine an 135 [2,3,4,6,11] ?_;refine af [2,3,4,6,11,61] ?_;refine au ?_ ?_<;>intro fg gB
   ·have CF:rD t s<0:=(by rw[D5];simpa using fg)
    have aV:lQ t s=(([],0),8):=(by unfold lQ;rw[if_neg GJ,if_pos CF])
    refine aD 1 ?_;refine aN 1 [_,_] sizeOf36 ?_;exact MP
   have CF:¬rD t s<0:=(by rw[D5];simpa using fg)
   refine CD.skip ?_;refine⟨_,aK,(bD t.az s.order),w4,D5.symm,rfl⟩
  have AS:(s.order.toList==(⟨#[]⟩:ByteArray).toList)=true:=fw;have D5:rD t s=0:=if_pos AS;refine CD.skip ?_;refine⟨_,aK,0,(Int.le_refl 0),D5.symm,rfl⟩
 rintro _ ⟨ov,akH,mS,rfl⟩;refine aD 3 ?_;refine OD.call ap rfl rfl rfl call86 AR ⟨ot,ot,trivial⟩ (eR _) ?_;rintro _ Sx ⟨dr,cY,rfl,dY⟩;refine OD.perm (ee (A:=[_,_,_,_])) ?_;refine an 135 [2,3,4,6,11,12,13] ?_;refine af [2,3,4,6,11,12,13,71] ?_;refine au ?_ ?_<;>intro gY kS
 ·have HH:em≠0:=(by simpa using gY)
  have aV:lQ t s=(([],0),em):=(by unfold lQ;rw[if_neg GJ,if_neg w4,←hM];exact if_pos HH)
  refine aD 2 ?_;refine aN 1 [_,_] sizeOf36 ?_;exact MP
 have HH:¬em≠0:=(by simpa using gY)
 refine CD.skip ?_;refine jQ [2,3,4,6] (fun aW _ aH=>∃(on:Nat),∃(lz:List Int),((on:Int)=rD t s)∧(lz=B4 t s.down on sl)∧(lz.length=sl.length)∧(∀x∈lz,gb t x)∧aH=(⟨135,(12,av 1 Tw.cI lz)::aW,[⟨k8,3,1,[ae (on:Nat)]⟩,⟨b4,36,2,[bA,ae 0]⟩,⟨b3,32,12,bU s⟩,⟨b2,53,5,c8 t⟩]⟩:St)) ?_ ?_
 ·obtain⟨on,rfl⟩:=Int.eq_ofNat_of_zero_le akH;have jO:on<4:=(by have:=agy g s;omega)
  rcases dY with ⟨hn,dH,rfl,rfl,rfl⟩|⟨bx,rfl,qm,nX,rfl⟩
  ·obtain rfl:=length_eq_zero_iff.1 hn;refine dO 1 ?_;refine bN (pG (ds:=[_,_,_]) rfl ⟨ot,ot,ot,trivial⟩) ?_;refine dV call87 (adn _) ?_;refine OD.wk (Wk.tL (t:=12) (sz:=1) lk) ?_;refine an 135 [2,3,4,6,12] ?_;refine⟨_,aK,on,[],mS,(JZ ⟨Perm.refl _,Pairwise.nil⟩),rfl,(fun x h=>by cases h),rfl⟩
  refine dO 1 ?_;refine bN (pG (ds:=[_,_,_]) rfl ⟨ot,ot,ot,trivial⟩) ?_;refine OD.call (Sf:=⟨bx,3,cY*1,sl.flatMap Tw.cI⟩::[⟨b2,53,5,c8 t⟩,⟨k8,3,1,[ae (on:Nat)]⟩,⟨b3,32,12,bU s⟩]) (R:=[⟨b4,36,2,[bA,ae 0]⟩]) ap rfl rfl rfl call87 (aeW sl.length cY bx 88 [dM b2,dM k8,dM b3] [⟨b2,53,5,c8 t⟩,⟨k8,3,1,[ae (on:Nat)]⟩,⟨b3,32,12,bU s⟩] (kZ t s.down on) (gb t) (DY t) (fun x y hx hy=>aeZ t g s on jO b2 k8 b3 x y hx hy) call88 (fun h1 h2=>agt t s.down on h1 h2) (fun x y h=>by have:=Qb t s.down on x y;omega) qm nX DZ sl N9 rfl mD) ⟨ot,ot,trivial⟩ (show([⟨k8,3,1,[ae (on:Nat)]⟩,⟨b4,36,2,[bA,ae 0]⟩,⟨b3,32,12,bU s⟩,⟨b2,53,5,c8 t⟩]++[⟨bx,3,cY*1,sl.flatMap Tw.cI⟩]:List ah).Perm ((⟨bx,3,cY*1,sl.flatMap Tw.cI⟩::[⟨b2,53,5,c8 t⟩,⟨k8,3,1,[ae (on:Nat)]⟩,⟨b3,32,12,bU s⟩])++[⟨b4,36,2,[bA,ae 0]⟩]) from(iH fun jj=>by simp only[map_append,map_cons,map_nil,sum_append,sum_cons,sum_nil];omega)) ?_;rintro _ _ ⟨rfl,lz,yn,rfl⟩;have l8:=yn.1.length_eq;refine OD.perm (S':=⟨k8,3,1,[ae (on:Nat)]⟩::⟨b4,36,2,[bA,ae 0]⟩::⟨b3,32,12,bU s⟩::⟨b2,53,5,c8 t⟩::[⟨bx,3,cY*1,lz.flatMap Tw.cI⟩]) (show((⟨bx,3,cY*1,lz.flatMap Tw.cI⟩::[⟨b2,53,5,c8 t⟩,⟨k8,3,1,[ae (on:Nat)]⟩,⟨b3,32,12,bU s⟩])++[⟨b4,36,2,[bA,ae 0]⟩]:List ah).Perm _ from(iH fun jj=>by simp only[map_append,map_cons,map_nil,sum_append,sum_cons,sum_nil];omega)) ?_;rw[←l8]
  refine OD.ic (t:=12) (Sq:=[⟨bx,3,cY*1,lz.flatMap Tw.cI⟩]) lk (bH (by rw[l8];exact qm) nX) (cu Tw.eo _) (dg (A:=[_,_,_,_])) ?_;refine an 135 [2,3,4,6,12] ?_;refine⟨_,aK,on,lz,mS,(JZ yn),(by first|exact l8|rfl),(fun x hx=>mD x (yn.1.subset hx)),rfl⟩
 rintro _ ⟨on,lz,mS,Vi,l8,Vj,rfl⟩;refine jQ [2,3,4,6] (fun aW uL aH=>∃(E:List Int),(E=tV t s)∧(∀x∈E,gb t x)∧(E.length≤40)∧aH=(⟨135,(12,av 1 Tw.cI E)::aW,uL⟩:St)) ?_ ?_
 ·refine aD 4 ?_;refine bW 80 (fun K5 FK=>?_) (fun K5 FK=>?_)
  ·refine bf [2,3,4,6,12,86] ?_;refine au ?_ ?_<;>intro gq lB
   ·have mR:0≤s.iq∧s.iq<lz.length:=⟨FK,lB⟩
    refine iv [2,3,4,6,12] ?_;refine aS 3 ?_ (h:=by exact(eA (l:=0) (h:=s.iq.toNat) rfl ot trivial ⟨_,by rw[Int.toNat_of_nonneg mR.1];exact ot⟩ (by exact oP Tw.eo (fun h=>by cases h) runUnderlying67 sizeOf3 w4)));refine bK ?_;refine⟨_,aK,(lz.take s.iq.toNat),(by unfold tV sI;rw[←mS,Int.toNat_natCast,←hM,←Vi,if_pos mR]),(fun x hx=>Vj x (mem_of_mem_take hx)),o9,rfl⟩
   exact Xb
  refine bf [2,3,4,6,12,86] ?_;refine fN ?_;exact Xb
 rintro _ ⟨E,Wp,yg,apL,rfl⟩;refine aD 3 ?_;refine OD.alloc (ds:=[_,_]) ap rfl rfl zeroValue36 rfl (fun Ax=>?_);refine aN 0 [_,_] sizeOf36 ?_;refine an 135 [2,3,4,6,12,14] ?_;refine af [2,4,6,12,14,95] ?_;refine au ?_ ?_<;>intro p9 Gs
 ·have Co:s.count=true:=p9;have aV:lQ t s=(([[⟨2,((E.length:Nat):Int),⟨#[]⟩⟩]],((E.length:Nat):Int)),0):=(by unfold lQ;rw[if_neg GJ,if_neg w4,←hM,if_neg HH,if_pos Co,←Wp])
  refine aD 3 ?_;refine ev (cc 0 [_]) [.int .i64 0,.int .i64 0,.string ⟨#[]⟩] [_,_,_] zeroValue41 runUnderlying28 sizeOf41 (fun Oa=>?_);refine ev (cc 0 [_]) [.slice none 0 0] [_] zeroValue28 runUnderlying34 sizeOf28 (fun Wq=>?_);refine aE 1 ?_;refine aN 2 [_,_] sizeOf34 ?_;refine an 135 [4,14] ?_;refine aD 1 ?_;refine aN 4 [_,_] sizeOf36 ?_;refine an 135 [4,5] ?_;refine aJ [_,_] ?_;rw[aV];exact⟨[⟨[⟨2,(E.length:Nat),⟨#[]⟩⟩],some ⟨Oa,0,none⟩,1,[⟨Oa,41,1*3,[⟨2,(E.length:Nat),⟨#[]⟩⟩].flatMap cV⟩]⟩],some ⟨Wq,0,none⟩,1,[_],rfl,.inr ⟨Wq,rfl,Nat.le_refl _,(show 1≤maxLen by decide),rfl⟩,(fun o ho=>by rw[mem_singleton] at ho;subst ho;exact .inr ⟨Oa,rfl,Nat.le_refl _,(show 1≤maxLen by decide),rfl⟩),rfl,rfl⟩
 have Co:¬s.count=true:=(by rw[p9];decide)
 have aV:lQ t s=((E.map (zW t acc),((E.length:Nat):Int)),0):=(by unfold lQ;rw[if_neg GJ,if_neg w4,←hM,if_neg HH,if_neg Co,←Wp,←uK])
 have Wr:=ahV g j9;rw[←uK] at Wr;have apM:acc.length≤1000:=(by rw[uK];unfold mY;split;(rw[length_map,length_range];omega);(rw[length_map];omega))
 refine af [2,4,6,14,103,104,105] ?_;refine eD [2,4,6,14,103,104] (fun aW _ (O:Nat×List cj×Option Addr×Nat×List ah) aH=>match O with|(i,L,dr,cY,Sx)=>(i≤E.length)∧(L.map cj.r=(E.take i).map (zW t acc))∧(∀o∈L,nW o)∧(sQ L dr cY Sx)∧aH=(⟨135,(105,ae (i:Nat))::aW,(⟨Ax,36,2,[aP dr L.length cY,ae (E.length:Nat)]⟩::⟨k8,3,1,[ae (on:Nat)]⟩::⟨b4,36,2,[bA,ae 0]⟩::⟨b3,32,12,bU s⟩::⟨b2,53,5,c8 t⟩::(Sx++L.flatMap bR))⟩:St)) (fun (O:Nat×List cj×Option Addr×Nat×List ah)=>match O with|(i,L,dr,cY,Sx)=>E.length-i) (0,([]:List cj),none,0,[]) ⟨(Nat.zero_le _),rfl,(fun o h=>by cases h),ik,rfl⟩ ?_;rintro⟨i,L,dr,cY,Sx⟩ _ ⟨hi,hL,aR,dY,rfl⟩;refine af [2,4,6,14,103,104,105,106] ?_;refine au ?_ ?_<;>intro Dj LA
 ·have aa:i<E.length:=(by omega)
  obtain⟨gF,qm,nX⟩:=yg _ (getElem_mem aa);have rZ:=oW (g.row _ qm nX).1;have rV:L.length=i:=(by have:=congrArg length hL;rw[length_map,length_map,length_take] at this;omega)
  refine af [2,4,6,14,16,103,104,105] ?_;refine bY ?_;refine bf [2,4,6,14,16,17,103,104,105] ?_;refine af [2,4,6,14,16,17,103,104,105,109,110,111] ?_;refine eD [2,4,6,14,16,103,104,105,109,110] (fun aW _ (O:Nat×List Vl×Option Addr×Nat×List ah) aH=>match O with|(j,I,gD,gE,Sy)=>(j≤acc.length)∧(I=(acc.take j).map fun c=>(rowAt t (E[i]'aa)).getD c.toNat bJ)∧(bp 41 3 (I.flatMap cV) I.length gD gE Sy)∧aH=(⟨135,(17,aP gD I.length gE)::(111,ae (j:Nat))::aW,(⟨Ax,36,2,[aP dr L.length cY,ae (E.length:Nat)]⟩::⟨k8,3,1,[ae (on:Nat)]⟩::⟨b4,36,2,[bA,ae 0]⟩::⟨b3,32,12,bU s⟩::⟨b2,53,5,c8 t⟩::(Sy++(Sx++L.flatMap bR)))⟩:St)) (fun (O:Nat×List Vl×Option Addr×Nat×List ah)=>match O with|(j,I,gD,gE,Sy)=>acc.length-j) (0,([]:List Vl),none,0,[]) ⟨(Nat.zero_le _),rfl,ik,rfl⟩ ?_;rintro⟨j,I,gD,gE,Sy⟩ _ ⟨hj,KZ,vV,rfl⟩;refine af [2,4,6,14,16,17,103,104,105,109,110,111,112] ?_;refine au ?_ ?_<;>intro Gb BI
  ·have l6:j<acc.length:=(by omega)
   obtain⟨Ws,apN⟩:=Wr _ (getElem_mem l6);have Ob:(acc[j]'l6).toNat<(t.rows[(E[i]'aa).toNat]'qm).length:=(by omega)
   have ahX:(rowAt t (E[i]'aa)).getD (acc[j]'l6).toNat bJ=(t.rows[(E[i]'aa).toNat]'qm)[(acc[j]'l6).toNat]:=(by rw[ja qm,getD_eq_getElem?_getD,getElem?_eq_getElem Ob];rfl)
   have apO:I.length=j:=(by rw[KZ,length_map,length_take];omega)
   refine af [2,4,6,14,16,17,19,103,104,105,109,110,111] ?_;refine dO 4 ?_;refine bN (dc 1 (h:=by first|exact .l (j:=(E[i]'aa).toNat) (Int.toNat_of_nonneg gF).symm qm|exact .r (j:=(E[i]'aa).toNat) (Int.toNat_of_nonneg gF).symm qm)) ?_;refine aE 2 ?_;refine bN (dc 3 (h:=by first|exact .l (j:=(acc[j]'l6).toNat) (Int.toNat_of_nonneg Ws).symm Ob|exact .r (j:=(acc[j]'l6).toNat) (Int.toNat_of_nonneg Ws).symm Ob)) ?_;refine aE 1 ?_;refine ev (cc 0 [_]) [.int .i64 0,.int .i64 0,.string ⟨#[]⟩] [_,_,_] zeroValue41 runUnderlying28 sizeOf41 (fun apP=>?_);refine fF 0 124 3 1 ?_;refine OD.en (ls:=I) (new:=[(t.rows[(E[i]'aa).toNat]'qm)[(acc[j]'l6).toNat]]) (Sq:=Sy) eS BA ap rfl rfl underlying28 aae rfl w7 ot vV (IY (A:=[_,_,_,_,_])) ot bq mr mu (fun L9 K0 ahY ahZ=>?_);refine OD.perm (QA (S1:=[⟨L9,41,K0*3,flatMap cV (I++[(t.rows[(E[i]'aa).toNat]'qm)[(acc[j]'l6).toNat]])⟩]) (A:=[_,_,_,_,_])) ?_;refine an 135 [2,4,6,14,16,17,103,104,105,109,110,111] ?_;refine cl [2,4,6,14,16,17,103,104,105,109,110,111] ?_;refine⟨((j+1),(I++[(t.rows[(E[i]'aa).toNat]'qm)[(acc[j]'l6).toNat]]),(some ⟨L9,0,none⟩),K0,[⟨L9,41,K0*3,flatMap cV (I++[(t.rows[(E[i]'aa).toNat]'qm)[(acc[j]'l6).toNat]])⟩]),_,cz,aK,w4,(by rw[KZ,←ahX,←pE l6,map_append];rfl),(bH ahY ahZ),rfl⟩
  have vL:(L++[(⟨I,gD,gE,Sy⟩:cj)]).map cj.r=(E.take (i+1)).map (zW t acc):=(by rw[map_append,hL,←pE aa,map_append];congr 1;show[I]=[zW t acc (E[i]'aa)];rw[KZ,take_of_length_le w4];rfl)
  have jW:∀o∈L++[(⟨I,gD,gE,Sy⟩:cj)],nW o:=fun o ho=>by rcases mem_append.1 ho with ho|ho;exact aR o ho;rw[mem_singleton] at ho;subst ho;exact vV
  refine dO 3 ?_;refine ev (cc 0 [_]) [.slice none 0 0] [_] zeroValue28 runUnderlying34 sizeOf28 (fun apQ=>?_);refine fF 0 130 1 1 ?_;refine OD.en (ls:=L) (new:=[(⟨I,gD,gE,Sy⟩:cj)]) (Sq:=Sx) u5 Ux ap rfl rfl underlying34 aad rfl w7 ot dY (tw (A:=[_,_,_,_,_])) ot bq mr mu (fun GK F4 ah0 ah1=>?_);refine OD.perm (wq (S2:=[⟨GK,28,F4*1,flatMap gR (L++[(⟨I,gD,gE,Sy⟩:cj)])⟩]) (A:=[_,_,_,_,_])) ?_;refine OD.perm (S':=⟨Ax,36,2,[aP dr L.length cY,ae (E.length:Nat)]⟩::⟨k8,3,1,[ae (on:Nat)]⟩::⟨b4,36,2,[bA,ae 0]⟩::⟨b3,32,12,bU s⟩::⟨b2,53,5,c8 t⟩::([⟨GK,28,F4*1,flatMap gR (L++[(⟨I,gD,gE,Sy⟩:cj)])⟩]++(L++[(⟨I,gD,gE,Sy⟩:cj)]).flatMap bR)) (iH fun jj=>by simp only[map_append,map_cons,map_nil,sum_append,sum_cons,sum_nil,ahW];omega) ?_;refine aE 1 ?_;refine aN 0 [_,_] sizeOf34 ?_;refine an 135 [2,4,6,14,103,104,105] ?_;refine cl [2,4,6,14,103,104,105] ?_;refine⟨((i+1),(L++[(⟨I,gD,gE,Sy⟩:cj)]),(some ⟨GK,0,none⟩),F4,[⟨GK,28,F4*1,flatMap gR (L++[(⟨I,gD,gE,Sy⟩:cj)])⟩]),_,cz,aK,w4,vL,jW,(bH ah0 ah1),rfl⟩
 have pD:L.map cj.r=E.map (zW t acc):=(by rw[hL,take_of_length_le w4])
 refine aD 1 ?_;refine aN 2 [_,_] sizeOf36 ?_;refine an 135 [4,5] ?_;refine aJ (Sx++L.flatMap bR) ?_;rw[aV];exact⟨L,dr,cY,Sx,rfl,dY,aR,pD,rfl⟩

abbrev ie(bo:Nat)(ad:Option Addr)(n cap:Nat):ah:=⟨bo,25,1,[aP ad n cap]⟩
def gW(s:cA):aM:=⟨s.table,s.az,[],pW⟩
def xK(s:cA):aU:=⟨gW s,[],none,0,[],[]⟩
theorem ae5(s:cA):qj (xK s):=⟨[],rfl,rfl,(fun o h=>by cases h),rfl,ik⟩
def qn(l:List aM)(s:cA):List aM×Int:=if 0≤aT l s.table then (l,9) else if l.length=4 then (l,10) else (l++[gW s],0)
def F5(l:List aM)(bo:Nat)(S:List ah):Prop:=∃(L:List aU) (ad:Option Addr) (cap:Nat) (Sx:List ah),xH L ad cap Sx∧(∀o∈L,okW o)∧L.map aU.t=l∧S.Perm (ie bo ad L.length cap::(Sx++L.flatMap bT))
theorem aaf:(Tryz.prog.info? 53).map (fun i=>(i.zero,i.size,i.bytes))=some (some (.agg #[.string ⟨#[]⟩,.slice none 0 0,.slice none 0 0,.slice none 0 0,.int .i64 0]),5,96):=by kernel_rfl
theorem abF(L:List aU)(aR:∀o∈L,qj o)(hL:L.length≤4)(s:cA)(lm:s.az.length≤1000)(bo:Nat)(ad:Option Addr)(cap:Nat)(Sx:List ah)(O:xH L ad cap Sx):VC Tryz.prog G 41 [dM bo,.agg (bU s)] (ie bo ad L.length cap::(Sx++L.flatMap bT)) (fun r S=>r=ae (qn (L.map aU.t) s).2∧((qn (L.map aU.t) s).2=0→F5 (qn (L.map aU.t) s).1 bo S)):=by
 refine VC.body func41 rfl ntmps41 aQ fun X0 w0 bg=>?_;have dz:=ei;have U:=fun o ho=>(aR o ho).w;have fP:=qt (G:=G) (L.map aU.t) F8 s.table;unfold av at fP;rw[length_map] at fP;unfold bU;refine bY ?_;refine OD.box (ds:=[_,_,_,_,_,_,_,_,_,_,_,_]) ap rfl rfl ot rfl rfl (fun b3=>?_);refine an 37 [0,3] ?_;refine cZ [0,3,5] ?_;refine nA 6 ?_;refine zK (fP) (ha:=by exact⟨⟨_,ot,(FF O U (fun B hB=>by repeat (first|exact hB|apply mem_append_right|apply mem_cons_of_mem)))⟩,⟨_,ot,eU⟩,trivial⟩) (K:=?_);refine bK ?_;refine au ?_ ?_<;>intro aO bE
 ·have h0:0≤aT (L.map aU.t) s.table:=(by simpa using aO)
  have aV:qn (L.map aU.t) s=(L.map aU.t,9):=if_pos h0;refine af [4] ?_;exact z51
 have h0:¬0≤aT (L.map aU.t) s.table:=(by simpa using aO)
 refine af [0,3,14] ?_;refine au ?_ ?_<;>intro aY cJ
 ·have h4:L.length=4:=(by have:=aY;simp at this;omega)
  have aV:qn (L.map aU.t) s=(L.map aU.t,10):=(by unfold qn;rw[if_neg h0,if_pos (by rw[length_map];exact h4)])
  refine af [4] ?_;exact z51
 have h4:¬L.length=4:=(by have:=aY;simp at this;omega)
 have aV:qn (L.map aU.t) s=(L.map aU.t++[gW s],0):=(by unfold qn;rw[if_neg h0,if_neg (by rw[length_map];exact h4)])
 have nv:=agc (G:=G);refine CD.skip ?_;refine CD.seq ?_;refine mv 13 [21,25,33] ?_;refine di (P5 s.az w4) ?_;refine di (nv) ?_;refine bK ?_;refine OD.en (ls:=L) (new:=[xK s]) (Sq:=Sx) uY Uy ap rfl rfl underlying23 aaf rfl w7 ot O (oO (A:=[_,_])) ot bq mr mu (fun I E Z akI=>?_);refine OD.perm (jo (S1:=[⟨I,53,E*5,flatMap gT (L++[xK s])⟩]) (A:=[_,_])) ?_;refine aE 2 ?_;refine aN 1 [_] sizeOf23 ?_;refine an 37 [] ?_;refine af [4] ?_;refine aJ (⟨bo,25,1,[_]⟩::([⟨I,53,E*5,flatMap gT (L++[xK s])⟩]++L.flatMap bT)) ?_;rw[aV];exact⟨rfl,fun _=>⟨L++[xK s],some ⟨I,0,none⟩,E,[⟨I,53,E*5,flatMap gT (L++[xK s])⟩],bH Z akI,(fun o ho=>by rcases mem_append.1 ho with ho|ho;exact U o ho;rw[mem_singleton] at ho;subst ho;exact(ae5 s).w),by rw[map_append];rfl,by rw[TC,show bT (xK s)=[] from rfl,append_nil]⟩⟩

noncomputable def gM(l:List aM)(s:cA):List aM×((List (List Vl)×Int)×Int) :=
 if s.kind=1 then ((qn l s).1,(([],0),(qn l s).2))
 else if aT l s.table<0 then (l,(([],0),8))
 else if s.kind=3 then (l.set (aT l s.table).toNat (gC (l.getD (aT l s.table).toNat (gW s)) s.row).1,(([],1),(gC (l.getD (aT l s.table).toNat (gW s)) s.row).2))
 else if s.kind=4 then (l,lQ (l.getD (aT l s.table).toNat (gW s)) s)
 else if s.kind=5 then (l.set (aT l s.table).toNat (ig (l.getD (aT l s.table).toNat (gW s)) s).1,(([],(ig (l.getD (aT l s.table).toNat (gW s)) s).2.1),(ig (l.getD (aT l s.table).toNat (gW s)) s).2.2))
 else (l.set (aT l s.table).toNat (mH (l.getD (aT l s.table).toNat (gW s)) s.aj).1,(([],(mH (l.getD (aT l s.table).toNat (gW s)) s.aj).2.1),(mH (l.getD (aT l s.table).toNat (gW s)) s.aj).2.2))
theorem O3:∀(c:List D) {S:List ah},gH S c c
 | [],_=>trivial
 | _::c,_=>⟨eU,O3 c⟩
theorem adr(L:List aU)(h:i<L.length):L.flatMap gT=(L.take i).flatMap gT++(gT L[i]++(L.drop (i+1)).flatMap gT):=by
 conv=>lhs;rw[←take_append_drop i L,drop_eq_getElem_cons h]
 rw[flatMap_append,flatMap_cons]
theorem agz(L:List aU)(h:i<L.length)(o:aU):(L.set i o).flatMap gT=(L.take i).flatMap gT++(gT o++(L.drop (i+1)).flatMap gT):=by
 rw[set_eq_take_append_cons_drop,if_pos h,flatMap_append,flatMap_cons]
theorem Ku(f:ah→Nat):∀(L:List aU) (i:Nat) (o:aU) (h:i<L.length),(((L.set i o).flatMap bT).map f).sum=((bT o).map f).sum+(((L.eraseIdx i).flatMap bT).map f).sum
 | [],_,_,h=>absurd h (Nat.not_lt_zero _)
 | x::L,0,o,_=>by simp
 | x::L,i+1,o,h=>by
  have:=Ku f L i o (Nat.lt_of_succ_lt_succ h);simp only[set_cons_succ,flatMap_cons,map_append,sum_append,eraseIdx_cons_succ,this];omega
theorem IP{A:List ah}{L:List aU}{bx z:Nat}(h:i<L.length):(A++([(⟨bx,53,z,L.flatMap gT⟩:ah)]++L.flatMap bT)).Perm (A++((⟨bx,53,z,(L.take i).flatMap gT++(gT L[i]++(L.drop (i+1)).flatMap gT)⟩:ah)::(bT L[i]++(L.eraseIdx i).flatMap bT))):=by
 rw[←adr L h];exact iH fun f=>by
  have:=Ku f L i L[i] h;rw[set_getElem_self] at this;simp only[map_cons,sum_cons,map_append,sum_append,map_nil,sum_nil,this];omega
theorem J4{L:List aU}{bx E:Nat}(h:i<L.length)(h1:L.length≤cap)(h2:cap≤maxLen)(aR:∀o∈L,okW o){o:aU}(ho:okW o)(hS:S.Perm (ie E (some ⟨bx,0,none⟩) L.length cap::((⟨bx,53,cap*5,(L.take i).flatMap gT++(gT o++(L.drop (i+1)).flatMap gT)⟩::bT o)++(L.eraseIdx i).flatMap bT))):F5 ((L.map aU.t).set i o.t) E S:=by
 refine⟨L.set i o,some ⟨bx,0,none⟩,cap,[⟨bx,53,cap*5,(L.set i o).flatMap gT⟩],bH (by rw[length_set];exact h1) h2,fun x hx=>?_,by rw[map_set],?_⟩
 ·rcases mem_or_eq_of_mem_set hx with hx|hx
  ·exact aR x hx
  rw[hx];exact ho
 rw[length_set,agz L h];refine hS.trans (iH fun f=>?_);have:=Ku f L i o h;simp only[map_cons,sum_cons,map_append,sum_append,map_nil,sum_nil,this];omega
theorem TO(h:vy t ad cap E):okW ⟨t,t.rows.flatMap gp,ad,cap,E,[]⟩:=⟨h,fun S _=>O3 _⟩
theorem ads(h:GG t L ad cap E):okW ⟨t,L.flatMap gR,ad,cap,E,L.flatMap bR⟩:=qj.w ⟨L,rfl,rfl,h.2.1,h.1,h.2.2⟩
theorem O4{o:aU}(h:qj o):∃U,vy o.t o.ad o.cap U∧∀(n:Nat) (env:List (Nat×D)) (A R:List ah),Wk ⟨n,env,A++(bT o++R)⟩ ⟨n,env,A++(U++R)⟩:=by
 obtain⟨L,h1,h2,h3,h4,h5⟩:=h;have Z:=Fk (S:=L.flatMap bR) h3 (fun B h=>h);have E:L.length=o.t.rows.length:=(by rw[←h4,length_map])
 rcases h5 with ⟨e1,e2,I,O,e5⟩|⟨b,e1,e2,I,O⟩
 ·have hL:L=[]:=length_eq_zero_iff.1 e1;subst hL;have hr:o.t.rows=[]:=(by rw[←h4];rfl)
  refine⟨[],.inl ⟨by rw[hr];rfl,by rw[hr];rfl,I,O,rfl⟩,fun n env A R=>?_⟩;have hb:bT o=[]:=(by unfold bT;rw[e5,h2];rfl)
  rw[hb];exact Wk.refl _
 refine⟨[⟨b,28,o.cap*1,o.t.rows.flatMap gp⟩],.inr ⟨b,e1,by rw[←E];exact e2,I,rfl⟩,fun n env A R=>?_⟩;have hb:bT o=⟨b,28,o.cap*1,L.flatMap gR⟩::L.flatMap bR:=(by unfold bT;rw[O,h2];rfl)
 rw[hb,←h4];have hc:=Wk.cover (n:=n) (l:=env) (S:=A++((⟨b,28,o.cap*1,L.flatMap gR⟩::L.flatMap bR)++R)) (A:=⟨b,28,o.cap*1,L.flatMap gR⟩) (R:=A++R) (Sd:=L.flatMap bR) (cs':=(L.map cj.r).flatMap gp) (iH fun f=>by simp only[map_cons,sum_cons,map_append,sum_append,map_nil,sum_nil];omega) Z;refine hc.trans (Wk.perm (iH fun f=>by simp only[map_cons,sum_cons,map_append,sum_append,map_nil,sum_nil];omega))
theorem agA(hm:(3,marksC)∈G)(hw:(1,wordsC)∈G)(ht:(0,typesC)∈G)(hG:(2,[Value.int .i64 m])∈G)(L:List aU)(aR:∀o∈L,qj o)(hL:L.length≤4)(hg:∀o∈L,∃n,n≤260∧ew o.t n)(s:cA)(fy:¬s.kind=2)(lm:s.az.length≤1000)(qg:s.row.length≤1000)(LJ:∀v∈s.row,v.Ok)(rK:s.names.length≤1000)(ho:∀o∈s.aj,o.nm.size≤maxLen)(fR:∀o∈s.aj,o.v.Ok)(pC:∀o∈s.bV,o.nm.size≤maxLen)(GI:∀o∈s.bV,o.v.Ok)(I:Nat)(ad:Option Addr)(cap:Nat)(Sx:List ah)(Z:xH L ad cap Sx):VC Tryz.prog G 27 [dM I,.agg (bU s)] (ie I ad L.length cap::(Sx++L.flatMap bT)) (fun r S=>r=AP (gM (L.map aU.t) s).2∧((gM (L.map aU.t) s).2.2=0→F5 (gM (L.map aU.t) s).1 I S)):=by
 refine VC.body func27 rfl ntmps27 aQ fun X0 w0 bg=>?_;have dz:=ei;have O:=fun o ho=>(aR o ho).w;have fP:=qt (G:=G) (L.map aU.t) F8 s.table;unfold av at fP;rw[length_map] at fP;have sV:=wD (fun t:aM=>t.nm.toList==s.table.toList) (L.map aU.t);rw[show dR (fun t:aM=>t.nm.toList==s.table.toList) (L.map aU.t)=(aT (L.map aU.t) s.table) from rfl,length_map] at sV;refine bY ?_;refine OD.box (ds:=[_,_,_,_,_,_,_,_,_,_,_,_]) ap rfl rfl ot rfl rfl (fun b3=>?_);refine OD.alloc (ds:=[_,_]) ap rfl rfl zeroValue36 rfl (fun b4=>?_);refine aE 1 ?_;first|refine OD.cells (k:=0) (cs':=[.list 1 [] 0,_]) rfl ⟨fp,dQ,trivial⟩ rfl ?_|skip
 refine an 87 [0,3,4] ?_;refine af [0,3,4,14] ?_;refine au ?_ ?_<;>intro aO bE
 ·have dP:s.kind=1:=(by simpa using aO)
  have aV:gM (L.map aU.t) s=((qn (L.map aU.t) s).1,(([],0),(qn (L.map aU.t) s).2)):=(by unfold gM;rw[if_pos dP])
  refine aD 3 ?_;refine OD.call (Sf:=ie I ad L.length cap::(Sx++L.flatMap bT)) (R:=[⟨b4,36,2,[.list 1 [] 0,ae 0]⟩,⟨b3,32,12,bU s⟩]) ap rfl rfl rfl call41 (abF L aR hL s lm I ad cap Sx Z) ⟨ot,ot,trivial⟩ (show(⟨b4,36,2,[.list 1 [] 0,ae 0]⟩::⟨b3,32,12,bU s⟩::ie I ad L.length cap::(Sx++L.flatMap bT):List ah).Perm (ie I ad L.length cap::(Sx++L.flatMap bT)++[⟨b4,36,2,[.list 1 [] 0,ae 0]⟩,⟨b3,32,12,bU s⟩]) from(iH fun jj=>by simp only[map_append,map_cons,map_nil,sum_append,sum_cons,sum_nil];omega)) ?_;rintro _ U ⟨rfl,h9⟩;refine OD.perm (S':=⟨b4,36,2,[.list 1 [] 0,ae 0]⟩::⟨b3,32,12,bU s⟩::U) (show(U++[⟨b4,36,2,[.list 1 [] 0,ae 0]⟩,⟨b3,32,12,bU s⟩]:List ah).Perm _ from(iH fun jj=>by simp only[map_append,map_cons,map_nil,sum_append,sum_cons,sum_nil];omega)) ?_;refine aN 0 [_,_] sizeOf36 ?_;refine aE 1 ?_;first|refine OD.cells (k:=0) (cs':=[.list 1 [] 0,_]) rfl ⟨fp,dQ,trivial⟩ rfl ?_|skip
  refine an 87 [4,5] ?_;refine aJ U ?_;rw[aV];exact⟨rfl,fun h=>h9 h⟩
 have dP:¬s.kind=1:=(by simpa using aO)
 refine cZ [0,3,4,6] ?_;refine nA 6 ?_;refine zK (fP) (ha:=by exact⟨⟨_,ot,(FF Z O (fun B hB=>by repeat (first|exact hB|apply mem_append_right|apply mem_cons_of_mem)))⟩,⟨_,ot,eU⟩,trivial⟩) (K:=?_);refine bK ?_;refine af [0,3,4,6,27] ?_;refine au ?_ ?_<;>intro aY cJ
 ·have h0:(aT (L.map aU.t) s.table)<0:=(by simpa using aY)
  have aV:gM (L.map aU.t) s=(L.map aU.t,(([],0),8)):=(by unfold gM;rw[if_neg dP,if_pos h0])
  refine aD 1 ?_;refine aN 0 [_,_] sizeOf36 ?_;refine aE 1 ?_;first|refine OD.cells (k:=0) (cs':=[.list 1 [] 0,_]) rfl ⟨fp,dQ,trivial⟩ rfl ?_|skip
  refine an 87 [4,5] ?_;exact z51
 have h0:¬(aT (L.map aU.t) s.table)<0:=(by simpa using aY)
 have E:(aT (L.map aU.t) s.table).toNat<L.length:=(by omega)
 obtain⟨bx,rfl,jk,pz,rfl⟩:=Z.pos w4;have ke:(L.map aU.t).getD (aT (L.map aU.t) s.table).toNat (gW s)=(L[(aT (L.map aU.t) s.table).toNat]'E).t:=(by rw[getD_eq_getElem?_getD,getElem?_map,getElem?_eq_getElem E];rfl)
 refine cZ [0,3,4,6,7] ?_;refine aS 5 ?_ (h:=by exact(dc 5 (h:=by first|exact .l (j:=(aT (L.map aU.t) s.table).toNat) (Int.toNat_of_nonneg w4).symm E|exact .r (j:=(aT (L.map aU.t) s.table).toNat) (Int.toNat_of_nonneg w4).symm E)));refine bK ?_;refine af [0,3,4,6,7,36] ?_;refine af [0,3,4,6,7,36,37] ?_;refine au ?_ ?_<;>intro cm cW
 ·exact absurd cm (by exact absurd (by simpa using cm) fy)
 refine af [3,4,7,36,51] ?_;refine au ?_ ?_<;>intro da ek
 ·have lZ:s.kind=3:=(by simpa using da)
  have aV:gM (L.map aU.t) s=((L.map aU.t).set (aT (L.map aU.t) s.table).toNat (gC (L[(aT (L.map aU.t) s.table).toNat]'E).t s.row).1,(([],1),(gC (L[(aT (L.map aU.t) s.table).toNat]'E).t s.row).2)):=(by unfold gM;rw[ke,if_neg dP,if_neg h0,if_pos lZ])
  obtain⟨n,hn,g⟩:=hg (L[(aT (L.map aU.t) s.table).toNat]'E) (getElem_mem E);obtain⟨Sg,Oc,jL⟩:=O4 (aR (L[(aT (L.map aU.t) s.table).toNat]'E) (getElem_mem E));refine CD.perm (IP (A:=[_,_,_]) E) ?_;refine CD.wk (jL _ _ [_,_,_,_] _) ?_;refine aD 4 ?_
  refine OD.call (Sf:=(⟨bx,53,cap*5,(L.take (aT (L.map aU.t) s.table).toNat).flatMap gT++(gT (L[(aT (L.map aU.t) s.table).toNat]'E)++(L.drop ((aT (L.map aU.t) s.table).toNat+1)).flatMap gT)⟩:ah)::Sg) (R:=⟨b4,36,2,[.list 1 [] 0,ae 0]⟩::⟨b3,32,12,bU s⟩::ie I (some ⟨bx,0,none⟩) L.length cap::((L.eraseIdx (aT (L.map aU.t) s.table).toNat).flatMap bT)) ap rfl rfl rfl call43 (IJ hm hw ht hG (L[(aT (L.map aU.t) s.table).toNat]'E).t g w4 s.row qg LJ bx (0+(aT (L.map aU.t) s.table).toNat*5) (cap*5) ((L.take (aT (L.map aU.t) s.table).toNat).flatMap gT) ((L.drop ((aT (L.map aU.t) s.table).toNat+1)).flatMap gT) K4 (L[(aT (L.map aU.t) s.table).toNat]'E).ad (L[(aT (L.map aU.t) s.table).toNat]'E).cap Sg Oc) ⟨ot,ot,trivial⟩ (show(⟨b4,36,2,[.list 1 [] 0,ae 0]⟩::⟨b3,32,12,bU s⟩::ie I (some ⟨bx,0,none⟩) L.length cap::(⟨bx,53,cap*5,(L.take (aT (L.map aU.t) s.table).toNat).flatMap gT++(gT (L[(aT (L.map aU.t) s.table).toNat]'E)++(L.drop ((aT (L.map aU.t) s.table).toNat+1)).flatMap gT)⟩:ah)::(Sg++(L.eraseIdx (aT (L.map aU.t) s.table).toNat).flatMap bT):List ah).Perm (((⟨bx,53,cap*5,(L.take (aT (L.map aU.t) s.table).toNat).flatMap gT++(gT (L[(aT (L.map aU.t) s.table).toNat]'E)++(L.drop ((aT (L.map aU.t) s.table).toNat+1)).flatMap gT)⟩:ah)::Sg)++(⟨b4,36,2,[.list 1 [] 0,ae 0]⟩::⟨b3,32,12,bU s⟩::ie I (some ⟨bx,0,none⟩) L.length cap::((L.eraseIdx (aT (L.map aU.t) s.table).toNat).flatMap bT))) from(iH fun jj=>by simp only[map_append,map_cons,map_nil,sum_append,sum_cons,sum_nil];omega)) ?_
  rintro _ U ⟨rfl,h9⟩;refine OD.perm (S':=⟨b4,36,2,[.list 1 [] 0,ae 0]⟩::⟨b3,32,12,bU s⟩::ie I (some ⟨bx,0,none⟩) L.length cap::(U++(L.eraseIdx (aT (L.map aU.t) s.table).toNat).flatMap bT)) (show(U++(⟨b4,36,2,[.list 1 [] 0,ae 0]⟩::⟨b3,32,12,bU s⟩::ie I (some ⟨bx,0,none⟩) L.length cap::((L.eraseIdx (aT (L.map aU.t) s.table).toNat).flatMap bT)):List ah).Perm _ from(iH fun jj=>by simp only[map_append,map_cons,map_nil,sum_append,sum_cons,sum_nil];omega)) ?_;refine aN 0 [_,_] sizeOf36 ?_;refine aE 1 ?_;first|refine OD.cells (k:=0) (cs':=[.list 1 [] 0,_]) rfl ⟨fp,dQ,trivial⟩ rfl ?_|skip
  refine an 87 [4,5] ?_;refine aJ (ie I (some ⟨bx,0,none⟩) L.length cap::(U++(L.eraseIdx (aT (L.map aU.t) s.table).toNat).flatMap bT)) ?_;rw[aV];refine⟨rfl,fun h=>?_⟩;obtain⟨nV,kK,oL,Ma,rfl⟩:=h9 h;exact J4 E jk pz O (TO Ma) (by rw[show bT (⟨_,_,nV,kK,oL,[]⟩:aU)=oL from append_nil _];exact Perm.refl _)
 have lZ:¬s.kind=3:=(by simpa using da)
 refine af [3,4,7,36,58] ?_;refine au ?_ ?_<;>intro ez fw
 ·have x4:s.kind=4:=(by simpa using ez)
  have aV:gM (L.map aU.t) s=(L.map aU.t,(lQ (L[(aT (L.map aU.t) s.table).toNat]'E).t s)):=(by unfold gM;rw[ke,if_neg dP,if_neg h0,if_neg lZ,if_pos x4])
  obtain⟨n,hn,g⟩:=hg (L[(aT (L.map aU.t) s.table).toNat]'E) (getElem_mem E);refine CD.seq ?_;refine mv 7 [4,65,66] ?_;refine aS 2 ?_ (h:=by exact(cU (mk:=Op.load 53) rfl ot (cn (k:=3) (i:=(aT (L.map aU.t) s.table).toNat) (ls:=L) uY rfl rfl rfl isAgg53 sizeOf53 E)));refine nA 1 ?_;refine zJ (ae4 hm hw ht hG (L[(aT (L.map aU.t) s.table).toNat]'E).t g s rK ho fR) (fun r S h=>h.flat) (fun r S h=>(by have h9:=h.view;unfold AP at h9;exact h9)) (ha:=by exact⟨⟨_,ot,(Tz (O _ (getElem_mem E)) (fun B hB=>by have h9:=mem_flatMap.2 ⟨_,getElem_mem E,hB⟩;repeat (first|exact h9|apply mem_append_right|apply mem_cons_of_mem)):View _ (.agg (gT (L[(aT (L.map aU.t) s.table).toNat]'E))) _)⟩,⟨_,ot,eU⟩,trivial⟩) (K:=?_);refine bK ?_;refine aN 0 [_,_] sizeOf36 ?_;refine aE 1 ?_;first|refine OD.cells (k:=0) (cs':=[.list 1 [] 0,_]) rfl ⟨fp,dQ,trivial⟩ rfl ?_|skip
  refine an 87 [4,5] ?_;refine aJ (ie I (some ⟨bx,0,none⟩) L.length cap::([⟨bx,53,cap*5,L.flatMap gT⟩]++L.flatMap bT)) ?_;rw[aV];exact⟨rfl,fun _=>⟨L,_,cap,_,Z,O,rfl,Perm.refl _⟩⟩
 have x4:¬s.kind=4:=(by simpa using ez)
 refine af [3,4,7,67] ?_;refine au ?_ ?_<;>intro fg gB
 ·have Dg:s.kind=5:=(by simpa using fg)
  have aV:gM (L.map aU.t) s=((L.map aU.t).set (aT (L.map aU.t) s.table).toNat (ig (L[(aT (L.map aU.t) s.table).toNat]'E).t s).1,(([],(ig (L[(aT (L.map aU.t) s.table).toNat]'E).t s).2.1),(ig (L[(aT (L.map aU.t) s.table).toNat]'E).t s).2.2)):=(by unfold gM;rw[ke,if_neg dP,if_neg h0,if_neg lZ,if_neg x4,if_pos Dg])
  obtain⟨n,hn,g⟩:=hg (L[(aT (L.map aU.t) s.table).toNat]'E) (getElem_mem E);obtain⟨LR,q1,q2,q3,q4,q5⟩:=aR (L[(aT (L.map aU.t) s.table).toNat]'E) (getElem_mem E);refine CD.perm (IP (A:=[_,_,_]) E) ?_;refine aD 2 ?_
  refine OD.call (Sf:=(⟨bx,53,cap*5,(L.take (aT (L.map aU.t) s.table).toNat).flatMap gT++(gT (L[(aT (L.map aU.t) s.table).toNat]'E)++(L.drop ((aT (L.map aU.t) s.table).toNat+1)).flatMap gT)⟩:ah)::((L[(aT (L.map aU.t) s.table).toNat]'E).sr++LR.flatMap bR)) (R:=⟨b4,36,2,[.list 1 [] 0,ae 0]⟩::⟨b3,32,12,bU s⟩::ie I (some ⟨bx,0,none⟩) L.length cap::((L.eraseIdx (aT (L.map aU.t) s.table).toNat).flatMap bT)) ap rfl rfl rfl call45 (abE hm hw ht hG (L[(aT (L.map aU.t) s.table).toNat]'E).t g s ho fR pC GI hn bx (0+(aT (L.map aU.t) s.table).toNat*5) (cap*5) ((L.take (aT (L.map aU.t) s.table).toNat).flatMap gT) ((L.drop ((aT (L.map aU.t) s.table).toNat+1)).flatMap gT) K4 LR (L[(aT (L.map aU.t) s.table).toNat]'E).ad (L[(aT (L.map aU.t) s.table).toNat]'E).cap (L[(aT (L.map aU.t) s.table).toNat]'E).sr q4 q3 q5) ⟨ot,ot,trivial⟩ (show(⟨b4,36,2,[.list 1 [] 0,ae 0]⟩::⟨b3,32,12,bU s⟩::ie I (some ⟨bx,0,none⟩) L.length cap::(⟨bx,53,cap*5,(L.take (aT (L.map aU.t) s.table).toNat).flatMap gT++(gT (L[(aT (L.map aU.t) s.table).toNat]'E)++(L.drop ((aT (L.map aU.t) s.table).toNat+1)).flatMap gT)⟩:ah)::((bT (L[(aT (L.map aU.t) s.table).toNat]'E))++(L.eraseIdx (aT (L.map aU.t) s.table).toNat).flatMap bT):List ah).Perm (((⟨bx,53,cap*5,(L.take (aT (L.map aU.t) s.table).toNat).flatMap gT++(gT (L[(aT (L.map aU.t) s.table).toNat]'E)++(L.drop ((aT (L.map aU.t) s.table).toNat+1)).flatMap gT)⟩:ah)::((L[(aT (L.map aU.t) s.table).toNat]'E).sr++LR.flatMap bR))++(⟨b4,36,2,[.list 1 [] 0,ae 0]⟩::⟨b3,32,12,bU s⟩::ie I (some ⟨bx,0,none⟩) L.length cap::((L.eraseIdx (aT (L.map aU.t) s.table).toNat).flatMap bT))) from by rw[show bT (L[(aT (L.map aU.t) s.table).toNat]'E)=((L[(aT (L.map aU.t) s.table).toNat]'E).sr++LR.flatMap bR) from by unfold bT;rw[q2]];exact(iH fun jj=>by simp only[map_append,map_cons,map_nil,sum_append,sum_cons,sum_nil];omega)) ?_
  rintro _ U ⟨rfl,h9⟩;refine OD.perm (S':=⟨b4,36,2,[.list 1 [] 0,ae 0]⟩::⟨b3,32,12,bU s⟩::ie I (some ⟨bx,0,none⟩) L.length cap::(U++(L.eraseIdx (aT (L.map aU.t) s.table).toNat).flatMap bT)) (show(U++(⟨b4,36,2,[.list 1 [] 0,ae 0]⟩::⟨b3,32,12,bU s⟩::ie I (some ⟨bx,0,none⟩) L.length cap::((L.eraseIdx (aT (L.map aU.t) s.table).toNat).flatMap bT)):List ah).Perm _ from(iH fun jj=>by simp only[map_append,map_cons,map_nil,sum_append,sum_cons,sum_nil];omega)) ?_;refine an 87 [4,8,9] ?_;refine aD 3 ?_;refine aN 0 [_,_] sizeOf36 ?_;refine aE 1 ?_;first|refine OD.cells (k:=0) (cs':=[.list 1 [] 0,_]) rfl ⟨fp,dQ,trivial⟩ rfl ?_|skip
  refine an 87 [4,5] ?_;refine aJ (ie I (some ⟨bx,0,none⟩) L.length cap::(U++(L.eraseIdx (aT (L.map aU.t) s.table).toNat).flatMap bT)) ?_;rw[aV];refine⟨rfl,fun h=>?_⟩;obtain⟨L',nV,kK,oL,akJ,rfl⟩:=h9 h;exact J4 E jk pz O (ads akJ) (Perm.refl _)
 have Dg:¬s.kind=5:=(by simpa using fg)
 have aV:gM (L.map aU.t) s=((L.map aU.t).set (aT (L.map aU.t) s.table).toNat (mH (L[(aT (L.map aU.t) s.table).toNat]'E).t s.aj).1,(([],(mH (L[(aT (L.map aU.t) s.table).toNat]'E).t s.aj).2.1),(mH (L[(aT (L.map aU.t) s.table).toNat]'E).t s.aj).2.2)):=(by unfold gM;rw[ke,if_neg dP,if_neg h0,if_neg lZ,if_neg x4,if_neg Dg])
 obtain⟨n,hn,g⟩:=hg (L[(aT (L.map aU.t) s.table).toNat]'E) (getElem_mem E);obtain⟨Sg,Oc,jL⟩:=O4 (aR (L[(aT (L.map aU.t) s.table).toNat]'E) (getElem_mem E));refine CD.perm (IP (A:=[_,_,_]) E) ?_;refine CD.wk (jL _ _ [_,_,_,_] _) ?_;refine aD 2 ?_
 refine OD.call (Sf:=(⟨bx,53,cap*5,(L.take (aT (L.map aU.t) s.table).toNat).flatMap gT++(gT (L[(aT (L.map aU.t) s.table).toNat]'E)++(L.drop ((aT (L.map aU.t) s.table).toNat+1)).flatMap gT)⟩:ah)::Sg) (R:=⟨b4,36,2,[.list 1 [] 0,ae 0]⟩::⟨b3,32,12,bU s⟩::ie I (some ⟨bx,0,none⟩) L.length cap::((L.eraseIdx (aT (L.map aU.t) s.table).toNat).flatMap bT)) ap rfl rfl rfl call46 (abB hm hw ht hG (L[(aT (L.map aU.t) s.table).toNat]'E).t g s ho fR bx (0+(aT (L.map aU.t) s.table).toNat*5) (cap*5) ((L.take (aT (L.map aU.t) s.table).toNat).flatMap gT) ((L.drop ((aT (L.map aU.t) s.table).toNat+1)).flatMap gT) K4 (L[(aT (L.map aU.t) s.table).toNat]'E).ad (L[(aT (L.map aU.t) s.table).toNat]'E).cap Sg Oc) ⟨ot,ot,trivial⟩ (show(⟨b4,36,2,[.list 1 [] 0,ae 0]⟩::⟨b3,32,12,bU s⟩::ie I (some ⟨bx,0,none⟩) L.length cap::(⟨bx,53,cap*5,(L.take (aT (L.map aU.t) s.table).toNat).flatMap gT++(gT (L[(aT (L.map aU.t) s.table).toNat]'E)++(L.drop ((aT (L.map aU.t) s.table).toNat+1)).flatMap gT)⟩:ah)::(Sg++(L.eraseIdx (aT (L.map aU.t) s.table).toNat).flatMap bT):List ah).Perm (((⟨bx,53,cap*5,(L.take (aT (L.map aU.t) s.table).toNat).flatMap gT++(gT (L[(aT (L.map aU.t) s.table).toNat]'E)++(L.drop ((aT (L.map aU.t) s.table).toNat+1)).flatMap gT)⟩:ah)::Sg)++(⟨b4,36,2,[.list 1 [] 0,ae 0]⟩::⟨b3,32,12,bU s⟩::ie I (some ⟨bx,0,none⟩) L.length cap::((L.eraseIdx (aT (L.map aU.t) s.table).toNat).flatMap bT))) from(iH fun jj=>by simp only[map_append,map_cons,map_nil,sum_append,sum_cons,sum_nil];omega)) ?_
 rintro _ U ⟨rfl,h9⟩;refine OD.perm (S':=⟨b4,36,2,[.list 1 [] 0,ae 0]⟩::⟨b3,32,12,bU s⟩::ie I (some ⟨bx,0,none⟩) L.length cap::(U++(L.eraseIdx (aT (L.map aU.t) s.table).toNat).flatMap bT)) (show(U++(⟨b4,36,2,[.list 1 [] 0,ae 0]⟩::⟨b3,32,12,bU s⟩::ie I (some ⟨bx,0,none⟩) L.length cap::((L.eraseIdx (aT (L.map aU.t) s.table).toNat).flatMap bT)):List ah).Perm _ from(iH fun jj=>by simp only[map_append,map_cons,map_nil,sum_append,sum_cons,sum_nil];omega)) ?_;refine an 87 [4,10,11] ?_;refine aD 3 ?_;refine aN 0 [_,_] sizeOf36 ?_;refine aE 1 ?_;first|refine OD.cells (k:=0) (cs':=[.list 1 [] 0,_]) rfl ⟨fp,dQ,trivial⟩ rfl ?_|skip
 refine an 87 [4,5] ?_;refine aJ (ie I (some ⟨bx,0,none⟩) L.length cap::(U++(L.eraseIdx (aT (L.map aU.t) s.table).toNat).flatMap bT)) ?_;rw[aV];refine⟨rfl,fun h=>?_⟩;obtain⟨nV,kK,oL,Ma,rfl⟩:=h9 h;exact J4 E jk pz O (TO Ma) (by rw[show bT (⟨_,_,nV,kK,oL,[]⟩:aU)=oL from append_nil _];exact Perm.refl _)

end Go.Proofs.YtdgichenhdikgaaGreatDoor.Ba
namespace Go.Proofs.YtdgichenhdikgaaGreatDoor.Ba
open List
open Go.Proofs.Tryz
open Go.RowKit V Pk Tr Vl Go.Proofs.YtdgichenhdikgaaGreatDoor.Nm Pc Cd Ex Tw
open Pa (cA bU)
variable {G:List (Nat×List Value)} {m:Int}
variable {n:Nat}
def vz(t:aM)(i:Nat):Nat:=((range i).filter fun j=>decide ((t.rows.getD j []).length≠0)).length
theorem EG(t:aM)(i:Nat):vz t (i+1)=vz t i+if (t.rows.getD i []).length≠0 then 1 else 0:=by
 unfold vz;rw[range_succ,filter_append,length_append];congr 1;by_cases h:(t.rows.getD i []).length≠0
 ·rw[if_pos h,filter_cons_of_pos ph];rfl
 rw[if_neg h,filter_cons_of_neg ph];rfl
theorem UB(t:aM)(i:Nat):vz t i≤i:=by
 unfold vz;exact Nat.le_trans (length_filter_le _ _) (by rw[length_range];exact Nat.le_refl _)
theorem Jj{t:aM}{i:Nat}(h:i<t.rows.length):t.rows.getD i []=t.rows[i]:=by rw[getD_eq_getElem?_getD,getElem?_eq_getElem h];rfl
theorem TP{t:aM}(g:ew t n):vz t t.rows.length=(eB t.ix).length:=by
 unfold vz;have hA:((eB t.ix).map fun x=>x.2.toNat).Nodup:=by
  have hr:(eB t.ix).Pairwise (fun a b=>bF a.1 b.1):=IF g.ix.val;rw[Nodup,pairwise_map];refine hr.imp_of_mem fun {a b} ha hb h e=>?_;obtain⟨a0,a1,a2,a3⟩:=g.iZ a ha;obtain⟨b0,b1,b2,b3⟩:=g.iZ b hb;refine jR a.1 ?_;have:a.1=b.1:=(by rw[a3,b3];simp only[e])
  rw[←this] at h;exact h
 have Z:((range t.rows.length).filter fun j=>decide ((t.rows.getD j []).length≠0)).Nodup:=List.nodup_range.filter _;have h1:=hA.length_le_of_subset (l₂:=(range t.rows.length).filter fun j=>decide ((t.rows.getD j []).length≠0)) fun i hi=>by
  obtain⟨x,hx,rfl⟩:=mem_map.1 hi;obtain⟨x0,x1,x2,x3⟩:=g.iZ x hx;refine mem_filter.2 ⟨mem_range.2 x1,decide_eq_true ?_⟩;rw[Jj x1];exact fun h=>x2 (length_eq_zero_iff.1 h)
 have h2:=Z.length_le_of_subset (l₂:=(eB t.ix).map fun x=>x.2.toNat) fun i hi=>by
  obtain⟨O,U⟩:=mem_filter.1 hi;have E:=mem_range.1 O;have I:=of_decide_eq_true U;rw[Jj E] at I;exact mem_map.2 ⟨_,(g.row i E (fun h=>I (by rw[h];rfl))).2.2,by simp⟩
 rw[length_map] at h1 h2;omega
theorem adt(hm:(3,marksC)∈G)(hw:(1,wordsC)∈G)(ht:(0,typesC)∈G)(hG:(2,[Value.int .i64 m])∈G)(t:aM)(g:ew t n)(rK:t.nm.size≤maxLen):VP Tryz.prog G 37 [.agg (c8 t)] (bS true):=by
 refine VC.body func37 rfl ntmps37 aQ fun X0 w0 bg=>?_;have dz:=ei;have mO:=g.eJ;have nv:=tK (G:=G) hm hw t.nm rK;rw[g.nm] at nv;have e9:=Pc.Ff (G:=G) hm hw ht t.az xQ xP;have hco:Pc.fI t.az=0:=(by rw[g.az];exact Jn)
 rw[hco] at e9;have vY:=aeP (G:=G) g.ix;have Z:=Ty (G:=G) g.ix;rw[EX] at Z;unfold Tw.cT at vY Z;have YA:=TP g;unfold c8;refine bY ?_;refine OD.box (ds:=[_,_,_,_,_]) ap rfl rfl ot rfl rfl (fun b1=>?_);refine an 76 [1] ?_;refine aD 2 ?_;refine dV call64 (nv) ?_;refine aE 2 ?_;refine bW 14 (fun E ah2=>?_) (fun E ah2=>?_)
 ·exact absurd E (by simp at E)
 refine aE 2 ?_;refine OD.hU iw rfl rfl rfl call54 (e9) ⟨ot,trivial⟩ ?_;refine aE 3 ?_;refine bW 20 (fun I ah3=>?_) (fun I ah3=>?_)
 ·exact absurd I (by simp at I)
 refine aE 6 ?_;refine bW 26 (fun O BV=>?_) (fun O BV=>?_)
 ·exact absurd O (by (simp at O;omega))
 refine aE 2 ?_;refine OD.hU iw rfl rfl rfl call49 (vY) ⟨ot,trivial⟩ ?_;refine an 76 [1,31] ?_;refine au ?_ ?_<;>intro aO bE
 ·exact absurd aO (by simp at aO)
 refine af [1,3] ?_;refine af [1,3,33,34,35] ?_;refine CD.block ?_;refine mV (fun (i:Nat) aH=>(i≤t.rows.length)∧aH=(⟨76,[(1,dM b1),(3,ae (vz t i:Nat)),(33,av 1 gp t.rows),(34,ae (t.rows.length:Nat)),(35,ae (i:Nat))],[⟨b1,53,5,c8 t⟩]⟩:St)) (fun (i:Nat)=>t.rows.length-i) 0 ⟨(Nat.zero_le _),rfl⟩ (aK (h:=by repeat (first|exact trivial|refine⟨(by (repeat (first|exact fB|(apply fU;focus (first|rfl|(rw[EG,if_neg zG];rfl)|(rw[EG,if_pos zG];rfl)|(simp;done)|(congr 2;omega)))|(apply fH;focus rfl)));done),?_⟩))) ?_;rintro i _ ⟨hi,rfl⟩;refine af [1,3,33,34,35,36] ?_;refine au ?_ ?_<;>intro aY cJ
 ·have aa:i<t.rows.length:=(by omega)
  have ke:t.rows.getD i []=(t.rows[i]'aa):=Jj aa;have lm:=UB t i;refine af [1,3,4,5,33,34,35] ?_;refine af [1,3,4,5,33,34,35,42] ?_;refine au ?_ ?_<;>intro cm cW
  ·have zG:¬(t.rows.getD i []).length≠0:=(by rw[ke];simpa using cm)
   exact z72
  have zG:(t.rows.getD i []).length≠0:=(by rw[ke];simpa using cm)
  have hne:(t.rows[i]'aa)≠[]:=fun h=>zG (by rw[ke,h];rfl);obtain⟨p1,p2,p3⟩:=g.row i aa hne;have p4:=oW p1;have yy:=Kh (G:=G) hm hw ht t.az xQ xP (t.rows[i]'aa) w4;have Yr:Pc.ec t.az (t.rows[i]'aa)=0:=(by rw[g.az];exact p1)
  rw[Yr] at yy;have hyv:=ze (G:=G) hG (t.rows[i]'aa) w4 w4 p2;have fP:=Kp (G:=G) g.ix (c9 (t.rows[i]'aa));rw[Rz g.ix (wF p1) p3] at fP;unfold Tw.cT at fP;refine af [1,3,4,5,33,34,35] ?_;refine cX [1,3,4,5,33,34,35,49] (yy) ?_;refine au ?_ ?_<;>intro da ek
  ·exact absurd da (by simp at da)
  refine cZ [1,3,4,6,7,33,34,35] ?_;refine di (hyv) ?_;refine di (fP) ?_;refine bK ?_;refine aD 3 ?_;refine bW 60 (fun U KL=>?_) (fun U KL=>?_)
  ·exact absurd U (by simp at U)
  refine bf [1,3,33,34,35,64] ?_;refine au ?_ ?_<;>intro ez fw
  ·exact absurd ez (by simp at ez)
  exact z72
 have ur:i=t.rows.length:=(by omega)
 subst ur;refine cX [3,8] (Z) ?_;refine af [2] ?_;refine aJ [] ?_;refine⟨?_,rfl⟩;first|rfl|(rw[YA];simp)

structure pO (l:List aM) (n:Nat):Prop where
 eJ:l.length≤4
 tb:∀t∈l,ew t n
 sz:∀t∈l,t.nm.size≤maxLen
 HI:l.Pairwise fun a b=>a.nm.toList≠b.nm.toList
theorem pO.no{l:List aM}(g:pO l n){i:Nat}(h:i<l.length):aT (l.take i) l[i].nm<0:=by
 unfold aT;rw[v8 (k:=(l.take i).length) w4 (fun x hx=>?_)]
 ·decide
 rw[take_of_length_le (Nat.le_refl _)] at hx;obtain⟨j,hj,rfl⟩:=mem_iff_getElem.1 hx;rw[length_take] at hj;rw[getElem_take];have:=pairwise_iff_getElem.1 g.HI j i w4 h w4;simpa using this
noncomputable def vj(l:List aM)(nm:ByteArray):List (List Vl)×Int:=if aT l nm<0 then ([],8) else ((eB (l.getD (aT l nm).toNat ⟨nm,[],[],pW⟩).ix).map fun x=>rowAt (l.getD (aT l nm).toNat ⟨nm,[],[],pW⟩) x.2,0)
theorem Qg(hm:(3,marksC)∈G)(hw:(1,wordsC)∈G)(ht:(0,typesC)∈G)(hG:(2,[Value.int .i64 m])∈G)(l:List aM)(g:pO l n):VP Tryz.prog G 24 [.agg [av 5 c8 (l)]] (ae 0):=by
 refine VC.body func24 rfl ntmps24 aQ fun X0 w0 bg=>?_;have dz:=ei;have U:=g.eJ;refine bY ?_;refine OD.box (ds:=[_]) ap rfl rfl ot rfl rfl (fun b1=>?_);refine an 31 [1] ?_;refine af [1,8] ?_;refine au ?_ ?_<;>intro aO bE
 ·exact absurd aO (by (simp at aO;omega))
 refine af [1,10,11,12] ?_;refine eD [1,10,11] (fun aW _ (i:Nat) aH=>(i≤l.length)∧aH=(⟨31,(12,ae (i:Nat))::aW,[⟨b1,25,1,[av 5 c8 (l)]⟩]⟩:St)) (fun (i:Nat)=>l.length-i) 0 ⟨(Nat.zero_le _),rfl⟩ ?_;rintro i _ ⟨hi,rfl⟩;refine af [1,10,11,12,13] ?_;refine au ?_ ?_<;>intro aY cJ
 ·have aa:i<l.length:=(by omega)
  have O:=adt hm hw ht hG (l[i]'aa) (g.tb _ (getElem_mem aa)) (g.sz _ (getElem_mem aa));have fP:=qt (G:=G) (l.take i) o9 (l[i]'aa).nm;have lg:=g.no aa;unfold c8 at O;refine aD 3 ?_;refine OD.alloc (ds:=[_,_,_,_,_]) ap rfl rfl zeroValue53 rfl (fun b4=>?_);refine aE 1 ?_;refine aN 0 [_,_,_,_,_] sizeOf53 ?_;refine an 31 [1,3,4,10,11,12] ?_;refine CD.seq ?_;refine fE 10 (aq _) ?_ (fun _ h=>h);refine ay 0 rfl (cU (mk:=Op.load 53) rfl ot (by first|exact nF (k:=0) (ds:=[_,_,_,_,_]) rfl rfl isAgg53 sizeOf53 rfl rfl|exact iJ jf isAgg53 sizeOf53 w5|exact cn (k:=0) jf rfl rfl rfl isAgg53 sizeOf53 w5|exact cn (k:=1) jf rfl rfl rfl isAgg53 sizeOf53 w5|exact pN (ds:=[_,_,_,_,_]) isAgg53 sizeOf53 rfl rfl)) ?_;refine dm.later rfl ?_;refine AD.one (i:=1) aA ?_;refine jm call37 (O) ?_;refine cr 2 rfl lj ?_;refine cr 3 rfl aZ ?_;refine AD.split (t:=20) lk (fun E=>?_) (fun E=>?_)
  ·exact absurd E (by simp at E)
  have I:=E;(try simp only[V.nx,ne_eq] at I)
  refine cr 4 rfl (dh 0) ?_;refine cr 6 rfl aZ ?_;refine cr 8 rfl (dh 0) ?_;refine AD.two (i:=5) (j:=9) aA ?_ ?_
  ·refine at_ rfl (dI 1) ?_;refine cr 7 rfl (eA (l:=0) (h:=i) rfl ot trivial ⟨_,ot⟩ (by exact oP jf (fun h=>by cases h) runUnderlying23 sizeOf53 w4)) ?_;refine AD.one (i:=9) aA ?_;refine at_ rfl (dI 0) ?_;exact W9
  refine at_ rfl (dI 0) ?_;refine AD.one (i:=5) aA ?_;refine at_ rfl (dI 1) ?_;refine cr 7 rfl (eA (l:=0) (h:=i) rfl ot trivial ⟨_,ot⟩ (by exact oP jf (fun h=>by cases h) runUnderlying23 sizeOf53 w4)) ?_;exact W9
 refine af [2] ?_;exact nw
theorem aag:(Tryz.prog.info? 28).map (fun i=>(i.zero,i.size,i.bytes))=some (some (.slice none 0 0),1,24):=by kernel_rfl
theorem ae6(hm:(3,marksC)∈G)(hw:(1,wordsC)∈G)(ht:(0,typesC)∈G)(hG:(2,[Value.int .i64 m])∈G)(l:List aM)(g:pO l n)(nm:ByteArray):VP Tryz.prog G 14 [.agg [av 5 c8 (l)],bn nm] (.dJ [.list 1 ((vj l nm).1.flatMap gp) (vj l nm).1.length,ae (vj l nm).2]):=by
 refine VC.body func14 rfl ntmps14 aQ fun X0 w0 bg=>?_;have dz:=ei;have mO:=g.eJ;have oD:=Qg hm hw ht hG l g;have fP:=qt (G:=G) l w4 nm;have sV:=wD (fun t:aM=>t.nm.toList==nm.toList) l;rw[show dR (fun t:aM=>t.nm.toList==nm.toList) l=aT l nm from rfl] at sV;refine bY ?_;refine OD.box (ds:=[_]) ap rfl rfl ot rfl rfl (fun b2=>?_);refine an 54 [1,2] ?_;refine cX [1,2,6] (oD) ?_;refine af [1,2,6,17] ?_;refine au ?_ ?_<;>intro aO bE
 ·exact absurd aO (by simp at aO)
 refine cX [2,7] (fP) ?_;refine af [2,7,24] ?_;refine au ?_ ?_<;>intro aY cJ
 ·have h0:aT l nm<0:=(by simpa using aY)
  have aV:vj l nm=([],8):=if_pos h0;refine af [4,5] ?_;refine CD.wk (Wk.tL (t:=4) (sz:=1) lk) ?_;exact oE
 have h0:¬aT l nm<0:=(by simpa using aY)
 have E:(aT l nm).toNat<l.length:=(by omega)
 have O:=g.tb (l[(aT l nm).toNat]'E) (getElem_mem E);have ke:l.getD (aT l nm).toNat ⟨nm,[],[],pW⟩=(l[(aT l nm).toNat]'E):=(by rw[getD_eq_getElem?_getD,getElem?_eq_getElem E];rfl)
 have aV:vj l nm=((eB (l[(aT l nm).toNat]'E).ix).map fun x=>rowAt (l[(aT l nm).toNat]'E) x.2,0):=(by unfold vj;rw[if_neg h0,ke])
 have AO:=Ty (G:=G) O.ix;rw[EX] at AO;unfold Tw.cT at AO;have YA:=TP O;have lm:=UB (l[(aT l nm).toNat]'E) (l[(aT l nm).toNat]'E).rows.length;have NT:=O.eJ;refine aD 3 ?_;refine bN (dc 5 (h:=by first|exact .l (j:=(aT l nm).toNat) (Int.toNat_of_nonneg w4).symm E|exact .r (j:=(aT l nm).toNat) (Int.toNat_of_nonneg w4).symm E)) ?_;refine aE 1 ?_;refine OD.alloc (ds:=[_,_,_,_,_]) ap rfl rfl zeroValue53 rfl (fun b8=>?_);refine aN 0 [_,_,_,_,_] sizeOf53 ?_;refine an 54 [8] ?_;refine cX [8,9] (AO) ?_;refine bY ?_;refine bf [8,9,11] ?_;refine af [8,11,36,37,38] ?_;refine eD [8,36,37] (fun aW _ (U:Nat×List (List Vl)×Option Addr×Nat×List ah) aH=>match U with|(i,acc,dr,cY,Sx)=>(i≤(eB (l[(aT l nm).toNat]'E).ix).length)∧(acc=((eB (l[(aT l nm).toNat]'E).ix).take i).map fun x=>rowAt (l[(aT l nm).toNat]'E) x.2)∧(bp 28 1 ((acc).flatMap gp) (acc).length dr cY Sx)∧aH=(⟨54,(11,aP dr (acc).length cY)::(38,ae (i:Nat))::aW,(⟨b8,53,5,c8 (l[(aT l nm).toNat]'E)⟩::⟨b2,25,1,[av 5 c8 (l)]⟩::Sx)⟩:St)) (fun (U:Nat×List (List Vl)×Option Addr×Nat×List ah)=>match U with|(i,acc,dr,cY,Sx)=>(eB (l[(aT l nm).toNat]'E).ix).length-i) (0,([]:List (List Vl)),none,0,[]) ⟨(Nat.zero_le _),rfl,(bp.cast ik jN),rfl⟩ ?_;rintro⟨i,acc,dr,cY,Sx⟩ _ ⟨hi,oZ,dY,rfl⟩;refine af [8,11,36,37,38,39] ?_;refine au ?_ ?_<;>intro cm cW
 ·have aa:i<(eB (l[(aT l nm).toNat]'E).ix).length:=(by omega)
  obtain⟨gF,I,nX,MZ⟩:=O.iZ _ (getElem_mem aa);have hra:rowAt (l[(aT l nm).toNat]'E) ((eB (l[(aT l nm).toNat]'E).ix)[i]'aa).2=((l[(aT l nm).toNat]'E).rows[((eB (l[(aT l nm).toNat]'E).ix)[i]'aa).2.toNat]'I):=ja I;have h4:=oW (O.row _ I nX).1;have e9:=P4 (G:=G) ((l[(aT l nm).toNat]'E).rows[((eB (l[(aT l nm).toNat]'E).ix)[i]'aa).2.toNat]'I) w4;have qc:acc.length=i:=(by rw[oZ,length_map,length_take];omega)
  refine aD 2 ?_;refine OD.alloc (ds:=[_,_]) ap rfl rfl zeroValue90 rfl (fun mC=>?_);refine aN 0 [_,_] sizeOf90 ?_;refine an 54 [8,11,13,36,37,38] ?_;refine dO 5 ?_;refine bN (dc 1 (h:=by first|exact .l (j:=((eB (l[(aT l nm).toNat]'E).ix)[i]'aa).2.toNat) (Int.toNat_of_nonneg gF).symm I|exact .r (j:=((eB (l[(aT l nm).toNat]'E).ix)[i]'aa).2.toNat) (Int.toNat_of_nonneg gF).symm I)) ?_;refine aE 1 ?_;refine dV call31 (e9) ?_;refine ev (cc 0 [_]) [.slice none 0 0] [_] zeroValue28 runUnderlying34 sizeOf28 (fun AK=>?_);refine fF 0 50 1 1 ?_;refine OD.en (ls:=(acc)) (new:=[((l[(aT l nm).toNat]'E).rows[((eB (l[(aT l nm).toNat]'E).ix)[i]'aa).2.toNat]'I)]) (Sq:=Sx) jq RC ap rfl rfl underlying34 aag rfl w7 ot dY (dg (A:=[_,_,_])) ot bq mr mu (fun yC Z L7 L8=>?_);refine OD.perm (ee (S1:=[⟨yC,28,Z*1,flatMap gp ((acc)++[((l[(aT l nm).toNat]'E).rows[((eB (l[(aT l nm).toNat]'E).ix)[i]'aa).2.toNat]'I)])⟩]) (A:=[_,_,_])) ?_;refine an 54 [8,11,36,37,38] ?_;refine cl [8,11,36,37,38] ?_
  refine⟨((i+1),(acc++[((l[(aT l nm).toNat]'E).rows[((eB (l[(aT l nm).toNat]'E).ix)[i]'aa).2.toNat]'I)]),(some ⟨yC,0,none⟩),Z,[⟨yC,28,Z*1,flatMap gp ((acc)++[((l[(aT l nm).toNat]'E).rows[((eB (l[(aT l nm).toNat]'E).ix)[i]'aa).2.toNat]'I)])⟩]),_,cz,aK,w4,(by rw[oZ,←hra,←pE aa,map_append];rfl),(bp.cast (bH L7 L8) jN),rfl⟩
 have nr:acc=(eB (l[(aT l nm).toNat]'E).ix).map fun x=>rowAt (l[(aT l nm).toNat]'E) x.2:=(by rw[oZ,take_of_length_le w4])
 refine af [4,5] ?_;refine CD.ic (t:=4) (Sq:=Sx) lk dY (cu jq _) (dg (A:=[_,_])) ?_;refine aJ [] ?_;rw[aV,←nr];exact⟨rfl,rfl⟩

end Go.Proofs.YtdgichenhdikgaaGreatDoor.Ba
namespace Go.Proofs.YtdgichenhdikgaaGreatDoor.Ba
open List
open Go.Proofs.Tryz
open Go.RowKit V Pk Tr Vl Go.Proofs.YtdgichenhdikgaaGreatDoor.Nm Pc Cd Ex Tw
open Pa (cA bU jM gz)
variable {G:List (Nat×List Value)} {m:Int}
noncomputable def nQ(l:List aM)(s:cA):List aM×((List (List Vl)×Int)×Int) :=
 if gz s≠0 then ([],(([],0),gz s)) else if 7≤s.kind then ([],(([],0),2)) else if (gM l s).2.2≠0 then ([],(([],0),(gM l s).2.2)) else ((gM l s).1,((gM l s).2.1,0))
noncomputable def vA(rr:List aM×((List (List Vl)×Int)×Int))(s:cA):List aM×((List (List Vl)×Int)×Int) :=
 if gz s≠0 then ([],(([],0),gz s)) else if 7≤s.kind then ([],(([],0),2)) else if rr.2.2≠0 then ([],(([],0),rr.2.2)) else (rr.1,(rr.2.1,0))
def AT(p:List aM×((List (List Vl)×Int)×Int)):D:=.dJ [.agg [av 5 c8 p.1],.agg [av 1 gp p.2.1.1,ae p.2.1.2],ae p.2.2]
theorem ae7(hm:(3,marksC)∈G)(hw:(1,wordsC)∈G)(ht:(0,typesC)∈G)(hG:(2,[Value.int .i64 m])∈G)(l:List aM){n:Nat}(g:pO l n)(s:cA)(hf:jM s)(E:List aM×((List (List Vl)×Int)×Int))(nK:∀(L:List aU),L.map aU.t=l→(∀o∈L,qj o)→∀(bo:Nat) (ad:Option Addr) (cap:Nat) (Sx:List ah),xH L ad cap Sx→VC Tryz.prog G 27 [dM bo,.agg (bU s)] (ie bo ad L.length cap::(Sx++L.flatMap bT)) (fun r S=>r=AP E.2∧(E.2.2=0→F5 E.1 bo S)))(AN:E.2.2=0→E.1.length≤1000∧∀t∈E.1,zh t):VP Tryz.prog G 11 [.agg [av 5 c8 (l)],.agg (bU s)] (AT (vA E s)):=by
 refine VC.body func11 rfl ntmps11 aQ fun X0 w0 bg=>?_;have dz:=ei;have mO:=g.eJ;have oD:=Qg hm hw ht hG l g;have e9:=Pa.QW (G:=G) hm hw ht s hf;refine bY ?_;refine OD.box (ds:=[_]) ap rfl rfl ot rfl rfl (fun b2=>?_);refine OD.box (ds:=[_,_,_,_,_,_,_,_,_,_,_,_]) ap rfl rfl ot rfl rfl (fun b3=>?_);refine OD.alloc (ds:=[_]) ap rfl rfl zeroValue25 rfl (fun b4=>?_);refine OD.alloc (ds:=[_,_]) ap rfl rfl zeroValue36 rfl (fun b5=>?_);refine aE 1 ?_;first|refine OD.cells (k:=0) (cs':=[.list 1 [] 0,_]) rfl ⟨fp,dQ,trivial⟩ rfl ?_|skip
 first|refine OD.cells (k:=1) (cs':=[.list 1 [] 0,_]) rfl ⟨fp,dQ,trivial⟩ rfl ?_|skip
 first|refine OD.cells (k:=1) (cs':=[.list 5 [] 0]) rfl ⟨fp,trivial⟩ rfl ?_|skip
 first|refine OD.cells (k:=2) (cs':=[.list 5 [] 0]) rfl ⟨fp,trivial⟩ rfl ?_|skip
 refine an 46 [2,3,4,5] ?_;refine cX [2,3,4,5,7] (oD) ?_;refine af [2,3,4,5,7,15] ?_;refine au ?_ ?_<;>intro aO bE
 ·exact absurd aO (by simp at aO)
 refine cX [2,3,4,5,8] (e9) ?_;refine af [2,3,4,5,8,22] ?_;refine au ?_ ?_<;>intro aY cJ
 ·have h1:gz s≠0:=(by simpa using aY)
  have aV:vA E s=([],(([],0),gz s)):=if_pos h1;refine aD 3 ?_;refine aN 1 [_] sizeOf25 ?_;refine aN 0 [_,_] sizeOf36 ?_;exact z40
 have h1:¬gz s≠0:=(by simpa using aY)
 refine af [2,3,4,5,28] ?_;refine au ?_ ?_<;>intro cm cW
 ·have h2:7≤s.kind:=(by simpa using cm)
  have aV:vA E s=([],(([],0),2)):=(by unfold vA;rw[if_neg h1,if_pos h2])
  refine aD 2 ?_;refine aN 1 [_] sizeOf25 ?_;refine aN 0 [_,_] sizeOf36 ?_;exact z40
 have h2:¬7≤s.kind:=(by simpa using cm)
 refine aD 1 ?_;refine OD.call ap rfl rfl rfl call26 (P7 l w4 (fun t h=>(g.tb t h).small)) ⟨ot,trivial⟩ (eR _) ?_;rintro _ _ ⟨L,ad,cap,Sx,rfl,kJ,aR,pD,rfl⟩;refine OD.perm (S':=⟨b5,36,2,[.list 1 [] 0,ae 0]⟩::⟨b4,25,1,[.list 5 [] 0]⟩::⟨b3,32,12,bU s⟩::⟨b2,25,1,[av 5 c8 (l)]⟩::(Sx++L.flatMap bT)) (show((Sx++L.flatMap bT)++(⟨b5,36,2,[.list 1 [] 0,ae 0]⟩::⟨b4,25,1,[.list 5 [] 0]⟩::⟨b3,32,12,bU s⟩::[⟨b2,25,1,[av 5 c8 (l)]⟩]):List ah).Perm _ from(iH fun jj=>by simp only[map_append,map_cons,map_nil,sum_append,sum_cons,sum_nil];omega)) ?_;refine OD.alloc (ds:=[_]) ap rfl rfl zeroValue25 rfl (fun b9=>?_);refine aN 0 [_] sizeOf25 ?_;refine an 46 [3,4,5,9] ?_;refine aD 1 ?_;have rV:L.length=l.length:=(by rw[←pD,length_map])
 refine OD.call (Sf:=ie b9 ad L.length cap::(Sx++L.flatMap bT)) (R:=⟨b5,36,2,[.list 1 [] 0,ae 0]⟩::⟨b4,25,1,[.list 5 [] 0]⟩::⟨b3,32,12,bU s⟩::[⟨b2,25,1,[av 5 c8 (l)]⟩]) ap rfl rfl rfl call27 (nK L pD aR b9 ad cap Sx kJ) ⟨ot,ot,trivial⟩ (show(ie b9 ad L.length cap::⟨b5,36,2,[.list 1 [] 0,ae 0]⟩::⟨b4,25,1,[.list 5 [] 0]⟩::⟨b3,32,12,bU s⟩::⟨b2,25,1,[av 5 c8 (l)]⟩::(Sx++L.flatMap bT):List ah).Perm ((ie b9 ad L.length cap::(Sx++L.flatMap bT))++(⟨b5,36,2,[.list 1 [] 0,ae 0]⟩::⟨b4,25,1,[.list 5 [] 0]⟩::⟨b3,32,12,bU s⟩::[⟨b2,25,1,[av 5 c8 (l)]⟩])) from(iH fun jj=>by simp only[map_append,map_cons,map_nil,sum_append,sum_cons,sum_nil];omega)) ?_;rintro _ S9 ⟨rfl,h9⟩;refine OD.perm (S':=⟨b5,36,2,[.list 1 [] 0,ae 0]⟩::⟨b4,25,1,[.list 5 [] 0]⟩::⟨b3,32,12,bU s⟩::⟨b2,25,1,[av 5 c8 (l)]⟩::S9) (show(S9++(⟨b5,36,2,[.list 1 [] 0,ae 0]⟩::⟨b4,25,1,[.list 5 [] 0]⟩::⟨b3,32,12,bU s⟩::[⟨b2,25,1,[av 5 c8 (l)]⟩]):List ah).Perm _ from(iH fun jj=>by simp only[map_append,map_cons,map_nil,sum_append,sum_cons,sum_nil];omega)) ?_;unfold AP;refine aE 3 ?_;refine OD.alloc (ds:=[_,_]) ap rfl rfl zeroValue36 rfl (fun lf=>?_);refine aN 0 [_,_] sizeOf36 ?_;refine an 46 [4,5,9,10,11] ?_;refine af [4,5,9,10,11,39] ?_;refine au ?_ ?_<;>intro da ek
 ·have h3:E.2.2≠0:=(by simpa using da)
  have aV:vA E s=([],(([],0),E.2.2)):=(by unfold vA;rw[if_neg h1,if_neg h2,if_pos h3])
  refine aD 3 ?_;refine aN 2 [_] sizeOf25 ?_;refine aN 1 [_,_] sizeOf36 ?_;exact z40
 have h3:¬E.2.2≠0:=(by simpa using da)
 have aV:vA E s=(E.1,(E.2.1,0)):=(by unfold vA;rw[if_neg h1,if_neg h2,if_neg h3])
 obtain⟨L',I,kK,O,U,Z,akK,hS⟩:=h9 (Classical.not_not.1 h3);obtain⟨HC,uF⟩:=AN (Classical.not_not.1 h3);have rO:=abw (G:=G) E.1 HC uF;refine CD.perm (S':=⟨lf,36,2,[av 1 gp E.2.1.1,ae E.2.1.2]⟩::⟨b5,36,2,[.list 1 [] 0,ae 0]⟩::⟨b4,25,1,[.list 5 [] 0]⟩::⟨b3,32,12,bU s⟩::⟨b2,25,1,[av 5 c8 (l)]⟩::(ie b9 I L'.length kK::(O++L'.flatMap bT))) (show((⟨lf,36,2,[av 1 gp E.2.1.1,ae E.2.1.2]⟩::⟨b5,36,2,[.list 1 [] 0,ae 0]⟩::⟨b4,25,1,[.list 5 [] 0]⟩::⟨b3,32,12,bU s⟩::[⟨b2,25,1,[av 5 c8 (l)]⟩])++S9:List ah).Perm ((⟨lf,36,2,[av 1 gp E.2.1.1,ae E.2.1.2]⟩::⟨b5,36,2,[.list 1 [] 0,ae 0]⟩::⟨b4,25,1,[.list 5 [] 0]⟩::⟨b3,32,12,bU s⟩::[⟨b2,25,1,[av 5 c8 (l)]⟩])++(ie b9 I L'.length kK::(O++L'.flatMap bT))) from Perm.append_left ((⟨lf,36,2,[av 1 gp E.2.1.1,ae E.2.1.2]⟩::⟨b5,36,2,[.list 1 [] 0,ae 0]⟩::⟨b4,25,1,[.list 5 [] 0]⟩::⟨b3,32,12,bU s⟩::[⟨b2,25,1,[av 5 c8 (l)]⟩]):List ah) hS) ?_
 refine CD.wk (Wk.cover (A:=ie b9 I L'.length kK) (R:=⟨lf,36,2,[av 1 gp E.2.1.1,ae E.2.1.2]⟩::⟨b5,36,2,[.list 1 [] 0,ae 0]⟩::⟨b4,25,1,[.list 5 [] 0]⟩::⟨b3,32,12,bU s⟩::[⟨b2,25,1,[av 5 c8 (l)]⟩]) (Sd:=O++L'.flatMap bT) (cs':=[av 5 c8 (E.1)]) (show(⟨lf,36,2,[av 1 gp E.2.1.1,ae E.2.1.2]⟩::⟨b5,36,2,[.list 1 [] 0,ae 0]⟩::⟨b4,25,1,[.list 5 [] 0]⟩::⟨b3,32,12,bU s⟩::⟨b2,25,1,[av 5 c8 (l)]⟩::(ie b9 I L'.length kK::(O++L'.flatMap bT)):List ah).Perm _ from(iH fun jj=>by simp only[map_append,map_cons,map_nil,sum_append,sum_cons,sum_nil];omega)) ⟨by rw[←akK];unfold av;rw[length_map];exact FF U Z (fun B h=>h),trivial⟩) ?_;refine CD.skip ?_;refine CD.seq ?_;refine fE 4 (aq (eraseIdx _ 3)) ?_ (fun _ h=>(Sublist.map _ (eraseIdx_sublist _ 3)).subset h)
 refine ay 0 rfl (cU (mk:=Op.load 25) rfl ot (by first|exact nF (k:=0) (ds:=[_]) rfl rfl isAgg25 sizeOf25 rfl rfl|exact iJ jf isAgg25 sizeOf25 w5|exact iJ jq isAgg25 sizeOf25 w5|exact cn (k:=0) jf rfl rfl rfl isAgg25 sizeOf25 w5|exact cn (k:=1) jf rfl rfl rfl isAgg25 sizeOf25 w5|exact cn (k:=2) jf rfl rfl rfl isAgg25 sizeOf25 w5|exact cn (k:=3) jf rfl rfl rfl isAgg25 sizeOf25 w5|exact cn (k:=4) jf rfl rfl rfl isAgg25 sizeOf25 w5|exact cn (k:=5) jf rfl rfl rfl isAgg25 sizeOf25 w5|exact cn (k:=0) jq rfl rfl rfl isAgg25 sizeOf25 w5|exact cn (k:=1) jq rfl rfl rfl isAgg25 sizeOf25 w5|exact cn (k:=2) jq rfl rfl rfl isAgg25 sizeOf25 w5|exact cn (k:=3) jq rfl rfl rfl isAgg25 sizeOf25 w5|exact cn (k:=4) jq rfl rfl rfl isAgg25 sizeOf25 w5|exact cn (k:=5) jq rfl rfl rfl isAgg25 sizeOf25 w5|exact pN (ds:=[_]) isAgg25 sizeOf25 rfl rfl)) ?_
 refine ay 2 rfl (cU (mk:=Op.load 36) rfl ot (by first|exact nF (k:=1) (ds:=[_,_]) rfl rfl isAgg36 sizeOf36 rfl rfl|exact iJ jf isAgg36 sizeOf36 w5|exact iJ jq isAgg36 sizeOf36 w5|exact cn (k:=0) jf rfl rfl rfl isAgg36 sizeOf36 w5|exact cn (k:=1) jf rfl rfl rfl isAgg36 sizeOf36 w5|exact cn (k:=2) jf rfl rfl rfl isAgg36 sizeOf36 w5|exact cn (k:=3) jf rfl rfl rfl isAgg36 sizeOf36 w5|exact cn (k:=4) jf rfl rfl rfl isAgg36 sizeOf36 w5|exact cn (k:=5) jf rfl rfl rfl isAgg36 sizeOf36 w5|exact cn (k:=0) jq rfl rfl rfl isAgg36 sizeOf36 w5|exact cn (k:=1) jq rfl rfl rfl isAgg36 sizeOf36 w5|exact cn (k:=2) jq rfl rfl rfl isAgg36 sizeOf36 w5|exact cn (k:=3) jq rfl rfl rfl isAgg36 sizeOf36 w5|exact cn (k:=4) jq rfl rfl rfl isAgg36 sizeOf36 w5|exact cn (k:=5) jq rfl rfl rfl isAgg36 sizeOf36 w5|exact pN (ds:=[_,_]) isAgg36 sizeOf36 rfl rfl)) ?_;refine dm.later rfl ?_;refine AD.one (i:=1) aA ?_;refine jm call26 (rO) ?_;refine AD.one (i:=3) aA ?_;refine dS 3 [_] sizeOf25 ?_;refine eE ?_;refine aN 2 [_,_] sizeOf36 ?_;refine aE 1 ?_;first|refine OD.cells (k:=0) (cs':=[.list 1 [] 0,_]) rfl ⟨fp,dQ,trivial⟩ rfl ?_|skip
 first|refine OD.cells (k:=1) (cs':=[.list 1 [] 0,_]) rfl ⟨fp,dQ,trivial⟩ rfl ?_|skip
 first|refine OD.cells (k:=1) (cs':=[.list 5 [] 0]) rfl ⟨fp,trivial⟩ rfl ?_|skip
 first|refine OD.cells (k:=2) (cs':=[.list 5 [] 0]) rfl ⟨fp,trivial⟩ rfl ?_|skip
 refine an 46 [4,5,6] ?_;exact uz
theorem agB(hm:(3,marksC)∈G)(hw:(1,wordsC)∈G)(ht:(0,typesC)∈G)(hG:(2,[Value.int .i64 m])∈G)(l:List aM){n:Nat}(hn:n≤260)(g:pO l n)(s:cA)(hf:jM s)(fy:¬s.kind=2)(E:∀v∈s.row,v.Ok)(ho:∀o∈s.aj,o.nm.size≤maxLen)(fR:∀o∈s.aj,o.v.Ok)(Z:∀o∈s.bV,o.nm.size≤maxLen)(I:∀o∈s.bV,o.v.Ok)(AN:(gM l s).2.2=0→(gM l s).1.length≤1000∧∀t∈(gM l s).1,zh t):VP Tryz.prog G 11 [.agg [av 5 c8 (l)],.agg (bU s)] (AT (nQ l s)) :=
 ae7 hm hw ht hG l g s hf (gM l s) (fun L pD aR bo ad cap Sx O=>by
  subst pD;have U:=g.eJ;rw[length_map] at U;exact agA hm hw ht hG L aR w4 (fun o ho=>⟨n,hn,g.tb _ (mem_map_of_mem ho)⟩) s fy (by have:=hf.ok.1;omega) (by have:=hf.ok.2.1;omega) E (by have:=hf.ok.2.2.1;omega) ho fR Z I bo ad cap Sx O) AN

end Go.Proofs.YtdgichenhdikgaaGreatDoor.Ba
namespace Go.Proofs.YtdgichenhdikgaaGreatDoor.Ba
open List
open Go.Proofs.Tryz
open Go.RowKit V Pk Tr Vl Go.Proofs.YtdgichenhdikgaaGreatDoor.Nm Pc Cd Ex Tw
open Pa (cA bU)
variable {t:aM} {n:Nat} {i:Int}
theorem ew.mono{t:aM}{a b:Nat}(g:ew t a)(h:a≤b):ew t b:=⟨g.nm,g.az,g.eJ,g.ix.mono h,g.row,g.iZ⟩
structure nJ (t:aM) (n:Nat) (D:List Int):Prop where
 nm:cL t.nm=0
 az:t.az=cM
 eJ:t.rows.length≤40
 ix:iM t.ix n
 row:∀i (h:i<t.rows.length),t.rows[i]≠[]→Pc.ec cM t.rows[i]=0∧(∀v∈t.rows[i],v.Ok)∧((i:Int)∉D→(c9 t.rows[i],(i:Int))∈eB t.ix)
 iZ:∀x∈eB t.ix,0≤x.2∧x.2∉D∧∃h:x.2.toNat<t.rows.length,t.rows[x.2.toNat]≠[]∧x.1=c9 t.rows[x.2.toNat]
theorem ew.d(g:ew t n):nJ t n []:=⟨g.nm,g.az,g.eJ,g.ix,fun i h hn=>⟨(g.row i h hn).1,(g.row i h hn).2.1,fun _=>(g.row i h hn).2.2⟩,fun x hx=>⟨(g.iZ x hx).1,not_mem_nil,(g.iZ x hx).2⟩⟩
theorem nJ.tb(g:nJ t n []):ew t n:=⟨g.nm,g.az,g.eJ,g.ix,fun i h hn=>⟨(g.row i h hn).1,(g.row i h hn).2.1,(g.row i h hn).2.2 not_mem_nil⟩,fun x hx=>⟨(g.iZ x hx).1,(g.iZ x hx).2.2⟩⟩
theorem abG(g:ew t n)(hn:n≤300){row:List Vl}(aR:∀v∈row,v.Ok)(h:(gC t row).2=0):ew (gC t row).1 (n+1)∧(gC t row).1.rows.length=t.rows.length+1:=by
 unfold gC at h ⊢;by_cases h1:Pc.ec t.az row=0
 ·rw[if_neg (fun e=>e h1)] at h ⊢;cases h2:iA t.ix (c9 row) (dL t.ix) with
  | true=>rw[h2,if_pos rfl] at h;cases h
  | false =>
   rw[h2,if_neg w7] at h;rw[if_neg w7];by_cases h3:t.rows.length=40
   ·rw[if_pos h3] at h;cases h
   rw[if_neg h3];have h4:Pc.ec cM row=0:=(by rw[←g.az];exact h1)
   obtain⟨g1,g2,g3⟩:=EV g.ix hn ((EW g.ix).1 h2) (wF h4) (Int.natCast_nonneg t.rows.length);have I:=g.eJ;refine⟨⟨g.nm,g.az,by show(t.rows++[row]).length≤40;rw[length_append,length_singleton];omega,g1,fun i hi hne=>?_,fun x hx=>?_⟩,by show(t.rows++[row]).length=_;rw[length_append,length_singleton]⟩
   ·simp only at hi hne ⊢;rw[length_append,length_singleton] at hi;by_cases hl:i<t.rows.length
    ·have e:(t.rows++[row])[i]'xM=t.rows[i]:=getElem_append_left hl;rw[e] at hne ⊢;obtain⟨p1,p2,p3⟩:=g.row i hl hne;exact⟨p1,p2,(g3 _).2 (.inr p3)⟩
    have E:i=t.rows.length:=(by omega)
    subst E;have e:(t.rows++[row])[t.rows.length]'xM=row:=(by rw[getElem_append_right (Nat.le_refl _)];simp)
    rw[e] at hne ⊢;exact⟨h4,aR,(g3 _).2 (.inl rfl)⟩
   rcases(g3 x).1 hx with rfl|hx
   ·refine⟨Int.natCast_nonneg _,by show t.rows.length<(t.rows++[row]).length;rw[length_append,length_singleton];omega,?_⟩;have e:(t.rows++[row])[t.rows.length]'xM=row:=(by rw[getElem_append_right (Nat.le_refl _)];simp)
    show(t.rows++[row])[t.rows.length]'_≠[]∧c9 row=c9 ((t.rows++[row])[t.rows.length]'_);rw[e];exact⟨fun e=>(by have:=oW h4;rw[e] at this;cases this),rfl⟩
   obtain⟨x0,x1,O,U⟩:=g.iZ x hx;have e:(t.rows++[row])[x.2.toNat]'xM=t.rows[x.2.toNat]:=getElem_append_left x1;refine⟨x0,by show _<(t.rows++[row]).length;rw[length_append,length_singleton];omega,?_⟩;show(t.rows++[row])[x.2.toNat]'_≠[]∧x.1=c9 ((t.rows++[row])[x.2.toNat]'_);rw[e];exact⟨O,U⟩
 rw[if_pos h1] at h;exact absurd h h1
theorem Qh{n:Nat}:∀{l:List Int} {t:aM},ew t n→l.Nodup→(∀i∈l,gb t i)→ew (rE t l) n∧(rE t l).rows.length=t.rows.length
 | [],_,g,_,_=>⟨g,rfl⟩
 | i::r,t,g,hn,hi=>by
  rw[nodup_cons] at hn;have h1:=Qh (Qd g (hi i mem_cons_self)) hn.2 fun j hj=>TK (hi j (mem_cons_of_mem _ hj)) (fun e=>hn.1 (e ▸ hj)) (hi i mem_cons_self).1;refine⟨h1.1,h1.2.trans ?_⟩;show(t.rows.set _ _).length=_;rw[length_set]
theorem Y8(g:ew t n)(w:List aX):ew (mH t w).1 n∧(mH t w).1.rows.length=t.rows.length:=by
 unfold mH;split
 ·exact⟨g,rfl⟩
 exact Qh g (EB g w) (tZ g w)
theorem TQ{r:List Vl}{c:Nat}(hc:c≠0)(v:Vl):c9 (r.set c v)=c9 r:=by
 unfold c9;cases r with
 | nil=>rfl
 | cons a r=>cases c with
  | zero=>exact absurd rfl hc
  | succ c=>rfl
theorem Va{D:List Int}(g:nJ t n D)(hi:gb t i){c:Nat}(hc:c<cM.length){v:Vl}(hv:jU (cM[c]'hc).k v)(fR:v.Ok)(h0:c=0→v.k≠0∧i∈D):nJ (rF t i c v) n D∧(∀j,gb t j→gb (rF t i c v) j):=by
 obtain⟨q0,q1,q2⟩:=hi;obtain⟨p1,p2,p3⟩:=g.row _ q1 q2;have U:=ja (t:=t) q1;have Z:Pc.ec cM ((rowAt t i).set c v)=0:=(by rw[U];exact TL p1 hc hv fun h=>(h0 h).1)
 have jX:(rowAt t i).set c v≠[]:=fun e=>by have:=oW Z;rw[e] at this;cases this
 have hlen:(rF t i c v).rows.length=t.rows.length:=length_set;have I:∀j (h:j<t.rows.length),(rF t i c v).rows[j]'(by rw[hlen];exact h)=if i.toNat=j then (rowAt t i).set c v else t.rows[j]:=fun j h=>getElem_set ..
 refine⟨⟨g.nm,g.az,by rw[hlen];exact g.eJ,g.ix,fun j hj hne=>?_,fun x hx=>?_⟩,fun j ⟨j0,j1,j2⟩=>⟨j0,by rw[hlen];exact j1,?_⟩⟩
 ·rw[hlen] at hj;rw[I j hj] at hne ⊢;by_cases E:i.toNat=j
  ·rw[if_pos E];refine⟨Z,fun w hw=>?_,fun hd=>?_⟩
   ·rcases mem_or_eq_of_mem_set hw with hw|hw
    ·rw[U] at hw;exact p2 w hw
    rw[hw];exact fR
   have rT:(j:Int)=i:=(by omega)
   by_cases O:c=0
   ·exact absurd (rT ▸ (h0 O).2) hd
   rw[TQ O,U];subst E;exact p3 hd
  rw[if_neg E] at hne ⊢;exact g.row j hj hne
 ·obtain⟨x0,xd,x1,x2,x3⟩:=g.iZ x hx;refine⟨x0,xd,by rw[hlen];exact x1,?_⟩;rw[I _ x1];by_cases E:i.toNat=x.2.toNat
  ·rw[if_pos E];refine⟨jX,?_⟩;have rT:x.2=i:=(by omega)
   by_cases O:c=0
   ·exact absurd (rT ▸ (h0 O).2) xd
   rw[TQ O,U,x3];simp only[E]
  rw[if_neg E];exact⟨x2,x3⟩
 rw[I _ j1];split
 ·exact jX
 exact j2
theorem ah4{x:aF}{D:List Int}(g:nJ {t with ix:=x} n D)(hi:gb t i)(hd:i∉D):nJ {t with ix:=gL x (dL x) (c9 (rowAt t i))} n (i::D):=by
 obtain⟨q0,q1,q2⟩:=hi;obtain⟨p1,p2,p3⟩:=g.row _ q1 q2;have E:=ja (t:=t) q1;have I:(c9 (rowAt t i),i)∈eB x:=by
  have:=p3 (by rw[Int.toNat_of_nonneg q0];exact hd);rw[Int.toNat_of_nonneg q0] at this;rw[E];exact this
 obtain⟨d1,d2⟩:=Je g.ix ((Bc g.ix.val _).2 ⟨i,I⟩);refine⟨g.nm,g.az,g.eJ,d1,fun j hj hne=>?_,fun y hy=>?_⟩
 ·obtain⟨r1,r2,U⟩:=g.row j hj hne;refine⟨r1,r2,fun hd2=>?_⟩;have O:(j:Int)≠i:=fun e=>hd2 (e ▸ mem_cons_self);refine(d2 _).2 ⟨U fun e=>hd2 (mem_cons_of_mem _ e),fun e=>O ?_⟩;have:=J0 g.ix (U fun e=>hd2 (mem_cons_of_mem _ e)) I e;simp only[Prod.mk.injEq] at this;exact this.2
 obtain⟨y1,y2⟩:=(d2 y).1 hy;obtain⟨z0,zd,z1,z2,z3⟩:=g.iZ y y1;refine⟨z0,fun hm=>?_,z1,z2,z3⟩;rcases mem_cons.1 hm with e|hm
 ·refine y2 ?_;rw[z3,E];simp only[e]
 exact zd hm
theorem TR{t:aM}{n:Nat}:∀(l:List Int) (x:aF) (D:List Int),nJ {t with ix:=x} n D→l.Nodup→(∀i∈l,gb t i∧i∉D)→∃D',nJ {t with ix:=ou t x l} n D'∧∀i,i∈D'↔i∈l∨i∈D
 | [],x,D,g,_,_=>⟨D,g,fun i=>by simp⟩
 | i::r,x,D,g,hn,hi=>by
  rw[nodup_cons] at hn;obtain⟨D',h1,h2⟩:=TR r _ (i::D) (ah4 g (hi i mem_cons_self).1 (hi i mem_cons_self).2) hn.2 fun j hj=>⟨(hi j (mem_cons_of_mem _ hj)).1,fun e=>by
   rcases mem_cons.1 e with e|e
   ·exact hn.1 (e ▸ hj)
   exact(hi j (mem_cons_of_mem _ hj)).2 e⟩
  refine⟨D',h1,fun j=>(h2 j).trans ?_⟩;simp only[mem_cons];constructor
  ·rintro(h|h|h)
   ·exact .inl (.inr h)
   ·exact .inl (.inl h)
   exact .inr h
  rintro((h|h)|h)
  ·exact .inr (.inl h)
  ·exact .inl h
  exact .inr (.inr h)
theorem nJ.akL{D D':List Int}(g:nJ t n D)(h:∀i,i∈D↔i∈D'):nJ t n D':=⟨g.nm,g.az,g.eJ,g.ix,fun i hi hne=>⟨(g.row i hi hne).1,(g.row i hi hne).2.1,fun hd=>(g.row i hi hne).2.2 fun e=>hd ((h _).1 e)⟩,fun x hx=>⟨(g.iZ x hx).1,fun e=>(g.iZ x hx).2.1 ((h _).2 e),(g.iZ x hx).2.2⟩⟩
theorem akM{D:List Int}(g:nJ t n D)(hn:n≤300)(hi:gb t i)(hd:i∈D)(lg:iA t.ix (c9 (rowAt t i)) (dL t.ix)=false):nJ {t with ix:=gK t.ix (dL t.ix) (c9 (rowAt t i)) i} (n+1) (D.filter (·≠i)):=by
 obtain⟨q0,q1,q2⟩:=hi;obtain⟨p1,p2,p3⟩:=g.row _ q1 q2;have E:=ja (t:=t) q1;obtain⟨g1,_,g3⟩:=EV g.ix hn ((EW g.ix).1 lg) (by rw[E];exact wF p1) q0;have hf:∀j,j∈D.filter (·≠i)↔j∈D∧j≠i:=fun j=>by rw[mem_filter];simp
 refine⟨g.nm,g.az,g.eJ,g1,fun j hj hne=>?_,fun y hy=>?_⟩
 ·obtain⟨r1,r2,O⟩:=g.row j hj hne;refine⟨r1,r2,fun hd2=>(g3 _).2 ?_⟩;by_cases e:(j:Int)=i
  ·left;have I:i.toNat=j:=(by omega)
   subst I;rw[E,Int.toNat_of_nonneg q0]
  right;exact O fun hm=>hd2 ((hf _).2 ⟨hm,e⟩)
 rcases(g3 y).1 hy with rfl|hy
 ·exact⟨q0,fun hm=>((hf _).1 hm).2 rfl,q1,q2,by rw[E]⟩
 obtain⟨z0,zd,z1,z2,z3⟩:=g.iZ y hy;exact⟨z0,fun hm=>zd ((hf _).1 hm).1,z1,z2,z3⟩
theorem UC:∀(l:List Int) (vs:List Vl) (t:aM) (n:Nat) (D:List Int),nJ t n D→n+l.length≤300→l.Nodup→vs.length=l.length→(∀i∈l,gb t i∧i∈D)→(∀v∈vs,v.Ok∧jU (cM[0]'w7).k v∧v.k≠0)→(kH t l vs).2=0 →
  ∃D',nJ (kH t l vs).1 (n+l.length) D'∧(kH t l vs).1.rows.length=t.rows.length∧∀i,i∈D'↔i∈D∧i∉l
 | [],[],t,n,D,g,_,_,_,_,_,_=>⟨D,g,rfl,fun i=>by simp⟩
 | [],_::_,_,_,_,_,_,_,h,_,_,_=>by cases h
 | _::_,[],_,_,_,_,_,_,h,_,_,_=>by cases h
 | i::r,v::s,t,n,D,g,hn,hnd,hl,hi,hv,h=>by
  rw[nodup_cons] at hnd;rw[length_cons] at hn hl;rw[length_cons] at hl;obtain⟨E,hid⟩:=hi i mem_cons_self;obtain⟨v1,v2,v3⟩:=hv v mem_cons_self;obtain⟨g1,ko⟩:=Va g E (c:=0) w7 v2 v1 fun _=>⟨v3,hid⟩
  rw[kH] at h ⊢;cases iU:iA t.ix (c9 (rowAt (rF t i 0 v) i)) (dL t.ix) with
  | true=>rw[iU,if_pos rfl] at h;cases h
  | false =>
   rw[iU,if_neg w7] at h;rw[if_neg w7];have g2:=akM g1 w4 (ko i E) hid iU;obtain⟨D',h1,h2,h3⟩:=UC r s _ (n+1) _ g2 w4 hnd.2 w4 (fun j hj=>⟨ko j (hi j (mem_cons_of_mem _ hj)).1,by rw[mem_filter];exact⟨(hi j (mem_cons_of_mem _ hj)).2,by simp;exact fun e=>hnd.1 (e ▸ hj)⟩⟩) (fun w hw=>hv w (mem_cons_of_mem _ hw)) h;refine⟨D',by rw[length_cons,show n+(r.length+1)=n+1+r.length by omega];exact h1,h2.trans (by show(t.rows.set _ _).length=_;rw[length_set]),fun j=>(h3 j).trans ?_⟩;rw[mem_filter,mem_cons];simp only[decide_eq_true_eq,ne_eq,not_or,and_assoc]
theorem TS{n:Nat}{c:Nat}(hc:c<cM.length)(aO:c≠0):∀(l:List Int) (vs:List Vl) (t:aM),ew t n→(∀i∈l,gb t i)→(∀v∈vs,v.Ok∧jU (cM[c]'hc).k v)→ew (mP c t l vs) n∧(mP c t l vs).rows.length=t.rows.length
 | [],_,t,g,_,_=>by unfold mP;exact⟨g,rfl⟩
 | _::_,[],t,g,_,_=>by unfold mP;exact⟨g,rfl⟩
 | i::r,v::s,t,g,hi,hv=>by
  rw[mP];obtain⟨v1,v2⟩:=hv v mem_cons_self;obtain⟨g1,ko⟩:=Va g.d (hi i mem_cons_self) hc v2 v1 fun e=>absurd e aO;have h1:=TS hc aO r s _ g1.tb (fun j hj=>ko j (hi j (mem_cons_of_mem _ hj))) fun w hw=>hv w (mem_cons_of_mem _ hw);exact⟨h1.1,h1.2.trans (by show(t.rows.set _ _).length=_;rw[length_set])⟩
theorem ae8{k:Int}{c:Int}{v:Vl}(h:jU k v)(hk:¬(k≠c∧k≠0)):jU c v:=by
 refine⟨h.1,?_⟩;have:=h.2;omega
theorem abH(g:ew t n)(s:cA)(lg:∀o∈s.bV,o.nm.size≤maxLen)(fR:∀o∈s.bV,o.v.Ok)(hn:n≤260):ew (ig t s).1 (n+t.rows.length)∧(ig t s).1.rows.length=t.rows.length:=by
 have hz:ew t (n+t.rows.length)∧t.rows.length=t.rows.length:=⟨g.mono w4,rfl⟩
 unfold ig;by_cases hA:bD t.az s.set<0
 ·rw[if_pos hA];exact hz
 rw[if_neg hA];by_cases hB:(ey t.az s.bV).2≠0
 ·rw[if_pos hB];exact hz
 rw[if_neg hB];by_cases hC:(ey t.az s.bV).1≠(t.az.getD (bD t.az s.set).toNat ⟨⟨#[]⟩,0⟩).k∧(ey t.az s.bV).1≠0
 ·rw[if_pos hC];exact hz
 rw[if_neg hC];by_cases hD:(ax t s.aj).2≠0
 ·rw[if_pos hD];exact hz
 rw[if_neg hD];by_cases hN:(iQ t (bD t.az s.set) s.bV [] (ax t s.aj).1).2≠0
 ·rw[if_pos hN];exact hz
 rw[if_neg hN];have Z:=Classical.not_not.1 hN;have hkz:(ey cM s.bV).2=0:=(by rw[←g.az];exact Classical.not_not.1 hB)
 have E:=Ji g lg fR hkz (ax t s.aj).1 [] (tZ g s.aj) Z (fun v O=>by cases O);have hlen:=RO (t:=t) (c:=bD t.az s.set) (e:=s.bV) (ax t s.aj).1 [] Z;have Yu:=(Kt (l:=t.az) (nm:=s.set)).2;have hcc:t.az.length=cM.length:=(by rw[g.az])
 have U:(bD t.az s.set).toNat<cM.length:=(by omega)
 have HG:∀v,jU (ey cM s.bV).1 v→jU (cM[(bD t.az s.set).toNat]'U).k v:=fun v O=>by
  refine ae8 O ?_;rw[g.az] at hC;have e:cM.getD (bD cM s.set).toNat ⟨⟨#[]⟩,0⟩=cM[(bD t.az s.set).toNat]'U:=by
   rw[getD_eq_getElem?_getD];rw[show(bD cM s.set).toNat=(bD t.az s.set).toNat by rw[g.az]];rw[getElem?_eq_getElem U];rfl
  rw[e] at hC;exact hC
 by_cases hP:0<bD t.az s.set
 ·rw[if_pos hP];have h1:=TS (c:=(bD t.az s.set).toNat) U w4 (ax t s.aj).1 (iQ t (bD t.az s.set) s.bV [] (ax t s.aj).1).1 t g (tZ g s.aj) fun v O=>⟨(E v O).1,HG v (E v O).2.1⟩
  exact⟨h1.1.mono w4,h1.2⟩
 rw[if_neg hP];have yB:bD t.az s.set=0:=(by omega)
 by_cases hM:(kH {t with ix:=ou t t.ix (ax t s.aj).1} (ax t s.aj).1 (iQ t (bD t.az s.set) s.bV [] (ax t s.aj).1).1).2≠0
 ·rw[if_pos hM];exact hz
 rw[if_neg hM];have hnd:=EB g s.aj;have I:=tZ g s.aj;have mO:=Fs g s.aj;obtain⟨D,d1,d2⟩:=TR (ax t s.aj).1 t.ix [] g.d hnd fun i hi=>⟨I i hi,not_mem_nil⟩
 obtain⟨D',e1,e2,e3⟩:=UC (ax t s.aj).1 (iQ t (bD t.az s.set) s.bV [] (ax t s.aj).1).1 _ n D d1 w4 hnd (by rw[hlen];simp) (fun i hi=>⟨I i hi,(d2 i).2 (.inl hi)⟩) (fun v O=>⟨(E v O).1,by have:=HG v (E v O).2.1;simp only[yB] at this;exact this,(E v O).2.2 yB⟩) (Classical.not_not.1 hM);have hD':ew _ _:=(e1.akL (D':=[]) fun i=>by rw[e3,d2];simp).tb;have hle:(ax t s.aj).1.length≤t.rows.length:=by
  have h1:((ax t s.aj).1.map Int.toNat).Nodup:=by
   rw[Nodup,pairwise_map];refine(Pairwise.and_mem.1 hnd).imp fun {a b} h e=>h.2.2 ?_;have:=(I a h.1).1;have:=(I b h.2.1).1;omega
  have h2:=h1.length_le_of_subset (l₂:=range t.rows.length) fun x hx=>by
   obtain⟨y,hy,rfl⟩:=mem_map.1 hx;exact mem_range.2 (I y hy).2.1
  rwa [length_map,length_range] at h2
 exact⟨hD'.mono w4,e2⟩

end Go.Proofs.YtdgichenhdikgaaGreatDoor.Ba
namespace Go.Proofs.YtdgichenhdikgaaGreatDoor.Pa
open List
open Go.Proofs.Tryz
open Go.RowKit V Pk Vl Go.Proofs.YtdgichenhdikgaaGreatDoor.Nm Pc
variable {t:ByteArray}
theorem ae9{s:ByteArray}(h:cL s=0):og s=true∧s.size≤8:=by
 unfold cL at h;split at h
 ·cases h
 split at h
 ·cases h
 rename_i h1 h2;rw[Bool.or_eq_true,Bool.not_eq_true'] at h2;refine⟨?_,by omega⟩;cases hw:og s with
 | true=>rfl
 | false=>exact absurd (.inl hw) h2
variable {G:List (Nat×List Value)}
def tQ:List Vl→ByteArray
 | []=>⟨#[120]⟩
 | v::_=>v.s
def jI(s:cA):Prop:=jM s∧1≤s.kind∧s.kind≤6∧s.iq≤9223372036854775807∧gd s=0
structure Od (w:List aX):Prop where
 l:w.length≤40
 f:nH w=0
 b:∀o∈w,o.nm.size≤maxLen∧-9223372036854775808≤o.v.n∧o.v.n≤9223372036854775807
theorem afa:Od []:=⟨Nat.zero_le _,rfl,fun _ h=>by cases h⟩
theorem abI(t:Tw):∀o∈iB 3 t,-20≤o.v.n∧o.v.n≤40:=by
 have hz:∀j nm,-20≤(⟨j,bJ,nm⟩:aX).v.n∧(⟨j,bJ,nm⟩:aX).v.n≤40:=fun _ _=>⟨by show(-20:Int)≤0;decide,by show(0:Int)≤40;decide⟩
 have vl:∀n s,-20≤(sC n s).v.n∧(sC n s).v.n≤40:=fun n s=>by
  show -20≤(pK ⟨n,dU n 40-20,s⟩).n∧(pK ⟨n,dU n 40-20,s⟩).n≤40;have O:=jD n (show(1:Int)≤40 by decide);have h2:=jD (dU n 40-20) (show(1:Int)≤2 by decide);unfold pK;split
  ·dsimp only;omega
  split
  ·dsimp only;omega
  split
  ·dsimp only;omega
  exact⟨by show(-20:Int)≤0;decide,by show(0:Int)≤40;decide⟩
 have E:∀k n s,∀o∈mF k n s,-20≤o.v.n∧o.v.n≤40:=fun k n s o ho=>by
  unfold mF at ho;split at ho<;>(simp only[mem_singleton] at ho;subst ho)
  ·exact hz _ _
  exact vl _ _
 have key:∀(r:Nat) (t:Tw),∀o∈iB r t,-20≤o.v.n∧o.v.n≤40:=by
  intro r;induction r with
  | zero=>intro t;obtain⟨k,n,s,ts⟩:=t;exact E k n s
  | succ r ih =>
   intro t o ho;obtain⟨k,n,s,ts⟩:=t;have I:∀i:Nat,∀o∈gJ r ts n s i,-20≤o.v.n∧o.v.n≤40:=fun i o ho=>by
    unfold gJ at ho;split at ho
    ·exact ih _ o ho
    exact E _ _ _ o ho
   rw[wm] at ho;split at ho
   ·simp only[mem_singleton] at ho;subst ho;exact vl _ _
   split at ho
   ·simp only[mem_singleton] at ho;subst ho;exact hz _ _
   split at ho
   ·rcases mem_append.1 ho with ho|ho
    ·exact I 0 o ho
    simp only[mem_singleton] at ho;subst ho;exact hz _ _
   rcases mem_append.1 ho with ho|ho
   ·rcases mem_append.1 ho with ho|ho
    ·exact I 0 o ho
    exact I 1 o ho
   simp only[mem_singleton] at ho;subst ho;exact hz _ _
 exact key 3 t
theorem TT(t:Tw):Od (iB 3 t):=by
 have h:=PB t;refine⟨by omega,?_,fun o ho=>⟨acs (acr t) o ho,?_⟩⟩
 ·unfold nH;rw[if_neg w4];exact PC t
 have:=abI t o ho;omega
theorem abJ(s:cA):jF s s=true:=by
 unfold jF;simp only[Bool.and_eq_true,beq_iff_eq,wC,and_self]
theorem yR{s:cA}(ht:cL s.table=0)(he:iO s=0)(hb:gI s=s):gd s=0:=by
 unfold gd;rw[if_neg (fun h=>h.2 ht),hb,if_neg (fun h=>by rw[abJ] at h;cases h.2),he]
theorem small{x:ByteArray}(h:cL x=0):x.size≤maxLen:=Nat.le_trans (ae9 h).2 w7
def rG(s:cA):Prop:=s.aj=[]∧∀w,Od w→(4≤s.kind∨w=[])→jI {s with aj:=w}
theorem rG.vr{s:cA}(h:rG s):jI s:=by
 have:=h.2 [] afa (.inr rfl);rw[←h.1] at this;exact this
theorem O5(ht:cL t=0):rG {ga with kind:=1,table:=t,az:=cM}:=⟨rfl,fun w hw h=>by
 have E:w=[]:=h.resolve_left (by show ¬(4:Int)≤1;decide);subst E;exact⟨⟨⟨by show 4≤6;decide,Nat.zero_le _,Nat.zero_le _,Nat.zero_le _,Nat.zero_le _⟩,small ht,by show ∀c∈cM,c.n.size≤maxLen;decide,(fun _ h=>by cases h),Nat.zero_le _,Nat.zero_le _,(fun _ h=>by cases h),(fun _ h=>by cases h),(fun _ h=>by cases h)⟩,by show(1:Int)≤1;decide,by show(1:Int)≤6;decide,CJ,
  yR ht (show fI cM=0 by decide +kernel) aA⟩⟩
theorem adu(ht:cL t=0):rG {ga with kind:=2,table:=t}:=⟨rfl,fun w hw h=>by
 have E:w=[]:=h.resolve_left (by show ¬(4:Int)≤2;decide);subst E;exact⟨⟨⟨Nat.zero_le _,Nat.zero_le _,Nat.zero_le _,Nat.zero_le _,Nat.zero_le _⟩,small ht,(fun _ h=>by cases h),(fun _ h=>by cases h),Nat.zero_le _,Nat.zero_le _,(fun _ h=>by cases h),(fun _ h=>by cases h),(fun _ h=>by cases h)⟩,by show(1:Int)≤2;decide,by show(2:Int)≤6;decide,CJ,
  yR ht aA aA⟩⟩
theorem TU{x:Int}(h0:0≤x):iS ⟨2,x,⟨#[]⟩⟩=0:=by
 unfold iS;rw[if_neg (by intro h;have:=h.2;dsimp only at this;omega)];kernel_rfl
theorem afb{s:ByteArray}(h:s.size≤20):iS ⟨3,0,s⟩=0:=by
 unfold iS;rw[if_neg (by intro h;exact absurd h.1 (by show ¬(3:Int)=2;decide))];unfold cD;rw[if_neg (by show ¬(3:Int)=0;decide),if_neg (by show ¬(3:Int)=1;decide),if_neg (by show ¬(3:Int)=2;decide),if_pos rfl,if_neg (fun h=>h rfl),if_neg (by show ¬s.size>20;omega)]
theorem abK(n:Int):iS (qw n)=0∧-9223372036854775808≤(qw n).n∧(qw n).n≤9223372036854775807:=by
 have h:=jD n (show(1:Int)≤3 by decide);unfold qw;split
 ·exact⟨by decide,by decide,by decide⟩
 have h2:dU n 3=0∨dU n 3=1:=(by omega)
 rcases h2 with h2|h2<;>rw[h2]<;>exact⟨by decide,by decide,by decide⟩
theorem aah(ht:cL t=0){x y b:Int}(hx:0≤x∧x<12)(hy:0≤y∧y<9){u:ByteArray}(Z:u.size≤6):rG {ga with kind:=3,table:=t,row:=[⟨2,x,⟨#[]⟩⟩,⟨2,y,⟨#[]⟩⟩,⟨3,0,u⟩,qw b]}:=⟨rfl,fun w hw h=>by
 have E:w=[]:=h.resolve_left (by show ¬(4:Int)≤3;decide);subst E;have l1:=TU hx.1;have l2:=TU hy.1;have l3:iS ⟨3,0,u⟩=0:=afb w4;obtain⟨l4,O,U⟩:=abK b;refine⟨⟨⟨Nat.zero_le _,by show 4≤6;decide,Nat.zero_le _,Nat.zero_le _,Nat.zero_le _⟩,small ht,(fun _ h=>by cases h),(fun _ h=>by cases h),Nat.zero_le _,Nat.zero_le _,fun v I=>?_,(fun _ h=>by cases h),(fun _ h=>by cases h)⟩,by show(1:Int)≤3;decide,by show(3:Int)≤6;decide,CJ,yR ht ?_ aA⟩
 ·simp only[mem_cons,not_mem_nil,or_false] at I;rcases I with rfl|rfl|rfl|rfl
  ·dsimp only;omega
  ·dsimp only;omega
  ·dsimp only;omega
  exact⟨O,U⟩
 show ec [⟨2,x,⟨#[]⟩⟩,⟨2,y,⟨#[]⟩⟩,⟨3,0,u⟩,qw b]=0;unfold ec;rw[if_neg bq];simp[jT,l1,l2,l3,l4]⟩
theorem O6(ht:cL t=0){N:List ByteArray}(E:N.length≤6∧∀x∈N,cL x=0){c:Bool}(hc:c=true→N=[]){o:ByteArray}(ho:o=⟨#[]⟩∨cL o=0){d:Bool}(hd:o=⟨#[]⟩→d=false){m:Int}(hm:-1≤m∧m≤7):rG {ga with kind:=4,table:=t,names:=N,count:=c,order:=o,down:=d,iq:=m}:=⟨rfl,fun w hw h=>by
 have I:o.size≤maxLen:=(by rcases ho with rfl|h;exact Nat.zero_le _;exact small h)
 refine⟨⟨⟨Nat.zero_le _,Nat.zero_le _,E.1,hw.l,Nat.zero_le _⟩,small ht,(fun _ h=>by cases h),fun x hx=>small (E.2 x hx),I,Nat.zero_le _,(fun _ h=>by cases h),hw.b,(fun _ h=>by cases h)⟩,by show(1:Int)≤4;decide,by show(4:Int)≤6;decide,(by show _≤(9223372036854775807:Int);dsimp only;omega),yR ht ?_ aA⟩;show oT {ga with kind:=4,table:=t,names:=N,count:=c,aj:=w,order:=o,down:=d,iq:=m}=0;have gN:jT cL N=0:=by
  have key:∀l:List ByteArray,(∀x∈l,cL x=0)→jT cL l=0:=by
   intro l;induction l with
   | nil=>intro _;rfl
   | cons a r ih=>intro h;rw[jT,if_neg (by rw[h a mem_cons_self];decide)];exact ih fun x hx=>h x (mem_cons_of_mem _ hx)
  exact key N E.2
 unfold oT;dsimp only;rw[if_neg w4,if_neg w4,if_neg (by
  rintro(⟨h1,h2⟩|⟨h1,h2⟩)
  ·rw[hc h1] at h2;simp at h2
  rw[hd (wC.1 h2)] at h1;cases h1),if_neg (by rw[gN];decide),if_neg (by rw[hw.f];decide)]
 split
 ·rfl
 rename_i h2;exact ho.resolve_left fun h=>h2 (wC.2 h)⟩
theorem aai(ht:cL t=0){c:ByteArray}(hc:cL c=0)(E:Tw):rG {ga with kind:=5,table:=t,set:=c,bV:=iB 3 E}:=⟨rfl,fun w hw h=>by
 have ho:=TT E;refine⟨⟨⟨Nat.zero_le _,Nat.zero_le _,Nat.zero_le _,hw.l,ho.l⟩,small ht,(fun _ h=>by cases h),(fun _ h=>by cases h),Nat.zero_le _,small hc,(fun _ h=>by cases h),hw.b,ho.b⟩,by show(1:Int)≤5;decide,by show(5:Int)≤6;decide,CJ,yR ht ?_ aA⟩;show(if cL c=0 then (if iR (iB 3 E)=0 then nH w else iR (iB 3 E)) else cL c)=0;rw[if_pos hc,if_pos (PC E),hw.f]⟩
theorem aaj(ht:cL t=0):rG {ga with kind:=6,table:=t}:=⟨rfl,fun w hw h=>by
 refine⟨⟨⟨Nat.zero_le _,Nat.zero_le _,Nat.zero_le _,hw.l,Nat.zero_le _⟩,small ht,(fun _ h=>by cases h),(fun _ h=>by cases h),Nat.zero_le _,Nat.zero_le _,(fun _ h=>by cases h),hw.b,(fun _ h=>by cases h)⟩,by show(1:Int)≤6;decide,by show(6:Int)≤6;decide,CJ,yR ht hw.f aA⟩⟩
def eu:List ByteArray:=[⟨#[116]⟩,⟨#[117]⟩]
def gh:List ByteArray:=[⟨#[]⟩,⟨#[110]⟩,⟨#[115]⟩,⟨#[105,100]⟩]
def AU:List ByteArray:=[⟨#[110]⟩,⟨#[110]⟩,⟨#[115]⟩,⟨#[98]⟩,⟨#[105,100]⟩]
theorem F6:∀x∈eu,cL x=0:=by decide +kernel
theorem ah5:∀x∈gh,x.size=0∨cL x=0:=by decide +kernel
theorem K1:∀x∈AU,cL x=0:=by decide +kernel
theorem tu(n:Int)(h1:-9223372036854775808≤n)(h2:n≤9223372036854775807):VP Tryz.prog G 28 [ae n] (.agg [ae (qw n).k,ae (qw n).n,bn (qw n).s]):=by
 refine VC.body func28 rfl ntmps28 aQ fun X0 w0 bg=>?_;refine bY ?_;refine OD.alloc (ds:=[_,_,_]) ap rfl rfl zeroValue41 rfl (fun b2=>?_);refine an 10 [0,2] ?_;refine cX [0,2,5] (kp G n 3 h1 h2 w7) ?_;refine au ?_ ?_<;>intro aO bE
 ·refine aD 1 ?_;refine aN 0 [_,_,_] sizeOf41 ?_;refine an 10 [2] ?_;refine aJ [] ?_;refine⟨?_,rfl⟩;unfold qw bJ;simp_all
 refine aD 1 ?_;refine dV call21 (kp G n 3 h1 h2 w7) ?_;refine aE 1 ?_;refine aN 0 [_,_,_] sizeOf41 ?_;refine an 10 [2] ?_;refine aJ [] ?_;refine⟨?_,rfl⟩;unfold qw bJ;simp_all

theorem agC{s:ByteArray}(h:s.size=0):s=⟨#[]⟩:=by
 obtain⟨d⟩:=s;have:d = #[]:=Array.eq_empty_of_size_eq_zero h;rw[this]
theorem abL(k t a b:Int)(row:List Vl)(O U:Int)(Z:ByteArray)(E:List Tw)(y1 y2:Int)(y3:ByteArray)(I:List Tw)(bare:Bool):VP Tryz.prog G 36 [.agg [ae k,ae t,ae a,ae b,av 3 cV row,ae O,ae U,bn Z,.list 4 (Tw.mB E) E.length,ae y1,ae y2,bn y3,.list 4 (Tw.mB I) I.length,bS bare]] (bn (tQ row)):=by
 refine VC.body func36 rfl ntmps36 aQ fun X0 w0 bg=>?_;refine bY ?_;refine OD.box (ds:=[_,_,_,_,_,_,_,_,_,_,_,_,_,_]) ap rfl rfl ot rfl rfl (fun b1=>?_);refine an 12 [1] ?_;refine af [1,6] ?_;refine au ?_ ?_<;>intro aO bE
 ·obtain⟨v,r,rfl⟩:∃v r,row=v::r:=(by (cases row;simp at aO;exact⟨_,_,rfl⟩))
  refine cZ [2] ?_;refine aS 2 ?_ (h:=by exact(so (mk:=Op.indexAddr 75) rfl ot bP (by first|exact tO runUnderlying75 sizeOf114 (j:=0) rfl bq|exact tX runUnderlying75 sizeOf114 (j:=0) rfl bq)));refine aS 1 ?_ (h:=by exact(cU (mk:=Op.load 9) rfl ot (by exact u7 (i:=0) (j:=2) eS isAgg9 bq rfl)));refine bK ?_;refine aJ [] ?_;exact⟨rfl,rfl⟩
 obtain rfl:row=[]:=eq_nil_of_length_eq_zero (by simp at aO;simp[aO]);refine af [2] ?_;exact nw
theorem Ox : ∀ w, ((#[{ name := "Kind", type := 3, offset := 0, embedded := false, tag := "", pkgPath := "", byteOffset := 0 }, { name := "Table", type := 9, offset := 1, embedded := false, tag := "", pkgPath := "", byteOffset := 8 }, { name := "Cols", type := 27, offset := 2, embedded := false, tag := "", pkgPath := "", byteOffset := 24 }, { name := "Row", type := 28, offset := 3, embedded := false, tag := "", pkgPath := "", byteOffset := 48 }, { name := "Names", type := 29, offset := 4, embedded := false, tag := "", pkgPath := "", byteOffset := 72 }, { name := "Count", type := 4, offset := 5, embedded := false, tag := "", pkgPath := "", byteOffset := 96 }, { name := "Where", type := 30, offset := 6, embedded := false, tag := "", pkgPath := "", byteOffset := 104 }, { name := "Order", type := 9, offset := 7, embedded := false, tag := "", pkgPath := "", byteOffset := 128 }, { name := "Down", type := 4, offset := 8, embedded := false, tag := "", pkgPath := "", byteOffset := 144 }, { name := "Limit", type := 3, offset := 9, embedded := false, tag := "", pkgPath := "", byteOffset := 152 }, { name := "Set", type := 9, offset := 10, embedded := false, tag := "", pkgPath := "", byteOffset := 160 }, { name := "To", type := 30, offset := 11, embedded := false, tag := "", pkgPath := "", byteOffset := 176 }] : Array Field).mapM fun f => do pure (f.offset, ← sizeOf f.type) : Sem (Array (Nat × Nat))).run Tryz.prog w = .ok #[(0, 1), (1, 1), (2, 1), (3, 1), (4, 1), (5, 1), (6, 1), (7, 1), (8, 1), (9, 1), (10, 1), (11, 1)] w := fun w => by simp [sizeOf27, sizeOf28, sizeOf29, sizeOf3, sizeOf30, sizeOf4, sizeOf9]
theorem Y9(k t a b:Int)(row:List Vl)(x1 x2:Int)(x3:ByteArray)(E:List Tw)(y1 y2:Int)(y3:ByteArray)(I:List Tw)(bare:Bool)(dP:-9223372036854775808≤k)(fy:k≤9223372036854775807)(ht1:-9223372036854775808≤t)(ht2:t≤9223372036854775807)(U:-9223372036854775808≤a)(pZ:a≤9223372036854775807)(jk:-9223372036854775808≤b)(pz:b≤9223372036854775807)(vv:∀v∈row,v.s.size≤maxLen)(hto:(Tw.mk x1 x2 x3 E).Ok)(NA:(Tw.mk y1 y2 y3 I).Ok):VC Tryz.prog G 23 [.agg [ae k,ae t,ae a,ae b,av 3 cV row,ae x1,ae x2,bn x3,.list 4 (Tw.mB E) E.length,ae y1,ae y2,bn y3,.list 4 (Tw.mB I) I.length,bS bare]] [] (fun r S'=>∃s,r = .agg (bU s)∧S'=[]∧jI s∧s.kind=1+dU k 6):=by
 refine VC.body func23 rfl ntmps23 aQ fun X0 w0 bg=>?_;have apR:=jD k (show(1:Int)≤6 by decide);have O:=kp G k 6 dP fy w7;generalize dU k 6=ki at *;have akN:=jD t (show(1:Int)≤2 by decide);have Gj:=kp G t 2 ht1 ht2 w7;generalize dU t 2=ti at *;obtain⟨tj,rfl⟩:=Int.eq_ofNat_of_zero_le akN.1;have rJ:tj<eu.length:=(by show tj<2;omega)
 have Z:=F6 eu[tj] (getElem_mem rJ);generalize Ve:eu[tj]=tn at *;refine bY ?_;refine OD.box (ds:=[_,_,_,_,_,_,_,_,_,_,_,_,_,_]) ap rfl rfl ot rfl rfl (fun b1=>?_);refine OD.alloc (ds:=[_,_,_,_,_,_,_,_,_,_,_,_]) ap rfl rfl zeroValue32 rfl (fun b2=>?_);refine an 111 [1,2] ?_;refine CD.seq ?_;refine CD.mono (Q:=fun aW aH=>aW=Exit.normal∧∃(b3:Nat),(True)∧Wk aH (⟨111,[(1,dM b1),(2,dM b2),(3,dM b3)],[⟨b3,32,12,[ae (1+ki),bn tn,bA,bA,bA,bS false,bA,eT,bS false,ae (-1),eT,bA]⟩,⟨b2,32,12,[ae 0,eT,bA,bA,bA,bS false,bA,eT,bS false,ae 0,eT,bA]⟩,⟨b1,77,14,[ae k,ae t,ae a,ae b,av 3 cV row,ae x1,ae x2,bn x3,.list 4 (Tw.mB E) E.length,ae y1,ae y2,bn y3,.list 4 (Tw.mB I) I.length,bS bare]⟩]⟩:St)) ?_ ?_
 ·refine CD.draw (aq _) aA (fun _ h=>h) ?_;refine ay 0 rfl (dh 0) ?_;refine ay 1 rfl (dI 1) ?_;refine ay 5 rfl (dh 1) ?_;refine ay 6 rfl (dI 1) ?_;refine dm.later rfl ?_;refine AD.three (i:=2) (j:=4) (k:=11) aA ?_ ?_ ?_
  ·refine jm call21 (O) ?_;refine cr 3 rfl mT ?_;refine AD.three (i:=4) (j:=7) (k:=11) aA ?_ ?_ ?_
   ·refine iV (cc 0 [_,_]) [.string ⟨#[]⟩,.string ⟨#[]⟩] [_,_] zeroValue9 runUnderlying29 sizeOf9 (fun b8=>?_);refine iW 0 8 1 2 ?_;exact VF
   ·refine jm call21 (Gj) ?_;refine AD.two (i:=4) (j:=11) aA ?_ ?_
    ·refine iV (cc 0 [_,_]) [.string ⟨#[]⟩,.string ⟨#[]⟩] [_,_] zeroValue9 runUnderlying29 sizeOf9 (fun b8=>?_);refine iW 0 8 1 2 ?_;exact Vs
    refine bj.alloc (ds:=[_,_,_,_,_,_,_,_,_,_,_,_]) rfl ap rfl rfl zeroValue32 rfl (fun b3=>?_);refine AD.one (i:=4) aA ?_;refine iV (cc 0 [_,_]) [.string ⟨#[]⟩,.string ⟨#[]⟩] [_,_] zeroValue9 runUnderlying29 sizeOf9 (fun b8=>?_);refine iW 0 8 1 2 ?_;exact Vu
   refine bj.alloc (ds:=[_,_,_,_,_,_,_,_,_,_,_,_]) rfl ap rfl rfl zeroValue32 rfl (fun b3=>?_);exact z139
  ·refine iV (cc 0 [_,_]) [.string ⟨#[]⟩,.string ⟨#[]⟩] [_,_] zeroValue9 runUnderlying29 sizeOf9 (fun b8=>?_);refine iW 0 8 1 2 ?_;refine AD.two (i:=2) (j:=11) aA ?_ ?_
   ·refine jm call21 (O) ?_;refine cr 3 rfl mT ?_;exact VF
   refine bj.alloc (ds:=[_,_,_,_,_,_,_,_,_,_,_,_]) rfl ap rfl rfl zeroValue32 rfl (fun b3=>?_);refine AD.one (i:=2) aA ?_;refine jm call21 (O) ?_;refine cr 3 rfl mT ?_;exact Gi
  refine bj.alloc (ds:=[_,_,_,_,_,_,_,_,_,_,_,_]) rfl ap rfl rfl zeroValue32 rfl (fun b3=>?_);refine AD.two (i:=2) (j:=4) aA ?_ ?_
  ·refine jm call21 (O) ?_;refine cr 3 rfl mT ?_;exact z139
  refine iV (cc 0 [_,_]) [.string ⟨#[]⟩,.string ⟨#[]⟩] [_,_] zeroValue9 runUnderlying29 sizeOf9 (fun b8=>?_);refine iW 0 8 1 2 ?_;refine AD.one (i:=2) aA ?_;refine jm call21 (O) ?_;refine cr 3 rfl mT ?_;exact Gi
 rintro _ _ ⟨rfl,b3,_,KQ⟩;refine CD.wk KQ ?_;refine jQ [1,2,3] (fun aW _ aH=>∃(s:cA),(rG s)∧(s.kind=1+ki)∧aH=(⟨111,aW,[⟨b3,32,12,[ae s.kind,bn s.table,av 2 cC s.az,av 3 cV s.row,av 1 cS s.names,bS s.count,av 5 cO s.aj,bn s.order,bS s.down,ae s.iq,bn s.set,av 5 cO s.bV]⟩,⟨b2,32,12,[ae 0,eT,bA,bA,bA,bS false,bA,eT,bS false,ae 0,eT,bA]⟩,⟨b1,77,14,[ae k,ae t,ae a,ae b,av 3 cV row,ae x1,ae x2,bn x3,.list 4 (Tw.mB E) E.length,ae y1,ae y2,bn y3,.list 4 (Tw.mB I) I.length,bS bare]⟩]⟩:St)) ?_ ?_
 ·refine CD.seq ?_;refine CD.cells (k:=0) (cs':=[_,_,.list 2 [] 0,.list 3 [] 0,.list 1 [] 0,_,.list 5 [] 0,_,_,_,_,.list 5 [] 0]) (S':=[_,_,_]) rfl (by repeat (first|exact trivial|exact⟨dQ,trivial⟩|exact⟨fp,trivial⟩|refine⟨dQ,?_⟩|refine⟨fp,?_⟩)) rfl ?_;refine cl [1,2,3,16] ?_;refine af [1,2,3,16,17] ?_;refine au ?_ ?_<;>intro aO bE
  ·obtain rfl:ki=0:=(by simp at aO;omega)
   refine rS ?_;refine OD.hU ap rfl rfl rfl call18 (Iv) trivial ?_;refine aE 1 ?_;refine aN 0 [_,_,_,_,_,_,_,_,_,_,_,_] sizeOf27 ?_;refine an 111 [1,2,3] ?_;refine⟨_,aK,{ga with kind:=1+0,table:=tn,az:=cM},(O5 Z),CH,rfl⟩
  refine af [1,2,3,16,21] ?_;refine au ?_ ?_<;>intro aY cJ
  ·obtain rfl:ki=2:=(by simp at aY;omega)
   have akO:=jD a (show(1:Int)≤12 by decide);have akP:=kp G a 12 U pZ w7;generalize dU a 12=xa at *;have akQ:=jD b (show(1:Int)≤9 by decide);have akR:=kp G b 9 jk pz w7;generalize dU b 9=xb at *;have Hq:(tQ row).size≤maxLen:=(by (cases row;decide;exact vv _ mem_cons_self))
   have yB:(nM (tQ row) 2).size≤maxLen:=(by rw[Iq];exact Nat.le_trans (Nat.min_le_left _ _) Hq)
   have dH:((⟨#[]⟩:ByteArray)++nM (tQ row) 2).size≤maxLen:=(by rw[ByteArray.size_append];show 0+_≤_;omega)
   have sY:(⟨#[]⟩:ByteArray).size+(nM (tQ row) 2).size≤9223372036854775807:=(by (have:=yB;unfold maxLen at this;show 0+_≤_;omega))
   have hu6:=(ZK ((⟨#[]⟩:ByteArray)++nM (tQ row) 2)).2;refine mv 18 [1,2,3,40] ?_;refine di (akP) ?_;refine di (akR) ?_;refine di (abL k t a b row x1 x2 x3 E y1 y2 y3 I bare) ?_;refine di (Fu (tQ row) 2 Hq) ?_;refine aS 0 ?_ (h:=by exact(dw rfl bP ot (Jv sY)));refine di (Nm.qZ ((⟨#[]⟩:ByteArray)++nM (tQ row) 2) dH) ?_;refine di (tu b jk pz) ?_;refine bK ?_;refine aE 1 ?_;refine aN 0 [_,_,_,_,_,_,_,_,_,_,_,_] sizeOf28 ?_;refine an 111 [1,2,3] ?_;refine⟨_,aK,{ga with kind:=1+2,table:=tn,row:=[⟨2,xa,⟨#[]⟩⟩,⟨2,xb,⟨#[]⟩⟩,⟨3,0,wQ ((⟨#[]⟩:ByteArray)++nM (tQ row) 2)⟩,qw b]},(aah Z akO akQ hu6),CH,rfl⟩
  refine af [1,2,3,16,42] ?_;refine au ?_ ?_<;>intro cm cW
  ·obtain rfl:ki=3:=(by simp at cm;omega)
   refine jQ [1,2,3] (fun aW _ aH=>∃(N:List ByteArray),((N.length≤6∧∀x∈N,cL x=0))∧aH=(⟨111,aW,[⟨b3,32,12,[ae (1+3),bn tn,.list 2 [] 0,.list 3 [] 0,av 1 cS N,bS false,.list 5 [] 0,eT,bS false,ae (-1),eT,.list 5 [] 0]⟩,⟨b2,32,12,[ae 0,eT,bA,bA,bA,bS false,bA,eT,bS false,ae 0,eT,bA]⟩,⟨b1,77,14,[ae k,ae t,ae a,ae b,av 3 cV row,ae x1,ae x2,bn x3,.list 4 (Tw.mB E) E.length,ae y1,ae y2,bn y3,.list 4 (Tw.mB I) I.length,bS bare]⟩]⟩:St)) ?_ ?_
   ·refine CD.seq ?_;have apS:=jD a (show(1:Int)≤3 by decide);have akS:=kp G a 3 U pZ w7;generalize dU a 3=xc at *;refine iv [1,2,3,47] ?_;refine di (akS) ?_;refine bK ?_;refine au ?_ ?_<;>intro da ek
    ·have pyb:=jD b (show(1:Int)≤3 by decide);have Oe:=kp G b 3 jk pz w7;generalize dU b 3=yb at *;have hyb:yb=0∨yb=1∨yb=2:=(by omega)
     rcases hyb with rfl|rfl|rfl
     ·refine rS ?_;refine ev (cc 0 [_,_,_]) [.string ⟨#[]⟩,.string ⟨#[]⟩,.string ⟨#[]⟩] [_,_,_] zeroValue9 runUnderlying29 sizeOf9 (fun N5=>?_);refine fF 0 48 1 3 ?_;refine aE 2 ?_;refine dV call21 (Oe) ?_;refine aE 1 ?_;refine bN (eA (l:=0) (h:=1) rfl ot trivial ⟨_,ot⟩ Mk) ?_;refine aE 1 ?_;refine aN 0 [_,_,_,_,_,_,_,_,_,_,_,_] sizeOf29 ?_;refine an 111 [1,2,3] ?_;refine⟨_,aK,[⟨#[115]⟩],⟨by decide,by decide +kernel⟩,rfl⟩
     ·refine rS ?_;refine ev (cc 0 [_,_,_]) [.string ⟨#[]⟩,.string ⟨#[]⟩,.string ⟨#[]⟩] [_,_,_] zeroValue9 runUnderlying29 sizeOf9 (fun N5=>?_);refine fF 0 48 1 3 ?_;refine aE 2 ?_;refine dV call21 (Oe) ?_;refine aE 1 ?_;refine bN (eA (l:=0) (h:=2) rfl ot trivial ⟨_,ot⟩ Mk) ?_;refine aE 1 ?_;refine aN 0 [_,_,_,_,_,_,_,_,_,_,_,_] sizeOf29 ?_;refine an 111 [1,2,3] ?_;refine⟨_,aK,[⟨#[115]⟩,⟨#[105,100]⟩],⟨by decide,by decide +kernel⟩,rfl⟩
     refine rS ?_;refine ev (cc 0 [_,_,_]) [.string ⟨#[]⟩,.string ⟨#[]⟩,.string ⟨#[]⟩] [_,_,_] zeroValue9 runUnderlying29 sizeOf9 (fun N5=>?_);refine fF 0 48 1 3 ?_;refine aE 2 ?_;refine dV call21 (Oe) ?_;refine aE 1 ?_;refine bN (eA (l:=0) (h:=3) rfl ot trivial ⟨_,ot⟩ Mk) ?_;refine aE 1 ?_;refine aN 0 [_,_,_,_,_,_,_,_,_,_,_,_] sizeOf29 ?_;refine an 111 [1,2,3] ?_;refine⟨_,aK,[⟨#[115]⟩,⟨#[105,100]⟩,⟨#[110]⟩],⟨by decide,by decide +kernel⟩,rfl⟩
    refine CD.skip ?_;refine⟨_,aK,[],⟨by simp,fun _ h=>by cases h⟩,rfl⟩
   rintro _ ⟨N,hN,rfl⟩;refine CD.seq ?_;have apT:=jD a (show(1:Int)≤5 by decide);have akT:=kp G a 5 U pZ w7;generalize dU a 5=xd at *;refine dO 2 ?_;refine dV call21 (akT) ?_;refine aE 2 ?_;refine aN 0 [_,_,_,_,_,_,_,_,_,_,_,_] sizeOf4 ?_;refine an 111 [1,2,3] ?_;refine jQ [1,2,3] (fun aW _ aH=>∃(N:List ByteArray),∃(ct:Bool),((N.length≤6∧∀x∈N,cL x=0))∧(ct=true→N=[])∧aH=(⟨111,aW,[⟨b3,32,12,[ae (1+3),bn tn,.list 2 [] 0,.list 3 [] 0,av 1 cS N,bS ct,.list 5 [] 0,eT,bS false,ae (-1),eT,.list 5 [] 0]⟩,⟨b2,32,12,[ae 0,eT,bA,bA,bA,bS false,bA,eT,bS false,ae 0,eT,bA]⟩,⟨b1,77,14,[ae k,ae t,ae a,ae b,av 3 cV row,ae x1,ae x2,bn x3,.list 4 (Tw.mB E) E.length,ae y1,ae y2,bn y3,.list 4 (Tw.mB I) I.length,bS bare]⟩]⟩:St)) ?_ ?_
   ·refine af [1,2,3,61] ?_;refine au ?_ ?_<;>intro ez fw
    ·refine dO 1 ?_;refine aN 0 [_,_,_,_,_,_,_,_,_,_,_,_] sizeOf29 ?_;refine an 111 [1,2,3] ?_;refine⟨_,(Wk.cells (k:=0) (cs':=[_,_,_,_,.list 1 [] 0,_,_,_,_,_,_,_]) rfl (by repeat (first|exact trivial|exact⟨dQ,trivial⟩|exact⟨fp,trivial⟩|refine⟨dQ,?_⟩|refine⟨fp,?_⟩)) rfl).trans (aK),[],(xd==3),⟨Nat.zero_le _,fun _ h=>by cases h⟩,(fun _=>rfl),rfl⟩
    refine CD.skip ?_;refine⟨_,aK,N,(xd==3),hN,(fun h=>absurd h (by rw[ez];decide)),rfl⟩
   rintro _ ⟨N,ct,hN,hcn,rfl⟩;refine CD.seq ?_;have akU:=jD b (show(1:Int)≤4 by decide);have akV:=kp G b 4 jk pz w7;generalize dU b 4=xe at *;obtain⟨ej,rfl⟩:=Int.eq_ofNat_of_zero_le akU.1;have Of:ej<gh.length:=(by show ej<4;omega)
   have jO:=ah5 gh[ej] (getElem_mem Of);generalize akW:gh[ej]=od at *;refine rS ?_;refine ev (cc 0 [_,_,_,_]) [.string ⟨#[]⟩,.string ⟨#[]⟩,.string ⟨#[]⟩,.string ⟨#[]⟩] [_,_,_,_] zeroValue9 runUnderlying29 sizeOf9 (fun DU=>?_);refine fF 0 63 1 4 ?_;refine aE 2 ?_;refine dV call21 (akV) ?_;refine aE 1 ?_;refine bN (cU (mk:=Op.load 9) rfl ot (by exact qu (g:=cS) (ls:=gh) (i:=ej) (d:=bn od) gQ isAgg9 Of (by show some (D.v (.string (gh[ej]'Of)))=some (D.v (.string od));rw[akW]))) ?_;refine aE 1 ?_;refine aN 0 [_,_,_,_,_,_,_,_,_,_,_,_] sizeOf9 ?_;refine an 111 [1,2,3] ?_;refine jQ [1,2,3] (fun aW _ aH=>∃(dn:Bool),(od=⟨#[]⟩→dn=false)∧aH=(⟨111,aW,[⟨b3,32,12,[ae (1+3),bn tn,.list 2 [] 0,.list 3 [] 0,av 1 cS N,bS ct,.list 5 [] 0,bn od,bS dn,ae (-1),eT,.list 5 [] 0]⟩,⟨b2,32,12,[ae 0,eT,bA,bA,bA,bS false,bA,eT,bS false,ae 0,eT,bA]⟩,⟨b1,77,14,[ae k,ae t,ae a,ae b,av 3 cV row,ae x1,ae x2,bn x3,.list 4 (Tw.mB E) E.length,ae y1,ae y2,bn y3,.list 4 (Tw.mB I) I.length,bS bare]⟩]⟩:St)) ?_ ?_
   ·have apU:=jD a (show(1:Int)≤2 by decide);have akX:=kp G a 2 U pZ w7;generalize dU a 2=xf at *;refine dO 4 ?_;refine bW 73 (fun Mb ah6=>?_) (fun Mb ah6=>?_)
    ·refine aE 2 ?_;refine OD.hU iw rfl rfl rfl call21 (akX) ⟨ot,bP,trivial⟩ ?_;refine aE 3 ?_;refine aN 0 [_,_,_,_,_,_,_,_,_,_,_,_] sizeOf4 ?_;refine an 111 [1,2,3] ?_;refine⟨_,aK,(xf==1),(fun h=>by rw[h] at Mb;exact absurd Mb (by decide +kernel)),rfl⟩
    refine x5 4 ?_;refine aE 2 ?_;refine aN 0 [_,_,_,_,_,_,_,_,_,_,_,_] sizeOf4 ?_;refine an 111 [1,2,3] ?_;refine⟨_,aK,false,(fun _=>rfl),rfl⟩
   rintro _ ⟨dn,Aw,rfl⟩;have apV:=jD a (show(1:Int)≤9 by decide);have akY:=kp G a 9 U pZ w7;generalize dU a 9=xg at *;refine dO 2 ?_;refine dV call21 (akY) ?_;refine aE 2 ?_;refine aN 0 [_,_,_,_,_,_,_,_,_,_,_,_] sizeOf3 ?_;refine an 111 [1,2,3] ?_;refine⟨_,aK,{ga with kind:=1+3,table:=tn,names:=N,count:=ct,order:=od,down:=dn,iq:=xg-1},(O6 Z hN hcn (jO.imp (fun h=>agC h) id) Aw w4),CH,rfl⟩
  refine af [1,2,3,85] ?_;refine au ?_ ?_<;>intro fg gB
  ·obtain rfl:ki=4:=(by simp at fg;omega)
   refine CD.seq ?_;have akZ:=jD a (show(1:Int)≤5 by decide);have ak0:=kp G a 5 U pZ w7;generalize dU a 5=xh at *;obtain⟨hj,rfl⟩:=Int.eq_ofNat_of_zero_le akZ.1;have Og:hj<AU.length:=(by show hj<5;omega)
   have hsn:=K1 AU[hj] (getElem_mem Og);generalize ak2:AU[hj]=sn at *;refine rS ?_;refine ev (cc 0 [_,_,_,_,_]) [.string ⟨#[]⟩,.string ⟨#[]⟩,.string ⟨#[]⟩,.string ⟨#[]⟩,.string ⟨#[]⟩] [_,_,_,_,_] zeroValue9 runUnderlying29 sizeOf9 (fun b87=>?_);refine fF 0 87 1 5 ?_;refine aE 2 ?_;refine dV call21 (ak0) ?_;refine aE 1 ?_;refine bN (cU (mk:=Op.load 9) rfl ot (by exact qu (g:=cS) (ls:=AU) (i:=hj) (d:=bn sn) gQ isAgg9 Og (by show some (D.v (.string (AU[hj]'Og)))=some (D.v (.string sn));rw[ak2]))) ?_;refine aE 1 ?_;refine aN 0 [_,_,_,_,_,_,_,_,_,_,_,_] sizeOf9 ?_;refine an 111 [1,2,3] ?_;refine dO 2 ?_;refine dV call19 (Um (.mk x1 x2 x3 E) hto) ?_;refine aE 1 ?_;refine aN 0 [_,_,_,_,_,_,_,_,_,_,_,_] sizeOf30 ?_;refine an 111 [1,2,3] ?_;refine⟨_,aK,{ga with kind:=1+4,table:=tn,set:=sn,bV:=iB 3 (.mk x1 x2 x3 E)},(aai Z hsn (.mk x1 x2 x3 E)),CH,rfl⟩
  have ak3:ki=1∨ki=5:=(by simp at aO aY cm fg;omega)
  refine CD.skip ?_;refine⟨_,aK,{ga with kind:=1+ki,table:=tn},(by (rcases ak3 with rfl|rfl;exact adu Z;exact aaj Z)),CH,rfl⟩
 rintro _ ⟨s,Mc,Md,rfl⟩;refine aD 4 ?_;refine bW 101 (fun Vb agD=>?_) (fun Vb agD=>?_)
 ·refine bf [1,2,3,105] ?_;refine au ?_ ?_<;>intro gY kS
  ·have hg4:4≤s.kind∧bare=false:=(by (have q1:=gY;simp at q1;first|exact⟨by simpa using Vb,by simpa using q1⟩|simp_all))
   have oo:=Mc.2 (iB 3 (.mk y1 y2 y3 I)) (TT _) (.inl hg4.1);refine dO 2 ?_;refine dV call19 (Um (.mk y1 y2 y3 I) NA) ?_;refine aE 1 ?_;refine aN 0 [_,_,_,_,_,_,_,_,_,_,_,_] sizeOf30 ?_;refine an 111 [2,3] ?_;refine aD 1 ?_;refine aN 1 [_,_,_,_,_,_,_,_,_,_,_,_] sizeOf32 ?_;refine an 111 [2] ?_;refine aJ [] ?_;exact⟨{s with aj:=iB 3 (.mk y1 y2 y3 I)},rfl,rfl,oo,Md⟩
  have oo:=Mc.vr;refine aD 1 ?_;refine aN 1 [_,_,_,_,_,_,_,_,_,_,_,_] sizeOf32 ?_;refine an 111 [2] ?_;refine aJ [] ?_;exact⟨s,rfl,rfl,oo,Md⟩
 refine bf [1,2,3,105] ?_;refine fN ?_;have oo:=Mc.vr;refine aD 1 ?_;refine aN 1 [_,_,_,_,_,_,_,_,_,_,_,_] sizeOf32 ?_;refine an 111 [2] ?_;refine aJ [] ?_;exact⟨s,rfl,rfl,oo,Md⟩

end Go.Proofs.YtdgichenhdikgaaGreatDoor.Pa
namespace Go.Proofs.YtdgichenhdikgaaGreatDoor.Ba
open List
open Go.Proofs.Tryz
open Go.RowKit V Pk Tr Vl Go.Proofs.YtdgichenhdikgaaGreatDoor.Nm Pc Cd Ex Tw
open Pa (cA bU jM gz jI gd iO jF gI)
variable {l:List aM} {a c:Nat}
theorem K2{v:Vl}(h:cD v=0)(h1:-9223372036854775808≤v.n)(h2:v.n≤9223372036854775807):v.Ok:=by
 unfold cD at h;have hk:(0≤v.k∧v.k≤3)∧v.s.size≤20:=by
  repeat' split at h
  all_goals first|(cases h;done)|omega
 exact⟨by omega,by omega,h1,h2,Nat.le_trans hk.2 w7⟩
theorem Qi{α:Type}{f:α→Int}:∀{l:List α},Pa.jT f l=0→∀a∈l,f a=0
 | [],_,a,ha=>by cases ha
 | x::r,h,a,ha=>by
  rw[Pa.jT] at h;split at h
  ·rename_i hx;exact absurd h hx
  rename_i hx;rcases mem_cons.1 ha with rfl|ha
  ·exact Classical.not_not.1 hx
  exact Qi h a ha
theorem Jk{w:List aX}(h:Pa.nH w=0):∀o∈w,cD o.v=0:=fun o ho=>by
 unfold Pa.nH at h;split at h
 ·rename_i h0;rw[length_eq_zero_iff.1 h0] at ho;cases ho
 obtain⟨h',h1⟩:=E1 w 0 (wE h).2 o ho;exact Ev (wz h1).2.2.1
theorem afc{w:List aX}(h:iR w=0):∀o∈w,cD o.v=0:=fun o ho=>by
 obtain⟨h',h1⟩:=E1 w 0 (wE h).2 o ho;exact Ev (wz h1).2.2.1
structure CG (s:cA):Prop where
 fin:jM s
 row:∀v∈s.row,v.Ok
 wnm:∀o∈s.aj,o.nm.size≤maxLen
 wok:∀o∈s.aj,o.v.Ok
 YB:∀o∈s.bV,o.nm.size≤maxLen
 YC:∀o∈s.bV,o.v.Ok
theorem K1{s:cA}(hf:jM s)(dP:1≤s.kind)(At:s.kind≤6)(hc:gd s=0):CG s:=by
 unfold gd at hc;split at hc
 ·rename_i h1;exact absurd hc h1.2
 split at hc
 ·cases hc
 rename_i h1 h2;have hb:jF s (gI s)=true:=by
  cases h:jF s (gI s) with
  | true=>rfl
  | false=>exact absurd ⟨hc,h⟩ h2
 unfold jF at hb;simp only[Bool.and_eq_true,beq_iff_eq] at hb;have hr:∀v∈s.row,cD v=0:=by
  by_cases h3:s.kind=3
  ·unfold iO at hc;rw[if_neg w4,if_pos h3] at hc;unfold Pa.ec at hc;split at hc
   ·cases hc
   exact fun v O=>Ev (Qi hc v O)
  have E:(s.row.length:Int)=((gI s).row.length:Int):=hb.2.2.1;have h0:(gI s).row=[]:=(by unfold gI;split;rfl;split;rfl;split;rfl;split;rfl;rfl)
  rw[h0] at E;have:s.row=[]:=length_eq_zero_iff.1 (by simpa using E);rw[this];intro v O;cases O
 have hw:∀o∈s.aj,cD o.v=0:=by
  by_cases h3:4≤s.kind
  ·unfold iO at hc;rw[if_neg w4,if_neg w4] at hc;by_cases h4:s.kind=4
   ·rw[if_pos h4] at hc;unfold Pa.oT at hc;split at hc
    ·cases hc
    split at hc
    ·cases hc
    split at hc
    ·cases hc
    split at hc
    ·rename_i I;exact absurd hc I
    split at hc
    ·rename_i I;exact absurd hc I
    rename_i I;exact Jk (Classical.not_not.1 I)
   rw[if_neg h4] at hc;by_cases h5:s.kind=5
   ·rw[if_pos h5] at hc;split at hc
    ·split at hc
     ·exact Jk hc
     rename_i I;exact absurd hc I
    rename_i I;exact absurd hc I
   rw[if_neg h5,if_pos w4] at hc;exact Jk hc
  have E:(s.aj.length:Int)=((gI s).aj.length:Int):=hb.2.2.2.2.2.1;have h0:(gI s).aj=[]:=(by unfold gI;split;rfl;split;rfl;rw[if_neg w4,if_neg w4,if_neg w4];rfl)
  rw[h0] at E;have:s.aj=[]:=length_eq_zero_iff.1 (by simpa using E);rw[this];intro v O;cases O
 have hx:∀o∈s.bV,cD o.v=0:=by
  by_cases h5:s.kind=5
  ·unfold iO at hc;rw[if_neg w4,if_neg w4,if_neg w4,if_pos h5] at hc;split at hc
   ·split at hc
    ·rename_i I;exact afc I
    rename_i I;exact absurd hc I
   rename_i I;exact absurd hc I
  have E:(s.bV.length:Int)=((gI s).bV.length:Int):=(by simpa using hb.2.2.2.2.2.2.2.2.2.2)
  have h0:(gI s).bV=[]:=(by unfold gI;split;rfl;split;rfl;split;rfl;split;rfl;rfl)
  rw[h0] at E;have:s.bV=[]:=length_eq_zero_iff.1 (by simpa using E);rw[this];intro v O;cases O
 exact⟨hf,fun v O=>K2 (hr v O) (hf.r v O).1 (hf.r v O).2,fun o ho=>(hf.w o ho).1,fun o ho=>K2 (hw o ho) (hf.w o ho).2.1 (hf.w o ho).2.2,fun o ho=>(hf.x o ho).1,fun o ho=>K2 (hx o ho) (hf.x o ho).2.1 (hf.x o ho).2.2⟩
theorem jI.st{s:cA}(h:jI s):CG s:=K1 h.1 h.2.1 h.2.2.1 h.2.2.2.2
structure pP (l:List aM) (a c:Nat):Prop where
 g:pO l (a*(1+c))
 r:∀t∈l,t.rows.length≤a
theorem adw(s:cA)(h:cL s.table=0)(hc:s.az=cM):ew (gW s) 0:=⟨h,hc,Nat.zero_le _,ac2,fun i h=>absurd h (Nat.not_lt_zero _),fun x hx=>by
 have:eB pW=[]:=ac3;rw[show(gW s).ix=pW from rfl,this] at hx;cases hx⟩
theorem pO.mono{l:List aM}{n m:Nat}(g:pO l n)(h:n≤m):pO l m:=⟨g.eJ,fun t ht=>(g.tb t ht).mono h,g.sz,g.HI⟩
theorem pO.put{n:Nat}(g:pO l n){i:Nat}(hi:i<l.length){t:aM}(ht:ew t n)(hn:t.nm=l[i].nm):pO (l.set i t) n:=by
 refine⟨by rw[length_set];exact g.eJ,fun x hx=>?_,fun x hx=>?_,?_⟩
 ·rcases mem_or_eq_of_mem_set hx with h|h
  ·exact g.tb x h
  rw[h];exact ht
 ·rcases mem_or_eq_of_mem_set hx with h|h
  ·exact g.sz x h
  rw[h,hn];exact g.sz _ (getElem_mem hi)
 have hm:(l.set i t).map aM.nm=l.map aM.nm:=by
  exact Xn
 have h1:∀l:List aM,(l.Pairwise fun a b=>a.nm.toList≠b.nm.toList)↔(l.map aM.nm).Pairwise fun a b=>a.toList≠b.toList:=fun l=>by rw[pairwise_map]
 rw[h1,hm,←h1];exact g.HI

theorem UD(t:aM)(row:List Vl):(gC t row).1.nm=t.nm:=by
 unfold gC;by_cases h1:Pc.ec t.az row≠0
 ·rw[if_pos h1]
 rw[if_neg h1];cases iA t.ix (c9 row) (dL t.ix) with
 | true=>rw[if_pos rfl]
 | false =>
  rw[if_neg w7];by_cases h3:t.rows.length=40
  ·rw[if_pos h3]
  rw[if_neg h3]
theorem TV:∀(l:List Int) (t:aM),(rE t l).nm=t.nm
 | [],_=>rfl
 | _::l,t=>(TV l _).trans rfl
theorem UE(t:aM)(w:List aX):(mH t w).1.nm=t.nm:=by unfold mH;split;rfl;exact TV _ _
theorem TW{c:Nat}:∀(l:List Int) (vs:List Vl) (t:aM),(mP c t l vs).nm=t.nm
 | [],_,t=>by unfold mP;rfl
 | _::_,[],t=>by unfold mP;rfl
 | _::l,_::vs,t=>(TW l vs _).trans rfl
theorem RP:∀(l:List Int) (vs:List Vl) (t:aM),(kH t l vs).1.nm=t.nm
 | [],_,t=>by unfold kH;rfl
 | _::_,[],t=>by unfold kH;rfl
 | _::l,_::vs,t=>by
  rw[kH];split
  ·rfl
  exact(RP l vs _).trans rfl
theorem UF(t:aM)(s:cA):(ig t s).1.nm=t.nm:=by
 unfold ig;repeat' split
 all_goals first|rfl|exact TW _ _ _|exact(RP _ _ _).trans rfl
theorem agE{nm:ByteArray}(h:aT l nm<0):∀t∈l,t.nm.toList≠nm.toList:=fun t ht e=>by
 unfold aT dR at h;split at h
 ·omega
 rename_i h1;have:=findIdx?_eq_none_iff.1 h1 t ht;rw[e] at this;simp at this
theorem RQ(h:a+c≤30):a*(1+c)≤260:=by
 have key:∀a<31,∀c<31,a+c≤30→a*(1+c)≤260:=(by decide +kernel)
 exact key a w4 c w4 h
theorem Vc:a*(1+c)+1≤(a+1)*(1+c):=by rw[Nat.add_mul];omega
theorem Vd:a*(1+c)+a=a*(1+(c+1)):=by rw[←Nat.add_assoc,Nat.mul_add a (1+c) 1,Nat.mul_one]
theorem pP.put{l:List aM}{a c a' E:Nat}(g:pP l a c)(h:a*(1+c)≤a'*(1+E))(ha:a≤a'){i:Nat}(hi:i<l.length){t:aM}(ht:ew t (a'*(1+E)))(hr:t.rows.length≤a')(hn:t.nm=l[i].nm):pP (l.set i t) a' E:=by
 refine⟨(g.g.mono h).put hi ht hn,fun x hx=>?_⟩;rcases mem_or_eq_of_mem_set hx with hx|hx
 ·exact Nat.le_trans (g.r x hx) ha
 rw[hx];exact hr
theorem Kv{i:Nat}(hi:i<l.length){t:aM}(hn:t.nm=l[i].nm):(l.set i t).map aM.nm=l.map aM.nm:=by
 exact Xn
theorem Jl(g:pP l a c)(O:a+c≤30){s:cA}(hs:CG s)(fy:¬s.kind=2)(qL:cL s.table=0)(I:s.kind=1→s.az=cM)(h0:(gM l s).2.2=0) :
  ∃a' U,a'+U≤a+c+1∧pP (gM l s).1 a' U∧(s.kind=1→(gM l s).1=l++[gW s]∧a'=a∧U=c)∧(¬s.kind=1→(gM l s).1.map aM.nm=l.map aM.nm):=by
 have hb:=RQ O;have jk:=wD (fun t:aM=>t.nm.toList==s.table.toList) l;rw[show dR (fun t:aM=>t.nm.toList==s.table.toList) l=aT l s.table from rfl] at jk;unfold gM at h0 ⊢;by_cases dP:s.kind=1
 ·rw[if_pos dP] at h0 ⊢;dsimp only at h0;unfold qn at h0 ⊢;by_cases h1:0≤aT l s.table
  ·rw[if_pos h1] at h0;cases h0
  rw[if_neg h1] at h0 ⊢;by_cases h2:l.length=4
  ·rw[if_pos h2] at h0;cases h0
  rw[if_neg h2] at h0 ⊢;have Z:=adw s qL (I dP);have hf:=g.g.eJ;refine⟨a,c,by omega,⟨⟨by rw[length_append,length_singleton];omega,fun t ht=>?_,fun t ht=>?_,?_⟩,fun t ht=>?_⟩,fun _=>⟨rfl,rfl,rfl⟩,fun h=>absurd dP h⟩
  ·rcases mem_append.1 ht with ht|ht
   ·exact g.g.tb t ht
   rw[mem_singleton] at ht;rw[ht];exact Z.mono (Nat.zero_le _)
  ·rcases mem_append.1 ht with ht|ht
   ·exact g.g.sz t ht
   rw[mem_singleton] at ht;rw[ht];exact hs.fin.t
  ·refine pairwise_append.2 ⟨g.g.HI,pairwise_singleton _ _,fun x hx y hy=>?_⟩;rw[mem_singleton] at hy;subst hy;exact agE (show aT l s.table<0 by omega) x hx
  rcases mem_append.1 ht with ht|ht
  ·exact g.r t ht
  rw[mem_singleton] at ht;rw[ht];exact Nat.zero_le _
 rw[if_neg dP] at h0 ⊢;by_cases h1:aT l s.table<0
 ·rw[if_pos h1] at h0;cases h0
 rw[if_neg h1] at h0 ⊢;have E:(aT l s.table).toNat<l.length:=(by omega)
 have ke:l.getD (aT l s.table).toNat (gW s)=l[(aT l s.table).toNat]:=(by rw[getD_eq_getElem?_getD,getElem?_eq_getElem E];rfl)
 rw[ke] at h0 ⊢;have gt:=g.g.tb _ (getElem_mem E);have gr:=g.r _ (getElem_mem E);by_cases h3:s.kind=3
 ·rw[if_pos h3] at h0 ⊢;obtain⟨q1,q2⟩:=abG gt w4 hs.row h0;exact⟨a+1,c,by omega,g.put (Nat.le_trans (Nat.le_succ _) Vc) (Nat.le_succ _) E (q1.mono Vc) w4 (UD _ _),fun h=>absurd h dP,fun _=>Kv E (UD _ _)⟩
 rw[if_neg h3] at h0 ⊢;by_cases h4:s.kind=4
 ·rw[if_pos h4];exact⟨a,c,by omega,g,fun h=>absurd h dP,fun _=>rfl⟩
 rw[if_neg h4] at h0 ⊢;by_cases h5:s.kind=5
 ·rw[if_pos h5];obtain⟨q1,q2⟩:=abH gt s hs.YB hs.YC hb;exact⟨a,c+1,by omega,g.put (by rw[←Vd];omega) (Nat.le_refl _) E (q1.mono (by rw[←Vd];omega)) w4 (UF _ _),fun h=>absurd h dP,fun _=>Kv E (UF _ _)⟩
 rw[if_neg h5];obtain⟨q1,q2⟩:=Y8 gt s.aj;exact⟨a,c,by omega,g.put (Nat.le_refl _) (Nat.le_refl _) E q1 w4 (UE _ _),fun h=>absurd h dP,fun _=>Kv E (UE _ _)⟩

end Go.Proofs.YtdgichenhdikgaaGreatDoor.Ba

namespace Go.Proofs.YtdgichenhdikgaaGreatDoor.Pa
open List
open Go.Proofs.Tryz
open Go.RowKit V Pk Go.Proofs.YtdgichenhdikgaaGreatDoor.Vl Go.Proofs.YtdgichenhdikgaaGreatDoor.Nm Go.Proofs.YtdgichenhdikgaaGreatDoor.Pc
section
variable {H:Type} {enc:TypeId×Value→H} {P:Program} {w:World} {base:Nat} {sp:Nat→Bool} {held:Bool}
theorem aak {fuel:Nat} {t:TypeId} {f0 f1 f2 f3 f4 f5 f6 f7:Field} {E I O U Z α5 α6 α7:Type} {g0:E→List D} {k0:E→Prop} {g1:I→List D} {k1:I→Prop} {g2:O→List D} {k2:O→Prop} {g3:U→List D} {k3:U→Prop} {g4:Z→List D} {k4:Z→Prop} {g5:α5→List D} {k5:α5→Prop} {g6:α6→List D} {k6:α6→Prop} {g7:α7→List D} {k7:α7→Prop} {n0 n1 n2 n3 n4 n5 n6 n7:Nat}
  (ht:P.underlying t=some (.struct #[f0,f1,f2,f3,f4,f5,f6,f7])) (hc:P.cellsOf t=n0+n1+n2+n3+n4+n5+n6+n7) (o0:f0.offset=0) (c0:P.cellsOf f0.type=n0) (o1:f1.offset=n0) (c1:P.cellsOf f1.type=n1) (o2:f2.offset=n0+n1) (c2:P.cellsOf f2.type=n2) (o3:f3.offset=n0+n1+n2) (c3:P.cellsOf f3.type=n3) (o4:f4.offset=n0+n1+n2+n3) (c4:P.cellsOf f4.type=n4) (o5:f5.offset=n0+n1+n2+n3+n4) (c5:P.cellsOf f5.type=n5) (o6:f6.offset=n0+n1+n2+n3+n4+n5) (c6:P.cellsOf f6.type=n6) (o7:f7.offset=n0+n1+n2+n3+n4+n5+n6) (c7:P.cellsOf f7.type=n7)
  (r0:∀n,n+1=fuel→mo n enc P w base sp held f0.type g0 k0) (r1:∀n,n+1=fuel→mo n enc P w base sp held f1.type g1 k1) (r2:∀n,n+1=fuel→mo n enc P w base sp held f2.type g2 k2) (r3:∀n,n+1=fuel→mo n enc P w base sp held f3.type g3 k3) (r4:∀n,n+1=fuel→mo n enc P w base sp held f4.type g4 k4) (r5:∀n,n+1=fuel→mo n enc P w base sp held f5.type g5 k5) (r6:∀n,n+1=fuel→mo n enc P w base sp held f6.type g6 k6) (r7:∀n,n+1=fuel→mo n enc P w base sp held f7.type g7 k7) :
  mo fuel enc P w base sp held t (fun a:E × I × O × U × Z × α5 × α6 × α7=>(g0 (a.1)++(g1 (a.2.1)++(g2 (a.2.2.1)++(g3 (a.2.2.2.1)++(g4 (a.2.2.2.2.1)++(g5 (a.2.2.2.2.2.1)++(g6 (a.2.2.2.2.2.2.1)++g7 (a.2.2.2.2.2.2.2))))))))) (fun a=>k0 (a.1)∧k1 (a.2.1)∧k2 (a.2.2.1)∧k3 (a.2.2.2.1)∧k4 (a.2.2.2.2.1)∧k5 (a.2.2.2.2.2.1)∧k6 (a.2.2.2.2.2.2.1)∧k7 (a.2.2.2.2.2.2.2)):=fun cs x h=>by
 obtain⟨xs,n,hn,_,hl,fY,hf⟩:=DataW.trod_struct ht h;have e0:=hf 0 f0 rfl;have e1:=hf 1 f1 rfl;have e2:=hf 2 f2 rfl;have e3:=hf 3 f3 rfl;have e4:=hf 4 f4 rfl;have e5:=hf 5 f5 rfl;have e6:=hf 6 f6 rfl;have e7:=hf 7 f7 rfl;rw[o0,c0,drop_zero] at e0;rw[o1,c1] at e1;rw[o2,c2] at e2;rw[o3,c3] at e3;rw[o4,c4] at e4;rw[o5,c5] at e5;rw[o6,c6] at e6;rw[o7,c7] at e7;have hx8:xs.length=8:=fY;rw[getElem?_eq_getElem w4] at e0 e1 e2 e3 e4 e5 e6 e7;obtain⟨a0,p0,q0⟩:=r0 n hn.symm _ _ e0;obtain⟨a1,p1,q1⟩:=r1 n hn.symm _ _ e1;obtain⟨a2,p2,q2⟩:=r2 n hn.symm _ _ e2;obtain⟨a3,p3,q3⟩:=r3 n hn.symm _ _ e3;obtain⟨a4,p4,q4⟩:=r4 n hn.symm _ _ e4;obtain⟨a5,p5,q5⟩:=r5 n hn.symm _ _ e5;obtain⟨a6,p6,q6⟩:=r6 n hn.symm _ _ e6;obtain⟨a7,p7,q7⟩:=r7 n hn.symm _ _ e7;refine⟨(a0,a1,a2,a3,a4,a5,a6,a7),?_,q0,q1,q2,q3,q4,q5,q6,q7⟩;have dH:cs=(cs.take n0++((cs.drop (n0)).take n1++((cs.drop (n0+n1)).take n2++((cs.drop (n0+n1+n2)).take n3++((cs.drop (n0+n1+n2+n3)).take n4++((cs.drop (n0+n1+n2+n3+n4)).take n5++((cs.drop (n0+n1+n2+n3+n4+n5)).take n6++((cs.drop (n0+n1+n2+n3+n4+n5+n6)).take n7)))))))):=by
  rw[take_of_length_le (l:=drop (n0+n1+n2+n3+n4+n5+n6) cs) (by rw[length_drop];omega)];have d2:cs.drop (n0+n1)=(cs.drop (n0)).drop n1:=(by rw[drop_drop])
  have d3:cs.drop (n0+n1+n2)=(cs.drop (n0+n1)).drop n2:=(by rw[drop_drop])
  have d4:cs.drop (n0+n1+n2+n3)=(cs.drop (n0+n1+n2)).drop n3:=(by rw[drop_drop])
  have d5:cs.drop (n0+n1+n2+n3+n4)=(cs.drop (n0+n1+n2+n3)).drop n4:=(by rw[drop_drop])
  have d6:cs.drop (n0+n1+n2+n3+n4+n5)=(cs.drop (n0+n1+n2+n3+n4)).drop n5:=(by rw[drop_drop])
  have d7:cs.drop (n0+n1+n2+n3+n4+n5+n6)=(cs.drop (n0+n1+n2+n3+n4+n5)).drop n6:=(by rw[drop_drop])
  rw[d7,take_append_drop,d6,take_append_drop,d5,take_append_drop,d4,take_append_drop,d3,take_append_drop,d2,take_append_drop,take_append_drop]
 rw[dH];exact(p0.append (p1.append (p2.append (p3.append (p4.append (p5.append (p6.append p7)))))))
end


structure Ph where
 k:Int
 t:Int
 a:Int
 b:Int
 row:List Vl
 bV:Tw
 wh:Tw
 bare:Bool
def Ph.cs(p:Ph):List D:=[ae p.k]++([ae p.t]++([ae p.a]++([ae p.b]++([av 3 cV p.row]++(p.bV.cs++(p.wh.cs++[bS p.bare]))))))
structure Ph.Ok (p:Ph):Prop where
 k:-9223372036854775808≤p.k∧p.k≤9223372036854775807
 t:-9223372036854775808≤p.t∧p.t≤9223372036854775807
 a:-9223372036854775808≤p.a∧p.a≤9223372036854775807
 b:-9223372036854775808≤p.b∧p.b≤9223372036854775807
 row:∀v∈p.row,v.s.size≤maxLen
 bV:p.bV.Ok
 wh:p.wh.Ok
theorem afd{H:Type}{enc:TypeId×Value→H}{w:World}{base:Nat}{sp:Nat→Bool}{held:Bool}:pp enc Tryz.prog w base sp held 114 cV (fun v:Vl=>v.s.size≤maxLen) :=
 (ZC (n0:=1) (n1:=1) (n2:=1) underlying114 aA rfl rfl rfl aA aA aA (tY underlying3) (tY underlying3) (Pj underlying9)).map (fun a=>(⟨a.1,a.2.1,a.2.2⟩:Vl)) (fun _=>rfl) (fun _ h=>h.2.2)
theorem aal{H:Type}{enc:TypeId×Value→H}{w:World}{base:Nat}{sp:Nat→Bool}{held:Bool}(n:Nat):mo n enc Tryz.prog w base sp held 77 Ph.cs Ph.Ok:=fun cs x h=>by
 obtain⟨⟨a0,a1,a2,a3,a4,a5,a6,a7⟩,h1,q0,q1,q2,E,I,O,U,_⟩:=aak (fuel:=n) (n0:=1) (n1:=1) (n2:=1) (n3:=1) (n4:=1) (n5:=4) (n6:=4) (n7:=1) underlying77 aA rfl aA rfl aA rfl aA rfl aA rfl aA rfl aA rfl aA rfl aA
  (fun q _=>(tY underlying3).at q) (fun q _=>(tY underlying3).at q) (fun q _=>(tY underlying3).at q) (fun q _=>(tY underlying3).at q) (fun q _=>Pp (sz:=3) underlying75 aA w7 (fun z _=>afd.at z) eS) (fun q _=>Q3 q) (fun q _=>Q3 q) (fun q _=>(adN underlying4).at q) cs x h
 exact⟨⟨a0,a1,a2,a3,a4,a5,a6,a7⟩,h1,⟨q0,q1,q2,E,I.1,O,U⟩⟩
end Go.Proofs.YtdgichenhdikgaaGreatDoor.Pa

namespace Go.Proofs.YtdgichenhdikgaaGreatDoor.Ba
open List
open Go.Proofs.Tryz
open Go.RowKit V Pk Tr Vl Go.Proofs.YtdgichenhdikgaaGreatDoor.Nm Pc Cd Ex Tw
open Pa (cA bU jM gz jI gd iO jF gI ga eu Ph)
variable {G:List (Nat×List Value)} {m:Int}
variable {l:List aM}
theorem VC.G0{P:Program}{f:FuncId}{args args':List D}{S:List ah}{post:D→List ah→Prop}(h:VC P G f args S post)(k:qe args' args):VC P G f args' S post:=by
 obtain⟨h1,h2⟩:=k.spec;exact h.args h1.symm fun w L i q1 q2 v hr=>h2 i q2 q1 _ _ _ hr
theorem T3(hm:(3,marksC)∈G)(hw:(1,wordsC)∈G)(ht:(0,typesC)∈G)(hG:(2,[Value.int .i64 m])∈G)(p:Ph)(h:p.Ok):VC Tryz.prog G 23 [.agg p.cs] [] (fun r S'=>∃s,r = .agg (bU s)∧S'=[]∧jI s∧s.kind=1+dU p.k 6):=by
 obtain⟨k,t,a,b,row,⟨x1,O,U,E⟩,⟨y1,y2,y3,I⟩,bare⟩:=p;exact Pa.Y9 k t a b row x1 O U E y1 y2 y3 I bare h.k.1 h.k.2 h.t.1 h.t.2 h.a.1 h.a.2 h.b.1 h.b.2 h.row h.bV h.wh
theorem F7(hm:(3,marksC)∈G)(hw:(1,wordsC)∈G)(ht:(0,typesC)∈G)(hG:(2,[Value.int .i64 m])∈G){a c:Nat}(g:pP l a c)(E:a+c≤30){s:cA}(hs:CG s)(fy:¬s.kind=2)(qL:s.kind≤6→cL s.table=0)(At:s.kind≤6)(I:s.kind=1→s.az=cM):VP Tryz.prog G 11 [.agg [av 5 c8 (l)],.agg (bU s)] (AT (nQ l s)):=by
 refine agB hm hw ht hG l (RQ E) g.g s hs.fin fy hs.row hs.wnm hs.wok hs.YB hs.YC fun h0=>?_;obtain⟨a',c',_,g',_⟩:=Jl g E hs fy (qL At) I h0;exact⟨Nat.le_trans g'.g.eJ w7,fun t ht=>(g'.g.tb t ht).small⟩
theorem TX{s:cA}(h:(nQ l s).2.2=0):(gM l s).2.2=0∧(nQ l s).1=(gM l s).1:=by
 unfold nQ at h ⊢;by_cases h1:gz s≠0
 ·rw[if_pos h1] at h;exact absurd h h1
 rw[if_neg h1] at h ⊢;by_cases h2:7≤s.kind
 ·rw[if_pos h2] at h;cases h
 rw[if_neg h2] at h ⊢;by_cases h3:(gM l s).2.2≠0
 ·rw[if_pos h3] at h;exact absurd h h3
 rw[if_neg h3];exact⟨Classical.not_not.1 h3,rfl⟩
def j5(x:ByteArray):cA:={ga with kind:=1,table:=x,az:=cM}
theorem adA:∀x∈eu,gz (j5 x)=0:=by decide +kernel
theorem TY{x:ByteArray}(hx:x∈eu):CG (j5 x):=jI.st (Pa.rG.vr (Pa.O5 (Pa.F6 x hx)))
def Wt:List aM:=eu.map fun x=>gW (j5 x)
theorem UG:∀i (h:i<eu.length),nQ ((eu.take i).map fun x=>gW (j5 x)) (j5 eu[i])=((eu.take (i+1)).map (fun x=>gW (j5 x)),(([],0),0)):=by
 intro i h;have hx:eu[i]∈eu:=getElem_mem h;unfold nQ;rw[if_neg (by rw[adA _ hx];decide),if_neg (by show ¬(7:Int)≤1;decide)];have h1:gM ((eu.take i).map fun x=>gW (j5 x)) (j5 eu[i])=((eu.take (i+1)).map (fun x=>gW (j5 x)),(([],0),0)):=by
  have h2:i=0∨i=1:=(by have:eu.length=2:=rfl;omega)
  rcases h2 with rfl|rfl
  ·exact(show gM ((eu.take 0).map fun x=>gW (j5 x)) (j5 (eu[0]'w7))=((eu.take 1).map (fun x=>gW (j5 x)),(([],0),0)) by kernel_rfl)
  exact(show gM ((eu.take 1).map fun x=>gW (j5 x)) (j5 (eu[1]'w7))=((eu.take 2).map (fun x=>gW (j5 x)),(([],0),0)) by kernel_rfl)
 rw[h1];rfl
theorem q8(p:Ph):p.cs.length=14:=by
 obtain⟨k,t,a,b,row,⟨x1,O,U,E⟩,⟨y1,y2,y3,I⟩,bare⟩:=p;rfl
theorem abM:pP [] 0 0:=⟨⟨by decide,(fun t h=>by cases h),(fun t h=>by cases h),Pairwise.nil⟩,(fun t h=>by cases h)⟩
theorem T4:(Nm.Tw.mk 0 0 ⟨#[]⟩ []).Ok:=by constructor<;>first|decide|(simp;done)|trivial
theorem afe{s:cA}(h:jI s):cL s.table=0:=by
 have hc:=h.2.2.2.2;have h6:=h.2.2.1;unfold gd at hc;split at hc
 ·rename_i h1;exact absurd hc h1.2
 rename_i h1;exact Classical.not_not.1 fun e=>h1 ⟨by omega,e⟩
theorem Wu:∀i,i≤2→pP ((eu.take i).map fun x=>gW (j5 x)) 0 0:=by
 intro i;induction i with
 | zero=>intro _;exact abM
 | succ i ih =>
  intro hi;have aa:i<eu.length:=(by have:eu.length=2:=rfl;omega)
  have hr:=UG i aa;have h0:(nQ ((eu.take i).map fun x=>gW (j5 x)) (j5 eu[i])).2.2=0:=(by rw[hr])
  obtain⟨h1,h2⟩:=TX h0;obtain⟨a',c',_,g',h4,_⟩:=Jl (ih w4) w7 (TY (getElem_mem aa)) (show ¬(1:Int)=2 by decide) (Pa.F6 _ (getElem_mem aa)) (fun _=>rfl) h1;obtain⟨_,rfl,rfl⟩:=h4 rfl;rw[←h2,hr] at g';exact g'
theorem aff(hm:(3,marksC)∈G)(hw:(1,wordsC)∈G)(ht:(0,typesC)∈G)(hG:(2,[Value.int .i64 m])∈G)(ps:List Ph)(ij:∀p∈ps,p.Ok)(fO:ps.length≤maxLen):VC Tryz.prog G 9 [.list 14 (ps.flatMap Ph.cs) ps.length] [] (fun r S=>∃l a c,r = .agg [av 5 c8 (l)]∧S=[]∧pP l a c∧a+c≤30∧l.map aM.nm=eu):=by
 refine VC.body func9 rfl ntmps9 aQ fun X0 w0 bg=>?_;have dz:=ei;have o8:eu.length=2:=rfl;skip;refine bY ?_;refine OD.alloc (ds:=[_]) ap rfl rfl zeroValue25 rfl (fun b2=>?_);refine an 88 [0,2] ?_;refine bY ?_;refine OD.alloc (ds:=[_]) ap rfl rfl zeroValue25 rfl (fun b3=>?_);refine OD.cells (k:=0) (cs':=[.list 5 [] 0]) rfl ⟨fp,trivial⟩ rfl ?_;refine an 88 [0,2,3] ?_;refine af [0,2,3,4] ?_;refine eD [0,2,3] (fun aW _ (i:Nat) aH=>(i≤2)∧aH=(⟨88,(4,ae (i:Nat))::aW,[⟨b3,25,1,[.list 5 ((((eu.take i).map fun x=>gW (j5 x))).flatMap c8) (((eu.take i).map fun x=>gW (j5 x))).length]⟩,⟨b2,25,1,[bA]⟩]⟩:St)) (fun (i:Nat)=>2-i) 0 ⟨(Nat.zero_le _),rfl⟩ ?_;rintro i _ ⟨hi,rfl⟩;refine af [0,2,3,4,14] ?_;refine au ?_ ?_<;>intro aO bE
 ·have aa:i<eu.length:=(by omega)
  have O:=VC.G0 (F7 hm hw ht hG (l:=((eu.take i).map fun x=>gW (j5 x))) (a:=0) (c:=0) (s:=j5 (eu[i]'aa)) (Wu i w4) w7 (TY (getElem_mem aa)) (show ¬(1:Int)=2 by decide) (fun _=>Pa.F6 _ (getElem_mem aa)) (show(1:Int)≤6 by decide) (fun _=>rfl)) (args':=[.agg [.list 5 ((((eu.take i).map fun x=>gW (j5 x))).flatMap c8) (((eu.take i).map fun x=>gW (j5 x))).length],.agg [ae 1,bn (eu[i]'aa),av 2 cC cM,bA,bA,bS false,bA,eT,bS false,ae (-1),eT,bA]]) ⟨dQ,BB ⟨dQ,dQ,dQ,fp,fp,dQ,fp,dQ,dQ,dQ,dQ,fp,trivial⟩,trivial⟩;rw[UG i aa] at O;unfold AT at O;refine CD.skip ?_;refine CD.seq ?_;refine CD.block ?_;refine CD.seq ?_;refine dv_ 14 13 12 [0,2,3,4,5,6,26,27,28] ?_;refine nA 1 ?_;refine Ni (g:=cS) (eu) ?_;refine di (Iv) ?_;refine di (O) ?_;refine nA 4 ?_;refine rP ?_;refine rP ?_;refine jZ ?_;refine⟨rfl,rfl,fun b6 b5=>?_⟩;refine aN 1 [_] sizeOf25 ?_;refine aN 0 [_,_] sizeOf36 ?_;refine an 88 [0,2,3,4,5,7] ?_;refine af [0,2,3,4,5,30] ?_;refine au ?_ ?_<;>intro aY cJ
  ·refine dO 1 ?_;refine aN 2 [_] sizeOf25 ?_;refine an 88 [0,2,3,4] ?_;refine cl [0,2,3,4] ?_;refine⟨(i+1),_,cz,aK,w4,rfl⟩
  exact absurd aY (by simp at aY)
 have lH:i=2:=(by omega)
 subst lH;have htw:((eu.take 2).map fun x=>gW (j5 x))=Wt:=rfl;refine af [0,2,3,8] ?_;refine eD [0,2,3] (fun aW _ (U:Nat×List aM×Nat×Nat) aH=>match U with|(k,l,a,c)=>(k≤30)∧(k≤ps.length)∧(a+c≤k)∧(pP l a c)∧((l).map aM.nm=eu)∧aH=(⟨88,(8,ae (k:Nat))::aW,[⟨b3,25,1,[av 5 c8 (l)]⟩,⟨b2,25,1,[bA]⟩]⟩:St)) (fun (U:Nat×List aM×Nat×Nat)=>match U with|(k,l,a,c)=>30-k) (0,Wt,0,0) ⟨(Nat.zero_le _),(Nat.zero_le _),(Nat.le_refl _),(Wu 2 (Nat.le_refl _)),rfl,rfl⟩ ?_;rintro⟨k,l,a,c⟩ _ ⟨lZ,hkp,Oh,gn,I,rfl⟩;refine aD 5 ?_;refine bW 36 (fun ak4 ah7=>?_) (fun ak4 ah7=>?_)
 ·refine bf [0,2,3,8,39] ?_;refine au ?_ ?_<;>intro cm cW
  ·have aa:k<ps.length:=(by first|omega|(simp at *;omega))
   have apW:k<30:=(by first|omega|(simp at *;omega))
   have rN:=ij (ps[k]'aa) (getElem_mem aa);refine aD 3 ?_;refine bN (cU (mk:=Op.load 77) rfl ot (iJ (g:=Ph.cs) (ls:=ps) (i:=k) q8 isAgg77 sizeOf77 aa)) ?_;refine OD.call ap rfl rfl rfl call23 (T3 hm hw ht hG (ps[k]'aa) rN) ⟨ot,trivial⟩ (eR _) ?_;rintro _ _ ⟨s,rfl,rfl,Z,HD⟩;refine OD.alloc (ds:=[_,_,_,_,_,_,_,_,_,_,_,_]) ap rfl rfl zeroValue32 rfl (fun b9=>?_);refine aN 0 [_,_,_,_,_,_,_,_,_,_,_,_] sizeOf32 ?_;refine an 88 [0,2,3,8,9] ?_;refine jQ [0,2,3,8,9] (fun aW _ aH=>∃(s:cA),(jI s)∧(¬s.kind=1∧¬s.kind=2)∧aH=(⟨88,aW,[⟨b9,32,12,bU s⟩,⟨b3,25,1,[av 5 c8 (l)]⟩,⟨b2,25,1,[bA]⟩]⟩:St)) ?_ ?_
   ·refine aD 4 ?_;refine bW 50 (fun Wv ah8=>?_) (fun Wv ah8=>?_)
    ·refine bf [0,2,3,8,9,54] ?_;refine eI ?_;exact WE
    refine bf [0,2,3,8,9,54] ?_;refine au ?_ ?_<;>intro da ek
    ·exact WE
    have E:¬s.kind=1∧¬s.kind=2:=(by first|exact⟨by simpa using Wv,by simpa using da⟩|(simp at *;omega))
    refine CD.skip ?_;refine⟨_,aK,s,Z,E,rfl⟩
   rintro _ ⟨s,Z,E,rfl⟩;refine CD.seq ?_;have AS:=jI.st Z;have qL:=afe Z;have O:=F7 hm hw ht hG gn w4 AS E.2 (fun _=>qL) Z.2.2.1 (fun h=>absurd h E.1);unfold AT at O;refine dO 2 ?_;refine dV call11 (O) ?_;refine aE 4 ?_;refine OD.alloc (ds:=[_]) ap rfl rfl zeroValue25 rfl (fun lf=>?_);refine OD.alloc (ds:=[_,_]) ap rfl rfl zeroValue36 rfl (fun k8=>?_);refine aN 1 [_] sizeOf25 ?_;refine aN 0 [_,_] sizeOf36 ?_;refine an 88 [0,2,3,8,10,12] ?_;refine af [0,2,3,8,10,85] ?_;refine au ?_ ?_<;>intro ez fw
   ·have h0:(nQ l s).2.2=0:=(by simpa using ez)
    obtain⟨h1,h2⟩:=TX h0;obtain⟨a',c',apX,gn1,_,gv⟩:=Jl gn w4 AS E.2 qL (fun h=>absurd h E.1) h1;have gn2:pP (nQ l s).1 a' c':=(by rw[h2];exact gn1)
    have ah9:(nQ l s).1.map aM.nm=eu:=(by rw[h2,gv E.1];exact I)
    refine dO 1 ?_;refine aN 3 [_] sizeOf25 ?_;refine an 88 [0,2,3,8] ?_;refine cl [0,2,3,8] ?_;refine⟨((k+1),(nQ l s).1,a',c'),_,cz,aK,w4,w4,w4,gn2,ah9,rfl⟩
   refine cl [0,2,3,8] ?_;refine⟨((k+1),l,a,c),_,cz,aK,w4,w4,w4,gn,I,rfl⟩
  refine aD 1 ?_;refine aN 1 [_] sizeOf25 ?_;refine an 88 [2] ?_;refine aJ [] ?_;exact⟨l,a,c,rfl,rfl,gn,by omega,I⟩
 refine bf [0,2,3,8,39] ?_;refine fN ?_;refine aD 1 ?_;refine aN 1 [_] sizeOf25 ?_;refine an 88 [2] ?_;refine aJ [] ?_;exact⟨l,a,c,rfl,rfl,gn,by omega,I⟩

theorem Ww(h:l.map aM.nm=eu):aT l ⟨#[116]⟩=0:=by
 match l,h with
 | a::r,h =>
  rw[map_cons] at h;have ha:a.nm=⟨#[116]⟩:=(by injection h)
  unfold aT;rw[wj (ls:=a::r) (k:=0) bq (fun x hx=>by cases hx) (by show(a.nm.toList==_)=true;rw[ha];exact BEq.rfl)];rfl

end Go.Proofs.YtdgichenhdikgaaGreatDoor.Ba
namespace Go.Proofs.YtdgichenhdikgaaGreatDoor.Ba
open List
open Go.Proofs.Tryz
open Go.RowKit V Pk Tr Vl Go.Proofs.YtdgichenhdikgaaGreatDoor.Nm Pc Cd Ex Tw
open Pa (Ph)
variable {m:Int}
def AV(m:Int):List (Nat×List Value):=[(3,marksC),(1,wordsC),(0,typesC),(2,[Value.int .i64 m])]
theorem tm1:(3,marksC)∈AV m:=mem_cons_self
theorem tm2:(1,wordsC)∈AV m:=mem_cons_of_mem _ mem_cons_self
theorem tm3:(0,typesC)∈AV m:=mem_cons_of_mem _ (mem_cons_of_mem _ mem_cons_self)
theorem tm4:(2,[Value.int .i64 m])∈AV m:=mem_cons_of_mem _ (mem_cons_of_mem _ (mem_cons_of_mem _ mem_cons_self))
theorem ak5{w:World}(h1:MarksTab w)(h2:WordsTab w)(h3:TypesTab w)(h4:Tab.mJ w 2 [Value.int .i64 m]):∀g∈AV m,g.2≠[]∧Cg w g.1 g.2:=fun g hg=>by
 rcases mem_cons.1 hg with rfl|hg
 ·exact⟨by decide,.of h1 rfl⟩
 rcases mem_cons.1 hg with rfl|hg
 ·exact⟨by decide,.of h2 rfl⟩
 rcases mem_cons.1 hg with rfl|hg
 ·exact⟨by decide,.of h3 rfl⟩
 rw[mem_singleton] at hg;subst hg;exact⟨by simp,.of h4 rfl⟩
theorem rd_phrases{H:Type}{enc:TypeId×Value→H}{w:World}{base E:Nat}{sp:Nat→Bool}{held:Bool}{v:Value}{d:DataW H}{p:List MemPlace}(hval:Value.okWide Tryz.prog w .any E 22 v)(h:DataW.Trod enc Tryz.prog w base sp held 22 v d p) :
  ∃l:List Ph,cq w (fun _=>False) (.list 14 (l.flatMap Ph.cs) l.length) v∧((∀x∈l,x.Ok)∧l.length≤maxLen)∧True:=by
 obtain⟨l,h1,h2,h3⟩:=Qy (g:=Ph.cs) (ok:=Ph.Ok) (sz:=14) underlying22 aA w7 (fun n cs x hn=>Pa.aal n cs x hn) q8 hval h;exact⟨l,h1,⟨h2,h3⟩,trivial⟩

end Go.Proofs.YtdgichenhdikgaaGreatDoor.Ba
namespace Go.Proofs.YtdgichenhdikgaaGreatDoor.Ba
open List
open Go.Proofs.Tryz
open Go.RowKit V Pk Tr Vl Go.Proofs.YtdgichenhdikgaaGreatDoor.Nm Pc Cd Ex Tw
open Pa (cA bU jM gz jI gd iO jF gI ga eu Ph)
variable {G:List (Nat×List Value)} {m:Int}
variable {t:aM} {n i:Nat} {l:List aM}
theorem TZ{v:Vl}(h:cD v=0)(hk:v.k=2):fX [v]=(ff [v],0):=by
 unfold fX;rw[if_neg bq,E9 (fun x hx=>by rw[mem_singleton] at hx;rw[hx];exact h),if_neg bq,if_neg];show ¬(ff [v]).length>100;unfold ff Cd.pQ sL;simp[hk,lV]
theorem abN(g:ew t n){i:Int}(h:gb t i):∃(v:Vl) (r:List Vl),rowAt t i=v::r∧r.length=3∧v.k=2∧v.s.size=0∧v.Ok∧cD v=0∧c9 (rowAt t i)=ff [v]:=by
 obtain⟨h4,aR⟩:=gb.ok g h;obtain⟨h0,h1,h2⟩:=h;have hf:=(g.row _ h1 h2).1;rw[←ja h1] at hf;match hr:rowAt t i,h4 with
 | v::r,h4 =>
  rw[hr] at hf aR;obtain⟨hv,hc⟩:=aR v mem_cons_self;have hk:v.k=2:=by
   unfold Pc.ec at hf;rw[if_neg Ao,if_neg xT] at hf;unfold cM Pc.oX at hf;split at hf
   ·rename_i h1;exact absurd hf h1
   rename_i h1;have h1:=Decidable.not_not.1 h1;unfold Pc.lR at h1;rw[if_neg (by rw[hc];decide)] at h1;split at h1
   ·cases h1
   rename_i h3;exact Decidable.not_not.1 fun e=>h3 ⟨e,.inl rfl⟩
  refine⟨v,r,rfl,by simpa using h4,hk,?_,hv,hc,?_⟩
  ·unfold cD at hc;rw[if_neg w4,if_neg w4,if_pos hk] at hc;split at hc
   ·cases hc
   rename_i h3;exact Decidable.not_not.1 h3
  unfold c9;rw[show(v::r).take 1=[v] from rfl,TZ hc hk]
theorem int_lt{v w:Vl}(E:cD v=0)(I:v.Ok)(kv:v.k=2)(O:v.s.size=0)(hw:cD w=0)(U:w.Ok)(kw:w.k=2)(sw:w.s.size=0)(h:bF (ff [v]) (ff [w])):v.n<w.n:=by
 rcases Int.lt_trichotomy v.n w.n with q|q|q
 ·exact q
 ·have hs:v.s=w.s:=by
   have Z:v.s.data.size=0:=O;have a2:w.s.data.size=0:=sw;have e1:v.s=⟨v.s.data⟩:=rfl;have e2:w.s=⟨w.s.data⟩:=rfl;rw[e1,e2,Array.eq_empty_of_size_eq_zero Z,Array.eq_empty_of_size_eq_zero a2]
  have:v=w:=(by cases v;cases w;simp_all)
  rw[this] at h;exact absurd h (jR _)
 have hl:fk w v<0:=(Fq w v).2 (.inr ⟨by omega,.inl q⟩);have h3:=SP hw U E I [] [] w4;rw[append_nil,append_nil] at h3;have h4:bF (ff [w]) (ff [v]):=by
  unfold bF ff;rw[flatMap_singleton,flatMap_singleton,h3];exact hl
 exact absurd (mg h h4) (jR _)
noncomputable def kR(t:aM):List (List Vl):=(eB t.ix).map fun x=>rowAt t x.2
theorem agF{nm:ByteArray}(h:aT l nm=(i:Int))(hi:i<l.length):vj l nm=(kR l[i],0):=by
 unfold vj;rw[h,if_neg w4,Int.toNat_natCast,getD_eq_getElem?_getD,getElem?_eq_getElem hi];rfl
theorem afg(g:ew t n)(h:i<(kR t).length):∃h':i<(eB t.ix).length,(kR t)[i]=rowAt t (eB t.ix)[i].2∧gb t (eB t.ix)[i].2∧(eB t.ix)[i].1=c9 (rowAt t (eB t.ix)[i].2):=by
 have h':i<(eB t.ix).length:=(by unfold kR at h;rwa [length_map] at h)
 obtain⟨h0,h1,h2,h3⟩:=g.iZ _ (getElem_mem h');exact⟨h',by show((eB t.ix).map fun x=>rowAt t x.2)[i]=_;exact getElem_map _,⟨h0,h1,h2⟩,by rw[ja h1];exact h3⟩
theorem Ie(g:ew t n)(h:i<(kR t).length):∃(v:Vl) (r:List Vl),(kR t)[i]=v::r∧r.length=3∧v.k=2∧v.s.size=0∧v.Ok∧cD v=0:=by
 obtain⟨h',e,ko,_⟩:=afg g h;obtain⟨v,r,h1,h2,h3,h4,h5,h6,_⟩:=abN g ko;exact⟨v,r,e.trans h1,h2,h3,h4,h5,h6⟩
theorem adB(g:ew t n):(kR t).length≤16000:=by
 have:=RD g.ix [] [];rw[EX] at this;unfold kR;rwa [length_map]
theorem ak6(h:l.map aM.nm=eu):l.length=2:=by have:=congrArg length h;rw[length_map] at this;rw[this];decide

def ak7(w:List aX):cA:={ga with kind:=4,table:=⟨#[116]⟩,aj:=w}
theorem T0(h:l.map aM.nm=eu){s:cA}(hk:s.kind=4)(ht:s.table=⟨#[116]⟩)(hc:gz s=0)(h0:0<l.length):nQ l s=(if (lQ l[0] s).2≠0 then ([],(([],0),(lQ l[0] s).2)) else (l,((lQ l[0] s).1,0)):List aM×((List (List Vl)×Int)×Int)):=by
 have hr:gM l s=(l,lQ l[0] s):=by
  unfold gM;have ha:aT l s.table=0:=(by rw[ht];exact Ww h)
  have ke:l.getD (0:Int).toNat (gW s)=l[0]:=(by show l.getD 0 _=_;rw[getD_eq_getElem?_getD,getElem?_eq_getElem h0];rfl)
  rw[ha,if_neg w4,if_neg w7,if_neg w4,if_pos hk,ke]
 unfold nQ;rw[if_neg (fun e=>e hc),if_neg w4,hr]
theorem RR{t:aM}:∀(l:List (K×Int)) (acc:List Int),lE t [] acc l=(acc++l.map Prod.snd,0)
 | [],acc=>by simp[lE]
 | x::l,acc=>by rw[lE,if_neg w7,RR l];simp
theorem Bw(g:ew t n):ax t []=((eB t.ix).map Prod.snd,0):=by
 unfold ax;have hb:iI t.az []=(([],[]),0):=(by rw[g.az];decide +kernel)
 rw[hb,if_neg w7,RR];show([]++(oV t.ix [] []).map Prod.snd,0)=_;rw[EX];rfl
theorem abO(x:ByteArray):VP Tryz.prog G 10 [bn x,bA] (.agg [ae 4,bn x,bA,bA,bA,bS false,bA,eT,bS false,ae (-1),eT,bA]):=by
 refine VC.body func10 rfl ntmps10 aQ fun X0 w0 bg=>?_;refine bY ?_;refine OD.alloc (ds:=[_,_,_,_,_,_,_,_,_,_,_,_]) ap rfl rfl zeroValue32 rfl (fun b4=>?_);refine an 8 [0,1,4] ?_;refine aD 3 ?_;refine aN 0 [_,_,_,_,_,_,_,_,_,_,_,_] sizeOf32 ?_;refine an 8 [4] ?_;exact nw

end Go.Proofs.YtdgichenhdikgaaGreatDoor.Ba
namespace Go.Proofs.YtdgichenhdikgaaGreatDoor.Ba

open List
open Go.Proofs.Tryz
open Go.RowKit V Pk Tr Vl Go.Proofs.YtdgichenhdikgaaGreatDoor.Nm Pc Cd Ex Tw
open Pa (cA bU jM gz jI gd iO jF gI ga eu Ph)
variable {t:aM} {n:Nat} {l:List Int} {N:List ByteArray} {α:Type}
def fst(r:List Vl):Vl:=r.getD 0 bJ
theorem afh{v w:Vl}(E:cD v=0)(I:v.Ok)(U:v.k=2)(Z:v.s.size=0)(hw:cD w=0)(O:w.Ok)(kw:w.k=2)(sw:w.s.size=0):bF (ff [v]) (ff [w])↔v.n<w.n:=by
 refine⟨int_lt E I U Z hw O kw sw,fun h=>?_⟩;have hl:fk v w<0:=(Fq v w).2 (.inr ⟨by omega,.inl h⟩);have h3:=SP E I hw O [] [] w4;rw[append_nil,append_nil] at h3;unfold bF ff;rw[flatMap_singleton,flatMap_singleton,h3];exact hl
theorem RS{r:List Vl}(hf:Pc.ec cM r=0)(aR:∀v∈r,v.Ok):(fst r).k=2∧(fst r).s.size=0∧(fst r).Ok∧cD (fst r)=0∧c9 r=ff [fst r]∧r.length=4:=by
 have h4:=oW hf;have hz:=Jg hf;match r,h4 with
 | v::r,h4 =>
  have E:=aR v mem_cons_self;have hc:=hz v mem_cons_self;have hk:v.k=2:=by
   unfold Pc.ec at hf;rw[if_neg Ao,if_neg xT] at hf;unfold cM Pc.oX at hf;split at hf
   ·rename_i h1;exact absurd hf h1
   rename_i h1;have h1:=Decidable.not_not.1 h1;unfold Pc.lR at h1;rw[if_neg (by rw[hc];decide)] at h1;split at h1
   ·cases h1
   rename_i h3;exact Decidable.not_not.1 fun e=>h3 ⟨e,.inl rfl⟩
  refine⟨hk,?_,E,hc,?_,h4⟩
  ·show v.s.size=0;unfold cD at hc;rw[if_neg w4,if_neg w4,if_pos hk] at hc;split at hc
   ·cases hc
   rename_i h3;exact Decidable.not_not.1 h3
  unfold c9;rw[show(v::r).take 1=[v] from rfl,TZ hc hk];rfl

theorem RT(g:ew t n){i:Int}(h:gb t i):Pc.ec cM (rowAt t i)=0∧∀v∈rowAt t i,v.Ok:=by
 obtain⟨h0,h1,h2⟩:=h;rw[ja h1];exact⟨(g.row _ h1 h2).1,(g.row _ h1 h2).2.1⟩
theorem adC(g:ew t n)(hp:l.Pairwise (DY t))(hi:∀i∈l,gb t i):B4 t false 0 l=l:=by
 refine(JZ ⟨Perm.refl _,hp.imp_of_mem fun {a b} ha hb h=>?_⟩).symm;obtain⟨f1,o1⟩:=RT g (hi a ha);obtain⟨f2,o2⟩:=RT g (hi b hb);obtain⟨a1,a2,a3,a4,a5,_⟩:=RS f1 o1;obtain⟨b1,b2,b3,b4,b5,_⟩:=RS f2 o2;have hk:bF (c9 (rowAt t a)) (c9 (rowAt t b)):=h;rw[a5,b5] at hk;have aa:=(afh a4 a3 a1 a2 b4 b3 b1 b2).1 hk;have hc:fk (cellAt t 0 a) (cellAt t 0 b)<0:=(Fq _ _).2 (.inr ⟨a1.trans b1.symm,.inl aa⟩);exact .inl (by show kZ t false 0 a b<0;unfold kZ;rw[if_neg w7];exact hc)
theorem afi{r:List Vl}(h:r.length=4):(([0,1,2,3]:List Int).map fun c=>r.getD c.toNat bJ)=r:=by
 match r,h with
 | [a,b,c,d],_=>rfl
theorem afj(l:List Int):sI (-1) l=l:=if_neg w4

def nu(oJ:List Int)(r:List Vl):List Vl:=oJ.map fun c=>r.getD c.toNat bJ
def qF(N:List ByteArray):cA:={ak7 [] with names:=N}
theorem UH{s:cA}(hg:jI s)(hk:s.kind=4)(hn:s.names.length≤6)(hw:s.aj.length≤15):gz s=0:=by
 unfold gz;rw[if_neg w4,if_neg (fun e=>e hg.2.2.2.2),if_neg];have h1:=Pa.It s.aj;have h2:=Pa.ED s.names s.names.length;unfold Pa.qA;rw[if_neg w4,if_neg w4,if_neg w4,if_pos hk];have h3:(Pa.vf s).length≤12:=by
  unfold Pa.vf;split
  ·decide
  split
  ·decide
  omega
 have h4:(Pa.xD s).length≤4:=by
  unfold Pa.xD;split
  ·decide
  rw[length_append,length_map];split<;>simp
 have h5:(Pa.Cm s).length≤2:=by
  unfold Pa.Cm;split<;>simp
 unfold Pa.zx;simp only[length_append,length_map,length_cons,length_nil];omega
theorem EC(h:N.length≤6)(h0:∀x∈N,cL x=0):jI (qF N):=Pa.rG.vr (Pa.O6 (t:=⟨#[116]⟩) (by decide +kernel) (N:=N) ⟨h,h0⟩ (c:=false) (fun h=>by cases h) (o:=⟨#[]⟩) (.inl rfl) (d:=false) (fun _=>rfl) (m:=-1) ⟨by decide,by decide⟩)
theorem aam(g:ew t n)(h:∀x∈N,0≤bD cM x):lQ t (qF N)=(((kR t).map (nu (mY t N)),((kR t).length:Int)),0):=by
 unfold lQ;have ho:rD t (qF N)=0:=if_pos (show((⟨#[]⟩:ByteArray).toList==(⟨#[]⟩:ByteArray).toList)=true from BEq.rfl);have hm:=Bw g;have hn:¬((qF N).names.any fun n=>decide (bD t.az n<0))=true:=fun e=>by
  obtain⟨x,hx,e⟩:=any_eq_true.1 e;have:=of_decide_eq_true e;rw[g.az] at this;have:=h x hx;omega
 rw[if_neg hn,ho,if_neg (show ¬(0:Int)<0 by decide),show(qF N).aj=[] from rfl,hm,if_neg (fun e=>e rfl),if_neg (show ¬(qF N).count=true from fun h=>by cases h)];have hs:tV t (qF N)=(eB t.ix).map Prod.snd:=by
  unfold tV;rw[ho];show sI (-1) (B4 t false 0 (ax t []).1)=_;rw[afj,adC g (E0 g []) (tZ g []),hm]
 rw[hs];unfold kR;rw[map_map,map_map,length_map,length_map];rfl
theorem adD(g:ew t n){x:ByteArray}(h:bD cM x<0):lQ t (qF [x])=(([],0),8):=by
 unfold lQ;rw[if_pos];show([x].any fun n=>decide (bD t.az n<0))=true;rw[g.az];simp[h]
def nR(l:List Int):List ByteArray:=l.map fun i=>om (dU i 4)
theorem IQ(i:Int):bD cM (om (dU i 4))=dU i 4∧cL (om (dU i 4))=0:=by
 have hb:=jD i (show(1:Int)≤4 by decide);generalize dU i 4=j at *;refine⟨?_,Q0 j⟩;unfold om;have h4:j=0∨j=1∨j=2∨j=3:=(by omega)
 rcases h4 with rfl|rfl|rfl|rfl
 ·exact ahp
 ·exact ajH
 ·exact ajI
 exact ajJ
theorem agG(g:ew t n)(h:l≠[]):mY t (nR l)=l.map fun i=>dU i 4:=by
 unfold mY nR;rw[length_map,if_neg (fun e=>h (length_eq_zero_iff.1 e)),map_map,g.az];exact map_congr_left fun i _=>(IQ i).1
theorem afk(g:ew t n):(kR t).map (nu (mY t []))=kR t:=by
 have ha:mY t []=[0,1,2,3]:=by
  unfold mY;rw[if_pos (show([]:List ByteArray).length=0 from rfl),g.az];rfl
 rw[ha];conv=>rhs;rw[←map_id (kR t)]
 refine map_congr_left fun r hr=>?_;obtain⟨i,hi,rfl⟩:=mem_iff_getElem.1 hr;obtain⟨v,r,e,h,_⟩:=Ie g hi;exact afi (by rw[e,length_cons,h])
theorem Kw:(∀x∈nR l,cL x=0)∧∀x∈nR l,0≤bD cM x:=by
 constructor<;>intro x hx<;>obtain⟨i,_,rfl⟩:=mem_map.1 hx
 ·exact(IQ i).2
 rw[(IQ i).1];exact(jD i (show(1:Int)≤4 by decide)).1

variable {G:List (Nat×List Value)} {m:Int}
open Classical in
noncomputable def vk(a b:α):Bool:=decide (a=b)
theorem Jm{a b:α}(h:a=b):vk a b=true:=by unfold vk;simp[h]
theorem T1{a b:α}(h:¬a=b):vk a b=false:=by unfold vk;simp[h]
theorem RU(a b:List Vl)(ha:a.length≤1000000)(hb:b.length≤1000000):VP Tryz.prog G 22 [av 3 cV a,av 3 cV b] (bS (vk a b)):=by
 refine VC.body func22 rfl ntmps22 aQ fun X0 w0 bg=>?_;have dz:=ei;refine af [0,1] ?_;refine af [0,1,10] ?_;refine au ?_ ?_<;>intro aO bE
 ·have fb:vk a b=false:=T1 fun e=>by rw[e] at aO;simp at aO
  refine af [4] ?_;exact Av
 have U:a.length=b.length:=(by simp at aO;omega)
 refine af [0,1,5] ?_;refine eD [0,1] (fun aW _ (i:Nat) aH=>(i≤a.length)∧(a.take i=b.take i)∧aH=(⟨26,(5,ae (i:Nat))::aW,[]⟩:St)) (fun (i:Nat)=>a.length-i) 0 ⟨(Nat.zero_le _),rfl,rfl⟩ ?_;rintro i _ ⟨hi,I,rfl⟩;refine af [0,1,5,14] ?_;refine au ?_ ?_<;>intro aY cJ
 ·have aa:i<a.length:=(by omega)
  have E:i<b.length:=(by omega)
  refine cZ [0,1,5,25] ?_;refine aS 8 ?_ (h:=by exact(Pe rfl ot ot eqGuardType41 (Go.Proofs.YtdgichenhdikgaaGreatDoor.Vl.KJ _ _)));refine jZ ?_;refine au ?_ ?_<;>intro cm cW
  ·have hne:¬a[i]'aa=b[i]'E:=fun e=>by rw[e] at cm;exact absurd cm bq
   have fb:vk a b=false:=T1 fun e=>hne (by subst e;rfl);refine af [4] ?_;exact Av
  have O:a[i]'aa=b[i]'E:=(by have h3:Hp (a[i]'aa) (b[i]'E)=true:=(by simpa[Hp] using cm);exact ad0.1 h3)
  refine cl [0,1,5] ?_;refine⟨(i+1),_,cz,aK,w4,(by rw[take_succ_eq_append_getElem aa,take_succ_eq_append_getElem E,I,O]),rfl⟩
 have fb:vk a b=true:=Jm (by rw[take_of_length_le w4,take_of_length_le w4] at I;exact I);refine af [4] ?_;exact z93

theorem adE(g:ew t n):∀r∈kR t,r.length≤1000000:=fun r hr=>by
 obtain⟨i,hi,rfl⟩:=mem_iff_getElem.1 hr;obtain⟨v,r,e,h,_⟩:=Ie g hi;rw[e,length_cons,h];decide

end Go.Proofs.YtdgichenhdikgaaGreatDoor.Ba
