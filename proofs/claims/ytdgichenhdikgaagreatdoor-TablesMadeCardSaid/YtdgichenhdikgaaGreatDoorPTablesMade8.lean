/-
  What the proof of TablesMade leans on, part 8 of 9: walks of the program's functions at the level of values, and plain facts of what they compute.
-/
import Derived.Test.YtdgichenhdikgaaGreatDoorPTablesMade7
set_option linter.unusedVariables false
set_option linter.unusedSimpArgs false
set_option maxRecDepth 100000
set_option maxHeartbeats 4000000
namespace Go.Proofs.YtdgichenhdikgaaGreatDoor.Ba
open List
open Go.Proofs.Tryz
open Go.RowKit V Pk Tr Vl Go.Proofs.YtdgichenhdikgaaGreatDoor.Nm Pc Cd Ex Tw
open Pa (cx bI)
variable {G:List (Nat×List Value)} {m:Int}
variable {t:aL} {L:List cl} {ad:Option Addr} {cap i n:Nat} {E S:List ah} {o:cl} {p:(List (List Vl)×Int)×Int}
def Ge(t:aL)(L:List cl)(ad:Option Addr)(cap:Nat)(Sr:List ah):Prop:=L.map cl.r=t.rows∧(∀o∈L,nQ o)∧sG L ad cap Sr
theorem Rf(h:Ge t L ad cap E)(hs:∀B∈E++L.flatMap bR,B∈S):View S (.agg (tC t ad cap)) (.agg (dg t)) :=
 SM (o:=⟨t,L.flatMap gR,ad,cap,E,L.flatMap bR⟩) (o9.w ⟨L,rfl,rfl,h.2.1,h.1,h.2.2⟩) hs
theorem Rg(aT:∀o∈L,nQ o)(hi:i<L.length)(hs:∀B∈L.flatMap bR,B∈S):View S (aR L[i].ad L[i].r.length L[i].cap) (.list 3 (L[i].r.flatMap cV) L[i].r.length) :=
 lE (aT _ (getElem_mem hi)) (cn fq _) (fun B E=>hs B (mem_flatMap.2 ⟨_,getElem_mem hi,E⟩))
theorem Jy(f:ah→Nat):∀(L:List cl) (i:Nat) (o:cl) (h:i<L.length),(((L.set i o).flatMap bR).map f).sum=(o.S.map f).sum+(((L.eraseIdx i).flatMap bR).map f).sum
 | [],_,_,h=>absurd h (Nat.not_lt_zero _)
 | x::L,0,o,_=>by simp[bR]
 | x::L,i+1,o,h=>by
  have:=Jy f L i o (Nat.lt_of_succ_lt_succ h);simp only[set_cons_succ,flatMap_cons,map_append,sum_append,eraseIdx_cons_succ,this];omega
theorem Rh{A B C X:ah}(h:i<L.length)(hS:L[i].S=[X]):(A::B::([C]++L.flatMap bR)).Perm (X::A::B::C::(L.eraseIdx i).flatMap bR):=ie fun f=>by
 have:=Jy f L i L[i] h;rw[set_getElem_self,hS] at this;simp only[map_cons,sum_cons,map_append,sum_append,map_nil,sum_nil,this];omega
theorem S6{A B C X:ah}(h:i<L.length)(hS:o.S=[X]):(X::A::B::C::(L.eraseIdx i).flatMap bR).Perm (A::B::([C]++(L.set i o).flatMap bR)):=ie fun f=>by
 have:=Jy f L i o h;rw[hS] at this;simp only[map_cons,sum_cons,map_append,sum_append,map_nil,sum_nil,this];omega
theorem Ri{t:aL}{c:Int}{e:List aX}:∀(l:List Int) (acc:List Vl),(iS t c e acc l).2=0→(iS t c e acc l).1.length=acc.length+l.length
 | [],acc,_=>rfl
 | i::r,acc,h=>by
  rw[iS] at h ⊢;split
  ·rename_i h1;rw[if_pos h1] at h;exact absurd h h1
  rename_i h1;rw[if_neg h1] at h;split
  ·rename_i h2;rw[if_pos h2] at h;cases h
  rename_i h2;rw[if_neg h2] at h;rw[Ri r _ h,length_append,length_cons,length_cons,length_nil];omega
theorem IP{t:aL}{n:Nat}(g:eW t n){c:Int}{e:List aX}(jL:∀o∈e,o.nm.size≤maxLen)(fU:∀o∈e,o.v.Ok)(hk:(ey dM e).2=0):∀(l:List Int) (acc:List Vl),(∀i∈l,gA t i)→(iS t c e acc l).2=0 →
  (∀v∈acc,v.Ok∧jO (ey dM e).1 v∧(c=0→v.k≠0))→∀v∈(iS t c e acc l).1,v.Ok∧jO (ey dM e).1 v∧(c=0→v.k≠0)
 | [],acc,_,_,ha=>ha
 | i::r,acc,hl,h,ha=>by
  rw[iS] at h ⊢;have hi:=hl i mem_cons_self;obtain⟨h0,h1,h2⟩:=id hi;obtain⟨p1,p2,_⟩:=g.row _ h1 h2;rw[←jk h1] at p1 p2;split
  ·rename_i h1;rw[if_pos h1] at h;exact absurd h h1
  rename_i hne;rw[if_neg hne] at h;split
  ·rename_i h2;rw[if_pos h2] at h;cases h
  rename_i h3;rw[if_neg h3] at h;refine IP g jL fU hk r _ (fun j hj=>hl j (mem_cons_of_mem _ hj)) h fun v E=>?_;rcases mem_append.1 E with E|E
  ·exact ha v E
  rw[mem_singleton] at E;subst E;rw[g.az] at hne h3 ⊢;exact⟨aeo p2 fU,acH jL fU p1 hk (Classical.not_not.1 hne),fun hc hz=>h3 ⟨hc,hz⟩⟩
theorem Jz{g:cl→List D}:∀(M:List cl) (i:Nat) (h:i<M.length) (o:cl),g o=g M[i]→(M.set i o).flatMap g=M.flatMap g
 | [],_,h,_,_=>absurd h (Nat.not_lt_zero _)
 | x::M,0,_,o,e=>by
  rw[set_cons_zero,flatMap_cons,flatMap_cons,e];rfl
 | x::M,i+1,h,o,e=>by
  rw[set_cons_succ,flatMap_cons,flatMap_cons,Jz M i (Nat.lt_of_succ_lt_succ h) o e]
theorem PJ{x:aF}{M:List cl}{i:Int}(h:i.toNat<M.length):rowAt {t with rows:=M.map cl.r,ix:=x} i=M[i.toNat].r:=by
 rw[jk (by show _<(M.map cl.r).length;rw[length_map];exact h)];exact getElem_map ..
theorem S8{x:aF}{M:List cl}{i:Int}(h:i.toNat<M.length){c:Nat}{v:Vl}(ho:o.r=M[i.toNat].r.set c v):rm {t with rows:=M.map cl.r,ix:=x} i c v={t with rows:=(M.set i.toNat o).map cl.r,ix:=x}:=by
 unfold rm;rw[PJ h,map_set,ho]
theorem acI{c:Nat}{l:List Vl}:mK c t [] l=t:=by unfold mK;rfl
theorem aa1{l:List Vl}:kC t [] l=(t,0):=by unfold kC;rfl
theorem Gf{l:List (List Vl)}(h:L.map cl.r=l)(h1:i<L.length)(h2:i<l.length):L[i].r=l[i]:=by subst h;rw[getElem_map]
theorem ZA:(Tryz.prog.info? 41).map (fun i=>(i.zero,i.size,i.bytes))=some (some (.agg #[.int .i64 0,.int .i64 0,.string ⟨#[]⟩]),3,32):=by kernel_rfl
theorem aa2(hm:(3,marksC)∈G)(hw:(1,wordsC)∈G)(ht:(0,typesC)∈G)(hG:(2,[Value.int .i64 m])∈G)(t:aL)(g:eW t n)(s:cx)(ho:∀o∈s.aj,o.nm.size≤maxLen)(fU:∀o∈s.aj,o.v.Ok)(qJ:∀o∈s.bU,o.nm.size≤maxLen)(Gg:∀o∈s.bU,o.v.Ok)(hn:n≤260)(bt off pZ:Nat)(pre post:List D)(hp:pre.length=off)(L:List cl)(ad:Option Addr)(cap:Nat)(Sr:List ah)(hL:L.map cl.r=t.rows)(aT:∀o∈L,nQ o)(kE:sG L ad cap Sr):VC Tryz.prog G 45 [.v (.pointer (some ⟨bt,off,none⟩)),.agg (bI s)] (⟨bt,53,pZ,pre++(tC t ad cap++post)⟩::(Sr++L.flatMap bR)) (fun r S=>r = .dF [ae (hU t s).2.1,ae (hU t s).2.2]∧((hU t s).2.2=0→∃L' nP kG oE,Ge (hU t s).1 L' nP kG oE∧S=⟨bt,53,pZ,pre++(tC (hU t s).1 nP kG++post)⟩::(oE++L'.flatMap bR))):=by
 refine VC.body func45 rfl ntmps45 aS fun X0 w0 aZ=>?_;have da:=dW;have G9:Ge t L ad cap Sr:=⟨hL,aT,kE⟩
 have rH:L.length=t.rows.length:=(by rw[←hL,length_map])
 have mI:=g.eD;have DK:=E4 g s.aj;have mu:=uW g s.aj;have hnd:=Em g s.aj;have ajQ:t.az.length=4:=(by rw[g.az];rfl)
 have ag9:=H9 (G:=G) t w4 s.set;have vP:=Jc (G:=G) hm hw ht t.az xx xw s.bU qJ;unfold pL at vP;have XU:=uO (fun c:cA=>c.n.toList==s.set.toList) t.az;rw[show dR (fun c:cA=>c.n.toList==s.set.toList) t.az=(bM t.az s.set) from rfl] at XU;unfold tC;unfold bI;refine bY ?_;refine OD.box (ds:=[_,_,_,_,_,_,_,_,_,_,_,_]) ap rfl rfl ot rfl rfl (fun b3=>?_);refine an 205 [0,3] ?_;refine cQ [0,3,6] ?_;refine aU 2 ?_ (h:=by exact(Lr 1));refine mS 2 ?_;refine wZ (ag9) (ha:=by exact⟨⟨_,ot,(Rf G9 (fun B U=>by repeat (first|exact U|apply mem_append_right|apply mem_cons_of_mem)):View _ (.agg (tC t ad cap)) _)⟩,⟨_,ot,eU⟩,trivial⟩) (K:=?_);refine bG ?_;refine af [0,3,6,30] ?_;refine au ?_ ?_<;>intro aN bC
 ·have hA:(bM t.az s.set)<0:=(by simpa using aN)
  have aV:hU t s=(t,0,8):=(by unfold hU;rw[if_pos hA])
  exact wT
 have hA:¬(bM t.az s.set)<0:=(by simpa using aN)
 have kY:(bM t.az s.set).toNat<t.az.length:=(by omega)
 refine cQ [0,3,6,7,8] ?_;refine aU 3 ?_ (h:=by exact(oD 1));refine de (vP) ?_;refine bG ?_;refine af [0,3,6,7,8,42] ?_;refine au ?_ ?_<;>intro aY cz
 ·have U:(ey t.az s.bU).2≠0:=(by simpa using aY)
  have aV:hU t s=(t,0,(ey t.az s.bU).2):=(by unfold hU;rw[if_neg hA,if_pos U])
  exact wT
 have U:¬(ey t.az s.bU).2≠0:=(by simpa using aY)
 have kW:t.az.getD (bM t.az s.set).toNat ⟨⟨#[]⟩,0⟩=t.az[(bM t.az s.set).toNat]:=(by rw[getD_eq_getElem?_getD,getElem?_eq_getElem kY];rfl)
 refine CD.skip ?_;refine jV [0,3,6] (fun aW ux aI=>(¬((ey t.az s.bU).1≠(t.az.getD (bM t.az s.set).toNat ⟨⟨#[]⟩,0⟩).k∧(ey t.az s.bU).1≠0))∧aI=(⟨205,aW,ux⟩:St)) ?_ ?_
 ·refine aD 4 ?_;refine bH (oD 1) ?_;refine aE 1 ?_;refine bH (dm 2 (h:=by first|exact .l (j:=(bM t.az s.set).toNat) (Int.toNat_of_nonneg w4).symm kY|exact .r (j:=(bM t.az s.set).toNat) (Int.toNat_of_nonneg w4).symm kY)) ?_;refine aE 4 ?_;refine bX 54 (fun zk yU=>?_) (fun zk yU=>?_)
  ·refine an 205 [0,3,6,57] ?_;refine au ?_ ?_<;>intro bZ cM
   ·have hC:(ey t.az s.bU).1≠(t.az.getD (bM t.az s.set).toNat ⟨⟨#[]⟩,0⟩).k∧(ey t.az s.bU).1≠0:=(by rw[kW];exact⟨by simpa using zk,by simpa using bZ⟩)
    have aV:hU t s=(t,0,4):=(by unfold hU;rw[if_neg hA,if_neg U,if_pos hC])
    exact wT
   exact z80
  refine an 205 [0,3,6,57] ?_;refine fT ?_;exact z80
 rintro _ ⟨hC,rfl⟩;refine cQ [0,3,6,8,9] ?_;refine aU 2 ?_ (h:=by exact(Lr 1));refine mS 2 ?_;refine zm (JW hm hw ht hG t g s.aj ho fU) (fun r S h=>h.flat) (fun r S h=>h.view) (ha:=by exact⟨⟨_,ot,(Rf G9 (fun B U=>by repeat (first|exact U|apply mem_append_right|apply mem_cons_of_mem)):View _ (.agg (tC t ad cap)) _)⟩,⟨_,ot,eU⟩,trivial⟩) (K:=?_);refine bG ?_;refine af [0,3,6,8,9,68] ?_;refine au ?_ ?_<;>intro cW ek
 ·have hD:(ax t s.aj).2≠0:=(by simpa using cW)
  have aV:hU t s=(t,0,(ax t s.aj).2):=(by unfold hU;rw[if_neg hA,if_neg U,if_neg hC,if_pos hD])
  exact wT
 have hD:¬(ax t s.aj).2≠0:=(by simpa using cW)
 refine bY ?_;refine bg [0,3,6,9,10] ?_;refine af [0,3,6,9,10,70,71,72] ?_;refine eK [0,3,6,9,70,71] (fun aW _ (E:Nat×List Vl×Option Addr×Nat×List ah) aI=>match E with|(k,acc,dQ,dc,Sx)=>(k≤(ax t s.aj).1.length)∧((acc).length=k)∧((iS t (bM t.az s.set) s.bU [] (ax t s.aj).1)=iS t (bM t.az s.set) s.bU acc ((ax t s.aj).1.drop k))∧(bz 41 3 ((acc).flatMap cV) (acc).length dQ dc Sx)∧aI=(⟨205,(10,aR dQ (acc).length dc)::(72,ae (k:Nat))::aW,(⟨b3,32,12,bI s⟩::⟨bt,53,pZ,pre++([bn t.nm,av 2 cC t.az,aR ad t.rows.length cap,av 5 cP t.ix.ag,ae t.ix.root]++post)⟩::(Sr++(Sx++L.flatMap bR)))⟩:St)) (fun (E:Nat×List Vl×Option Addr×Nat×List ah)=>match E with|(k,acc,dQ,dc,Sx)=>(ax t s.aj).1.length-k) (0,([]:List Vl),none,0,[]) ⟨(Nat.zero_le _),rfl,rfl,iI,rfl⟩ ?_;rintro⟨k,acc,dQ,dc,Sx⟩ _ ⟨hk,ri,Ab,ec,rfl⟩;refine af [0,3,6,9,10,70,71,72,73] ?_;refine au ?_ ?_<;>intro eA fA
 ·have aa:k<(ax t s.aj).1.length:=(by omega)
  have jv:(ax t s.aj).1.drop k=((ax t s.aj).1[k]'aa)::(ax t s.aj).1.drop (k+1):=drop_eq_getElem_cons aa;have rK:gA t ((ax t s.aj).1[k]'aa):=mu _ (getElem_mem aa);obtain⟨gD,O,nR⟩:=id rK;have gd:((ax t s.aj).1[k]'aa).toNat<L.length:=(by rw[rH];exact O)
  obtain⟨br,rfl,um,uo,rfl⟩:=kE.pos w4;have vQ:L[((ax t s.aj).1[k]'aa).toNat].r=rowAt t ((ax t s.aj).1[k]'aa):=(by rw[jk O];exact(Gf hL gd O))
  obtain⟨XT,DL⟩:=gA.ok g rK;have Ls:=Sk (G:=G) hm hw ht t.az xx xw L[((ax t s.aj).1[k]'aa).toNat].r (by rw[vQ];omega) (by rw[vQ];exact fun v hv=>(DL v hv).1) s.bU qJ Gg;rw[show fw t.az L[((ax t s.aj).1[k]'aa).toNat].r s.bU=(fw t.az (rowAt t ((ax t s.aj).1[k]'aa)) s.bU) from by rw[vQ]] at Ls;unfold mU at Ls;refine af [0,3,6,9,10,12,70,71,72] ?_;refine CD.seq ?_;refine ug 18 17 [0,3,6,9,10,13,70,71,72,91,92] ?_;refine aU 3 ?_ (h:=by exact(oD 1));refine aU 3 ?_ (h:=by exact(oD 1));refine aU 1 ?_ (h:=by exact(dm 1 (h:=by first|exact .l (j:=((ax t s.aj).1[k]'aa).toNat) (Int.toNat_of_nonneg gD).symm O|exact .r (j:=((ax t s.aj).1[k]'aa).toNat) (Int.toNat_of_nonneg gD).symm O)));refine aU 0 ?_ (h:=by exact(cR (mk:=Op.load 28) rfl ot (ja (k:=2) (i:=((ax t s.aj).1[k]'aa).toNat) (ls:=L) uV rfl rfl rfl isAgg28 gd rfl)));refine mS 2 ?_;refine wZ (Ls) (ha:=by exact⟨⟨_,ot,eU⟩,⟨_,ot,(Rg aT gd (fun B U=>by repeat (first|exact U|apply mem_append_right|apply mem_cons_of_mem)))⟩,⟨_,ot,eU⟩,trivial⟩) (K:=?_);refine mS 3 ?_;refine rC ?_;refine jJ ?_;refine⟨rfl,fun mr=>?_⟩;refine aP 0 [_,_,_] sizeOf41 ?_;refine an 205 [0,3,6,9,10,13,14,70,71,72] ?_;refine af [0,3,6,9,10,13,14,70,71,72,94] ?_;refine au ?_ ?_<;>intro fx gG
  ·have hE:(fw t.az (rowAt t ((ax t s.aj).1[k]'aa)) s.bU).2≠0:=(by simpa using fx)
   have iX:(iS t (bM t.az s.set) s.bU [] (ax t s.aj).1)=([],(fw t.az (rowAt t ((ax t s.aj).1[k]'aa)) s.bU).2):=(by rw[Ab,jv,iS,if_pos hE])
   have aV:hU t s=(t,0,(fw t.az (rowAt t ((ax t s.aj).1[k]'aa)) s.bU).2):=(by unfold hU;rw[if_neg hA,if_neg U,if_neg hC,if_neg hD,iX,if_pos hE])
   exact wT
  have hE:¬(fw t.az (rowAt t ((ax t s.aj).1[k]'aa)) s.bU).2≠0:=(by simpa using fx)
  refine CD.skip ?_;refine jV [0,3,6,9,10,13,70,71,72] (fun aW ux aI=>((iS t (bM t.az s.set) s.bU [] (ax t s.aj).1)=iS t (bM t.az s.set) s.bU (acc++[(fw t.az (rowAt t ((ax t s.aj).1[k]'aa)) s.bU).1]) ((ax t s.aj).1.drop (k+1)))∧aI=(⟨205,aW,ux⟩:St)) ?_ ?_
  ·refine aD 3 ?_;refine bX 98 (fun zf FD=>?_) (fun zf FD=>?_)
   ·refine bg [0,3,6,9,10,13,70,71,72,102] ?_;refine au ?_ ?_<;>intro gX kO
    ·have hF:(bM t.az s.set)=0∧(fw t.az (rowAt t ((ax t s.aj).1[k]'aa)) s.bU).1.k=0:=⟨FD,by simpa using gX⟩
     have iX:(iS t (bM t.az s.set) s.bU [] (ax t s.aj).1)=([],4):=(by rw[Ab,jv,iS,if_neg hE,if_pos hF])
     have aV:hU t s=(t,0,4):=(by unfold hU;rw[if_neg hA,if_neg U,if_neg hC,if_neg hD,iX,if_pos w7])
     exact wT
    exact Wo
   refine bg [0,3,6,9,10,13,70,71,72,102] ?_;refine fT ?_;exact Wo
  rintro _ ⟨nO,rfl⟩;refine dN 2 ?_;refine ez (cf 0 [_]) [.int .i64 0,.int .i64 0,.string ⟨#[]⟩] [_,_,_] zeroValue41 runUnderlying28 sizeOf41 (fun ao6=>?_);refine fP 0 105 3 1 ?_;refine OD.ew (ls:=acc) (new:=[(fw t.az (rowAt t ((ax t s.aj).1[k]'aa)) s.bU).1]) (Sq:=Sx) fq E7 ap rfl rfl underlying28 ZA rfl w7 ot ec (s8 (A:=[_,_,_]) (S1:=[⟨br,28,cap*1,L.flatMap gR⟩]) (S2:=Sx) (S3:=L.flatMap bR)) ot bu nq nr (fun Lu Ku aha ahb=>?_);refine OD.perm (vY (S2:=[⟨Lu,41,Ku*3,flatMap cV (acc++[(fw t.az (rowAt t ((ax t s.aj).1[k]'aa)) s.bU).1])⟩]) (A:=[_,_,_])) ?_;refine an 205 [0,3,6,9,10,70,71,72] ?_;refine cm [0,3,6,9,10,70,71,72] ?_;refine⟨((k+1),(acc++[(fw t.az (rowAt t ((ax t s.aj).1[k]'aa)) s.bU).1]),(some ⟨Lu,0,none⟩),Ku,[⟨Lu,41,Ku*3,flatMap cV (acc++[(fw t.az (rowAt t ((ax t s.aj).1[k]'aa)) s.bU).1])⟩]),_,cD,aQ,w4,Cm,nO,(bF aha ahb),rfl⟩
 have DM:(iS t (bM t.az s.set) s.bU [] (ax t s.aj).1)=(acc,0):=(by rw[Ab,drop_of_length_le w4];rfl)
 have hN:¬(iS t (bM t.az s.set) s.bU [] (ax t s.aj).1).2≠0:=(by rw[DM];exact fun h=>h rfl)
 have qF:acc.length=(ax t s.aj).1.length:=(by omega)
 have VL:=IP g qJ Gg (c:=(bM t.az s.set)) (by rw[←g.az];exact Classical.not_not.1 U) (ax t s.aj).1 [] mu (Classical.not_not.1 hN) (fun v hv=>by cases hv);rw[DM] at VL;have hl4:∀i∈(ax t s.aj).1,∃h:i.toNat<L.length,L[i.toNat].r.length=4:=fun i hi=>by obtain⟨h0,h1,h2⟩:=mu i hi;have:=(gA.ok g (mu i hi)).1;rw[jk h1] at this;exact⟨by omega,by rw[Gf hL w4 h1];exact this⟩
 have hl5:∀i∈(ax t s.aj).1,∃h:i.toNat<L.length,Pc.en dM L[i.toNat].r=0∧∀v∈L[i.toNat].r,v.Ok:=fun i hi=>by obtain⟨h0,h1,h2⟩:=mu i hi;obtain⟨p1,p2,_⟩:=g.row _ h1 h2;exact⟨by omega,by rw[Gf hL w4 h1];exact⟨p1,p2⟩⟩
 refine CD.exit ?_;refine CD.seq ?_;refine CD.seq ?_;refine CD.ij (t:=10) (Sq:=Sx) lk ec (cn fq _) (s8 (A:=[_,_])) ?_;refine sX ?_;refine bg [0,6,9,10,109] ?_;refine au ?_ ?_<;>intro gv lp
 ·have hP:0<(bM t.az s.set):=(by simpa using gv)
  refine af [0,6,9,10,110,111,112] ?_;refine eK [0,6,9,10,110,111] (fun aW _ (E:Nat×List cl) aI=>match E with|(k,M)=>(k≤(ax t s.aj).1.length)∧(mK (bM t.az s.set).toNat {t with rows:=M.map cl.r} ((ax t s.aj).1.drop k) (acc.drop k)=mK (bM t.az s.set).toNat t (ax t s.aj).1 acc)∧(∀o∈M,nQ o)∧(sG M ad cap Sr)∧(M.length=t.rows.length)∧(∀i∈(ax t s.aj).1,∃h:i.toNat<M.length,M[i.toNat].r.length=4)∧aI=(⟨205,(112,ae (k:Nat))::aW,(⟨b3,32,12,bI s⟩::⟨bt,53,pZ,pre++([bn t.nm,av 2 cC t.az,aR ad t.rows.length cap,av 5 cP t.ix.ag,ae t.ix.root]++post)⟩::(Sr++M.flatMap bR))⟩:St)) (fun (E:Nat×List cl)=>match E with|(k,M)=>(ax t s.aj).1.length-k) (0,L) ⟨(Nat.zero_le _),(by rw[hL];rfl),aT,kE,rH,hl4,rfl⟩ ?_;rintro⟨k,M⟩ _ ⟨dO,VM,Z,vO,xu,XV,rfl⟩;refine af [0,6,9,10,110,111,112,113] ?_;refine au ?_ ?_<;>intro pQ F1
  ·have aa:k<(ax t s.aj).1.length:=(by omega)
   have dA:k<acc.length:=(by omega)
   have jv:(ax t s.aj).1.drop k=((ax t s.aj).1[k]'aa)::(ax t s.aj).1.drop (k+1):=drop_eq_getElem_cons aa;have lC:acc.drop k=(acc[k]'dA)::acc.drop (k+1):=drop_eq_getElem_cons dA;obtain⟨gD,O,nR⟩:=mu _ (getElem_mem aa);obtain⟨gd,rL⟩:=XV _ (getElem_mem aa);obtain⟨br,rfl,um,uo,rfl⟩:=vO.pos w4;obtain⟨I,ya,Cq,DN,NF⟩:=(Z _ (getElem_mem gd)).pos w4;have jQ:∀o∈(M.set ((ax t s.aj).1[k]'aa).toNat (⟨M[((ax t s.aj).1[k]'aa).toNat].r.set (bM t.az s.set).toNat (acc[k]'dA),some ⟨I,0,none⟩,M[((ax t s.aj).1[k]'aa).toNat].cap,[⟨I,41,M[((ax t s.aj).1[k]'aa).toNat].cap*3,(M[((ax t s.aj).1[k]'aa).toNat].r.set (bM t.az s.set).toNat (acc[k]'dA)).flatMap cV⟩]⟩:cl)),nQ o:=fun o ho=>by rcases mem_or_eq_of_mem_set ho with h|h;exact Z o h;rw[h];exact bF (g:=cV) Gt DN
   have NG:(M.set ((ax t s.aj).1[k]'aa).toNat (⟨M[((ax t s.aj).1[k]'aa).toNat].r.set (bM t.az s.set).toNat (acc[k]'dA),some ⟨I,0,none⟩,M[((ax t s.aj).1[k]'aa).toNat].cap,[⟨I,41,M[((ax t s.aj).1[k]'aa).toNat].cap*3,(M[((ax t s.aj).1[k]'aa).toNat].r.set (bM t.az s.set).toNat (acc[k]'dA)).flatMap cV⟩]⟩:cl)).flatMap gR=M.flatMap gR:=Jz M _ gd _ (by show[D.v (.slice _ (M[((ax t s.aj).1[k]'aa).toNat].r.set (bM t.az s.set).toNat (acc[k]'dA)).length _)]=[D.v (.slice _ _ _)];rw[length_set,ya]);have Ci:sG (M.set ((ax t s.aj).1[k]'aa).toNat (⟨M[((ax t s.aj).1[k]'aa).toNat].r.set (bM t.az s.set).toNat (acc[k]'dA),some ⟨I,0,none⟩,M[((ax t s.aj).1[k]'aa).toNat].cap,[⟨I,41,M[((ax t s.aj).1[k]'aa).toNat].cap*3,(M[((ax t s.aj).1[k]'aa).toNat].r.set (bM t.az s.set).toNat (acc[k]'dA)).flatMap cV⟩]⟩:cl)) (some ⟨br,0,none⟩) cap [⟨br,28,cap*1,M.flatMap gR⟩]:=(by rw[←NG];exact bF (by rw[length_set];exact um) uo)
   have ajR:∀i∈(ax t s.aj).1,∃h:i.toNat<(M.set ((ax t s.aj).1[k]'aa).toNat (⟨M[((ax t s.aj).1[k]'aa).toNat].r.set (bM t.az s.set).toNat (acc[k]'dA),some ⟨I,0,none⟩,M[((ax t s.aj).1[k]'aa).toNat].cap,[⟨I,41,M[((ax t s.aj).1[k]'aa).toNat].cap*3,(M[((ax t s.aj).1[k]'aa).toNat].r.set (bM t.az s.set).toNat (acc[k]'dA)).flatMap cV⟩]⟩:cl)).length,(M.set ((ax t s.aj).1[k]'aa).toNat (⟨M[((ax t s.aj).1[k]'aa).toNat].r.set (bM t.az s.set).toNat (acc[k]'dA),some ⟨I,0,none⟩,M[((ax t s.aj).1[k]'aa).toNat].cap,[⟨I,41,M[((ax t s.aj).1[k]'aa).toNat].cap*3,(M[((ax t s.aj).1[k]'aa).toNat].r.set (bM t.az s.set).toNat (acc[k]'dA)).flatMap cV⟩]⟩:cl))[i.toNat].r.length=4:=fun i hi=>by obtain⟨h1,h2⟩:=XV i hi;refine⟨by rw[length_set];exact h1,?_⟩;rw[getElem_set];split;(show(M[((ax t s.aj).1[k]'aa).toNat].r.set (bM t.az s.set).toNat (acc[k]'dA)).length=4;rw[length_set];exact rL);exact h2
   have ahc:mK (bM t.az s.set).toNat {t with rows:=(M.set ((ax t s.aj).1[k]'aa).toNat (⟨M[((ax t s.aj).1[k]'aa).toNat].r.set (bM t.az s.set).toNat (acc[k]'dA),some ⟨I,0,none⟩,M[((ax t s.aj).1[k]'aa).toNat].cap,[⟨I,41,M[((ax t s.aj).1[k]'aa).toNat].cap*3,(M[((ax t s.aj).1[k]'aa).toNat].r.set (bM t.az s.set).toNat (acc[k]'dA)).flatMap cV⟩]⟩:cl)).map cl.r} ((ax t s.aj).1.drop (k+1)) (acc.drop (k+1))=mK (bM t.az s.set).toNat t (ax t s.aj).1 acc:=(by rw[←VM,jv,lC,mK];congr 1;exact(S8 (x:=t.ix) gd rfl).symm)
   refine CD.perm (Rh gd NF) ?_;refine af [0,6,9,10,15,16,110,111,112] ?_;refine mg 12 [0,6,9,10,110,111,112,123,124,128] ?_;refine aU 3 ?_ (h:=by exact(oD 2));refine aU 1 ?_ (h:=by exact(dm 1 (h:=by first|exact .l (j:=((ax t s.aj).1[k]'aa).toNat) (Int.toNat_of_nonneg gD).symm vw|exact .r (j:=((ax t s.aj).1[k]'aa).toNat) (Int.toNat_of_nonneg gD).symm vw)));refine aU 0 ?_ (h:=by exact(cR (mk:=Op.load 28) rfl ot (ja (k:=3) (i:=((ax t s.aj).1[k]'aa).toNat) (ls:=M) (d:=aR (some ⟨I,0,none⟩) M[((ax t s.aj).1[k]'aa).toNat].r.length M[((ax t s.aj).1[k]'aa).toNat].cap) uV rfl rfl rfl isAgg28 gd (by rw[←ya];rfl))));refine bG ?_;refine bH (dm 3 (h:=by first|exact .l (j:=(bM t.az s.set).toNat) (Int.toNat_of_nonneg w4).symm (by rw[rL];omega)|exact .r (j:=(bM t.az s.set).toNat) (Int.toNat_of_nonneg w4).symm (by rw[rL];omega))) ?_;refine OD.storeAt (k:=0) (cs':=(M[((ax t s.aj).1[k]'aa).toNat].r.set (bM t.az s.set).toNat (acc[k]'dA)).flatMap cV) ap rfl rfl ot rfl rfl ot rfl rfl sizeOf41 rfl (by show 0+(bM t.az s.set).toNat*3+3≤(M[((ax t s.aj).1[k]'aa).toNat].r.flatMap cV).length;rw[cn fq,rL];omega) (by show dh (M[((ax t s.aj).1[k]'aa).toNat].r.flatMap cV) (0+(bM t.az s.set).toNat*3) (cV (acc[k]'dA))=_;rw[Nat.zero_add];exact oI fq _ _ (by rw[rL];omega)) ?_;refine an 205 [0,6,9,10,110,111,112] ?_;refine dN 1 ?_
   refine OD.perm (S6 gd (o:=(⟨M[((ax t s.aj).1[k]'aa).toNat].r.set (bM t.az s.set).toNat (acc[k]'dA),some ⟨I,0,none⟩,M[((ax t s.aj).1[k]'aa).toNat].cap,[⟨I,41,M[((ax t s.aj).1[k]'aa).toNat].cap*3,(M[((ax t s.aj).1[k]'aa).toNat].r.set (bM t.az s.set).toNat (acc[k]'dA)).flatMap cV⟩]⟩:cl)) rfl) ?_;refine an 205 [0,6,9,10,110,111,112] ?_;refine⟨((k+1),(M.set ((ax t s.aj).1[k]'aa).toNat (⟨M[((ax t s.aj).1[k]'aa).toNat].r.set (bM t.az s.set).toNat (acc[k]'dA),some ⟨I,0,none⟩,M[((ax t s.aj).1[k]'aa).toNat].cap,[⟨I,41,M[((ax t s.aj).1[k]'aa).toNat].cap*3,(M[((ax t s.aj).1[k]'aa).toNat].r.set (bM t.az s.set).toNat (acc[k]'dA)).flatMap cV⟩]⟩:cl))),_,cD,aQ,w4,ahc,jQ,Ci,(by rw[length_set];exact xu),ajR,rfl⟩
  have ahd:mK (bM t.az s.set).toNat t (ax t s.aj).1 acc={t with rows:=M.map cl.r}:=(by rw[←VM,drop_of_length_le (l:=(ax t s.aj).1) w4,acI])
  have aV:hU t s=({t with rows:=M.map cl.r},((ax t s.aj).1.length:Int),0):=(by unfold hU;rw[if_neg hA,if_neg U,if_neg hC,if_neg hD,if_neg hN,if_pos hP,DM,ahd])
  refine af [4,5] ?_;refine aJ (⟨bt,53,pZ,pre++(_++post)⟩::(Sr++M.flatMap bR)) ?_;rw[aV];exact⟨rfl,fun _=>⟨M,ad,cap,Sr,⟨rfl,Z,vO⟩,by simp only[tC,length_map,xu]⟩⟩
 have hP:¬0<(bM t.az s.set):=(by simpa using gv)
 have yc:(bM t.az s.set)=0:=(by omega)
 refine af [0,9,10,133,134,135] ?_;refine eK [0,9,10,133,134] (fun aW _ (E:Nat×aF) aI=>match E with|(k,x)=>(k≤(ax t s.aj).1.length)∧(og t x ((ax t s.aj).1.drop k)=og t t.ix (ax t s.aj).1)∧(iL x n)∧(∀i∈(ax t s.aj).1.drop k,(c9 (rowAt t i),i)∈eE x)∧aI=(⟨205,(135,ae (k:Nat))::aW,(⟨b3,32,12,bI s⟩::⟨bt,53,pZ,pre++([bn t.nm,av 2 cC t.az,aR ad t.rows.length cap,av 5 cP x.ag,ae x.root]++post)⟩::(Sr++L.flatMap bR))⟩:St)) (fun (E:Nat×aF)=>match E with|(k,x)=>(ax t s.aj).1.length-k) (0,t.ix) ⟨(Nat.zero_le _),rfl,g.ix,(fun i hi=>(mu i hi).iZ g),rfl⟩ ?_;rintro⟨k,x⟩ _ ⟨fi,Lv,gx,xV,rfl⟩;refine af [0,9,10,133,134,135,136] ?_;refine au ?_ ?_<;>intro C2 K7
 ·have aa:k<(ax t s.aj).1.length:=(by omega)
  have jv:(ax t s.aj).1.drop k=((ax t s.aj).1[k]'aa)::(ax t s.aj).1.drop (k+1):=drop_eq_getElem_cons aa;have rK:gA t ((ax t s.aj).1[k]'aa):=mu _ (getElem_mem aa);obtain⟨gD,O,nR⟩:=id rK;have gd:((ax t s.aj).1[k]'aa).toNat<L.length:=(by rw[rH];exact O)
  obtain⟨br,rfl,um,uo,rfl⟩:=kE.pos w4;have vQ:L[((ax t s.aj).1[k]'aa).toNat].r=rowAt t ((ax t s.aj).1[k]'aa):=(by rw[jk O];exact(Gf hL gd O))
  obtain⟨XT,DL⟩:=gA.ok g rK;have VN:=JT (G:=G) hG L[((ax t s.aj).1[k]'aa).toNat].r (by rw[vQ];omega) (by rw[vQ];omega) (by rw[vQ];exact fun v hv=>(DL v hv).1);rw[show c9 L[((ax t s.aj).1[k]'aa).toNat].r=c9 (rowAt t ((ax t s.aj).1[k]'aa)) from by rw[vQ]] at VN;have iW:=xV _ (by rw[jv];exact mem_cons_self);have XW:=IJ gx ((AL gx.val _).2 ⟨_,iW⟩);have x9:=Q3 (G:=G) gx (c9 (rowAt t ((ax t s.aj).1[k]'aa)));rw[SK gx (wm (by rw[jk O];exact(g.row _ O nR).1)) ((AM gx _).2 ⟨_,iW⟩)] at x9;unfold Tw.cT at x9;have ahe:og t (gK x (dK x) (c9 (rowAt t ((ax t s.aj).1[k]'aa)))) ((ax t s.aj).1.drop (k+1))=og t t.ix (ax t s.aj).1:=(by rw[←Lv,jv];rfl)
  have ajS:∀i∈(ax t s.aj).1.drop (k+1),(c9 (rowAt t i),i)∈eE (gK x (dK x) (c9 (rowAt t ((ax t s.aj).1[k]'aa)))):=fun i hi=>by refine(XW.2 _).2 ⟨xV i (by rw[jv];exact mem_cons_of_mem _ hi),fun e=>?_⟩;have h9:=hnd.sublist (drop_sublist k _);rw[jv,nodup_cons] at h9;have h8:=Jv g.ix ((mu i (mem_of_mem_drop hi)).iZ g) (rK.iZ g) e;simp only[Prod.mk.injEq] at h8;exact h9.1 (h8.2 ▸ hi)
  refine af [0,9,10,18,133,134,135] ?_;refine mg 17 [0,9,10,133,134,135,140,154] ?_;refine aU 4 ?_ (h:=by exact(xn 1));refine aU 3 ?_ (h:=by exact(oD 1));refine aU 1 ?_ (h:=by exact(dm 1 (h:=by first|exact .l (j:=((ax t s.aj).1[k]'aa).toNat) (Int.toNat_of_nonneg gD).symm O|exact .r (j:=((ax t s.aj).1[k]'aa).toNat) (Int.toNat_of_nonneg gD).symm O)));refine aU 0 ?_ (h:=by exact(cR (mk:=Op.load 28) rfl ot (ja (k:=2) (i:=((ax t s.aj).1[k]'aa).toNat) (ls:=L) uV rfl rfl rfl isAgg28 gd rfl)));refine zm (VN) (fun r S h=>h.flat) (fun r S h=>h.view) (ha:=by exact⟨⟨_,ot,(Rg aT gd (fun B U=>by repeat (first|exact U|apply mem_append_right|apply mem_cons_of_mem)))⟩,trivial⟩) (K:=?_);refine de (x9) ?_;refine bG ?_;refine aE 2 ?_;refine OD.storeAt (k:=1) (cs':=pre++([bn t.nm,av 2 cC t.az,aR (some ⟨br,0,none⟩) t.rows.length cap,.list 5 ((gK x (dK x) (c9 (rowAt t ((ax t s.aj).1[k]'aa)))).ag.flatMap cP) (gK x (dK x) (c9 (rowAt t ((ax t s.aj).1[k]'aa)))).ag.length,ae (gK x (dK x) (c9 (rowAt t ((ax t s.aj).1[k]'aa)))).root]++post)) ap rfl rfl ot rfl rfl ot rfl rfl sizeOf51 rfl (by show off+3+2≤(pre++(([bn t.nm,av 2 cC t.az,aR (some ⟨br,0,none⟩) t.rows.length cap,av 5 cP x.ag,ae x.root]:List D)++post)).length;simp only[length_append,length_cons,length_nil];omega) (by exact A9 (j:=3) hp aS rfl) ?_;refine an 205 [0,9,10,133,134,135] ?_
  refine cm [0,9,10,133,134,135] ?_;refine⟨((k+1),(gK x (dK x) (c9 (rowAt t ((ax t s.aj).1[k]'aa))))),_,cD,aQ,w4,ahe,XW.1,ajS,rfl⟩
 have xZ:og t t.ix (ax t s.aj).1=x:=(by rw[←Lv,drop_of_length_le w4];rfl)
 clear Lv xV;skip;refine af [0,9,10,159,160,161] ?_;refine eK [0,9,10,159,160] (fun aW _ (E:Nat×List cl×aF) aI=>match E with|(k,M,y)=>(k≤(ax t s.aj).1.length)∧(kC {t with rows:=M.map cl.r,ix:=y} ((ax t s.aj).1.drop k) (acc.drop k)=kC {t with ix:=og t t.ix (ax t s.aj).1} (ax t s.aj).1 acc)∧(∀o∈M,nQ o)∧(sG M ad cap Sr)∧(M.length=t.rows.length)∧(∀i∈(ax t s.aj).1,∃h:i.toNat<M.length,Pc.en dM M[i.toNat].r=0∧∀v∈M[i.toNat].r,v.Ok)∧(iL y (n+k))∧aI=(⟨205,(161,ae (k:Nat))::aW,(⟨b3,32,12,bI s⟩::⟨bt,53,pZ,pre++([bn t.nm,av 2 cC t.az,aR ad t.rows.length cap,av 5 cP y.ag,ae y.root]++post)⟩::(Sr++M.flatMap bR))⟩:St)) (fun (E:Nat×List cl×aF)=>match E with|(k,M,y)=>(ax t s.aj).1.length-k) (0,L,x) ⟨(Nat.zero_le _),(by rw[hL,xZ];rfl),aT,kE,rH,hl5,gx,rfl⟩ ?_;rintro⟨k,M,y⟩ _ ⟨dO,At,Z,vO,xu,XX,gy,rfl⟩;refine af [0,9,10,159,160,161,162] ?_;refine au ?_ ?_<;>intro FL Bm
 ·have aa:k<(ax t s.aj).1.length:=(by omega)
  have dA:k<acc.length:=(by omega)
  have jv:(ax t s.aj).1.drop k=((ax t s.aj).1[k]'aa)::(ax t s.aj).1.drop (k+1):=drop_eq_getElem_cons aa;have lC:acc.drop k=(acc[k]'dA)::acc.drop (k+1):=drop_eq_getElem_cons dA;obtain⟨gD,O,nR⟩:=mu _ (getElem_mem aa);obtain⟨gd,XY,hx6⟩:=XX _ (getElem_mem aa);have rL:=pE XY;obtain⟨ajT,VO,ajU⟩:=VL _ (getElem_mem dA);have x8:(acc[k]'dA).k≠0∧jO (dM[0]'w7).k (acc[k]'dA):=(by have h1:=ajU yc;refine⟨h1,VO.1,?_⟩;have h2:=VO.2;have ajV:bM dM s.set=0:=(by rw[←g.az];exact yc);have XZ:=hC;simp only[g.az,ajV] at XZ;have h3:(ey dM s.bU).1=(dM[0]'w7).k∨(ey dM s.bU).1=0:=(Classical.em ((ey dM s.bU).1=(dM[0]'w7).k)).imp id fun h=>Classical.not_not.1 fun h'=>XZ ⟨h,h'⟩;omega)
  obtain⟨br,rfl,um,uo,rfl⟩:=vO.pos w4;obtain⟨I,ya,Cq,DN,NF⟩:=(Z _ (getElem_mem gd)).pos w4;have jQ:∀o∈(M.set ((ax t s.aj).1[k]'aa).toNat (⟨M[((ax t s.aj).1[k]'aa).toNat].r.set 0 (acc[k]'dA),some ⟨I,0,none⟩,M[((ax t s.aj).1[k]'aa).toNat].cap,[⟨I,41,M[((ax t s.aj).1[k]'aa).toNat].cap*3,(M[((ax t s.aj).1[k]'aa).toNat].r.set 0 (acc[k]'dA)).flatMap cV⟩]⟩:cl)),nQ o:=fun o ho=>by rcases mem_or_eq_of_mem_set ho with h|h;exact Z o h;rw[h];exact bF (g:=cV) Gt DN
  have NG:(M.set ((ax t s.aj).1[k]'aa).toNat (⟨M[((ax t s.aj).1[k]'aa).toNat].r.set 0 (acc[k]'dA),some ⟨I,0,none⟩,M[((ax t s.aj).1[k]'aa).toNat].cap,[⟨I,41,M[((ax t s.aj).1[k]'aa).toNat].cap*3,(M[((ax t s.aj).1[k]'aa).toNat].r.set 0 (acc[k]'dA)).flatMap cV⟩]⟩:cl)).flatMap gR=M.flatMap gR:=Jz M _ gd _ (by show[D.v (.slice _ (M[((ax t s.aj).1[k]'aa).toNat].r.set 0 (acc[k]'dA)).length _)]=[D.v (.slice _ _ _)];rw[length_set,ya]);have Ci:sG (M.set ((ax t s.aj).1[k]'aa).toNat (⟨M[((ax t s.aj).1[k]'aa).toNat].r.set 0 (acc[k]'dA),some ⟨I,0,none⟩,M[((ax t s.aj).1[k]'aa).toNat].cap,[⟨I,41,M[((ax t s.aj).1[k]'aa).toNat].cap*3,(M[((ax t s.aj).1[k]'aa).toNat].r.set 0 (acc[k]'dA)).flatMap cV⟩]⟩:cl)) (some ⟨br,0,none⟩) cap [⟨br,28,cap*1,M.flatMap gR⟩]:=(by rw[←NG];exact bF (by rw[length_set];exact um) uo)
  have UA:Pc.en dM (M[((ax t s.aj).1[k]'aa).toNat].r.set 0 (acc[k]'dA))=0:=S5 XY w7 x8.2 (fun _=>x8.1);have xm:∀v∈M[((ax t s.aj).1[k]'aa).toNat].r.set 0 (acc[k]'dA),v.Ok:=fun v hv=>by rcases mem_or_eq_of_mem_set hv with h|h;exact hx6 v h;rw[h];exact ajT
  have ajW:∀i∈(ax t s.aj).1,∃h:i.toNat<(M.set ((ax t s.aj).1[k]'aa).toNat (⟨M[((ax t s.aj).1[k]'aa).toNat].r.set 0 (acc[k]'dA),some ⟨I,0,none⟩,M[((ax t s.aj).1[k]'aa).toNat].cap,[⟨I,41,M[((ax t s.aj).1[k]'aa).toNat].cap*3,(M[((ax t s.aj).1[k]'aa).toNat].r.set 0 (acc[k]'dA)).flatMap cV⟩]⟩:cl)).length,Pc.en dM (M.set ((ax t s.aj).1[k]'aa).toNat (⟨M[((ax t s.aj).1[k]'aa).toNat].r.set 0 (acc[k]'dA),some ⟨I,0,none⟩,M[((ax t s.aj).1[k]'aa).toNat].cap,[⟨I,41,M[((ax t s.aj).1[k]'aa).toNat].cap*3,(M[((ax t s.aj).1[k]'aa).toNat].r.set 0 (acc[k]'dA)).flatMap cV⟩]⟩:cl))[i.toNat].r=0∧∀v∈(M.set ((ax t s.aj).1[k]'aa).toNat (⟨M[((ax t s.aj).1[k]'aa).toNat].r.set 0 (acc[k]'dA),some ⟨I,0,none⟩,M[((ax t s.aj).1[k]'aa).toNat].cap,[⟨I,41,M[((ax t s.aj).1[k]'aa).toNat].cap*3,(M[((ax t s.aj).1[k]'aa).toNat].r.set 0 (acc[k]'dA)).flatMap cV⟩]⟩:cl))[i.toNat].r,v.Ok:=fun i hi=>by obtain⟨h1,h2⟩:=XX i hi;refine⟨by rw[length_set];exact h1,?_⟩;rw[getElem_set];split;exact⟨UA,xm⟩;exact h2
  have dY:=wm UA;have VQ:=JT (G:=G) hG (M[((ax t s.aj).1[k]'aa).toNat].r.set 0 (acc[k]'dA)) vv vv xm;have DO:=Q2 (G:=G) gy (c9 (M[((ax t s.aj).1[k]'aa).toNat].r.set 0 (acc[k]'dA))) ((ax t s.aj).1[k]'aa);unfold Tw.cT at DO
  have VR:kC {t with ix:=og t t.ix (ax t s.aj).1} (ax t s.aj).1 acc=if iy y (c9 (M[((ax t s.aj).1[k]'aa).toNat].r.set 0 (acc[k]'dA))) (dK y)=true then ({t with rows:=M.map cl.r,ix:=y},9) else kC {t with rows:=(M.set ((ax t s.aj).1[k]'aa).toNat (⟨M[((ax t s.aj).1[k]'aa).toNat].r.set 0 (acc[k]'dA),some ⟨I,0,none⟩,M[((ax t s.aj).1[k]'aa).toNat].cap,[⟨I,41,M[((ax t s.aj).1[k]'aa).toNat].cap*3,(M[((ax t s.aj).1[k]'aa).toNat].r.set 0 (acc[k]'dA)).flatMap cV⟩]⟩:cl)).map cl.r,ix:=(gJ y (dK y) (c9 (M[((ax t s.aj).1[k]'aa).toNat].r.set 0 (acc[k]'dA))) ((ax t s.aj).1[k]'aa))} ((ax t s.aj).1.drop (k+1)) (acc.drop (k+1)):=by rw[←At,jv,lC,kC,S8 (o:=(⟨M[((ax t s.aj).1[k]'aa).toNat].r.set 0 (acc[k]'dA),some ⟨I,0,none⟩,M[((ax t s.aj).1[k]'aa).toNat].cap,[⟨I,41,M[((ax t s.aj).1[k]'aa).toNat].cap*3,(M[((ax t s.aj).1[k]'aa).toNat].r.set 0 (acc[k]'dA)).flatMap cV⟩]⟩:cl)) gd rfl,PJ rq,show((M.set ((ax t s.aj).1[k]'aa).toNat (⟨M[((ax t s.aj).1[k]'aa).toNat].r.set 0 (acc[k]'dA),some ⟨I,0,none⟩,M[((ax t s.aj).1[k]'aa).toNat].cap,[⟨I,41,M[((ax t s.aj).1[k]'aa).toNat].cap*3,(M[((ax t s.aj).1[k]'aa).toNat].r.set 0 (acc[k]'dA)).flatMap cV⟩]⟩:cl))[((ax t s.aj).1[k]'aa).toNat]'rq)=(⟨M[((ax t s.aj).1[k]'aa).toNat].r.set 0 (acc[k]'dA),some ⟨I,0,none⟩,M[((ax t s.aj).1[k]'aa).toNat].cap,[⟨I,41,M[((ax t s.aj).1[k]'aa).toNat].cap*3,(M[((ax t s.aj).1[k]'aa).toNat].r.set 0 (acc[k]'dA)).flatMap cV⟩]⟩:cl) from getElem_set_self _]
  refine CD.perm (Rh gd NF) ?_;refine af [0,9,10,19,20,159,160,161] ?_;refine CD.seq ?_;refine mg 11 [0,9,10,20,159,160,161,172,176] ?_;refine aU 3 ?_ (h:=by exact(oD 2));refine aU 1 ?_ (h:=by exact(dm 1 (h:=by first|exact .l (j:=((ax t s.aj).1[k]'aa).toNat) (Int.toNat_of_nonneg gD).symm vw|exact .r (j:=((ax t s.aj).1[k]'aa).toNat) (Int.toNat_of_nonneg gD).symm vw)));refine aU 0 ?_ (h:=by exact(cR (mk:=Op.load 28) rfl ot (ja (k:=3) (i:=((ax t s.aj).1[k]'aa).toNat) (ls:=M) (d:=aR (some ⟨I,0,none⟩) M[((ax t s.aj).1[k]'aa).toNat].r.length M[((ax t s.aj).1[k]'aa).toNat].cap) uV rfl rfl rfl isAgg28 gd (by rw[←ya];rfl))));refine bG ?_;refine bH (rS (mk:=Op.indexAddr 28) rfl ot bL (by first|exact tE runUnderlying28 sizeOf41 (j:=0) rfl (by rw[rL];decide)|exact tI runUnderlying28 sizeOf41 (j:=0) rfl (by rw[rL];decide))) ?_;refine OD.storeAt (k:=0) (cs':=(M[((ax t s.aj).1[k]'aa).toNat].r.set 0 (acc[k]'dA)).flatMap cV) ap rfl rfl ot rfl rfl ot rfl rfl sizeOf41 rfl (by show 0+0*3+3≤(M[((ax t s.aj).1[k]'aa).toNat].r.flatMap cV).length;rw[cn fq,rL];omega) (by show dh (M[((ax t s.aj).1[k]'aa).toNat].r.flatMap cV) (0+0*3) (cV (acc[k]'dA))=_;rw[Nat.zero_add];exact oI fq _ _ (by rw[rL];omega)) ?_;refine an 205 [0,9,10,20,159,160,161] ?_;refine CD.seq ?_;rcases iW:iy y (c9 (M[((ax t s.aj).1[k]'aa).toNat].r.set 0 (acc[k]'dA))) (dK y) with _|_
  ·rw[TU gy w4 dY gD iW] at DO;have gy2:iL (gJ y (dK y) (c9 (M[((ax t s.aj).1[k]'aa).toNat].r.set 0 (acc[k]'dA))) ((ax t s.aj).1[k]'aa)) (n+(k+1)):=(EF gy w4 ((EG gy).1 iW) dY gD).1;have ajX:kC {t with rows:=(M.set ((ax t s.aj).1[k]'aa).toNat (⟨M[((ax t s.aj).1[k]'aa).toNat].r.set 0 (acc[k]'dA),some ⟨I,0,none⟩,M[((ax t s.aj).1[k]'aa).toNat].cap,[⟨I,41,M[((ax t s.aj).1[k]'aa).toNat].cap*3,(M[((ax t s.aj).1[k]'aa).toNat].r.set 0 (acc[k]'dA)).flatMap cV⟩]⟩:cl)).map cl.r,ix:=(gJ y (dK y) (c9 (M[((ax t s.aj).1[k]'aa).toNat].r.set 0 (acc[k]'dA))) ((ax t s.aj).1[k]'aa))} ((ax t s.aj).1.drop (k+1)) (acc.drop (k+1))=kC {t with ix:=og t t.ix (ax t s.aj).1} (ax t s.aj).1 acc:=(by rw[VR,if_neg xy])
   refine ug 18 17 [0,9,10,21,159,160,161,193,194] ?_;refine aU 3 ?_ (h:=by exact(xn 2));refine aU 3 ?_ (h:=by exact(oD 2));refine aU 1 ?_ (h:=by exact(dm 1 (h:=by first|exact .l (j:=((ax t s.aj).1[k]'aa).toNat) (Int.toNat_of_nonneg gD).symm vw|exact .r (j:=((ax t s.aj).1[k]'aa).toNat) (Int.toNat_of_nonneg gD).symm vw)));refine aU 0 ?_ (h:=by exact(cR (mk:=Op.load 28) rfl ot (ja (k:=3) (i:=((ax t s.aj).1[k]'aa).toNat) (ls:=M) (d:=aR (some ⟨I,0,none⟩) (M[((ax t s.aj).1[k]'aa).toNat].r.set 0 (acc[k]'dA)).length M[((ax t s.aj).1[k]'aa).toNat].cap) uV rfl rfl rfl isAgg28 gd (by rw[←ya,length_set];rfl))));refine zm (VQ) (fun r S h=>h.flat) (fun r S h=>h.view) (ha:=by exact⟨⟨_,ot,(lE (bF (g:=cV) Gt DN) (cn fq _) (fun B U=>by rw[mem_singleton] at U;rw[U];exact mem_cons_self))⟩,trivial⟩) (K:=?_);refine de (DO) ?_;refine mS 3 ?_;refine rC ?_;refine jJ ?_;refine⟨rfl,fun CW=>?_⟩;refine aP 0 [_,_] sizeOf51 ?_;refine an 205 [0,9,10,21,22,159,160,161] ?_;refine af [0,9,10,21,22,159,160,161,196] ?_;refine au ?_ ?_<;>intro va Fl
   ·exact absurd va (by simp at va)
   refine dN 4 ?_;refine OD.storeAt (k:=3) (cs':=pre++([bn t.nm,av 2 cC t.az,aR (some ⟨br,0,none⟩) t.rows.length cap,.list 5 ((gJ y (dK y) (c9 (M[((ax t s.aj).1[k]'aa).toNat].r.set 0 (acc[k]'dA))) ((ax t s.aj).1[k]'aa)).ag.flatMap cP) (gJ y (dK y) (c9 (M[((ax t s.aj).1[k]'aa).toNat].r.set 0 (acc[k]'dA))) ((ax t s.aj).1[k]'aa)).ag.length,ae (gJ y (dK y) (c9 (M[((ax t s.aj).1[k]'aa).toNat].r.set 0 (acc[k]'dA))) ((ax t s.aj).1[k]'aa)).root]++post)) ap rfl rfl ot rfl rfl ot rfl rfl sizeOf51 rfl (by show off+3+2≤(pre++(([bn t.nm,av 2 cC t.az,aR (some ⟨br,0,none⟩) t.rows.length cap,av 5 cP y.ag,ae y.root]:List D)++post)).length;simp only[length_append,length_cons,length_nil];omega) (by exact A9 (j:=3) hp aS rfl) ?_;refine an 205 [0,9,10,159,160,161] ?_;refine dN 1 ?_;refine OD.perm ((S6 gd (o:=(⟨M[((ax t s.aj).1[k]'aa).toNat].r.set 0 (acc[k]'dA),some ⟨I,0,none⟩,M[((ax t s.aj).1[k]'aa).toNat].cap,[⟨I,41,M[((ax t s.aj).1[k]'aa).toNat].cap*3,(M[((ax t s.aj).1[k]'aa).toNat].r.set 0 (acc[k]'dA)).flatMap cV⟩]⟩:cl)) rfl).cons _) ?_;refine an 205 [0,9,10,159,160,161] ?_
   refine⟨((k+1),(M.set ((ax t s.aj).1[k]'aa).toNat (⟨M[((ax t s.aj).1[k]'aa).toNat].r.set 0 (acc[k]'dA),some ⟨I,0,none⟩,M[((ax t s.aj).1[k]'aa).toNat].cap,[⟨I,41,M[((ax t s.aj).1[k]'aa).toNat].cap*3,(M[((ax t s.aj).1[k]'aa).toNat].r.set 0 (acc[k]'dA)).flatMap cV⟩]⟩:cl)),(gJ y (dK y) (c9 (M[((ax t s.aj).1[k]'aa).toNat].r.set 0 (acc[k]'dA))) ((ax t s.aj).1[k]'aa))),_,cD,aQ,w4,ajX,jQ,Ci,(by rw[length_set];exact xu),ajW,gy2,rfl⟩
  rw[ad6 gy dY gD iW] at DO;have aV:hU t s=(t,0,9):=(by unfold hU;rw[if_neg hA,if_neg U,if_neg hC,if_neg hD,if_neg hN,if_neg hP,DM,VR,if_pos iW];exact if_pos (show(9:Int)≠0 by decide))
  refine ug 18 17 [0,9,10,21,159,160,161,193,194] ?_;refine aU 3 ?_ (h:=by exact(xn 2));refine aU 3 ?_ (h:=by exact(oD 2));refine aU 1 ?_ (h:=by exact(dm 1 (h:=by first|exact .l (j:=((ax t s.aj).1[k]'aa).toNat) (Int.toNat_of_nonneg gD).symm vw|exact .r (j:=((ax t s.aj).1[k]'aa).toNat) (Int.toNat_of_nonneg gD).symm vw)));refine aU 0 ?_ (h:=by exact(cR (mk:=Op.load 28) rfl ot (ja (k:=3) (i:=((ax t s.aj).1[k]'aa).toNat) (ls:=M) (d:=aR (some ⟨I,0,none⟩) (M[((ax t s.aj).1[k]'aa).toNat].r.set 0 (acc[k]'dA)).length M[((ax t s.aj).1[k]'aa).toNat].cap) uV rfl rfl rfl isAgg28 gd (by rw[←ya,length_set];rfl))));refine zm (VQ) (fun r S h=>h.flat) (fun r S h=>h.view) (ha:=by exact⟨⟨_,ot,(lE (bF (g:=cV) Gt DN) (cn fq _) (fun B U=>by rw[mem_singleton] at U;rw[U];exact mem_cons_self))⟩,trivial⟩) (K:=?_);refine de (DO) ?_;refine mS 3 ?_;refine rC ?_;refine jJ ?_;refine⟨rfl,fun CW=>?_⟩;refine aP 0 [_,_] sizeOf51 ?_;refine an 205 [0,9,10,21,22,159,160,161] ?_;refine af [0,9,10,21,22,159,160,161,196] ?_;refine au ?_ ?_<;>intro va Fl
  ·exact wT
  exact absurd va (by simp at va)
 have ahf:kC {t with ix:=og t t.ix (ax t s.aj).1} (ax t s.aj).1 acc=({t with rows:=M.map cl.r,ix:=y},0):=(by rw[←At,drop_of_length_le (l:=(ax t s.aj).1) w4,aa1])
 have aV:hU t s=({t with rows:=M.map cl.r,ix:=y},((ax t s.aj).1.length:Int),0):=(by unfold hU;rw[if_neg hA,if_neg U,if_neg hC,if_neg hD,if_neg hN,if_neg hP,DM,ahf];exact if_neg (fun h=>h rfl))
 refine af [4,5] ?_;refine aJ (⟨bt,53,pZ,pre++(_++post)⟩::(Sr++M.flatMap bR)) ?_;rw[aV];exact⟨rfl,fun _=>⟨M,ad,cap,Sr,⟨rfl,Z,vO⟩,by simp only[tC,length_map,xu]⟩⟩

open Go.Proofs.YtdgichenhdikgaaGreatDoor.So
def BE(p:(List (List Vl)×Int)×Int)(r:D)(S:List ah):Prop:=∃(L:List cl) (ad:Option Addr) (cap:Nat) (Sx:List ah),r = .dF [.agg [aR ad L.length cap,ae p.1.2],ae p.2]∧sG L ad cap Sx∧(∀o∈L,nQ o)∧L.map cl.r=p.1.1∧S=Sx++L.flatMap bR
theorem BE.view{r:D}(h:BE p r S):View S r (x7 p):=by
 obtain⟨L,ad,cap,Sx,rfl,ho,aT,hL,rfl⟩:=h;unfold x7;rw[←hL];unfold av;rw[length_map];exact Ev ⟨uI ⟨AG ho (E0 aT fun B E=>mem_append_right _ E) (by rw[cn kj,length_map]) (fun B E=>mem_append_left _ E),eU,trivial⟩,eU,trivial⟩
theorem afR(l:List Vl):∀d∈l.flatMap cV,kN d=true:=fun d hd=>by
 obtain⟨v,_,hv⟩:=mem_flatMap.1 hd;unfold cV at hv;simp only[mem_cons,not_mem_nil,or_false] at hv;rcases hv with rfl|rfl|rfl<;>rfl
theorem afS(l:List cl):∀d∈l.flatMap gR,kN d=true:=fun d hd=>by
 obtain⟨v,_,hv⟩:=mem_flatMap.1 hd;unfold gR at hv;rw[mem_singleton] at hv;subst hv;rfl
theorem BE.flat{r:D}(h:BE p r S):kN r=true∧∀B∈S,∀d∈B.cs,kN d=true:=by
 obtain⟨L,ad,cap,Sx,rfl,ho,aT,hL,rfl⟩:=h;refine⟨rfl,fun B E=>?_⟩;rcases mem_append.1 E with E|E
 ·rcases ho with ⟨_,_,_,_,rfl⟩|⟨b,_,_,_,rfl⟩
  ·cases E
  rw[mem_singleton] at E;subst E;exact afS L
 obtain⟨o,I,E⟩:=mem_flatMap.1 E;have h1:=aT o I;unfold bR at E;rcases h1 with ⟨_,_,_,_,h2⟩|⟨b,_,_,_,h2⟩
 ·rw[h2] at E;cases E
 rw[h2,mem_singleton] at E;subst E;exact afR o.r
theorem afT(g:eW t n)(s:cx):sI t s<4:=by
 unfold sI;split
 ·decide
 have:=(JX (l:=t.az) (nm:=s.order)).2;rw[g.az] at this ⊢;exact this
theorem ahg(g:eW t n){names:List ByteArray}(h:∀n∈names,0≤bM t.az n):∀c∈vN t names,0≤c∧c.toNat<4:=fun c hc=>by
 have h4:t.az.length=4:=(by rw[g.az];rfl)
 unfold vN at hc;split at hc
 ·obtain⟨i,hi,rfl⟩:=mem_map.1 hc;have:=mem_range.1 hi;constructor
  ·exact Int.natCast_nonneg i
  show i<4;omega
 obtain⟨x,hx,rfl⟩:=mem_map.1 hc;have:=(JX (l:=t.az) (nm:=x)).2;have:=h x hx;omega
theorem ahh(f:ah→Nat):(((L++[o]).flatMap bR).map f).sum=((L.flatMap bR).map f).sum+(o.S.map f).sum:=by
 rw[SO];simp only[bR,map_append,sum_append]
theorem PM:(Tryz.prog.info? 3).map (fun i=>(i.zero,i.size,i.bytes))=some (some (.int .i64 0),1,8):=by kernel_rfl
theorem ZB:(Tryz.prog.info? 28).map (fun i=>(i.zero,i.size,i.bytes))=some (some (.slice none 0 0),1,24):=by kernel_rfl
theorem ZC:(Tryz.prog.info? 41).map (fun i=>(i.zero,i.size,i.bytes))=some (some (.agg #[.int .i64 0,.int .i64 0,.string ⟨#[]⟩]),3,32):=by kernel_rfl
theorem aep(hm:(3,marksC)∈G)(hw:(1,wordsC)∈G)(ht:(0,typesC)∈G)(hG:(2,[Value.int .i64 m])∈G)(t:aL)(g:eW t n)(s:cx)(sO:s.names.length≤1000)(ho:∀o∈s.aj,o.nm.size≤maxLen)(fU:∀o∈s.aj,o.v.Ok):VC Tryz.prog G 44 [.agg (dg t),.agg (bI s)] [] (BE (qn t s)):=by
 refine VC.body func44 rfl ntmps44 aS fun X0 w0 aZ=>?_;have da:=dW;have At:=JW (G:=G) hm hw ht hG t g s.aj ho fU;have DK:=E4 g s.aj;have mu:=uW g s.aj;have NH:=IM g s.aj;obtain⟨M,hM⟩:∃M,M=ax t s.aj:=⟨_,rfl⟩
 rw[←hM] at At DK mu NH;obtain⟨sl,em⟩:=M;dsimp only at DK mu NH;have mI:=g.eD;have ajQ:t.az.length=4:=(by rw[g.az];rfl)
 unfold dg at At;unfold dg bI;refine bY ?_;refine OD.box (ds:=[_,_,_,_,_]) ap rfl rfl ot rfl rfl (fun b2=>?_);refine OD.box (ds:=[_,_,_,_,_,_,_,_,_,_,_,_]) ap rfl rfl ot rfl rfl (fun b3=>?_);refine OD.alloc (ds:=[_,_]) ap rfl rfl zeroValue36 rfl (fun b4=>?_);refine an 135 [2,3,4] ?_;refine bY ?_;refine bg [2,3,4,6] ?_;refine af [2,3,4,6,21,22,23] ?_;refine eK [2,3,4,21,22] (fun aW _ (O:Nat×List Int×Option Addr×Nat×List ah) aI=>match O with|(i,acc,Z,nS,Sa)=>(i≤s.names.length)∧(acc=(s.names.take i).map (bM t.az))∧(∀x∈s.names.take i,0≤bM t.az x)∧(bz 3 1 ((acc).flatMap Tw.cI) (acc).length Z nS Sa)∧aI=(⟨135,(6,aR Z (acc).length nS)::(23,ae (i:Nat))::aW,(⟨b4,36,2,[bS,ae 0]⟩::⟨b3,32,12,bI s⟩::⟨b2,53,5,dg t⟩::Sa)⟩:St)) (fun (O:Nat×List Int×Option Addr×Nat×List ah)=>match O with|(i,acc,Z,nS,Sa)=>s.names.length-i) (0,([]:List Int),none,0,[]) ⟨(Nat.zero_le _),rfl,(fun x h=>by cases h),(bz.cast iI kV),rfl⟩ ?_;rintro⟨i,acc,Z,nS,Sa⟩ _ ⟨hi,ri,j5,oB,rfl⟩;refine af [2,3,4,6,21,22,23,24] ?_;refine au ?_ ?_<;>intro aN bC
 ·have aa:i<s.names.length:=(by omega)
  have fg:=H9 (G:=G) t w4 s.names[i];unfold dg at fg;have qF:acc.length=i:=(by rw[ri,length_map,length_take];omega)
  refine af [2,3,4,6,8,21,22,23] ?_;refine cH [2,3,4,6,9,21,22,23] (fg) ?_;refine af [2,3,4,6,9,21,22,23,31] ?_;refine au ?_ ?_<;>intro aY cz
  ·have Cj:bM t.az s.names[i]<0:=(by simpa using aY)
   have aV:qn t s=(([],0),8):=if_pos (any_eq_true.2 ⟨s.names[i],getElem_mem _,decide_eq_true Cj⟩);refine aD 1 ?_;refine aP 0 [_,_] sizeOf36 ?_;exact Mo
  have Cj:¬bM t.az s.names[i]<0:=(by simpa using aY)
  have ajY:∀x∈s.names.take (i+1),0≤bM t.az x:=fun x hx=>by rw[take_succ_eq_append_getElem aa] at hx;rcases mem_append.1 hx with hx|hx;exact j5 x hx;rw[mem_singleton] at hx;subst hx;omega
  refine dN 2 ?_;refine ez (cf 0 [_]) [.int .i64 0] [_] zeroValue3 runUnderlying67 sizeOf3 (fun b35=>?_);refine fP 0 35 1 1 ?_;refine OD.ew (ls:=(acc)) (new:=[bM t.az s.names[i]]) (Sq:=Sa) Tw.eI Tw.nD ap rfl rfl underlying67 PM rfl w7 ot oB (dD (A:=[_,_,_])) ot bu nq nr (fun GW Lw ajZ aj0=>?_);refine OD.perm (ee (S1:=[⟨GW,3,Lw*1,flatMap Tw.cI ((acc)++[bM t.az s.names[i]])⟩]) (A:=[_,_,_])) ?_;refine an 135 [2,3,4,6,21,22,23] ?_;refine cm [2,3,4,6,21,22,23] ?_;refine⟨((i+1),(acc++[bM t.az s.names[i]]),(some ⟨GW,0,none⟩),Lw,[⟨GW,3,Lw*1,flatMap Tw.cI ((acc)++[bM t.az s.names[i]])⟩]),_,cD,aQ,w4,(by rw[ri,←pc aa,map_append];rfl),ajY,(bz.cast (bF ajZ aj0) kV),rfl⟩
 have vI:s.names.take i=s.names:=take_of_length_le w4;rw[vI] at ri j5;have Gh:¬(s.names.any fun n=>decide (bM t.az n<0))=true:=fun h=>by obtain⟨x,h1,h2⟩:=any_eq_true.1 h;have:=j5 x h1;have:=of_decide_eq_true h2;omega
 refine CD.exit ?_;refine jV [2,3,4] (fun aW _ aI=>∃(acc:List Int),∃(Z:Option Addr),∃(nS:Nat),∃(Sa:List ah),(acc=vN t s.names)∧(bz 3 1 (acc.flatMap Tw.cI) acc.length Z nS Sa)∧aI=(⟨135,(6,aR Z acc.length nS)::aW,(⟨b4,36,2,[bS,ae 0]⟩::⟨b3,32,12,bI s⟩::⟨b2,53,5,dg t⟩::Sa)⟩:St)) ?_ ?_
 ·refine af [2,3,4,6,41] ?_;refine au ?_ ?_<;>intro bZ cM
  ·have gL:s.names.length=0:=(by simpa using bZ)
   have aj1:acc=[]:=(by rw[ri,length_eq_zero_iff.1 gL];rfl)
   refine af [2,3,4,6,44,45] ?_;refine eK [2,3,4,44] (fun aW _ (O:Nat×List Int×Option Addr×Nat×List ah) aI=>match O with|(j,U,Z,nS,Sa)=>(j≤t.az.length)∧(U=(range j).map Int.ofNat)∧(bz 3 1 ((U).flatMap Tw.cI) (U).length Z nS Sa)∧aI=(⟨135,(6,aR Z (U).length nS)::(45,ae (j:Nat))::aW,(⟨b4,36,2,[bS,ae 0]⟩::⟨b3,32,12,bI s⟩::⟨b2,53,5,dg t⟩::Sa)⟩:St)) (fun (O:Nat×List Int×Option Addr×Nat×List ah)=>match O with|(j,U,Z,nS,Sa)=>t.az.length-j) (0,acc,Z,nS,Sa) ⟨(Nat.zero_le _),aj1,(bz.cast oB kV),rfl⟩ ?_;rintro⟨j,U,Z,nS,Sa⟩ _ ⟨hj,Kv,oB,rfl⟩;refine af [2,3,4,6,44,45,46] ?_;refine au ?_ ?_<;>intro cW ek
   ·have ao7:j<t.az.length:=(by omega)
    have ao8:U.length=j:=(by rw[Kv,length_map,length_range])
    refine af [2,3,4,6,10,44,45] ?_;refine dN 2 ?_;refine ez (cf 0 [_]) [.int .i64 0] [_] zeroValue3 runUnderlying67 sizeOf3 (fun Ao=>?_);refine fP 0 50 1 1 ?_;refine OD.ew (ls:=(U)) (new:=[(j:Int)]) (Sq:=Sa) Tw.eI Tw.nD ap rfl rfl underlying67 PM rfl w7 ot oB (dD (A:=[_,_,_])) ot bu nq nr (fun yd Lx Ly Lz=>?_);refine OD.perm (ee (S1:=[⟨yd,3,Lx*1,flatMap Tw.cI ((U)++[(j:Int)])⟩]) (A:=[_,_,_])) ?_;refine an 135 [2,3,4,6,44,45] ?_;refine cm [2,3,4,6,44,45] ?_;refine⟨((j+1),(U++[(j:Int)]),(some ⟨yd,0,none⟩),Lx,[⟨yd,3,Lx*1,flatMap Tw.cI ((U)++[(j:Int)])⟩]),_,cD,aQ,w4,(by rw[Kv,range_succ,map_append];rfl),(bz.cast (bF Ly Lz) kV),rfl⟩
   have hjf:U=vN t s.names:=(by unfold vN;rw[if_pos gL,Kv,show j=t.az.length by omega])
   refine CD.exit ?_;refine⟨_,aQ,(U),Z,nS,Sa,hjf,oB,rfl⟩
  have gL:¬s.names.length=0:=(by simpa using bZ)
  refine CD.skip ?_;refine⟨_,aQ,(acc),Z,nS,Sa,(by unfold vN;rw[if_neg gL];exact ri),oB,rfl⟩
 rintro _ ⟨acc,Z,nS,Sa,uw,oB,rfl⟩;refine CD.seq ?_;refine CD.ij (t:=6) (Sq:=Sa) lk oB (cn Tw.eI _) (dD (A:=[_,_,_])) ?_;refine sX ?_;refine OD.alloc (ds:=[_]) ap rfl rfl zeroValue3 rfl (fun kI=>?_);refine aP 0 [_] sizeOf3 ?_;refine an 135 [2,3,4,6,11] ?_;refine jV [2,3,4,6,11] (fun aW _ aI=>∃(ov:Int),(0≤ov)∧(ov=sI t s)∧aI=(⟨135,aW,[⟨kI,3,1,[ae ov]⟩,⟨b4,36,2,[bS,ae 0]⟩,⟨b3,32,12,bI s⟩,⟨b2,53,5,dg t⟩]⟩:St)) ?_ ?_
 ·refine af [2,3,4,6,11,55] ?_;refine au ?_ ?_<;>intro eA fA
  ·have Au:¬(s.order.toList==(⟨#[]⟩:ByteArray).toList)=true:=(by rw[fA];decide)
   have VS:=H9 (G:=G) t w4 s.order;unfold dg at VS;have DP:sI t s=bM t.az s.order:=if_neg Au;refine aD 3 ?_;refine dS call85 (VS) ?_;refine aP 0 [_] sizeOf3 ?_;refine an 135 [2,3,4,6,11] ?_;refine af [2,3,4,6,11,61] ?_;refine au ?_ ?_<;>intro fx gG
   ·have Cj:sI t s<0:=(by rw[DP];simpa using fx)
    have aV:qn t s=(([],0),8):=(by unfold qn;rw[if_neg Gh,if_pos Cj])
    refine aD 1 ?_;refine aP 1 [_,_] sizeOf36 ?_;exact Mo
   have Cj:¬sI t s<0:=(by rw[DP];simpa using fx)
   refine CD.skip ?_;refine⟨_,aQ,(bM t.az s.order),w4,DP.symm,rfl⟩
  have Au:(s.order.toList==(⟨#[]⟩:ByteArray).toList)=true:=fA;have DP:sI t s=0:=if_pos Au;refine CD.skip ?_;refine⟨_,aQ,0,(Int.le_refl 0),DP.symm,rfl⟩
 rintro _ ⟨ov,aj2,mO,rfl⟩;refine aD 3 ?_;refine OD.call ap rfl rfl rfl call86 At ⟨ot,ot,trivial⟩ (eT _) ?_;rintro _ Sx ⟨dQ,dc,rfl,ec⟩;refine OD.perm (ee (A:=[_,_,_,_])) ?_;refine an 135 [2,3,4,6,11,12,13] ?_;refine af [2,3,4,6,11,12,13,71] ?_;refine au ?_ ?_<;>intro gX kO
 ·have Hh:em≠0:=(by simpa using gX)
  have aV:qn t s=(([],0),em):=(by unfold qn;rw[if_neg Gh,if_neg w4,←hM];exact if_pos Hh)
  refine aD 2 ?_;refine aP 1 [_,_] sizeOf36 ?_;exact Mo
 have Hh:¬em≠0:=(by simpa using gX)
 refine CD.skip ?_;refine jV [2,3,4,6] (fun aW _ aI=>∃(on:Nat),∃(lz:List Int),((on:Int)=sI t s)∧(lz=Kt t s.down on sl)∧(lz.length=sl.length)∧(∀x∈lz,gA t x)∧aI=(⟨135,(12,av 1 Tw.cI lz)::aW,[⟨kI,3,1,[ae (on:Nat)]⟩,⟨b4,36,2,[bS,ae 0]⟩,⟨b3,32,12,bI s⟩,⟨b2,53,5,dg t⟩]⟩:St)) ?_ ?_
 ·obtain⟨on,rfl⟩:=Int.eq_ofNat_of_zero_le aj2;have jK:on<4:=(by have:=afT g s;omega)
  rcases ec with ⟨hn,dB,rfl,rfl,rfl⟩|⟨bx,rfl,p8,nR,rfl⟩
  ·obtain rfl:=length_eq_zero_iff.1 hn;refine dN 1 ?_;refine bH (pi (ds:=[_,_,_]) rfl ⟨ot,ot,ot,trivial⟩) ?_;refine dS call87 (acG _) ?_;refine OD.wk (Wk.tw (t:=12) (sz:=1) lk) ?_;refine an 135 [2,3,4,6,12] ?_;refine⟨_,aQ,on,[],mO,(SZ ⟨Perm.refl _,Pairwise.nil⟩),rfl,(fun x h=>by cases h),rfl⟩
  refine dN 1 ?_;refine bH (pi (ds:=[_,_,_]) rfl ⟨ot,ot,ot,trivial⟩) ?_;refine OD.call (Sf:=⟨bx,3,dc*1,sl.flatMap Tw.cI⟩::[⟨b2,53,5,dg t⟩,⟨kI,3,1,[ae (on:Nat)]⟩,⟨b3,32,12,bI s⟩]) (R:=[⟨b4,36,2,[bS,ae 0]⟩]) ap rfl rfl rfl call87 (aeg sl.length dc bx 88 [dI b2,dI kI,dI b3] [⟨b2,53,5,dg t⟩,⟨kI,3,1,[ae (on:Nat)]⟩,⟨b3,32,12,bI s⟩] (lN t s.down on) (gA t) (Hf t) (fun x y hx hy=>aek t g s on jK b2 kI b3 x y hx hy) call88 (fun h1 h2=>afO t s.down on h1 h2) (fun x y h=>by have:=PF t s.down on x y;omega) p8 nR DK sl NH rfl mu) ⟨ot,ot,trivial⟩ (show([⟨kI,3,1,[ae (on:Nat)]⟩,⟨b4,36,2,[bS,ae 0]⟩,⟨b3,32,12,bI s⟩,⟨b2,53,5,dg t⟩]++[⟨bx,3,dc*1,sl.flatMap Tw.cI⟩]:List ah).Perm ((⟨bx,3,dc*1,sl.flatMap Tw.cI⟩::[⟨b2,53,5,dg t⟩,⟨kI,3,1,[ae (on:Nat)]⟩,⟨b3,32,12,bI s⟩])++[⟨b4,36,2,[bS,ae 0]⟩]) from(ie fun iN=>by simp only[map_append,map_cons,map_nil,sum_append,sum_cons,sum_nil];omega)) ?_;rintro _ _ ⟨rfl,lz,xW,rfl⟩;have lW:=xW.1.length_eq;refine OD.perm (S':=⟨kI,3,1,[ae (on:Nat)]⟩::⟨b4,36,2,[bS,ae 0]⟩::⟨b3,32,12,bI s⟩::⟨b2,53,5,dg t⟩::[⟨bx,3,dc*1,lz.flatMap Tw.cI⟩]) (show((⟨bx,3,dc*1,lz.flatMap Tw.cI⟩::[⟨b2,53,5,dg t⟩,⟨kI,3,1,[ae (on:Nat)]⟩,⟨b3,32,12,bI s⟩])++[⟨b4,36,2,[bS,ae 0]⟩]:List ah).Perm _ from(ie fun iN=>by simp only[map_append,map_cons,map_nil,sum_append,sum_cons,sum_nil];omega)) ?_;rw[←lW]
  refine OD.ij (t:=12) (Sq:=[⟨bx,3,dc*1,lz.flatMap Tw.cI⟩]) lk (bF (by rw[lW];exact p8) nR) (cn Tw.eI _) (dD (A:=[_,_,_,_])) ?_;refine an 135 [2,3,4,6,12] ?_;refine⟨_,aQ,on,lz,mO,(SZ xW),(by first|exact lW|rfl),(fun x hx=>mu x (xW.1.subset hx)),rfl⟩
 rintro _ ⟨on,lz,mO,UK,lW,UL,rfl⟩;refine jV [2,3,4,6] (fun aW ux aI=>∃(E:List Int),(E=wu t s)∧(∀x∈E,gA t x)∧(E.length≤40)∧aI=(⟨135,(12,av 1 Tw.cI E)::aW,ux⟩:St)) ?_ ?_
 ·refine aD 4 ?_;refine bX 80 (fun KE Fk=>?_) (fun KE Fk=>?_)
  ·refine bg [2,3,4,6,12,86] ?_;refine au ?_ ?_<;>intro gv lp
   ·have mN:0≤s.ig∧s.ig<lz.length:=⟨Fk,lp⟩
    refine iF [2,3,4,6,12] ?_;refine aU 3 ?_ (h:=by exact(ei (l:=0) (h:=s.ig.toNat) rfl ot trivial ⟨_,by rw[Int.toNat_of_nonneg mN.1];exact ot⟩ (by exact nW Tw.eI (fun h=>by cases h) runUnderlying67 sizeOf3 w4)));refine bG ?_;refine⟨_,aQ,(lz.take s.ig.toNat),(by unfold wu vg;rw[←mO,Int.toNat_natCast,←hM,←UK,if_pos mN]),(fun x hx=>UL x (mem_of_mem_take hx)),oP,rfl⟩
   exact Wy
  refine bg [2,3,4,6,12,86] ?_;refine fT ?_;exact Wy
 rintro _ ⟨E,VT,xS,ao9,rfl⟩;refine aD 3 ?_;refine OD.alloc (ds:=[_,_]) ap rfl rfl zeroValue36 rfl (fun Ad=>?_);refine aP 0 [_,_] sizeOf36 ?_;refine an 135 [2,3,4,6,12,14] ?_;refine af [2,4,6,12,14,95] ?_;refine au ?_ ?_<;>intro pQ F1
 ·have B0:s.count=true:=pQ;have aV:qn t s=(([[⟨2,((E.length:Nat):Int),⟨#[]⟩⟩]],((E.length:Nat):Int)),0):=(by unfold qn;rw[if_neg Gh,if_neg w4,←hM,if_neg Hh,if_pos B0,←VT])
  refine aD 3 ?_;refine ez (cf 0 [_]) [.int .i64 0,.int .i64 0,.string ⟨#[]⟩] [_,_,_] zeroValue41 runUnderlying28 sizeOf41 (fun NI=>?_);refine ez (cf 0 [_]) [.slice none 0 0] [_] zeroValue28 runUnderlying34 sizeOf28 (fun VU=>?_);refine aE 1 ?_;refine aP 2 [_,_] sizeOf34 ?_;refine an 135 [4,14] ?_;refine aD 1 ?_;refine aP 4 [_,_] sizeOf36 ?_;refine an 135 [4,5] ?_;refine aJ [_,_] ?_;rw[aV];exact⟨[⟨[⟨2,(E.length:Nat),⟨#[]⟩⟩],some ⟨NI,0,none⟩,1,[⟨NI,41,1*3,[⟨2,(E.length:Nat),⟨#[]⟩⟩].flatMap cV⟩]⟩],some ⟨VU,0,none⟩,1,[_],rfl,.inr ⟨VU,rfl,Nat.le_refl _,(show 1≤maxLen by decide),rfl⟩,(fun o ho=>by rw[mem_singleton] at ho;subst ho;exact .inr ⟨NI,rfl,Nat.le_refl _,(show 1≤maxLen by decide),rfl⟩),rfl,rfl⟩
 have B0:¬s.count=true:=(by rw[pQ];decide)
 have aV:qn t s=((E.map (zD t acc),((E.length:Nat):Int)),0):=(by unfold qn;rw[if_neg Gh,if_neg w4,←hM,if_neg Hh,if_neg B0,←VT,←uw])
 have VV:=ahg g j5;rw[←uw] at VV;have apa:acc.length≤1000:=(by rw[uw];unfold vN;split;(rw[length_map,length_range];omega);(rw[length_map];omega))
 refine af [2,4,6,14,103,104,105] ?_;refine eK [2,4,6,14,103,104] (fun aW _ (O:Nat×List cl×Option Addr×Nat×List ah) aI=>match O with|(i,L,dQ,dc,Sx)=>(i≤E.length)∧(L.map cl.r=(E.take i).map (zD t acc))∧(∀o∈L,nQ o)∧(sG L dQ dc Sx)∧aI=(⟨135,(105,ae (i:Nat))::aW,(⟨Ad,36,2,[aR dQ L.length dc,ae (E.length:Nat)]⟩::⟨kI,3,1,[ae (on:Nat)]⟩::⟨b4,36,2,[bS,ae 0]⟩::⟨b3,32,12,bI s⟩::⟨b2,53,5,dg t⟩::(Sx++L.flatMap bR))⟩:St)) (fun (O:Nat×List cl×Option Addr×Nat×List ah)=>match O with|(i,L,dQ,dc,Sx)=>E.length-i) (0,([]:List cl),none,0,[]) ⟨(Nat.zero_le _),rfl,(fun o h=>by cases h),iI,rfl⟩ ?_;rintro⟨i,L,dQ,dc,Sx⟩ _ ⟨hi,hL,aT,ec,rfl⟩;refine af [2,4,6,14,103,104,105,106] ?_;refine au ?_ ?_<;>intro C2 K7
 ·have aa:i<E.length:=(by omega)
  obtain⟨gD,p8,nR⟩:=xS _ (getElem_mem aa);have rL:=pE (g.row _ p8 nR).1;have rH:L.length=i:=(by have:=congrArg length hL;rw[length_map,length_map,length_take] at this;omega)
  refine af [2,4,6,14,16,103,104,105] ?_;refine bY ?_;refine bg [2,4,6,14,16,17,103,104,105] ?_;refine af [2,4,6,14,16,17,103,104,105,109,110,111] ?_;refine eK [2,4,6,14,16,103,104,105,109,110] (fun aW _ (O:Nat×List Vl×Option Addr×Nat×List ah) aI=>match O with|(j,I,iD,iE,Sy)=>(j≤acc.length)∧(I=(acc.take j).map fun c=>(rowAt t (E[i]'aa)).getD c.toNat bQ)∧(bz 41 3 (I.flatMap cV) I.length iD iE Sy)∧aI=(⟨135,(17,aR iD I.length iE)::(111,ae (j:Nat))::aW,(⟨Ad,36,2,[aR dQ L.length dc,ae (E.length:Nat)]⟩::⟨kI,3,1,[ae (on:Nat)]⟩::⟨b4,36,2,[bS,ae 0]⟩::⟨b3,32,12,bI s⟩::⟨b2,53,5,dg t⟩::(Sy++(Sx++L.flatMap bR)))⟩:St)) (fun (O:Nat×List Vl×Option Addr×Nat×List ah)=>match O with|(j,I,iD,iE,Sy)=>acc.length-j) (0,([]:List Vl),none,0,[]) ⟨(Nat.zero_le _),rfl,iI,rfl⟩ ?_;rintro⟨j,I,iD,iE,Sy⟩ _ ⟨hj,Kw,DG,rfl⟩;refine af [2,4,6,14,16,17,103,104,105,109,110,111,112] ?_;refine au ?_ ?_<;>intro FL Bm
  ·have lT:j<acc.length:=(by omega)
   obtain⟨VW,apb⟩:=VV _ (getElem_mem lT);have NJ:(acc[j]'lT).toNat<(t.rows[(E[i]'aa).toNat]'p8).length:=(by omega)
   have ahi:(rowAt t (E[i]'aa)).getD (acc[j]'lT).toNat bQ=(t.rows[(E[i]'aa).toNat]'p8)[(acc[j]'lT).toNat]:=(by rw[jk p8,getD_eq_getElem?_getD,getElem?_eq_getElem NJ];rfl)
   have apc:I.length=j:=(by rw[Kw,length_map,length_take];omega)
   refine af [2,4,6,14,16,17,19,103,104,105,109,110,111] ?_;refine dN 4 ?_;refine bH (dm 1 (h:=by first|exact .l (j:=(E[i]'aa).toNat) (Int.toNat_of_nonneg gD).symm p8|exact .r (j:=(E[i]'aa).toNat) (Int.toNat_of_nonneg gD).symm p8)) ?_;refine aE 2 ?_;refine bH (dm 3 (h:=by first|exact .l (j:=(acc[j]'lT).toNat) (Int.toNat_of_nonneg VW).symm NJ|exact .r (j:=(acc[j]'lT).toNat) (Int.toNat_of_nonneg VW).symm NJ)) ?_;refine aE 1 ?_;refine ez (cf 0 [_]) [.int .i64 0,.int .i64 0,.string ⟨#[]⟩] [_,_,_] zeroValue41 runUnderlying28 sizeOf41 (fun apd=>?_);refine fP 0 124 3 1 ?_;refine OD.ew (ls:=I) (new:=[(t.rows[(E[i]'aa).toNat]'p8)[(acc[j]'lT).toNat]]) (Sq:=Sy) fq E7 ap rfl rfl underlying28 ZC rfl w7 ot DG (Iq (A:=[_,_,_,_,_])) ot bu nq nr (fun LA Kx ahj ahk=>?_);refine OD.perm (P7 (S1:=[⟨LA,41,Kx*3,flatMap cV (I++[(t.rows[(E[i]'aa).toNat]'p8)[(acc[j]'lT).toNat]])⟩]) (A:=[_,_,_,_,_])) ?_;refine an 135 [2,4,6,14,16,17,103,104,105,109,110,111] ?_;refine cm [2,4,6,14,16,17,103,104,105,109,110,111] ?_;refine⟨((j+1),(I++[(t.rows[(E[i]'aa).toNat]'p8)[(acc[j]'lT).toNat]]),(some ⟨LA,0,none⟩),Kx,[⟨LA,41,Kx*3,flatMap cV (I++[(t.rows[(E[i]'aa).toNat]'p8)[(acc[j]'lT).toNat]])⟩]),_,cD,aQ,w4,(by rw[Kw,←ahi,←pc lT,map_append];rfl),(bF ahj ahk),rfl⟩
  have vC:(L++[(⟨I,iD,iE,Sy⟩:cl)]).map cl.r=(E.take (i+1)).map (zD t acc):=(by rw[map_append,hL,←pc aa,map_append];congr 1;show[I]=[zD t acc (E[i]'aa)];rw[Kw,take_of_length_le w4];rfl)
  have jQ:∀o∈L++[(⟨I,iD,iE,Sy⟩:cl)],nQ o:=fun o ho=>by rcases mem_append.1 ho with ho|ho;exact aT o ho;rw[mem_singleton] at ho;subst ho;exact DG
  refine dN 3 ?_;refine ez (cf 0 [_]) [.slice none 0 0] [_] zeroValue28 runUnderlying34 sizeOf28 (fun ape=>?_);refine fP 0 130 1 1 ?_;refine OD.ew (ls:=L) (new:=[(⟨I,iD,iE,Sy⟩:cl)]) (Sq:=Sx) uV TW ap rfl rfl underlying34 ZB rfl w7 ot ec (s8 (A:=[_,_,_,_,_])) ot bu nq nr (fun Gi FH ahl ahm=>?_);refine OD.perm (vY (S2:=[⟨Gi,28,FH*1,flatMap gR (L++[(⟨I,iD,iE,Sy⟩:cl)])⟩]) (A:=[_,_,_,_,_])) ?_;refine OD.perm (S':=⟨Ad,36,2,[aR dQ L.length dc,ae (E.length:Nat)]⟩::⟨kI,3,1,[ae (on:Nat)]⟩::⟨b4,36,2,[bS,ae 0]⟩::⟨b3,32,12,bI s⟩::⟨b2,53,5,dg t⟩::([⟨Gi,28,FH*1,flatMap gR (L++[(⟨I,iD,iE,Sy⟩:cl)])⟩]++(L++[(⟨I,iD,iE,Sy⟩:cl)]).flatMap bR)) (ie fun iN=>by simp only[map_append,map_cons,map_nil,sum_append,sum_cons,sum_nil,ahh];omega) ?_;refine aE 1 ?_;refine aP 0 [_,_] sizeOf34 ?_;refine an 135 [2,4,6,14,103,104,105] ?_;refine cm [2,4,6,14,103,104,105] ?_;refine⟨((i+1),(L++[(⟨I,iD,iE,Sy⟩:cl)]),(some ⟨Gi,0,none⟩),FH,[⟨Gi,28,FH*1,flatMap gR (L++[(⟨I,iD,iE,Sy⟩:cl)])⟩]),_,cD,aQ,w4,vC,jQ,(bF ahl ahm),rfl⟩
 have o8:L.map cl.r=E.map (zD t acc):=(by rw[hL,take_of_length_le w4])
 refine aD 1 ?_;refine aP 2 [_,_] sizeOf36 ?_;refine an 135 [4,5] ?_;refine aJ (Sx++L.flatMap bR) ?_;rw[aV];exact⟨L,dQ,dc,Sx,rfl,ec,aT,o8,rfl⟩

abbrev fS(bo:Nat)(ad:Option Addr)(n cap:Nat):ah:=⟨bo,25,1,[aR ad n cap]⟩
def eC(s:cx):aL:=⟨s.table,s.az,[],oM⟩
def xo(s:cx):aK:=⟨eC s,[],none,0,[],[]⟩
theorem aeq(s:cx):o9 (xo s):=⟨[],rfl,rfl,(fun o h=>by cases h),rfl,iI⟩
def nT(l:List aL)(s:cx):List aL×Int:=if 0≤aM l s.table then (l,9) else if l.length=4 then (l,10) else (l++[eC s],0)
def BF(l:List aL)(bo:Nat)(S:List ah):Prop:=∃(L:List aK) (ad:Option Addr) (cap:Nat) (Sx:List ah),vm L ad cap Sx∧(∀o∈L,okW o)∧L.map aK.t=l∧S.Perm (fS bo ad L.length cap::(Sx++L.flatMap bT))
theorem ZD:(Tryz.prog.info? 53).map (fun i=>(i.zero,i.size,i.bytes))=some (some (.agg #[.string ⟨#[]⟩,.slice none 0 0,.slice none 0 0,.slice none 0 0,.int .i64 0]),5,96):=by kernel_rfl
theorem aa3(L:List aK)(aT:∀o∈L,o9 o)(hL:L.length≤4)(s:cx)(kY:s.az.length≤1000)(bo:Nat)(ad:Option Addr)(cap:Nat)(Sx:List ah)(O:vm L ad cap Sx):VC Tryz.prog G 41 [dI bo,.agg (bI s)] (fS bo ad L.length cap::(Sx++L.flatMap bT)) (fun r S=>r=ae (nT (L.map aK.t) s).2∧((nT (L.map aK.t) s).2=0→BF (nT (L.map aK.t) s).1 bo S)):=by
 refine VC.body func41 rfl ntmps41 aS fun X0 w0 aZ=>?_;have da:=dW;have U:=fun o ho=>(aT o ho).w;have fy:=pu (G:=G) (L.map aK.t) Co s.table;unfold av at fy;rw[length_map] at fy;unfold bI;refine bY ?_;refine OD.box (ds:=[_,_,_,_,_,_,_,_,_,_,_,_]) ap rfl rfl ot rfl rfl (fun b3=>?_);refine an 37 [0,3] ?_;refine cQ [0,3,5] ?_;refine mS 6 ?_;refine wZ (fy) (ha:=by exact⟨⟨_,ot,(Bj O U (fun B hB=>by repeat (first|exact hB|apply mem_append_right|apply mem_cons_of_mem)))⟩,⟨_,ot,eU⟩,trivial⟩) (K:=?_);refine bG ?_;refine au ?_ ?_<;>intro aN bC
 ·have h0:0≤aM (L.map aK.t) s.table:=(by simpa using aN)
  have aV:nT (L.map aK.t) s=(L.map aK.t,9):=if_pos h0;refine af [4] ?_;exact GC
 have h0:¬0≤aM (L.map aK.t) s.table:=(by simpa using aN)
 refine af [0,3,14] ?_;refine au ?_ ?_<;>intro aY cz
 ·have h4:L.length=4:=(by have:=aY;simp at this;omega)
  have aV:nT (L.map aK.t) s=(L.map aK.t,10):=(by unfold nT;rw[if_neg h0,if_pos (by rw[length_map];exact h4)])
  refine af [4] ?_;exact GC
 have h4:¬L.length=4:=(by have:=aY;simp at this;omega)
 have aV:nT (L.map aK.t) s=(L.map aK.t++[eC s],0):=(by unfold nT;rw[if_neg h0,if_neg (by rw[length_map];exact h4)])
 have nu:=afy (G:=G);refine CD.skip ?_;refine CD.seq ?_;refine mg 13 [21,25,33] ?_;refine de (Px s.az w4) ?_;refine de (nu) ?_;refine bG ?_;refine OD.ew (ls:=L) (new:=[xo s]) (Sq:=Sx) nZ JU ap rfl rfl underlying23 ZD rfl w7 ot O (oH (A:=[_,_])) ot bu nq nr (fun I E Z aj3=>?_);refine OD.perm (jj (S1:=[⟨I,53,E*5,flatMap gT (L++[xo s])⟩]) (A:=[_,_])) ?_;refine aE 2 ?_;refine aP 1 [_] sizeOf23 ?_;refine an 37 [] ?_;refine af [4] ?_;refine aJ (⟨bo,25,1,[_]⟩::([⟨I,53,E*5,flatMap gT (L++[xo s])⟩]++L.flatMap bT)) ?_;rw[aV];exact⟨rfl,fun _=>⟨L++[xo s],some ⟨I,0,none⟩,E,[⟨I,53,E*5,flatMap gT (L++[xo s])⟩],bF Z aj3,(fun o ho=>by rcases mem_append.1 ho with ho|ho;exact U o ho;rw[mem_singleton] at ho;subst ho;exact(aeq s).w),by rw[map_append];rfl,by rw[SP,show bT (xo s)=[] from rfl,append_nil]⟩⟩

noncomputable def gi(l:List aL)(s:cx):List aL×((List (List Vl)×Int)×Int) :=
 if s.kind=1 then ((nT l s).1,(([],0),(nT l s).2))
 else if aM l s.table<0 then (l,(([],0),8))
 else if s.kind=3 then (l.set (aM l s.table).toNat (gC (l.getD (aM l s.table).toNat (eC s)) s.row).1,(([],1),(gC (l.getD (aM l s.table).toNat (eC s)) s.row).2))
 else if s.kind=4 then (l,qn (l.getD (aM l s.table).toNat (eC s)) s)
 else if s.kind=5 then (l.set (aM l s.table).toNat (hU (l.getD (aM l s.table).toNat (eC s)) s).1,(([],(hU (l.getD (aM l s.table).toNat (eC s)) s).2.1),(hU (l.getD (aM l s.table).toNat (eC s)) s).2.2))
 else (l.set (aM l s.table).toNat (mA (l.getD (aM l s.table).toNat (eC s)) s.aj).1,(([],(mA (l.getD (aM l s.table).toNat (eC s)) s.aj).2.1),(mA (l.getD (aM l s.table).toNat (eC s)) s.aj).2.2))
theorem OC:∀(c:List D) {S:List ah},gF S c c
 | [],_=>trivial
 | _::c,_=>⟨eU,OC c⟩
theorem acJ(L:List aK)(h:i<L.length):L.flatMap gT=(L.take i).flatMap gT++(gT L[i]++(L.drop (i+1)).flatMap gT):=by
 conv=>lhs;rw[←take_append_drop i L,drop_eq_getElem_cons h]
 rw[flatMap_append,flatMap_cons]
theorem afU(L:List aK)(h:i<L.length)(o:aK):(L.set i o).flatMap gT=(L.take i).flatMap gT++(gT o++(L.drop (i+1)).flatMap gT):=by
 rw[set_eq_take_append_cons_drop,if_pos h,flatMap_append,flatMap_cons]
theorem JY(f:ah→Nat):∀(L:List aK) (i:Nat) (o:aK) (h:i<L.length),(((L.set i o).flatMap bT).map f).sum=((bT o).map f).sum+(((L.eraseIdx i).flatMap bT).map f).sum
 | [],_,_,h=>absurd h (Nat.not_lt_zero _)
 | x::L,0,o,_=>by simp
 | x::L,i+1,o,h=>by
  have:=JY f L i o (Nat.lt_of_succ_lt_succ h);simp only[set_cons_succ,flatMap_cons,map_append,sum_append,eraseIdx_cons_succ,this];omega
theorem Ie{A:List ah}{L:List aK}{bx z:Nat}(h:i<L.length):(A++([(⟨bx,53,z,L.flatMap gT⟩:ah)]++L.flatMap bT)).Perm (A++((⟨bx,53,z,(L.take i).flatMap gT++(gT L[i]++(L.drop (i+1)).flatMap gT)⟩:ah)::(bT L[i]++(L.eraseIdx i).flatMap bT))):=by
 rw[←acJ L h];exact ie fun f=>by
  have:=JY f L i L[i] h;rw[set_getElem_self] at this;simp only[map_cons,sum_cons,map_append,sum_append,map_nil,sum_nil,this];omega
theorem JA{L:List aK}{bx E:Nat}(h:i<L.length)(h1:L.length≤cap)(h2:cap≤maxLen)(aT:∀o∈L,okW o){o:aK}(ho:okW o)(hS:S.Perm (fS E (some ⟨bx,0,none⟩) L.length cap::((⟨bx,53,cap*5,(L.take i).flatMap gT++(gT o++(L.drop (i+1)).flatMap gT)⟩::bT o)++(L.eraseIdx i).flatMap bT))):BF ((L.map aK.t).set i o.t) E S:=by
 refine⟨L.set i o,some ⟨bx,0,none⟩,cap,[⟨bx,53,cap*5,(L.set i o).flatMap gT⟩],bF (by rw[length_set];exact h1) h2,fun x hx=>?_,by rw[map_set],?_⟩
 ·rcases mem_or_eq_of_mem_set hx with hx|hx
  ·exact aT x hx
  rw[hx];exact ho
 rw[length_set,afU L h];refine hS.trans (ie fun f=>?_);have:=JY f L i o h;simp only[map_cons,sum_cons,map_append,sum_append,map_nil,sum_nil,this];omega
theorem Ta(h:vo t ad cap E):okW ⟨t,t.rows.flatMap gq,ad,cap,E,[]⟩:=⟨h,fun S _=>OC _⟩
theorem acK(h:Ge t L ad cap E):okW ⟨t,L.flatMap gR,ad,cap,E,L.flatMap bR⟩:=o9.w ⟨L,rfl,rfl,h.2.1,h.1,h.2.2⟩
theorem OE{o:aK}(h:o9 o):∃U,vo o.t o.ad o.cap U∧∀(n:Nat) (env:List (Nat×D)) (A R:List ah),Wk ⟨n,env,A++(bT o++R)⟩ ⟨n,env,A++(U++R)⟩:=by
 obtain⟨L,h1,h2,h3,h4,h5⟩:=h;have Z:=E0 (S:=L.flatMap bR) h3 (fun B h=>h);have E:L.length=o.t.rows.length:=(by rw[←h4,length_map])
 rcases h5 with ⟨e1,e2,I,O,e5⟩|⟨b,e1,e2,I,O⟩
 ·have hL:L=[]:=length_eq_zero_iff.1 e1;subst hL;have hr:o.t.rows=[]:=(by rw[←h4];rfl)
  refine⟨[],.inl ⟨by rw[hr];rfl,by rw[hr];rfl,I,O,rfl⟩,fun n env A R=>?_⟩;have hb:bT o=[]:=(by unfold bT;rw[e5,h2];rfl)
  rw[hb];exact Wk.refl _
 refine⟨[⟨b,28,o.cap*1,o.t.rows.flatMap gq⟩],.inr ⟨b,e1,by rw[←E];exact e2,I,rfl⟩,fun n env A R=>?_⟩;have hb:bT o=⟨b,28,o.cap*1,L.flatMap gR⟩::L.flatMap bR:=(by unfold bT;rw[O,h2];rfl)
 rw[hb,←h4];have hc:=Wk.cover (n:=n) (l:=env) (S:=A++((⟨b,28,o.cap*1,L.flatMap gR⟩::L.flatMap bR)++R)) (A:=⟨b,28,o.cap*1,L.flatMap gR⟩) (R:=A++R) (Sd:=L.flatMap bR) (cs':=(L.map cl.r).flatMap gq) (ie fun f=>by simp only[map_cons,sum_cons,map_append,sum_append,map_nil,sum_nil];omega) Z;refine hc.trans (Wk.perm (ie fun f=>by simp only[map_cons,sum_cons,map_append,sum_append,map_nil,sum_nil];omega))
theorem afV(hm:(3,marksC)∈G)(hw:(1,wordsC)∈G)(ht:(0,typesC)∈G)(hG:(2,[Value.int .i64 m])∈G)(L:List aK)(aT:∀o∈L,o9 o)(hL:L.length≤4)(hg:∀o∈L,∃n,n≤260∧eW o.t n)(s:cx)(fi:¬s.kind=2)(kY:s.az.length≤1000)(rG:s.row.length≤1000)(Le:∀v∈s.row,v.Ok)(sO:s.names.length≤1000)(ho:∀o∈s.aj,o.nm.size≤maxLen)(fU:∀o∈s.aj,o.v.Ok)(qJ:∀o∈s.bU,o.nm.size≤maxLen)(Gg:∀o∈s.bU,o.v.Ok)(I:Nat)(ad:Option Addr)(cap:Nat)(Sx:List ah)(Z:vm L ad cap Sx):VC Tryz.prog G 27 [dI I,.agg (bI s)] (fS I ad L.length cap::(Sx++L.flatMap bT)) (fun r S=>r=x7 (gi (L.map aK.t) s).2∧((gi (L.map aK.t) s).2.2=0→BF (gi (L.map aK.t) s).1 I S)):=by
 refine VC.body func27 rfl ntmps27 aS fun X0 w0 aZ=>?_;have da:=dW;have O:=fun o ho=>(aT o ho).w;have fy:=pu (G:=G) (L.map aK.t) Co s.table;unfold av at fy;rw[length_map] at fy;have qv:=uO (fun t:aL=>t.nm.toList==s.table.toList) (L.map aK.t);rw[show dR (fun t:aL=>t.nm.toList==s.table.toList) (L.map aK.t)=(aM (L.map aK.t) s.table) from rfl,length_map] at qv;refine bY ?_;refine OD.box (ds:=[_,_,_,_,_,_,_,_,_,_,_,_]) ap rfl rfl ot rfl rfl (fun b3=>?_);refine OD.alloc (ds:=[_,_]) ap rfl rfl zeroValue36 rfl (fun b4=>?_);refine aE 1 ?_;first|refine OD.cells (k:=0) (cs':=[.list 1 [] 0,_]) rfl ⟨eV,cY,trivial⟩ rfl ?_|skip
 refine an 87 [0,3,4] ?_;refine af [0,3,4,14] ?_;refine au ?_ ?_<;>intro aN bC
 ·have dO:s.kind=1:=(by simpa using aN)
  have aV:gi (L.map aK.t) s=((nT (L.map aK.t) s).1,(([],0),(nT (L.map aK.t) s).2)):=(by unfold gi;rw[if_pos dO])
  refine aD 3 ?_;refine OD.call (Sf:=fS I ad L.length cap::(Sx++L.flatMap bT)) (R:=[⟨b4,36,2,[.list 1 [] 0,ae 0]⟩,⟨b3,32,12,bI s⟩]) ap rfl rfl rfl call41 (aa3 L aT hL s kY I ad cap Sx Z) ⟨ot,ot,trivial⟩ (show(⟨b4,36,2,[.list 1 [] 0,ae 0]⟩::⟨b3,32,12,bI s⟩::fS I ad L.length cap::(Sx++L.flatMap bT):List ah).Perm (fS I ad L.length cap::(Sx++L.flatMap bT)++[⟨b4,36,2,[.list 1 [] 0,ae 0]⟩,⟨b3,32,12,bI s⟩]) from(ie fun iN=>by simp only[map_append,map_cons,map_nil,sum_append,sum_cons,sum_nil];omega)) ?_;rintro _ U ⟨rfl,h9⟩;refine OD.perm (S':=⟨b4,36,2,[.list 1 [] 0,ae 0]⟩::⟨b3,32,12,bI s⟩::U) (show(U++[⟨b4,36,2,[.list 1 [] 0,ae 0]⟩,⟨b3,32,12,bI s⟩]:List ah).Perm _ from(ie fun iN=>by simp only[map_append,map_cons,map_nil,sum_append,sum_cons,sum_nil];omega)) ?_;refine aP 0 [_,_] sizeOf36 ?_;refine aE 1 ?_;first|refine OD.cells (k:=0) (cs':=[.list 1 [] 0,_]) rfl ⟨eV,cY,trivial⟩ rfl ?_|skip
  refine an 87 [4,5] ?_;refine aJ U ?_;rw[aV];exact⟨rfl,fun h=>h9 h⟩
 have dO:¬s.kind=1:=(by simpa using aN)
 refine cQ [0,3,4,6] ?_;refine mS 6 ?_;refine wZ (fy) (ha:=by exact⟨⟨_,ot,(Bj Z O (fun B hB=>by repeat (first|exact hB|apply mem_append_right|apply mem_cons_of_mem)))⟩,⟨_,ot,eU⟩,trivial⟩) (K:=?_);refine bG ?_;refine af [0,3,4,6,27] ?_;refine au ?_ ?_<;>intro aY cz
 ·have h0:(aM (L.map aK.t) s.table)<0:=(by simpa using aY)
  have aV:gi (L.map aK.t) s=(L.map aK.t,(([],0),8)):=(by unfold gi;rw[if_neg dO,if_pos h0])
  exact z131
 have h0:¬(aM (L.map aK.t) s.table)<0:=(by simpa using aY)
 have E:(aM (L.map aK.t) s.table).toNat<L.length:=(by omega)
 obtain⟨bx,rfl,iO,nA,rfl⟩:=Z.pos w4;have kW:(L.map aK.t).getD (aM (L.map aK.t) s.table).toNat (eC s)=(L[(aM (L.map aK.t) s.table).toNat]'E).t:=(by rw[getD_eq_getElem?_getD,getElem?_map,getElem?_eq_getElem E];rfl)
 refine cQ [0,3,4,6,7] ?_;refine aU 5 ?_ (h:=by exact(dm 5 (h:=by first|exact .l (j:=(aM (L.map aK.t) s.table).toNat) (Int.toNat_of_nonneg w4).symm E|exact .r (j:=(aM (L.map aK.t) s.table).toNat) (Int.toNat_of_nonneg w4).symm E)));refine bG ?_;refine af [0,3,4,6,7,36] ?_;refine af [0,3,4,6,7,36,37] ?_;refine au ?_ ?_<;>intro bZ cM
 ·exact absurd bZ (by exact absurd (by simpa using bZ) fi)
 refine af [3,4,7,36,51] ?_;refine au ?_ ?_<;>intro cW ek
 ·have lR:s.kind=3:=(by simpa using cW)
  have aV:gi (L.map aK.t) s=((L.map aK.t).set (aM (L.map aK.t) s.table).toNat (gC (L[(aM (L.map aK.t) s.table).toNat]'E).t s.row).1,(([],1),(gC (L[(aM (L.map aK.t) s.table).toNat]'E).t s.row).2)):=(by unfold gi;rw[kW,if_neg dO,if_neg h0,if_pos lR])
  obtain⟨n,hn,g⟩:=hg (L[(aM (L.map aK.t) s.table).toNat]'E) (getElem_mem E);obtain⟨Sg,NK,jI⟩:=OE (aT (L[(aM (L.map aK.t) s.table).toNat]'E) (getElem_mem E));refine CD.perm (Ie (A:=[_,_,_]) E) ?_;refine CD.wk (jI _ _ [_,_,_,_] _) ?_;refine aD 4 ?_
  refine OD.call (Sf:=(⟨bx,53,cap*5,(L.take (aM (L.map aK.t) s.table).toNat).flatMap gT++(gT (L[(aM (L.map aK.t) s.table).toNat]'E)++(L.drop ((aM (L.map aK.t) s.table).toNat+1)).flatMap gT)⟩:ah)::Sg) (R:=⟨b4,36,2,[.list 1 [] 0,ae 0]⟩::⟨b3,32,12,bI s⟩::fS I (some ⟨bx,0,none⟩) L.length cap::((L.eraseIdx (aM (L.map aK.t) s.table).toNat).flatMap bT)) ap rfl rfl rfl call43 (H8 hm hw ht hG (L[(aM (L.map aK.t) s.table).toNat]'E).t g w4 s.row rG Le bx (0+(aM (L.map aK.t) s.table).toNat*5) (cap*5) ((L.take (aM (L.map aK.t) s.table).toNat).flatMap gT) ((L.drop ((aM (L.map aK.t) s.table).toNat+1)).flatMap gT) KD (L[(aM (L.map aK.t) s.table).toNat]'E).ad (L[(aM (L.map aK.t) s.table).toNat]'E).cap Sg NK) ⟨ot,ot,trivial⟩ (show(⟨b4,36,2,[.list 1 [] 0,ae 0]⟩::⟨b3,32,12,bI s⟩::fS I (some ⟨bx,0,none⟩) L.length cap::(⟨bx,53,cap*5,(L.take (aM (L.map aK.t) s.table).toNat).flatMap gT++(gT (L[(aM (L.map aK.t) s.table).toNat]'E)++(L.drop ((aM (L.map aK.t) s.table).toNat+1)).flatMap gT)⟩:ah)::(Sg++(L.eraseIdx (aM (L.map aK.t) s.table).toNat).flatMap bT):List ah).Perm (((⟨bx,53,cap*5,(L.take (aM (L.map aK.t) s.table).toNat).flatMap gT++(gT (L[(aM (L.map aK.t) s.table).toNat]'E)++(L.drop ((aM (L.map aK.t) s.table).toNat+1)).flatMap gT)⟩:ah)::Sg)++(⟨b4,36,2,[.list 1 [] 0,ae 0]⟩::⟨b3,32,12,bI s⟩::fS I (some ⟨bx,0,none⟩) L.length cap::((L.eraseIdx (aM (L.map aK.t) s.table).toNat).flatMap bT))) from(ie fun iN=>by simp only[map_append,map_cons,map_nil,sum_append,sum_cons,sum_nil];omega)) ?_
  rintro _ U ⟨rfl,h9⟩;refine OD.perm (S':=⟨b4,36,2,[.list 1 [] 0,ae 0]⟩::⟨b3,32,12,bI s⟩::fS I (some ⟨bx,0,none⟩) L.length cap::(U++(L.eraseIdx (aM (L.map aK.t) s.table).toNat).flatMap bT)) (show(U++(⟨b4,36,2,[.list 1 [] 0,ae 0]⟩::⟨b3,32,12,bI s⟩::fS I (some ⟨bx,0,none⟩) L.length cap::((L.eraseIdx (aM (L.map aK.t) s.table).toNat).flatMap bT)):List ah).Perm _ from(ie fun iN=>by simp only[map_append,map_cons,map_nil,sum_append,sum_cons,sum_nil];omega)) ?_;refine aP 0 [_,_] sizeOf36 ?_;refine aE 1 ?_;first|refine OD.cells (k:=0) (cs':=[.list 1 [] 0,_]) rfl ⟨eV,cY,trivial⟩ rfl ?_|skip
  refine an 87 [4,5] ?_;refine aJ (fS I (some ⟨bx,0,none⟩) L.length cap::(U++(L.eraseIdx (aM (L.map aK.t) s.table).toNat).flatMap bT)) ?_;rw[aV];refine⟨rfl,fun h=>?_⟩;obtain⟨nP,kG,oE,LC,rfl⟩:=h9 h;exact JA E iO nA O (Ta LC) (by rw[show bT (⟨_,_,nP,kG,oE,[]⟩:aK)=oE from append_nil _];exact Perm.refl _)
 have lR:¬s.kind=3:=(by simpa using cW)
 refine af [3,4,7,36,58] ?_;refine au ?_ ?_<;>intro eA fA
 ·have xG:s.kind=4:=(by simpa using eA)
  have aV:gi (L.map aK.t) s=(L.map aK.t,(qn (L[(aM (L.map aK.t) s.table).toNat]'E).t s)):=(by unfold gi;rw[kW,if_neg dO,if_neg h0,if_neg lR,if_pos xG])
  obtain⟨n,hn,g⟩:=hg (L[(aM (L.map aK.t) s.table).toNat]'E) (getElem_mem E);refine CD.seq ?_;refine mg 7 [4,65,66] ?_;refine aU 2 ?_ (h:=by exact(cR (mk:=Op.load 53) rfl ot (dP (k:=3) (i:=(aM (L.map aK.t) s.table).toNat) (ls:=L) nZ rfl rfl rfl isAgg53 sizeOf53 E)));refine mS 1 ?_;refine zm (aep hm hw ht hG (L[(aM (L.map aK.t) s.table).toNat]'E).t g s sO ho fU) (fun r S h=>h.flat) (fun r S h=>(by have h9:=h.view;unfold x7 at h9;exact h9)) (ha:=by exact⟨⟨_,ot,(SM (O _ (getElem_mem E)) (fun B hB=>by have h9:=mem_flatMap.2 ⟨_,getElem_mem E,hB⟩;repeat (first|exact h9|apply mem_append_right|apply mem_cons_of_mem)):View _ (.agg (gT (L[(aM (L.map aK.t) s.table).toNat]'E))) _)⟩,⟨_,ot,eU⟩,trivial⟩) (K:=?_);refine bG ?_;refine aP 0 [_,_] sizeOf36 ?_;refine aE 1 ?_;first|refine OD.cells (k:=0) (cs':=[.list 1 [] 0,_]) rfl ⟨eV,cY,trivial⟩ rfl ?_|skip
  refine an 87 [4,5] ?_;refine aJ (fS I (some ⟨bx,0,none⟩) L.length cap::([⟨bx,53,cap*5,L.flatMap gT⟩]++L.flatMap bT)) ?_;rw[aV];exact⟨rfl,fun _=>⟨L,_,cap,_,Z,O,rfl,Perm.refl _⟩⟩
 have xG:¬s.kind=4:=(by simpa using eA)
 refine af [3,4,7,67] ?_;refine au ?_ ?_<;>intro fx gG
 ·have C0:s.kind=5:=(by simpa using fx)
  have aV:gi (L.map aK.t) s=((L.map aK.t).set (aM (L.map aK.t) s.table).toNat (hU (L[(aM (L.map aK.t) s.table).toNat]'E).t s).1,(([],(hU (L[(aM (L.map aK.t) s.table).toNat]'E).t s).2.1),(hU (L[(aM (L.map aK.t) s.table).toNat]'E).t s).2.2)):=(by unfold gi;rw[kW,if_neg dO,if_neg h0,if_neg lR,if_neg xG,if_pos C0])
  obtain⟨n,hn,g⟩:=hg (L[(aM (L.map aK.t) s.table).toNat]'E) (getElem_mem E);obtain⟨LR,q1,q2,q3,q4,q5⟩:=aT (L[(aM (L.map aK.t) s.table).toNat]'E) (getElem_mem E);refine CD.perm (Ie (A:=[_,_,_]) E) ?_;refine aD 2 ?_
  refine OD.call (Sf:=(⟨bx,53,cap*5,(L.take (aM (L.map aK.t) s.table).toNat).flatMap gT++(gT (L[(aM (L.map aK.t) s.table).toNat]'E)++(L.drop ((aM (L.map aK.t) s.table).toNat+1)).flatMap gT)⟩:ah)::((L[(aM (L.map aK.t) s.table).toNat]'E).sr++LR.flatMap bR)) (R:=⟨b4,36,2,[.list 1 [] 0,ae 0]⟩::⟨b3,32,12,bI s⟩::fS I (some ⟨bx,0,none⟩) L.length cap::((L.eraseIdx (aM (L.map aK.t) s.table).toNat).flatMap bT)) ap rfl rfl rfl call45 (aa2 hm hw ht hG (L[(aM (L.map aK.t) s.table).toNat]'E).t g s ho fU qJ Gg hn bx (0+(aM (L.map aK.t) s.table).toNat*5) (cap*5) ((L.take (aM (L.map aK.t) s.table).toNat).flatMap gT) ((L.drop ((aM (L.map aK.t) s.table).toNat+1)).flatMap gT) KD LR (L[(aM (L.map aK.t) s.table).toNat]'E).ad (L[(aM (L.map aK.t) s.table).toNat]'E).cap (L[(aM (L.map aK.t) s.table).toNat]'E).sr q4 q3 q5) ⟨ot,ot,trivial⟩ (show(⟨b4,36,2,[.list 1 [] 0,ae 0]⟩::⟨b3,32,12,bI s⟩::fS I (some ⟨bx,0,none⟩) L.length cap::(⟨bx,53,cap*5,(L.take (aM (L.map aK.t) s.table).toNat).flatMap gT++(gT (L[(aM (L.map aK.t) s.table).toNat]'E)++(L.drop ((aM (L.map aK.t) s.table).toNat+1)).flatMap gT)⟩:ah)::((bT (L[(aM (L.map aK.t) s.table).toNat]'E))++(L.eraseIdx (aM (L.map aK.t) s.table).toNat).flatMap bT):List ah).Perm (((⟨bx,53,cap*5,(L.take (aM (L.map aK.t) s.table).toNat).flatMap gT++(gT (L[(aM (L.map aK.t) s.table).toNat]'E)++(L.drop ((aM (L.map aK.t) s.table).toNat+1)).flatMap gT)⟩:ah)::((L[(aM (L.map aK.t) s.table).toNat]'E).sr++LR.flatMap bR))++(⟨b4,36,2,[.list 1 [] 0,ae 0]⟩::⟨b3,32,12,bI s⟩::fS I (some ⟨bx,0,none⟩) L.length cap::((L.eraseIdx (aM (L.map aK.t) s.table).toNat).flatMap bT))) from by rw[show bT (L[(aM (L.map aK.t) s.table).toNat]'E)=((L[(aM (L.map aK.t) s.table).toNat]'E).sr++LR.flatMap bR) from by unfold bT;rw[q2]];exact(ie fun iN=>by simp only[map_append,map_cons,map_nil,sum_append,sum_cons,sum_nil];omega)) ?_
  rintro _ U ⟨rfl,h9⟩;refine OD.perm (S':=⟨b4,36,2,[.list 1 [] 0,ae 0]⟩::⟨b3,32,12,bI s⟩::fS I (some ⟨bx,0,none⟩) L.length cap::(U++(L.eraseIdx (aM (L.map aK.t) s.table).toNat).flatMap bT)) (show(U++(⟨b4,36,2,[.list 1 [] 0,ae 0]⟩::⟨b3,32,12,bI s⟩::fS I (some ⟨bx,0,none⟩) L.length cap::((L.eraseIdx (aM (L.map aK.t) s.table).toNat).flatMap bT)):List ah).Perm _ from(ie fun iN=>by simp only[map_append,map_cons,map_nil,sum_append,sum_cons,sum_nil];omega)) ?_;refine an 87 [4,8,9] ?_;refine aD 3 ?_;refine aP 0 [_,_] sizeOf36 ?_;refine aE 1 ?_;first|refine OD.cells (k:=0) (cs':=[.list 1 [] 0,_]) rfl ⟨eV,cY,trivial⟩ rfl ?_|skip
  refine an 87 [4,5] ?_;refine aJ (fS I (some ⟨bx,0,none⟩) L.length cap::(U++(L.eraseIdx (aM (L.map aK.t) s.table).toNat).flatMap bT)) ?_;rw[aV];refine⟨rfl,fun h=>?_⟩;obtain⟨L',nP,kG,oE,aj4,rfl⟩:=h9 h;exact JA E iO nA O (acK aj4) (Perm.refl _)
 have C0:¬s.kind=5:=(by simpa using fx)
 have aV:gi (L.map aK.t) s=((L.map aK.t).set (aM (L.map aK.t) s.table).toNat (mA (L[(aM (L.map aK.t) s.table).toNat]'E).t s.aj).1,(([],(mA (L[(aM (L.map aK.t) s.table).toNat]'E).t s.aj).2.1),(mA (L[(aM (L.map aK.t) s.table).toNat]'E).t s.aj).2.2)):=(by unfold gi;rw[kW,if_neg dO,if_neg h0,if_neg lR,if_neg xG,if_neg C0])
 obtain⟨n,hn,g⟩:=hg (L[(aM (L.map aK.t) s.table).toNat]'E) (getElem_mem E);obtain⟨Sg,NK,jI⟩:=OE (aT (L[(aM (L.map aK.t) s.table).toNat]'E) (getElem_mem E));refine CD.perm (Ie (A:=[_,_,_]) E) ?_;refine CD.wk (jI _ _ [_,_,_,_] _) ?_;refine aD 2 ?_
 refine OD.call (Sf:=(⟨bx,53,cap*5,(L.take (aM (L.map aK.t) s.table).toNat).flatMap gT++(gT (L[(aM (L.map aK.t) s.table).toNat]'E)++(L.drop ((aM (L.map aK.t) s.table).toNat+1)).flatMap gT)⟩:ah)::Sg) (R:=⟨b4,36,2,[.list 1 [] 0,ae 0]⟩::⟨b3,32,12,bI s⟩::fS I (some ⟨bx,0,none⟩) L.length cap::((L.eraseIdx (aM (L.map aK.t) s.table).toNat).flatMap bT)) ap rfl rfl rfl call46 (aaZ hm hw ht hG (L[(aM (L.map aK.t) s.table).toNat]'E).t g s ho fU bx (0+(aM (L.map aK.t) s.table).toNat*5) (cap*5) ((L.take (aM (L.map aK.t) s.table).toNat).flatMap gT) ((L.drop ((aM (L.map aK.t) s.table).toNat+1)).flatMap gT) KD (L[(aM (L.map aK.t) s.table).toNat]'E).ad (L[(aM (L.map aK.t) s.table).toNat]'E).cap Sg NK) ⟨ot,ot,trivial⟩ (show(⟨b4,36,2,[.list 1 [] 0,ae 0]⟩::⟨b3,32,12,bI s⟩::fS I (some ⟨bx,0,none⟩) L.length cap::(⟨bx,53,cap*5,(L.take (aM (L.map aK.t) s.table).toNat).flatMap gT++(gT (L[(aM (L.map aK.t) s.table).toNat]'E)++(L.drop ((aM (L.map aK.t) s.table).toNat+1)).flatMap gT)⟩:ah)::(Sg++(L.eraseIdx (aM (L.map aK.t) s.table).toNat).flatMap bT):List ah).Perm (((⟨bx,53,cap*5,(L.take (aM (L.map aK.t) s.table).toNat).flatMap gT++(gT (L[(aM (L.map aK.t) s.table).toNat]'E)++(L.drop ((aM (L.map aK.t) s.table).toNat+1)).flatMap gT)⟩:ah)::Sg)++(⟨b4,36,2,[.list 1 [] 0,ae 0]⟩::⟨b3,32,12,bI s⟩::fS I (some ⟨bx,0,none⟩) L.length cap::((L.eraseIdx (aM (L.map aK.t) s.table).toNat).flatMap bT))) from(ie fun iN=>by simp only[map_append,map_cons,map_nil,sum_append,sum_cons,sum_nil];omega)) ?_
 rintro _ U ⟨rfl,h9⟩;refine OD.perm (S':=⟨b4,36,2,[.list 1 [] 0,ae 0]⟩::⟨b3,32,12,bI s⟩::fS I (some ⟨bx,0,none⟩) L.length cap::(U++(L.eraseIdx (aM (L.map aK.t) s.table).toNat).flatMap bT)) (show(U++(⟨b4,36,2,[.list 1 [] 0,ae 0]⟩::⟨b3,32,12,bI s⟩::fS I (some ⟨bx,0,none⟩) L.length cap::((L.eraseIdx (aM (L.map aK.t) s.table).toNat).flatMap bT)):List ah).Perm _ from(ie fun iN=>by simp only[map_append,map_cons,map_nil,sum_append,sum_cons,sum_nil];omega)) ?_;refine an 87 [4,10,11] ?_;refine aD 3 ?_;refine aP 0 [_,_] sizeOf36 ?_;refine aE 1 ?_;first|refine OD.cells (k:=0) (cs':=[.list 1 [] 0,_]) rfl ⟨eV,cY,trivial⟩ rfl ?_|skip
 refine an 87 [4,5] ?_;refine aJ (fS I (some ⟨bx,0,none⟩) L.length cap::(U++(L.eraseIdx (aM (L.map aK.t) s.table).toNat).flatMap bT)) ?_;rw[aV];refine⟨rfl,fun h=>?_⟩;obtain⟨nP,kG,oE,LC,rfl⟩:=h9 h;exact JA E iO nA O (Ta LC) (by rw[show bT (⟨_,_,nP,kG,oE,[]⟩:aK)=oE from append_nil _];exact Perm.refl _)

end Go.Proofs.YtdgichenhdikgaaGreatDoor.Ba
namespace Go.Proofs.YtdgichenhdikgaaGreatDoor.Ba
open List
open Go.Proofs.Tryz
open Go.RowKit V Pk Tr Vl Go.Proofs.YtdgichenhdikgaaGreatDoor.Nm Pc Cd Ex Tw
open Pa (cx bI)
variable {G:List (Nat×List Value)} {m:Int}
variable {n:Nat}
def vp(t:aL)(i:Nat):Nat:=((range i).filter fun j=>decide ((t.rows.getD j []).length≠0)).length
theorem Ep(t:aL)(i:Nat):vp t (i+1)=vp t i+if (t.rows.getD i []).length≠0 then 1 else 0:=by
 unfold vp;rw[range_succ,filter_append,length_append];congr 1;by_cases h:(t.rows.getD i []).length≠0
 ·rw[if_pos h,filter_cons_of_pos oR];rfl
 rw[if_neg h,filter_cons_of_neg oR];rfl
theorem TZ(t:aL)(i:Nat):vp t i≤i:=by
 unfold vp;exact Nat.le_trans (length_filter_le _ _) (by rw[length_range];exact Nat.le_refl _)
theorem IQ{t:aL}{i:Nat}(h:i<t.rows.length):t.rows.getD i []=t.rows[i]:=by rw[getD_eq_getElem?_getD,getElem?_eq_getElem h];rfl
theorem Tb{t:aL}(g:eW t n):vp t t.rows.length=(eE t.ix).length:=by
 unfold vp;have hA:((eE t.ix).map fun x=>x.2.toNat).Nodup:=by
  have hr:(eE t.ix).Pairwise (fun a b=>bN a.1 b.1):=HZ g.ix.val;rw[Nodup,pairwise_map];refine hr.imp_of_mem fun {a b} ha hb h e=>?_;obtain⟨a0,a1,a2,a3⟩:=g.iZ a ha;obtain⟨b0,b1,b2,b3⟩:=g.iZ b hb;refine kp a.1 ?_;have:a.1=b.1:=(by rw[a3,b3];simp only[e])
  rw[←this] at h;exact h
 have Z:((range t.rows.length).filter fun j=>decide ((t.rows.getD j []).length≠0)).Nodup:=List.nodup_range.filter _;have h1:=hA.length_le_of_subset (l₂:=(range t.rows.length).filter fun j=>decide ((t.rows.getD j []).length≠0)) fun i hi=>by
  obtain⟨x,hx,rfl⟩:=mem_map.1 hi;obtain⟨x0,x1,x2,x3⟩:=g.iZ x hx;refine mem_filter.2 ⟨mem_range.2 x1,decide_eq_true ?_⟩;rw[IQ x1];exact fun h=>x2 (length_eq_zero_iff.1 h)
 have h2:=Z.length_le_of_subset (l₂:=(eE t.ix).map fun x=>x.2.toNat) fun i hi=>by
  obtain⟨O,U⟩:=mem_filter.1 hi;have E:=mem_range.1 O;have I:=of_decide_eq_true U;rw[IQ E] at I;exact mem_map.2 ⟨_,(g.row i E (fun h=>I (by rw[h];rfl))).2.2,by simp⟩
 rw[length_map] at h1 h2;omega
theorem acL(hm:(3,marksC)∈G)(hw:(1,wordsC)∈G)(ht:(0,typesC)∈G)(hG:(2,[Value.int .i64 m])∈G)(t:aL)(g:eW t n)(sO:t.nm.size≤maxLen):VP Tryz.prog G 37 [.agg (dg t)] (cg true):=by
 refine VC.body func37 rfl ntmps37 aS fun X0 w0 aZ=>?_;have da:=dW;have mI:=g.eD;have nu:=tv (G:=G) hm hw t.nm sO;rw[g.nm] at nu;have fg:=Pc.EV (G:=G) hm hw ht t.az xx xw;have hco:Pc.fI t.az=0:=(by rw[g.az];exact IS)
 rw[hco] at fg;have vP:=ad9 (G:=G) g.ix;have Z:=SL (G:=G) g.ix;rw[IK] at Z;unfold Tw.cT at vP Z;have X2:=Tb g;unfold dg;refine bY ?_;refine OD.box (ds:=[_,_,_,_,_]) ap rfl rfl ot rfl rfl (fun b1=>?_);refine an 76 [1] ?_;refine aD 2 ?_;refine dS call64 (nu) ?_;refine aE 2 ?_;refine bX 14 (fun E ahn=>?_) (fun E ahn=>?_)
 ·exact absurd E (by simp at E)
 refine aE 2 ?_;refine OD.gZ iu rfl rfl rfl call54 (fg) ⟨ot,trivial⟩ ?_;refine aE 3 ?_;refine bX 20 (fun I aho=>?_) (fun I aho=>?_)
 ·exact absurd I (by simp at I)
 refine aE 6 ?_;refine bX 26 (fun O Kn=>?_) (fun O Kn=>?_)
 ·exact absurd O (by (simp at O;omega))
 refine aE 2 ?_;refine OD.gZ iu rfl rfl rfl call49 (vP) ⟨ot,trivial⟩ ?_;refine an 76 [1,31] ?_;refine au ?_ ?_<;>intro aN bC
 ·exact absurd aN (by simp at aN)
 refine af [1,3] ?_;refine af [1,3,33,34,35] ?_;refine CD.block ?_;refine mR (fun (i:Nat) aI=>(i≤t.rows.length)∧aI=(⟨76,[(1,dI b1),(3,ae (vp t i:Nat)),(33,av 1 gq t.rows),(34,ae (t.rows.length:Nat)),(35,ae (i:Nat))],[⟨b1,53,5,dg t⟩]⟩:St)) (fun (i:Nat)=>t.rows.length-i) 0 ⟨(Nat.zero_le _),rfl⟩ (aQ (h:=by repeat (first|exact trivial|refine⟨(by (repeat (first|exact fD|(apply fX;focus (first|rfl|(rw[Ep,if_neg zj];rfl)|(rw[Ep,if_pos zj];rfl)|(simp;done)|(congr 2;omega)))|(apply fH;focus rfl)));done),?_⟩))) ?_;rintro i _ ⟨hi,rfl⟩;refine af [1,3,33,34,35,36] ?_;refine au ?_ ?_<;>intro aY cz
 ·have aa:i<t.rows.length:=(by omega)
  have kW:t.rows.getD i []=(t.rows[i]'aa):=IQ aa;have kY:=TZ t i;refine af [1,3,4,5,33,34,35] ?_;refine af [1,3,4,5,33,34,35,42] ?_;refine au ?_ ?_<;>intro bZ cM
  ·have zj:¬(t.rows.getD i []).length≠0:=(by rw[kW];simpa using bZ)
   exact Wx
  have zj:(t.rows.getD i []).length≠0:=(by rw[kW];simpa using bZ)
  have hne:(t.rows[i]'aa)≠[]:=fun h=>zj (by rw[kW,h];rfl);obtain⟨p1,p2,p3⟩:=g.row i aa hne;have p4:=pE p1;have x8:=JK (G:=G) hm hw ht t.az xx xw (t.rows[i]'aa) w4;have XS:Pc.en t.az (t.rows[i]'aa)=0:=(by rw[g.az];exact p1)
  rw[XS] at x8;have hyv:=yQ (G:=G) hG (t.rows[i]'aa) w4 w4 p2;have fy:=JS (G:=G) g.ix (c9 (t.rows[i]'aa));rw[Q1 g.ix (wm p1) p3] at fy;unfold Tw.cT at fy;refine af [1,3,4,5,33,34,35] ?_;refine cH [1,3,4,5,33,34,35,49] (x8) ?_;refine au ?_ ?_<;>intro cW ek
  ·exact absurd cW (by simp at cW)
  refine cQ [1,3,4,6,7,33,34,35] ?_;refine de (hyv) ?_;refine de (fy) ?_;refine bG ?_;refine aD 3 ?_;refine bX 60 (fun U Kg=>?_) (fun U Kg=>?_)
  ·exact absurd U (by simp at U)
  refine bg [1,3,33,34,35,64] ?_;refine au ?_ ?_<;>intro eA fA
  ·exact absurd eA (by simp at eA)
  exact Wx
 have tZ:i=t.rows.length:=(by omega)
 subst tZ;refine cH [3,8] (Z) ?_;refine af [2] ?_;refine aJ [] ?_;refine⟨?_,rfl⟩;first|rfl|(rw[X2];simp)

structure l8 (l:List aL) (n:Nat):Prop where
 eD:l.length≤4
 tb:∀t∈l,eW t n
 sz:∀t∈l,t.nm.size≤maxLen
 DQ:l.Pairwise fun a b=>a.nm.toList≠b.nm.toList
theorem l8.no{l:List aL}(g:l8 l n){i:Nat}(h:i<l.length):aM (l.take i) l[i].nm<0:=by
 unfold aM;rw[uC (k:=(l.take i).length) w4 (fun x hx=>?_)]
 ·decide
 rw[take_of_length_le (Nat.le_refl _)] at hx;obtain⟨j,hj,rfl⟩:=mem_iff_getElem.1 hx;rw[length_take] at hj;rw[getElem_take];have:=pairwise_iff_getElem.1 g.DQ j i w4 h w4;simpa using this
noncomputable def qV(l:List aL)(nm:ByteArray):List (List Vl)×Int:=if aM l nm<0 then ([],8) else ((eE (l.getD (aM l nm).toNat ⟨nm,[],[],oM⟩).ix).map fun x=>rowAt (l.getD (aM l nm).toNat ⟨nm,[],[],oM⟩) x.2,0)
theorem PN(hm:(3,marksC)∈G)(hw:(1,wordsC)∈G)(ht:(0,typesC)∈G)(hG:(2,[Value.int .i64 m])∈G)(l:List aL)(g:l8 l n):VP Tryz.prog G 24 [.agg [av 5 dg (l)]] (ae 0):=by
 refine VC.body func24 rfl ntmps24 aS fun X0 w0 aZ=>?_;have da:=dW;have U:=g.eD;refine bY ?_;refine OD.box (ds:=[_]) ap rfl rfl ot rfl rfl (fun b1=>?_);refine an 31 [1] ?_;refine af [1,8] ?_;refine au ?_ ?_<;>intro aN bC
 ·exact absurd aN (by (simp at aN;omega))
 refine af [1,10,11,12] ?_;refine eK [1,10,11] (fun aW _ (i:Nat) aI=>(i≤l.length)∧aI=(⟨31,(12,ae (i:Nat))::aW,[⟨b1,25,1,[av 5 dg (l)]⟩]⟩:St)) (fun (i:Nat)=>l.length-i) 0 ⟨(Nat.zero_le _),rfl⟩ ?_;rintro i _ ⟨hi,rfl⟩;refine af [1,10,11,12,13] ?_;refine au ?_ ?_<;>intro aY cz
 ·have aa:i<l.length:=(by omega)
  have O:=acL hm hw ht hG (l[i]'aa) (g.tb _ (getElem_mem aa)) (g.sz _ (getElem_mem aa));have fy:=pu (G:=G) (l.take i) oP (l[i]'aa).nm;have jL:=g.no aa;unfold dg at O;refine aD 3 ?_;refine OD.alloc (ds:=[_,_,_,_,_]) ap rfl rfl zeroValue53 rfl (fun b4=>?_);refine aE 1 ?_;refine aP 0 [_,_,_,_,_] sizeOf53 ?_;refine an 31 [1,3,4,10,11,12] ?_;refine CD.seq ?_;refine fO 10 (aq _) ?_ (fun _ h=>h);refine ay 0 rfl (cR (mk:=Op.load 53) rfl ot (by first|exact qd (k:=0) (ds:=[_,_,_,_,_]) rfl rfl isAgg53 sizeOf53 rfl rfl|exact jY jX isAgg53 sizeOf53 w5|exact dP (k:=0) jX rfl rfl rfl isAgg53 sizeOf53 w5|exact dP (k:=1) jX rfl rfl rfl isAgg53 sizeOf53 w5|exact qj (ds:=[_,_,_,_,_]) isAgg53 sizeOf53 rfl rfl)) ?_;refine di.later rfl ?_;refine AD.one (i:=1) aA ?_;refine jG call37 (O) ?_;refine cy 2 rfl kX ?_;refine cy 3 rfl bf ?_;refine AD.split (t:=20) lk (fun E=>?_) (fun E=>?_)
  ·exact absurd E (by simp at E)
  have I:=E;(try simp only[V.nv,ne_eq] at I)
  refine cy 4 rfl (dj 0) ?_;refine cy 6 rfl bf ?_;refine cy 8 rfl (dj 0) ?_;refine AD.two (i:=5) (j:=9) aA ?_ ?_
  ·refine at_ rfl (dJ 1) ?_;refine cy 7 rfl (ei (l:=0) (h:=i) rfl ot trivial ⟨_,ot⟩ (by exact nW jX (fun h=>by cases h) runUnderlying23 sizeOf53 w4)) ?_;refine AD.one (i:=9) aA ?_;refine at_ rfl (dJ 0) ?_;exact z76
  refine at_ rfl (dJ 0) ?_;refine AD.one (i:=5) aA ?_;refine at_ rfl (dJ 1) ?_;refine cy 7 rfl (ei (l:=0) (h:=i) rfl ot trivial ⟨_,ot⟩ (by exact nW jX (fun h=>by cases h) runUnderlying23 sizeOf53 w4)) ?_;exact z76
 refine af [2] ?_;exact z51
theorem ZE:(Tryz.prog.info? 28).map (fun i=>(i.zero,i.size,i.bytes))=some (some (.slice none 0 0),1,24):=by kernel_rfl
theorem JB(hm:(3,marksC)∈G)(hw:(1,wordsC)∈G)(ht:(0,typesC)∈G)(hG:(2,[Value.int .i64 m])∈G)(l:List aL)(g:l8 l n)(nm:ByteArray):VP Tryz.prog G 14 [.agg [av 5 dg (l)],bn nm] (.dF [.list 1 ((qV l nm).1.flatMap gq) (qV l nm).1.length,ae (qV l nm).2]):=by
 refine VC.body func14 rfl ntmps14 aS fun X0 w0 aZ=>?_;have da:=dW;have mI:=g.eD;have ou:=PN hm hw ht hG l g;have fy:=pu (G:=G) l w4 nm;have qv:=uO (fun t:aL=>t.nm.toList==nm.toList) l;rw[show dR (fun t:aL=>t.nm.toList==nm.toList) l=aM l nm from rfl] at qv;refine bY ?_;refine OD.box (ds:=[_]) ap rfl rfl ot rfl rfl (fun b2=>?_);refine an 54 [1,2] ?_;refine cH [1,2,6] (ou) ?_;refine af [1,2,6,17] ?_;refine au ?_ ?_<;>intro aN bC
 ·exact absurd aN (by simp at aN)
 refine cH [2,7] (fy) ?_;refine af [2,7,24] ?_;refine au ?_ ?_<;>intro aY cz
 ·have h0:aM l nm<0:=(by simpa using aY)
  have aV:qV l nm=([],8):=if_pos h0;refine af [4,5] ?_;refine CD.wk (Wk.tw (t:=4) (sz:=1) lk) ?_;exact ow
 have h0:¬aM l nm<0:=(by simpa using aY)
 have E:(aM l nm).toNat<l.length:=(by omega)
 have O:=g.tb (l[(aM l nm).toNat]'E) (getElem_mem E);have kW:l.getD (aM l nm).toNat ⟨nm,[],[],oM⟩=(l[(aM l nm).toNat]'E):=(by rw[getD_eq_getElem?_getD,getElem?_eq_getElem E];rfl)
 have aV:qV l nm=((eE (l[(aM l nm).toNat]'E).ix).map fun x=>rowAt (l[(aM l nm).toNat]'E) x.2,0):=(by unfold qV;rw[if_neg h0,kW])
 have As:=SL (G:=G) O.ix;rw[IK] at As;unfold Tw.cT at As;have X2:=Tb O;have kY:=TZ (l[(aM l nm).toNat]'E) (l[(aM l nm).toNat]'E).rows.length;have Nr:=O.eD;refine aD 3 ?_;refine bH (dm 5 (h:=by first|exact .l (j:=(aM l nm).toNat) (Int.toNat_of_nonneg w4).symm E|exact .r (j:=(aM l nm).toNat) (Int.toNat_of_nonneg w4).symm E)) ?_;refine aE 1 ?_;refine OD.alloc (ds:=[_,_,_,_,_]) ap rfl rfl zeroValue53 rfl (fun b8=>?_);refine aP 0 [_,_,_,_,_] sizeOf53 ?_;refine an 54 [8] ?_;refine cH [8,9] (As) ?_;refine bY ?_;refine bg [8,9,11] ?_;refine af [8,11,36,37,38] ?_;refine eK [8,36,37] (fun aW _ (U:Nat×List (List Vl)×Option Addr×Nat×List ah) aI=>match U with|(i,acc,dQ,dc,Sx)=>(i≤(eE (l[(aM l nm).toNat]'E).ix).length)∧(acc=((eE (l[(aM l nm).toNat]'E).ix).take i).map fun x=>rowAt (l[(aM l nm).toNat]'E) x.2)∧(bz 28 1 ((acc).flatMap gq) (acc).length dQ dc Sx)∧aI=(⟨54,(11,aR dQ (acc).length dc)::(38,ae (i:Nat))::aW,(⟨b8,53,5,dg (l[(aM l nm).toNat]'E)⟩::⟨b2,25,1,[av 5 dg (l)]⟩::Sx)⟩:St)) (fun (U:Nat×List (List Vl)×Option Addr×Nat×List ah)=>match U with|(i,acc,dQ,dc,Sx)=>(eE (l[(aM l nm).toNat]'E).ix).length-i) (0,([]:List (List Vl)),none,0,[]) ⟨(Nat.zero_le _),rfl,(bz.cast iI kV),rfl⟩ ?_;rintro⟨i,acc,dQ,dc,Sx⟩ _ ⟨hi,ri,ec,rfl⟩;refine af [8,11,36,37,38,39] ?_;refine au ?_ ?_<;>intro bZ cM
 ·have aa:i<(eE (l[(aM l nm).toNat]'E).ix).length:=(by omega)
  obtain⟨gD,I,nR,MA⟩:=O.iZ _ (getElem_mem aa);have hra:rowAt (l[(aM l nm).toNat]'E) ((eE (l[(aM l nm).toNat]'E).ix)[i]'aa).2=((l[(aM l nm).toNat]'E).rows[((eE (l[(aM l nm).toNat]'E).ix)[i]'aa).2.toNat]'I):=jk I;have h4:=pE (O.row _ I nR).1;have fg:=Pw (G:=G) ((l[(aM l nm).toNat]'E).rows[((eE (l[(aM l nm).toNat]'E).ix)[i]'aa).2.toNat]'I) w4;have qF:acc.length=i:=(by rw[ri,length_map,length_take];omega)
  refine aD 2 ?_;refine OD.alloc (ds:=[_,_]) ap rfl rfl zeroValue90 rfl (fun mr=>?_);refine aP 0 [_,_] sizeOf90 ?_;refine an 54 [8,11,13,36,37,38] ?_;refine dN 5 ?_;refine bH (dm 1 (h:=by first|exact .l (j:=((eE (l[(aM l nm).toNat]'E).ix)[i]'aa).2.toNat) (Int.toNat_of_nonneg gD).symm I|exact .r (j:=((eE (l[(aM l nm).toNat]'E).ix)[i]'aa).2.toNat) (Int.toNat_of_nonneg gD).symm I)) ?_;refine aE 1 ?_;refine dS call31 (fg) ?_;refine ez (cf 0 [_]) [.slice none 0 0] [_] zeroValue28 runUnderlying34 sizeOf28 (fun Ao=>?_);refine fP 0 50 1 1 ?_;refine OD.ew (ls:=(acc)) (new:=[((l[(aM l nm).toNat]'E).rows[((eE (l[(aM l nm).toNat]'E).ix)[i]'aa).2.toNat]'I)]) (Sq:=Sx) kj Q4 ap rfl rfl underlying34 ZE rfl w7 ot ec (dD (A:=[_,_,_])) ot bu nq nr (fun yd Z Ly Lz=>?_);refine OD.perm (ee (S1:=[⟨yd,28,Z*1,flatMap gq ((acc)++[((l[(aM l nm).toNat]'E).rows[((eE (l[(aM l nm).toNat]'E).ix)[i]'aa).2.toNat]'I)])⟩]) (A:=[_,_,_])) ?_;refine an 54 [8,11,36,37,38] ?_;refine cm [8,11,36,37,38] ?_
  refine⟨((i+1),(acc++[((l[(aM l nm).toNat]'E).rows[((eE (l[(aM l nm).toNat]'E).ix)[i]'aa).2.toNat]'I)]),(some ⟨yd,0,none⟩),Z,[⟨yd,28,Z*1,flatMap gq ((acc)++[((l[(aM l nm).toNat]'E).rows[((eE (l[(aM l nm).toNat]'E).ix)[i]'aa).2.toNat]'I)])⟩]),_,cD,aQ,w4,(by rw[ri,←hra,←pc aa,map_append];rfl),(bz.cast (bF Ly Lz) kV),rfl⟩
 have nk:acc=(eE (l[(aM l nm).toNat]'E).ix).map fun x=>rowAt (l[(aM l nm).toNat]'E) x.2:=(by rw[ri,take_of_length_le w4])
 refine af [4,5] ?_;refine CD.ij (t:=4) (Sq:=Sx) lk ec (cn kj _) (dD (A:=[_,_])) ?_;refine aJ [] ?_;rw[aV,←nk];exact⟨rfl,rfl⟩

end Go.Proofs.YtdgichenhdikgaaGreatDoor.Ba
namespace Go.Proofs.YtdgichenhdikgaaGreatDoor.Ba
open List
open Go.Proofs.Tryz
open Go.RowKit V Pk Tr Vl Go.Proofs.YtdgichenhdikgaaGreatDoor.Nm Pc Cd Ex Tw
open Pa (cx bI j3 gQ)
variable {G:List (Nat×List Value)} {m:Int}
noncomputable def nM(l:List aL)(s:cx):List aL×((List (List Vl)×Int)×Int) :=
 if gQ s≠0 then ([],(([],0),gQ s)) else if 7≤s.kind then ([],(([],0),2)) else if (gi l s).2.2≠0 then ([],(([],0),(gi l s).2.2)) else ((gi l s).1,((gi l s).2.1,0))
noncomputable def rp(rr:List aL×((List (List Vl)×Int)×Int))(s:cx):List aL×((List (List Vl)×Int)×Int) :=
 if gQ s≠0 then ([],(([],0),gQ s)) else if 7≤s.kind then ([],(([],0),2)) else if rr.2.2≠0 then ([],(([],0),rr.2.2)) else (rr.1,(rr.2.1,0))
def uB(p:List aL×((List (List Vl)×Int)×Int)):D:=.dF [.agg [av 5 dg p.1],.agg [av 1 gq p.2.1.1,ae p.2.1.2],ae p.2.2]
theorem Tc(hm:(3,marksC)∈G)(hw:(1,wordsC)∈G)(ht:(0,typesC)∈G)(hG:(2,[Value.int .i64 m])∈G)(l:List aL){n:Nat}(g:l8 l n)(s:cx)(hf:j3 s)(E:List aL×((List (List Vl)×Int)×Int))(nH:∀(L:List aK),L.map aK.t=l→(∀o∈L,o9 o)→∀(bo:Nat) (ad:Option Addr) (cap:Nat) (Sx:List ah),vm L ad cap Sx→VC Tryz.prog G 27 [dI bo,.agg (bI s)] (fS bo ad L.length cap::(Sx++L.flatMap bT)) (fun r S=>r=x7 E.2∧(E.2.2=0→BF E.1 bo S)))(Ar:E.2.2=0→E.1.length≤1000∧∀t∈E.1,yT t):VP Tryz.prog G 11 [.agg [av 5 dg (l)],.agg (bI s)] (uB (rp E s)):=by
 refine VC.body func11 rfl ntmps11 aS fun X0 w0 aZ=>?_;have da:=dW;have mI:=g.eD;have ou:=PN hm hw ht hG l g;have fg:=Pa.Qp (G:=G) hm hw ht s hf;refine bY ?_;refine OD.box (ds:=[_]) ap rfl rfl ot rfl rfl (fun b2=>?_);refine OD.box (ds:=[_,_,_,_,_,_,_,_,_,_,_,_]) ap rfl rfl ot rfl rfl (fun b3=>?_);refine OD.alloc (ds:=[_]) ap rfl rfl zeroValue25 rfl (fun b4=>?_);refine OD.alloc (ds:=[_,_]) ap rfl rfl zeroValue36 rfl (fun b5=>?_);refine aE 1 ?_;first|refine OD.cells (k:=0) (cs':=[.list 1 [] 0,_]) rfl ⟨eV,cY,trivial⟩ rfl ?_|skip
 first|refine OD.cells (k:=1) (cs':=[.list 1 [] 0,_]) rfl ⟨eV,cY,trivial⟩ rfl ?_|skip
 first|refine OD.cells (k:=1) (cs':=[.list 5 [] 0]) rfl ⟨eV,trivial⟩ rfl ?_|skip
 first|refine OD.cells (k:=2) (cs':=[.list 5 [] 0]) rfl ⟨eV,trivial⟩ rfl ?_|skip
 refine an 46 [2,3,4,5] ?_;refine cH [2,3,4,5,7] (ou) ?_;refine af [2,3,4,5,7,15] ?_;refine au ?_ ?_<;>intro aN bC
 ·exact absurd aN (by simp at aN)
 refine cH [2,3,4,5,8] (fg) ?_;refine af [2,3,4,5,8,22] ?_;refine au ?_ ?_<;>intro aY cz
 ·have h1:gQ s≠0:=(by simpa using aY)
  have aV:rp E s=([],(([],0),gQ s)):=if_pos h1;refine aD 3 ?_;refine aP 1 [_] sizeOf25 ?_;refine aP 0 [_,_] sizeOf36 ?_;exact z40
 have h1:¬gQ s≠0:=(by simpa using aY)
 refine af [2,3,4,5,28] ?_;refine au ?_ ?_<;>intro bZ cM
 ·have h2:7≤s.kind:=(by simpa using bZ)
  have aV:rp E s=([],(([],0),2)):=(by unfold rp;rw[if_neg h1,if_pos h2])
  refine aD 2 ?_;refine aP 1 [_] sizeOf25 ?_;refine aP 0 [_,_] sizeOf36 ?_;exact z40
 have h2:¬7≤s.kind:=(by simpa using bZ)
 refine aD 1 ?_;refine OD.call ap rfl rfl rfl call26 (Pz l w4 (fun t h=>(g.tb t h).small)) ⟨ot,trivial⟩ (eT _) ?_;rintro _ _ ⟨L,ad,cap,Sx,rfl,kE,aT,o8,rfl⟩;refine OD.perm (S':=⟨b5,36,2,[.list 1 [] 0,ae 0]⟩::⟨b4,25,1,[.list 5 [] 0]⟩::⟨b3,32,12,bI s⟩::⟨b2,25,1,[av 5 dg (l)]⟩::(Sx++L.flatMap bT)) (show((Sx++L.flatMap bT)++(⟨b5,36,2,[.list 1 [] 0,ae 0]⟩::⟨b4,25,1,[.list 5 [] 0]⟩::⟨b3,32,12,bI s⟩::[⟨b2,25,1,[av 5 dg (l)]⟩]):List ah).Perm _ from(ie fun iN=>by simp only[map_append,map_cons,map_nil,sum_append,sum_cons,sum_nil];omega)) ?_;refine OD.alloc (ds:=[_]) ap rfl rfl zeroValue25 rfl (fun b9=>?_);refine aP 0 [_] sizeOf25 ?_;refine an 46 [3,4,5,9] ?_;refine aD 1 ?_;have rH:L.length=l.length:=(by rw[←o8,length_map])
 refine OD.call (Sf:=fS b9 ad L.length cap::(Sx++L.flatMap bT)) (R:=⟨b5,36,2,[.list 1 [] 0,ae 0]⟩::⟨b4,25,1,[.list 5 [] 0]⟩::⟨b3,32,12,bI s⟩::[⟨b2,25,1,[av 5 dg (l)]⟩]) ap rfl rfl rfl call27 (nH L o8 aT b9 ad cap Sx kE) ⟨ot,ot,trivial⟩ (show(fS b9 ad L.length cap::⟨b5,36,2,[.list 1 [] 0,ae 0]⟩::⟨b4,25,1,[.list 5 [] 0]⟩::⟨b3,32,12,bI s⟩::⟨b2,25,1,[av 5 dg (l)]⟩::(Sx++L.flatMap bT):List ah).Perm ((fS b9 ad L.length cap::(Sx++L.flatMap bT))++(⟨b5,36,2,[.list 1 [] 0,ae 0]⟩::⟨b4,25,1,[.list 5 [] 0]⟩::⟨b3,32,12,bI s⟩::[⟨b2,25,1,[av 5 dg (l)]⟩])) from(ie fun iN=>by simp only[map_append,map_cons,map_nil,sum_append,sum_cons,sum_nil];omega)) ?_;rintro _ S9 ⟨rfl,h9⟩;refine OD.perm (S':=⟨b5,36,2,[.list 1 [] 0,ae 0]⟩::⟨b4,25,1,[.list 5 [] 0]⟩::⟨b3,32,12,bI s⟩::⟨b2,25,1,[av 5 dg (l)]⟩::S9) (show(S9++(⟨b5,36,2,[.list 1 [] 0,ae 0]⟩::⟨b4,25,1,[.list 5 [] 0]⟩::⟨b3,32,12,bI s⟩::[⟨b2,25,1,[av 5 dg (l)]⟩]):List ah).Perm _ from(ie fun iN=>by simp only[map_append,map_cons,map_nil,sum_append,sum_cons,sum_nil];omega)) ?_;unfold x7;refine aE 3 ?_;refine OD.alloc (ds:=[_,_]) ap rfl rfl zeroValue36 rfl (fun kJ=>?_);refine aP 0 [_,_] sizeOf36 ?_;refine an 46 [4,5,9,10,11] ?_;refine af [4,5,9,10,11,39] ?_;refine au ?_ ?_<;>intro cW ek
 ·have h3:E.2.2≠0:=(by simpa using cW)
  have aV:rp E s=([],(([],0),E.2.2)):=(by unfold rp;rw[if_neg h1,if_neg h2,if_pos h3])
  refine aD 3 ?_;refine aP 2 [_] sizeOf25 ?_;refine aP 1 [_,_] sizeOf36 ?_;exact z40
 have h3:¬E.2.2≠0:=(by simpa using cW)
 have aV:rp E s=(E.1,(E.2.1,0)):=(by unfold rp;rw[if_neg h1,if_neg h2,if_neg h3])
 obtain⟨L',I,kG,O,U,Z,aj5,hS⟩:=h9 (Classical.not_not.1 h3);obtain⟨G7,uq⟩:=Ar (Classical.not_not.1 h3);have xD:=aaU (G:=G) E.1 G7 uq;refine CD.perm (S':=⟨kJ,36,2,[av 1 gq E.2.1.1,ae E.2.1.2]⟩::⟨b5,36,2,[.list 1 [] 0,ae 0]⟩::⟨b4,25,1,[.list 5 [] 0]⟩::⟨b3,32,12,bI s⟩::⟨b2,25,1,[av 5 dg (l)]⟩::(fS b9 I L'.length kG::(O++L'.flatMap bT))) (show((⟨kJ,36,2,[av 1 gq E.2.1.1,ae E.2.1.2]⟩::⟨b5,36,2,[.list 1 [] 0,ae 0]⟩::⟨b4,25,1,[.list 5 [] 0]⟩::⟨b3,32,12,bI s⟩::[⟨b2,25,1,[av 5 dg (l)]⟩])++S9:List ah).Perm ((⟨kJ,36,2,[av 1 gq E.2.1.1,ae E.2.1.2]⟩::⟨b5,36,2,[.list 1 [] 0,ae 0]⟩::⟨b4,25,1,[.list 5 [] 0]⟩::⟨b3,32,12,bI s⟩::[⟨b2,25,1,[av 5 dg (l)]⟩])++(fS b9 I L'.length kG::(O++L'.flatMap bT))) from Perm.append_left ((⟨kJ,36,2,[av 1 gq E.2.1.1,ae E.2.1.2]⟩::⟨b5,36,2,[.list 1 [] 0,ae 0]⟩::⟨b4,25,1,[.list 5 [] 0]⟩::⟨b3,32,12,bI s⟩::[⟨b2,25,1,[av 5 dg (l)]⟩]):List ah) hS) ?_
 refine CD.wk (Wk.cover (A:=fS b9 I L'.length kG) (R:=⟨kJ,36,2,[av 1 gq E.2.1.1,ae E.2.1.2]⟩::⟨b5,36,2,[.list 1 [] 0,ae 0]⟩::⟨b4,25,1,[.list 5 [] 0]⟩::⟨b3,32,12,bI s⟩::[⟨b2,25,1,[av 5 dg (l)]⟩]) (Sd:=O++L'.flatMap bT) (cs':=[av 5 dg (E.1)]) (show(⟨kJ,36,2,[av 1 gq E.2.1.1,ae E.2.1.2]⟩::⟨b5,36,2,[.list 1 [] 0,ae 0]⟩::⟨b4,25,1,[.list 5 [] 0]⟩::⟨b3,32,12,bI s⟩::⟨b2,25,1,[av 5 dg (l)]⟩::(fS b9 I L'.length kG::(O++L'.flatMap bT)):List ah).Perm _ from(ie fun iN=>by simp only[map_append,map_cons,map_nil,sum_append,sum_cons,sum_nil];omega)) ⟨by rw[←aj5];unfold av;rw[length_map];exact Bj U Z (fun B h=>h),trivial⟩) ?_;refine CD.skip ?_;refine CD.seq ?_;refine fO 4 (aq (eraseIdx _ 3)) ?_ (fun _ h=>(Sublist.map _ (eraseIdx_sublist _ 3)).subset h)
 refine ay 0 rfl (cR (mk:=Op.load 25) rfl ot (by first|exact qd (k:=0) (ds:=[_]) rfl rfl isAgg25 sizeOf25 rfl rfl|exact jY jX isAgg25 sizeOf25 w5|exact jY kj isAgg25 sizeOf25 w5|exact dP (k:=0) jX rfl rfl rfl isAgg25 sizeOf25 w5|exact dP (k:=1) jX rfl rfl rfl isAgg25 sizeOf25 w5|exact dP (k:=2) jX rfl rfl rfl isAgg25 sizeOf25 w5|exact dP (k:=3) jX rfl rfl rfl isAgg25 sizeOf25 w5|exact dP (k:=4) jX rfl rfl rfl isAgg25 sizeOf25 w5|exact dP (k:=5) jX rfl rfl rfl isAgg25 sizeOf25 w5|exact dP (k:=0) kj rfl rfl rfl isAgg25 sizeOf25 w5|exact dP (k:=1) kj rfl rfl rfl isAgg25 sizeOf25 w5|exact dP (k:=2) kj rfl rfl rfl isAgg25 sizeOf25 w5|exact dP (k:=3) kj rfl rfl rfl isAgg25 sizeOf25 w5|exact dP (k:=4) kj rfl rfl rfl isAgg25 sizeOf25 w5|exact dP (k:=5) kj rfl rfl rfl isAgg25 sizeOf25 w5|exact qj (ds:=[_]) isAgg25 sizeOf25 rfl rfl)) ?_
 refine ay 2 rfl (cR (mk:=Op.load 36) rfl ot (by first|exact qd (k:=1) (ds:=[_,_]) rfl rfl isAgg36 sizeOf36 rfl rfl|exact jY jX isAgg36 sizeOf36 w5|exact jY kj isAgg36 sizeOf36 w5|exact dP (k:=0) jX rfl rfl rfl isAgg36 sizeOf36 w5|exact dP (k:=1) jX rfl rfl rfl isAgg36 sizeOf36 w5|exact dP (k:=2) jX rfl rfl rfl isAgg36 sizeOf36 w5|exact dP (k:=3) jX rfl rfl rfl isAgg36 sizeOf36 w5|exact dP (k:=4) jX rfl rfl rfl isAgg36 sizeOf36 w5|exact dP (k:=5) jX rfl rfl rfl isAgg36 sizeOf36 w5|exact dP (k:=0) kj rfl rfl rfl isAgg36 sizeOf36 w5|exact dP (k:=1) kj rfl rfl rfl isAgg36 sizeOf36 w5|exact dP (k:=2) kj rfl rfl rfl isAgg36 sizeOf36 w5|exact dP (k:=3) kj rfl rfl rfl isAgg36 sizeOf36 w5|exact dP (k:=4) kj rfl rfl rfl isAgg36 sizeOf36 w5|exact dP (k:=5) kj rfl rfl rfl isAgg36 sizeOf36 w5|exact qj (ds:=[_,_]) isAgg36 sizeOf36 rfl rfl)) ?_;refine di.later rfl ?_;refine AD.one (i:=1) aA ?_;refine jG call26 (xD) ?_;refine AD.one (i:=3) aA ?_;refine dU 3 [_] sizeOf25 ?_;refine eJ ?_;refine aP 2 [_,_] sizeOf36 ?_;refine aE 1 ?_;first|refine OD.cells (k:=0) (cs':=[.list 1 [] 0,_]) rfl ⟨eV,cY,trivial⟩ rfl ?_|skip
 first|refine OD.cells (k:=1) (cs':=[.list 1 [] 0,_]) rfl ⟨eV,cY,trivial⟩ rfl ?_|skip
 first|refine OD.cells (k:=1) (cs':=[.list 5 [] 0]) rfl ⟨eV,trivial⟩ rfl ?_|skip
 first|refine OD.cells (k:=2) (cs':=[.list 5 [] 0]) rfl ⟨eV,trivial⟩ rfl ?_|skip
 refine an 46 [4,5,6] ?_;exact uf
theorem afW(hm:(3,marksC)∈G)(hw:(1,wordsC)∈G)(ht:(0,typesC)∈G)(hG:(2,[Value.int .i64 m])∈G)(l:List aL){n:Nat}(hn:n≤260)(g:l8 l n)(s:cx)(hf:j3 s)(fi:¬s.kind=2)(E:∀v∈s.row,v.Ok)(ho:∀o∈s.aj,o.nm.size≤maxLen)(fU:∀o∈s.aj,o.v.Ok)(Z:∀o∈s.bU,o.nm.size≤maxLen)(I:∀o∈s.bU,o.v.Ok)(Ar:(gi l s).2.2=0→(gi l s).1.length≤1000∧∀t∈(gi l s).1,yT t):VP Tryz.prog G 11 [.agg [av 5 dg (l)],.agg (bI s)] (uB (nM l s)) :=
 Tc hm hw ht hG l g s hf (gi l s) (fun L o8 aT bo ad cap Sx O=>by
  subst o8;have U:=g.eD;rw[length_map] at U;exact afV hm hw ht hG L aT w4 (fun o ho=>⟨n,hn,g.tb _ (mem_map_of_mem ho)⟩) s fi (by have:=hf.ok.1;omega) (by have:=hf.ok.2.1;omega) E (by have:=hf.ok.2.2.1;omega) ho fU Z I bo ad cap Sx O) Ar

end Go.Proofs.YtdgichenhdikgaaGreatDoor.Ba
namespace Go.Proofs.YtdgichenhdikgaaGreatDoor.Ba
open List
open Go.Proofs.Tryz
open Go.RowKit V Pk Tr Vl Go.Proofs.YtdgichenhdikgaaGreatDoor.Nm Pc Cd Ex Tw Go.Proofs.YtdgichenhdikgaaGreatDoor.So
theorem acM{α:Type}{g:α→List D}{z:Nat}(hg:∀a,(g a).length=z){q:List α}{i cap:Nat}(hi:i<q.length)(hc:q.length≤cap):((q.flatMap g).drop (eG cap (i+1) z 0)).take ((q.length-(i+1))*z)=(q.drop (i+1)).flatMap g:=by
 exact Ww
theorem aer{α:Type}{g:α→List D}{z:Nat}(hg:∀a,(g a).length=z){q:List α}{i:Nat}(hi:i<q.length):dh (q.flatMap g) (i*z) ((q.drop (i+1)).flatMap g)=(q.eraseIdx i).flatMap g++(q.flatMap g).drop (i*z+((q.drop (i+1)).flatMap g).length):=by
 rw[uE _ _ _ (by rw[cn hg,cn hg,length_drop,←Nat.add_mul];exact Nat.mul_le_mul_right _ w4),rT hg,eraseIdx_eq_take_drop_succ,flatMap_append]
variable {G:List (Nat×List Value)}
theorem Yb:(Tryz.prog.info? 53).map (fun i=>i.size)=some 5:=by kernel_rfl
theorem ZF(q:List aK)(i cap b:Nat)(hi:i<q.length)(hc:q.length≤cap)(hm:cap≤maxLen)(hs:q.length≤1000):VC Tryz.prog G 42 [aR (some ⟨b,0,none⟩) q.length cap,ae (i:Nat),ae ((i+1:Nat):Int)] [⟨b,53,cap*5,q.flatMap gT⟩] (fun r S=>r=aR (some ⟨b,0,none⟩) (q.length-1) cap∧S=[⟨b,53,cap*5,(q.eraseIdx i).flatMap gT⟩]):=by
 refine VC.body func42 rfl ntmps42 aS fun X0 w0 aZ=>?_;refine af [0,1,2] ?_;refine cQ [0,1,2] ?_;refine aU 5 ?_ (h:=by exact(Hj rfl ot ot ot ot runUnderlying23 sizeOf53 w4 w4 hc));refine jJ ?_;refine af [0,1,2,16] ?_;refine au ?_ ?_<;>intro aN bC
 ·exact absurd aN sL
 refine af [0,1,2,7] ?_;refine CD.seq ?_;refine fO 7 (aq (eraseIdx _ 0)) ?_ (fun _ h=>(Sublist.map _ (eraseIdx_sublist _ 0)).subset h);refine ay 0 rfl bf ?_;refine ay 1 rfl bf ?_;refine ay 2 rfl (ei (l:=0) (h:=i) rfl ot trivial ⟨_,ot⟩ (by first|exact nW nZ (fun h=>by cases h) runUnderlying23 sizeOf53 w4|exact mX (fun h=>by cases h) runUnderlying23 sizeOf53 w4|exact tq (fun _=>rfl) (fun h=>by cases h) runUnderlying23 sizeOf53 w4 w4|exact mv (fun _=>rfl) (fun h=>by cases h) runUnderlying23 sizeOf53 w4 w4)) ?_;refine ay 3 rfl bf ?_;refine ay 4 rfl bf ?_;refine ay 5 rfl (ei (l:=i+1) rfl ot ⟨_,ot⟩ trivial (by first|exact we rfl nZ (fun h=>by cases h) runUnderlying23 sizeOf53 w4|exact mX (fun _=>rfl) runUnderlying23 sizeOf53 w4|exact tq (fun h=>by cases h) (fun _=>rfl) runUnderlying23 sizeOf53 w4 w4|exact mv (fun h=>by cases h) (fun _=>rfl) runUnderlying23 sizeOf53 w4 w4)) ?_;refine di.later rfl ?_;refine AD.one (i:=6) aA ?_;refine bj.Ip (n:=i) (m:=q.length-(i+1)) (k:=0) (new:=(q.drop (i+1)).flatMap gT) (cs':=(q.eraseIdx i).flatMap gT++(q.flatMap gT).drop (i*5+((q.drop (i+1)).flatMap gT).length)) rfl ap rfl rfl underlying23 Yb ot rfl rfl ot (acM nZ hi hc) (by rw[cn nZ,length_drop]) (rV JU _) w4 (by show _≤(q.flatMap gT).length;rw[cn nZ,←Nat.add_mul];exact Nat.mul_le_mul_right _ w4) (aer nZ hi) ir ?_
 rw[show i+(q.length-(i+1))=q.length-1 from by omega];refine eJ ?_;refine bg [0,7] ?_;refine aD 4 ?_;refine bH (ei (l:=q.length-1) (h:=q.length) rfl ot ⟨_,ot⟩ ⟨_,ot⟩ (by first|exact mX (fun h=>by cases h) runUnderlying23 sizeOf53 w4|exact tq (fun h=>by cases h) (fun h=>by cases h) runUnderlying23 sizeOf53 w4 w4|exact mv (fun h=>by cases h) (fun h=>by cases h) runUnderlying23 sizeOf53 w4 w4)) ?_;refine OD.shrink (k:=0) (cs':=(q.eraseIdx i).flatMap gT) rfl (prefix_append _ _) ?_;refine OD.clear (k:=0) (sz:=5) ap rfl rfl underlying23 zeroValue53 rfl aA ot rfl rfl (fun h0=>?_) ?_
 ·have h3:eG cap (q.length-1) 5 0=(q.length-1)*5:=(by unfold eG;rw[if_neg w4];omega)
  rw[h3];refine⟨?_,?_⟩
  ·show((q.eraseIdx i).flatMap gT).length≤_;rw[cn nZ,length_eraseIdx_of_lt hi];exact Nat.le_refl _
  show _≤cap*5;omega
 exact Mr
open Pa (cx bI)
noncomputable def pF(l:List aL)(s:cx):List aL×((List (List Vl)×Int)×Int):=if aM l s.table<0 then (l,(([],0),8)) else (l.eraseIdx (aM l s.table).toNat,(([],0),0))
theorem T0:∀(L:List aK) (i:Nat),((L.eraseIdx i).flatMap bT).Sublist (L.flatMap bT)
 | [],_=>by simp
 | x::L,0=>by simp
 | x::L,i+1=>by simp only[eraseIdx_cons_succ,flatMap_cons];exact(Sublist.refl _).append (T0 L i)
theorem T1:∀(L:List aK) (i:Nat),(L.eraseIdx i).map aK.t=(L.map aK.t).eraseIdx i
 | [],_=>by simp
 | x::L,0=>by simp
 | x::L,i+1=>by simp[T1 L i]
theorem aes(L:List aK)(aT:∀o∈L,o9 o)(hL:L.length≤4)(s:cx)(fi:s.kind=2)(I:Nat)(ad:Option Addr)(cap:Nat)(Sx:List ah)(O:vm L ad cap Sx):VC Tryz.prog G 27 [dI I,.agg (bI s)] (fS I ad L.length cap::(Sx++L.flatMap bT)) (fun r S=>r=x7 (pF (L.map aK.t) s).2∧((pF (L.map aK.t) s).2.2=0→BF (pF (L.map aK.t) s).1 I S)):=by
 refine VC.body func27 rfl ntmps27 aS fun X0 w0 aZ=>?_;have da:=dW;have U:=fun o ho=>(aT o ho).w;have fy:=pu (G:=G) (L.map aK.t) Co s.table;unfold av at fy;rw[length_map] at fy;have qv:=uO (fun t:aL=>t.nm.toList==s.table.toList) (L.map aK.t);rw[show dR (fun t:aL=>t.nm.toList==s.table.toList) (L.map aK.t)=(aM (L.map aK.t) s.table) from rfl,length_map] at qv;refine bY ?_;refine OD.box (ds:=[_,_,_,_,_,_,_,_,_,_,_,_]) ap rfl rfl ot rfl rfl (fun b3=>?_);refine OD.alloc (ds:=[_,_]) ap rfl rfl zeroValue36 rfl (fun b4=>?_);refine aE 1 ?_;first|refine OD.cells (k:=0) (cs':=[.list 1 [] 0,_]) rfl ⟨eV,cY,trivial⟩ rfl ?_|skip
 refine an 87 [0,3,4] ?_;refine af [0,3,4,14] ?_;refine au ?_ ?_<;>intro aN bC
 ·exact absurd aN (by exact absurd (show s.kind=1 by simpa using aN) w4)
 refine cQ [0,3,4,6] ?_;refine mS 6 ?_;refine wZ (fy) (ha:=by exact⟨⟨_,ot,(Bj O U (fun B hB=>by repeat (first|exact hB|apply mem_append_right|apply mem_cons_of_mem)))⟩,⟨_,ot,eU⟩,trivial⟩) (K:=?_);refine bG ?_;refine af [0,3,4,6,27] ?_;refine au ?_ ?_<;>intro aY cz
 ·have h0:(aM (L.map aK.t) s.table)<0:=(by simpa using aY)
  have aV:pF (L.map aK.t) s=(L.map aK.t,(([],0),8)):=(by unfold pF;rw[if_pos h0])
  exact z131
 have h0:¬(aM (L.map aK.t) s.table)<0:=(by simpa using aY)
 have E:(aM (L.map aK.t) s.table).toNat<L.length:=(by omega)
 obtain⟨bx,rfl,iO,nA,rfl⟩:=O.pos w4;have aV:pF (L.map aK.t) s=((L.map aK.t).eraseIdx (aM (L.map aK.t) s.table).toNat,(([],0),0)):=(by unfold pF;rw[if_neg h0])
 have Z:=ZF (G:=G) L (aM (L.map aK.t) s.table).toNat cap bx E iO nA w4;rw[Int.natCast_add,Int.toNat_of_nonneg (show 0≤(aM (L.map aK.t) s.table) by omega)] at Z;refine CD.wk (Wk.drop _ _ _ (⟨b4,36,2,[.list 1 [] 0,ae 0]⟩::⟨b3,32,12,bI s⟩::fS I (some ⟨bx,0,none⟩) L.length cap::([(⟨bx,53,cap*5,L.flatMap gT⟩:ah)]++(L.eraseIdx (aM (L.map aK.t) s.table).toNat).flatMap bT)) (.cons_cons _ (.cons_cons _ (.cons_cons _ (.cons_cons _ (T0 L _)))))) ?_;refine cQ [0,3,4,6,7] ?_;refine aU 5 ?_ (h:=by exact(dm 5 (h:=by first|exact .l (j:=(aM (L.map aK.t) s.table).toNat) (Int.toNat_of_nonneg w4).symm E|exact .r (j:=(aM (L.map aK.t) s.table).toNat) (Int.toNat_of_nonneg w4).symm E)));refine bG ?_;refine af [0,3,4,6,7,36] ?_;refine af [0,3,4,6,7,36,37] ?_;refine au ?_ ?_<;>intro bZ cM
 ·refine aD 8 ?_;refine OD.call (Sf:=[(⟨bx,53,cap*5,L.flatMap gT⟩:ah)]) (R:=⟨b4,36,2,[.list 1 [] 0,ae 0]⟩::⟨b3,32,12,bI s⟩::fS I (some ⟨bx,0,none⟩) L.length cap::(L.eraseIdx (aM (L.map aK.t) s.table).toNat).flatMap bT) ap rfl rfl rfl call42 Z ⟨ot,ot,ot,trivial⟩ (show(⟨b4,36,2,[.list 1 [] 0,ae 0]⟩::⟨b3,32,12,bI s⟩::fS I (some ⟨bx,0,none⟩) L.length cap::([(⟨bx,53,cap*5,L.flatMap gT⟩:ah)]++(L.eraseIdx (aM (L.map aK.t) s.table).toNat).flatMap bT):List ah).Perm ([(⟨bx,53,cap*5,L.flatMap gT⟩:ah)]++(⟨b4,36,2,[.list 1 [] 0,ae 0]⟩::⟨b3,32,12,bI s⟩::fS I (some ⟨bx,0,none⟩) L.length cap::(L.eraseIdx (aM (L.map aK.t) s.table).toNat).flatMap bT)) from(ie fun iN=>by simp only[map_append,map_cons,map_nil,sum_append,sum_cons,sum_nil];omega)) ?_;rintro _ S9 ⟨rfl,rfl⟩;refine OD.perm (S':=⟨b4,36,2,[.list 1 [] 0,ae 0]⟩::⟨b3,32,12,bI s⟩::fS I (some ⟨bx,0,none⟩) L.length cap::([(⟨bx,53,cap*5,(L.eraseIdx (aM (L.map aK.t) s.table).toNat).flatMap gT⟩:ah)]++(L.eraseIdx (aM (L.map aK.t) s.table).toNat).flatMap bT)) (show([(⟨bx,53,cap*5,(L.eraseIdx (aM (L.map aK.t) s.table).toNat).flatMap gT⟩:ah)]++(⟨b4,36,2,[.list 1 [] 0,ae 0]⟩::⟨b3,32,12,bI s⟩::fS I (some ⟨bx,0,none⟩) L.length cap::(L.eraseIdx (aM (L.map aK.t) s.table).toNat).flatMap bT):List ah).Perm _ from(ie fun iN=>by simp only[map_append,map_cons,map_nil,sum_append,sum_cons,sum_nil];omega)) ?_
  refine aE 2 ?_;refine aP 2 [_] sizeOf23 ?_;refine an 87 [4] ?_;refine aD 1 ?_;refine aP 0 [_,_] sizeOf36 ?_;refine aE 1 ?_;first|refine OD.cells (k:=0) (cs':=[.list 1 [] 0,_]) rfl ⟨eV,cY,trivial⟩ rfl ?_|skip
  refine an 87 [4,5] ?_;refine aJ (fS I (some ⟨bx,0,none⟩) (L.length-1) cap::([(⟨bx,53,cap*5,(L.eraseIdx (aM (L.map aK.t) s.table).toNat).flatMap gT⟩:ah)]++(L.eraseIdx (aM (L.map aK.t) s.table).toNat).flatMap bT)) ?_;rw[aV];refine⟨rfl,fun _=>⟨L.eraseIdx (aM (L.map aK.t) s.table).toNat,some ⟨bx,0,none⟩,cap,[(⟨bx,53,cap*5,(L.eraseIdx (aM (L.map aK.t) s.table).toNat).flatMap gT⟩:ah)],bF (by rw[length_eraseIdx_of_lt E];omega) nA,fun o h=>U o (mem_of_mem_eraseIdx h),T1 _ _,?_⟩⟩;rw[length_eraseIdx_of_lt E]
 exact absurd bZ (by exact absurd fi (by simpa using bZ))

end Go.Proofs.YtdgichenhdikgaaGreatDoor.Ba
namespace Go.Proofs.YtdgichenhdikgaaGreatDoor.Ba
open List
open Go.Proofs.Tryz
open Go.RowKit V Pk Tr Vl Go.Proofs.YtdgichenhdikgaaGreatDoor.Nm Pc Cd Ex Tw
open Pa (cx bI j3 gQ)
variable {G:List (Nat×List Value)} {m:Int}
variable {n:Nat}
theorem l8.er{l:List aL}(g:l8 l n)(i:Nat):l8 (l.eraseIdx i) n :=
 ⟨Nat.le_trans (eraseIdx_sublist l i).length_le g.eD,fun t h=>g.tb t (mem_of_mem_eraseIdx h),fun t h=>g.sz t (mem_of_mem_eraseIdx h),g.DQ.sublist (eraseIdx_sublist l i)⟩
theorem OF{l:List aL}(g:l8 l n)(s:cx):l8 (pF l s).1 n:=by
 unfold pF;split
 ·exact g
 exact g.er _
theorem aet(hm:(3,marksC)∈G)(hw:(1,wordsC)∈G)(ht:(0,typesC)∈G)(hG:(2,[Value.int .i64 m])∈G)(l:List aL)(g:l8 l n)(s:cx)(hf:j3 s)(fi:s.kind=2):VP Tryz.prog G 11 [.agg [av 5 dg (l)],.agg (bI s)] (uB (rp (pF l s) s)) :=
 Tc hm hw ht hG l g s hf (pF l s) (fun L O aT U ad cap Sx I=>by
  subst O;have E:=g.eD;rw[length_map] at E;exact aes L aT E s fi U ad cap Sx I) fun _=>⟨Nat.le_trans (OF g s).eD w4,fun t h=>((OF g s).tb t h).small⟩

end Go.Proofs.YtdgichenhdikgaaGreatDoor.Ba
namespace Go.Proofs.YtdgichenhdikgaaGreatDoor.Ba
open List
open Go.Proofs.Tryz
open Go.RowKit V Pk Tr Vl Go.Proofs.YtdgichenhdikgaaGreatDoor.Nm Pc Cd Ex Tw
open Pa (cx bI)
variable {t:aL} {n:Nat} {i:Int}
theorem eW.mono{t:aL}{a b:Nat}(g:eW t a)(h:a≤b):eW t b:=⟨g.nm,g.az,g.eD,g.ix.mono h,g.row,g.iZ⟩
structure nG (t:aL) (n:Nat) (D:List Int):Prop where
 nm:cU t.nm=0
 az:t.az=dM
 eD:t.rows.length≤40
 ix:iL t.ix n
 row:∀i (h:i<t.rows.length),t.rows[i]≠[]→Pc.en dM t.rows[i]=0∧(∀v∈t.rows[i],v.Ok)∧((i:Int)∉D→(c9 t.rows[i],(i:Int))∈eE t.ix)
 iZ:∀x∈eE t.ix,0≤x.2∧x.2∉D∧∃h:x.2.toNat<t.rows.length,t.rows[x.2.toNat]≠[]∧x.1=c9 t.rows[x.2.toNat]
theorem eW.d(g:eW t n):nG t n []:=⟨g.nm,g.az,g.eD,g.ix,fun i h hn=>⟨(g.row i h hn).1,(g.row i h hn).2.1,fun _=>(g.row i h hn).2.2⟩,fun x hx=>⟨(g.iZ x hx).1,not_mem_nil,(g.iZ x hx).2⟩⟩
theorem nG.tb(g:nG t n []):eW t n:=⟨g.nm,g.az,g.eD,g.ix,fun i h hn=>⟨(g.row i h hn).1,(g.row i h hn).2.1,(g.row i h hn).2.2 not_mem_nil⟩,fun x hx=>⟨(g.iZ x hx).1,(g.iZ x hx).2.2⟩⟩
theorem aa4(g:eW t n)(hn:n≤300){row:List Vl}(aT:∀v∈row,v.Ok)(h:(gC t row).2=0):eW (gC t row).1 (n+1)∧(gC t row).1.rows.length=t.rows.length+1:=by
 unfold gC at h ⊢;by_cases h1:Pc.en t.az row=0
 ·rw[if_neg (fun e=>e h1)] at h ⊢;cases h2:iy t.ix (c9 row) (dK t.ix) with
  | true=>rw[h2,if_pos rfl] at h;cases h
  | false =>
   rw[h2,if_neg w7] at h;rw[if_neg w7];by_cases h3:t.rows.length=40
   ·rw[if_pos h3] at h;cases h
   rw[if_neg h3];have h4:Pc.en dM row=0:=(by rw[←g.az];exact h1)
   obtain⟨g1,g2,g3⟩:=EF g.ix hn ((EG g.ix).1 h2) (wm h4) (Int.natCast_nonneg t.rows.length);have I:=g.eD;refine⟨⟨g.nm,g.az,by show(t.rows++[row]).length≤40;rw[length_append,length_singleton];omega,g1,fun i hi hne=>?_,fun x hx=>?_⟩,by show(t.rows++[row]).length=_;rw[length_append,length_singleton]⟩
   ·simp only at hi hne ⊢;rw[length_append,length_singleton] at hi;by_cases hl:i<t.rows.length
    ·have e:(t.rows++[row])[i]'Cm=t.rows[i]:=getElem_append_left hl;rw[e] at hne ⊢;obtain⟨p1,p2,p3⟩:=g.row i hl hne;exact⟨p1,p2,(g3 _).2 (.inr p3)⟩
    have E:i=t.rows.length:=(by omega)
    subst E;have e:(t.rows++[row])[t.rows.length]'Cm=row:=(by rw[getElem_append_right (Nat.le_refl _)];simp)
    rw[e] at hne ⊢;exact⟨h4,aT,(g3 _).2 (.inl rfl)⟩
   rcases(g3 x).1 hx with rfl|hx
   ·refine⟨Int.natCast_nonneg _,by show t.rows.length<(t.rows++[row]).length;rw[length_append,length_singleton];omega,?_⟩;have e:(t.rows++[row])[t.rows.length]'Cm=row:=(by rw[getElem_append_right (Nat.le_refl _)];simp)
    show(t.rows++[row])[t.rows.length]'_≠[]∧c9 row=c9 ((t.rows++[row])[t.rows.length]'_);rw[e];exact⟨fun e=>(by have:=pE h4;rw[e] at this;cases this),rfl⟩
   obtain⟨x0,x1,O,U⟩:=g.iZ x hx;have e:(t.rows++[row])[x.2.toNat]'Cm=t.rows[x.2.toNat]:=getElem_append_left x1;refine⟨x0,by show _<(t.rows++[row]).length;rw[length_append,length_singleton];omega,?_⟩;show(t.rows++[row])[x.2.toNat]'_≠[]∧x.1=c9 ((t.rows++[row])[x.2.toNat]'_);rw[e];exact⟨O,U⟩
 rw[if_pos h1] at h;exact absurd h h1
theorem PO{n:Nat}:∀{l:List Int} {t:aL},eW t n→l.Nodup→(∀i∈l,gA t i)→eW (rj t l) n∧(rj t l).rows.length=t.rows.length
 | [],_,g,_,_=>⟨g,rfl⟩
 | i::r,t,g,hn,hi=>by
  rw[nodup_cons] at hn;have h1:=PO (PI g (hi i mem_cons_self)) hn.2 fun j hj=>S4 (hi j (mem_cons_of_mem _ hj)) (fun e=>hn.1 (e ▸ hj)) (hi i mem_cons_self).1;refine⟨h1.1,h1.2.trans ?_⟩;show(t.rows.set _ _).length=_;rw[length_set]
theorem Yx(g:eW t n)(w:List aX):eW (mA t w).1 n∧(mA t w).1.rows.length=t.rows.length:=by
 unfold mA;split
 ·exact⟨g,rfl⟩
 exact PO g (Em g w) (uW g w)
theorem Td{r:List Vl}{c:Nat}(hc:c≠0)(v:Vl):c9 (r.set c v)=c9 r:=by
 unfold c9;cases r with
 | nil=>rfl
 | cons a r=>cases c with
  | zero=>exact absurd rfl hc
  | succ c=>rfl
theorem UB{D:List Int}(g:nG t n D)(hi:gA t i){c:Nat}(hc:c<dM.length){v:Vl}(hv:jO (dM[c]'hc).k v)(fU:v.Ok)(h0:c=0→v.k≠0∧i∈D):nG (rm t i c v) n D∧(∀j,gA t j→gA (rm t i c v) j):=by
 obtain⟨q0,q1,q2⟩:=hi;obtain⟨p1,p2,p3⟩:=g.row _ q1 q2;have U:=jk (t:=t) q1;have Z:Pc.en dM ((rowAt t i).set c v)=0:=(by rw[U];exact S5 p1 hc hv fun h=>(h0 h).1)
 have jR:(rowAt t i).set c v≠[]:=fun e=>by have:=pE Z;rw[e] at this;cases this
 have hlen:(rm t i c v).rows.length=t.rows.length:=length_set;have I:∀j (h:j<t.rows.length),(rm t i c v).rows[j]'(by rw[hlen];exact h)=if i.toNat=j then (rowAt t i).set c v else t.rows[j]:=fun j h=>getElem_set ..
 refine⟨⟨g.nm,g.az,by rw[hlen];exact g.eD,g.ix,fun j hj hne=>?_,fun x hx=>?_⟩,fun j ⟨j0,j1,j2⟩=>⟨j0,by rw[hlen];exact j1,?_⟩⟩
 ·rw[hlen] at hj;rw[I j hj] at hne ⊢;by_cases E:i.toNat=j
  ·rw[if_pos E];refine⟨Z,fun w hw=>?_,fun hd=>?_⟩
   ·rcases mem_or_eq_of_mem_set hw with hw|hw
    ·rw[U] at hw;exact p2 w hw
    rw[hw];exact fU
   have rE:(j:Int)=i:=(by omega)
   by_cases O:c=0
   ·exact absurd (rE ▸ (h0 O).2) hd
   rw[Td O,U];subst E;exact p3 hd
  rw[if_neg E] at hne ⊢;exact g.row j hj hne
 ·obtain⟨x0,xd,x1,x2,x3⟩:=g.iZ x hx;refine⟨x0,xd,by rw[hlen];exact x1,?_⟩;rw[I _ x1];by_cases E:i.toNat=x.2.toNat
  ·rw[if_pos E];refine⟨jR,?_⟩;have rE:x.2=i:=(by omega)
   by_cases O:c=0
   ·exact absurd (rE ▸ (h0 O).2) xd
   rw[Td O,U,x3];simp only[E]
  rw[if_neg E];exact⟨x2,x3⟩
 rw[I _ j1];split
 ·exact jR
 exact j2
theorem ahp{x:aF}{D:List Int}(g:nG {t with ix:=x} n D)(hi:gA t i)(hd:i∉D):nG {t with ix:=gK x (dK x) (c9 (rowAt t i))} n (i::D):=by
 obtain⟨q0,q1,q2⟩:=hi;obtain⟨p1,p2,p3⟩:=g.row _ q1 q2;have E:=jk (t:=t) q1;have I:(c9 (rowAt t i),i)∈eE x:=by
  have:=p3 (by rw[Int.toNat_of_nonneg q0];exact hd);rw[Int.toNat_of_nonneg q0] at this;rw[E];exact this
 obtain⟨d1,d2⟩:=IJ g.ix ((AL g.ix.val _).2 ⟨i,I⟩);refine⟨g.nm,g.az,g.eD,d1,fun j hj hne=>?_,fun y hy=>?_⟩
 ·obtain⟨r1,r2,U⟩:=g.row j hj hne;refine⟨r1,r2,fun hd2=>?_⟩;have O:(j:Int)≠i:=fun e=>hd2 (e ▸ mem_cons_self);refine(d2 _).2 ⟨U fun e=>hd2 (mem_cons_of_mem _ e),fun e=>O ?_⟩;have:=Jv g.ix (U fun e=>hd2 (mem_cons_of_mem _ e)) I e;simp only[Prod.mk.injEq] at this;exact this.2
 obtain⟨y1,y2⟩:=(d2 y).1 hy;obtain⟨z0,zd,z1,z2,z3⟩:=g.iZ y y1;refine⟨z0,fun hm=>?_,z1,z2,z3⟩;rcases mem_cons.1 hm with e|hm
 ·refine y2 ?_;rw[z3,E];simp only[e]
 exact zd hm
theorem Te{t:aL}{n:Nat}:∀(l:List Int) (x:aF) (D:List Int),nG {t with ix:=x} n D→l.Nodup→(∀i∈l,gA t i∧i∉D)→∃D',nG {t with ix:=og t x l} n D'∧∀i,i∈D'↔i∈l∨i∈D
 | [],x,D,g,_,_=>⟨D,g,fun i=>by simp⟩
 | i::r,x,D,g,hn,hi=>by
  rw[nodup_cons] at hn;obtain⟨D',h1,h2⟩:=Te r _ (i::D) (ahp g (hi i mem_cons_self).1 (hi i mem_cons_self).2) hn.2 fun j hj=>⟨(hi j (mem_cons_of_mem _ hj)).1,fun e=>by
   rcases mem_cons.1 e with e|e
   ·exact hn.1 (e ▸ hj)
   exact(hi j (mem_cons_of_mem _ hj)).2 e⟩
  refine⟨D',h1,fun j=>(h2 j).trans ?_⟩;simp only[mem_cons];constructor
  ·rintro(h|h|h)
   ·exact .inl (.inr h)
   ·exact .inl (.inl h)
   exact .inr h
  rintro((h|h)|h)
  ·exact .inr (.inl h)
  ·exact .inl h
  exact .inr (.inr h)
theorem nG.aj6{D D':List Int}(g:nG t n D)(h:∀i,i∈D↔i∈D'):nG t n D':=⟨g.nm,g.az,g.eD,g.ix,fun i hi hne=>⟨(g.row i hi hne).1,(g.row i hi hne).2.1,fun hd=>(g.row i hi hne).2.2 fun e=>hd ((h _).1 e)⟩,fun x hx=>⟨(g.iZ x hx).1,fun e=>(g.iZ x hx).2.1 ((h _).2 e),(g.iZ x hx).2.2⟩⟩
theorem aj7{D:List Int}(g:nG t n D)(hn:n≤300)(hi:gA t i)(hd:i∈D)(jL:iy t.ix (c9 (rowAt t i)) (dK t.ix)=false):nG {t with ix:=gJ t.ix (dK t.ix) (c9 (rowAt t i)) i} (n+1) (D.filter (·≠i)):=by
 obtain⟨q0,q1,q2⟩:=hi;obtain⟨p1,p2,p3⟩:=g.row _ q1 q2;have E:=jk (t:=t) q1;obtain⟨g1,_,g3⟩:=EF g.ix hn ((EG g.ix).1 jL) (by rw[E];exact wm p1) q0;have hf:∀j,j∈D.filter (·≠i)↔j∈D∧j≠i:=fun j=>by rw[mem_filter];simp
 refine⟨g.nm,g.az,g.eD,g1,fun j hj hne=>?_,fun y hy=>?_⟩
 ·obtain⟨r1,r2,O⟩:=g.row j hj hne;refine⟨r1,r2,fun hd2=>(g3 _).2 ?_⟩;by_cases e:(j:Int)=i
  ·left;have I:i.toNat=j:=(by omega)
   subst I;rw[E,Int.toNat_of_nonneg q0]
  right;exact O fun hm=>hd2 ((hf _).2 ⟨hm,e⟩)
 rcases(g3 y).1 hy with rfl|hy
 ·exact⟨q0,fun hm=>((hf _).1 hm).2 rfl,q1,q2,by rw[E]⟩
 obtain⟨z0,zd,z1,z2,z3⟩:=g.iZ y hy;exact⟨z0,fun hm=>zd ((hf _).1 hm).1,z1,z2,z3⟩
theorem T2:∀(l:List Int) (vs:List Vl) (t:aL) (n:Nat) (D:List Int),nG t n D→n+l.length≤300→l.Nodup→vs.length=l.length→(∀i∈l,gA t i∧i∈D)→(∀v∈vs,v.Ok∧jO (dM[0]'w7).k v∧v.k≠0)→(kC t l vs).2=0 →
  ∃D',nG (kC t l vs).1 (n+l.length) D'∧(kC t l vs).1.rows.length=t.rows.length∧∀i,i∈D'↔i∈D∧i∉l
 | [],[],t,n,D,g,_,_,_,_,_,_=>⟨D,g,rfl,fun i=>by simp⟩
 | [],_::_,_,_,_,_,_,_,h,_,_,_=>by cases h
 | _::_,[],_,_,_,_,_,_,h,_,_,_=>by cases h
 | i::r,v::s,t,n,D,g,hn,hnd,hl,hi,hv,h=>by
  rw[nodup_cons] at hnd;rw[length_cons] at hn hl;rw[length_cons] at hl;obtain⟨E,hid⟩:=hi i mem_cons_self;obtain⟨v1,v2,v3⟩:=hv v mem_cons_self;obtain⟨g1,j9⟩:=UB g E (c:=0) w7 v2 v1 fun _=>⟨v3,hid⟩
  rw[kC] at h ⊢;cases iW:iy t.ix (c9 (rowAt (rm t i 0 v) i)) (dK t.ix) with
  | true=>rw[iW,if_pos rfl] at h;cases h
  | false =>
   rw[iW,if_neg w7] at h;rw[if_neg w7];have g2:=aj7 g1 w4 (j9 i E) hid iW;obtain⟨D',h1,h2,h3⟩:=T2 r s _ (n+1) _ g2 w4 hnd.2 w4 (fun j hj=>⟨j9 j (hi j (mem_cons_of_mem _ hj)).1,by rw[mem_filter];exact⟨(hi j (mem_cons_of_mem _ hj)).2,by simp;exact fun e=>hnd.1 (e ▸ hj)⟩⟩) (fun w hw=>hv w (mem_cons_of_mem _ hw)) h;refine⟨D',by rw[length_cons,show n+(r.length+1)=n+1+r.length by omega];exact h1,h2.trans (by show(t.rows.set _ _).length=_;rw[length_set]),fun j=>(h3 j).trans ?_⟩;rw[mem_filter,mem_cons];simp only[decide_eq_true_eq,ne_eq,not_or,and_assoc]
theorem Tf{n:Nat}{c:Nat}(hc:c<dM.length)(aN:c≠0):∀(l:List Int) (vs:List Vl) (t:aL),eW t n→(∀i∈l,gA t i)→(∀v∈vs,v.Ok∧jO (dM[c]'hc).k v)→eW (mK c t l vs) n∧(mK c t l vs).rows.length=t.rows.length
 | [],_,t,g,_,_=>by unfold mK;exact⟨g,rfl⟩
 | _::_,[],t,g,_,_=>by unfold mK;exact⟨g,rfl⟩
 | i::r,v::s,t,g,hi,hv=>by
  rw[mK];obtain⟨v1,v2⟩:=hv v mem_cons_self;obtain⟨g1,j9⟩:=UB g.d (hi i mem_cons_self) hc v2 v1 fun e=>absurd e aN;have h1:=Tf hc aN r s _ g1.tb (fun j hj=>j9 j (hi j (mem_cons_of_mem _ hj))) fun w hw=>hv w (mem_cons_of_mem _ hw);exact⟨h1.1,h1.2.trans (by show(t.rows.set _ _).length=_;rw[length_set])⟩
theorem aeu{k:Int}{c:Int}{v:Vl}(h:jO k v)(hk:¬(k≠c∧k≠0)):jO c v:=by
 refine⟨h.1,?_⟩;have:=h.2;omega
theorem aa5(g:eW t n)(s:cx)(jL:∀o∈s.bU,o.nm.size≤maxLen)(fU:∀o∈s.bU,o.v.Ok)(hn:n≤260):eW (hU t s).1 (n+t.rows.length)∧(hU t s).1.rows.length=t.rows.length:=by
 have hz:eW t (n+t.rows.length)∧t.rows.length=t.rows.length:=⟨g.mono w4,rfl⟩
 unfold hU;by_cases hA:bM t.az s.set<0
 ·rw[if_pos hA];exact hz
 rw[if_neg hA];by_cases hB:(ey t.az s.bU).2≠0
 ·rw[if_pos hB];exact hz
 rw[if_neg hB];by_cases hC:(ey t.az s.bU).1≠(t.az.getD (bM t.az s.set).toNat ⟨⟨#[]⟩,0⟩).k∧(ey t.az s.bU).1≠0
 ·rw[if_pos hC];exact hz
 rw[if_neg hC];by_cases hD:(ax t s.aj).2≠0
 ·rw[if_pos hD];exact hz
 rw[if_neg hD];by_cases hN:(iS t (bM t.az s.set) s.bU [] (ax t s.aj).1).2≠0
 ·rw[if_pos hN];exact hz
 rw[if_neg hN];have Z:=Classical.not_not.1 hN;have hkz:(ey dM s.bU).2=0:=(by rw[←g.az];exact Classical.not_not.1 hB)
 have E:=IP g jL fU hkz (ax t s.aj).1 [] (uW g s.aj) Z (fun v O=>by cases O);have hlen:=Ri (t:=t) (c:=bM t.az s.set) (e:=s.bU) (ax t s.aj).1 [] Z;have XU:=(JX (l:=t.az) (nm:=s.set)).2;have hcc:t.az.length=dM.length:=(by rw[g.az])
 have U:(bM t.az s.set).toNat<dM.length:=(by omega)
 have Hg:∀v,jO (ey dM s.bU).1 v→jO (dM[(bM t.az s.set).toNat]'U).k v:=fun v O=>by
  refine aeu O ?_;rw[g.az] at hC;have e:dM.getD (bM dM s.set).toNat ⟨⟨#[]⟩,0⟩=dM[(bM t.az s.set).toNat]'U:=by
   rw[getD_eq_getElem?_getD];rw[show(bM dM s.set).toNat=(bM t.az s.set).toNat by rw[g.az]];rw[getElem?_eq_getElem U];rfl
  rw[e] at hC;exact hC
 by_cases hP:0<bM t.az s.set
 ·rw[if_pos hP];have h1:=Tf (c:=(bM t.az s.set).toNat) U w4 (ax t s.aj).1 (iS t (bM t.az s.set) s.bU [] (ax t s.aj).1).1 t g (uW g s.aj) fun v O=>⟨(E v O).1,Hg v (E v O).2.1⟩
  exact⟨h1.1.mono w4,h1.2⟩
 rw[if_neg hP];have yc:bM t.az s.set=0:=(by omega)
 by_cases hM:(kC {t with ix:=og t t.ix (ax t s.aj).1} (ax t s.aj).1 (iS t (bM t.az s.set) s.bU [] (ax t s.aj).1).1).2≠0
 ·rw[if_pos hM];exact hz
 rw[if_neg hM];have hnd:=Em g s.aj;have I:=uW g s.aj;have mI:=E4 g s.aj;obtain⟨D,d1,d2⟩:=Te (ax t s.aj).1 t.ix [] g.d hnd fun i hi=>⟨I i hi,not_mem_nil⟩
 obtain⟨D',e1,e2,e3⟩:=T2 (ax t s.aj).1 (iS t (bM t.az s.set) s.bU [] (ax t s.aj).1).1 _ n D d1 w4 hnd (by rw[hlen];simp) (fun i hi=>⟨I i hi,(d2 i).2 (.inl hi)⟩) (fun v O=>⟨(E v O).1,by have:=Hg v (E v O).2.1;simp only[yc] at this;exact this,(E v O).2.2 yc⟩) (Classical.not_not.1 hM);have hD':eW _ _:=(e1.aj6 (D':=[]) fun i=>by rw[e3,d2];simp).tb;have hle:(ax t s.aj).1.length≤t.rows.length:=by
  have h1:((ax t s.aj).1.map Int.toNat).Nodup:=by
   rw[Nodup,pairwise_map];refine(Pairwise.and_mem.1 hnd).imp fun {a b} h e=>h.2.2 ?_;have:=(I a h.1).1;have:=(I b h.2.1).1;omega
  have h2:=h1.length_le_of_subset (l₂:=range t.rows.length) fun x hx=>by
   obtain⟨y,hy,rfl⟩:=mem_map.1 hx;exact mem_range.2 (I y hy).2.1
  rwa [length_map,length_range] at h2
 exact⟨hD'.mono w4,e2⟩

end Go.Proofs.YtdgichenhdikgaaGreatDoor.Ba
namespace Go.Proofs.YtdgichenhdikgaaGreatDoor.Pa
open List
open Go.Proofs.Tryz
open Go.RowKit V Pk Vl Go.Proofs.YtdgichenhdikgaaGreatDoor.Nm Pc
variable {t:ByteArray}
theorem aev{s:ByteArray}(h:cU s=0):n8 s=true∧s.size≤8:=by
 unfold cU at h;split at h
 ·cases h
 split at h
 ·cases h
 rename_i h1 h2;rw[Bool.or_eq_true,Bool.not_eq_true'] at h2;refine⟨?_,by omega⟩;cases hw:n8 s with
 | true=>rfl
 | false=>exact absurd (.inl hw) h2
variable {G:List (Nat×List Value)}
def tG:List Vl→ByteArray
 | []=>⟨#[120]⟩
 | v::_=>v.s
def jZ(s:cx):Prop:=j3 s∧1≤s.kind∧s.kind≤6∧s.ig≤9223372036854775807∧gP s=0
structure NL (w:List aX):Prop where
 l:w.length≤40
 f:nE w=0
 b:∀o∈w,o.nm.size≤maxLen∧-9223372036854775808≤o.v.n∧o.v.n≤9223372036854775807
theorem aew:NL []:=⟨Nat.zero_le _,rfl,fun _ h=>by cases h⟩
theorem aa6(t:Tw):∀o∈iz 3 t,-20≤o.v.n∧o.v.n≤40:=by
 have hz:∀j nm,-20≤(⟨j,bQ,nm⟩:aX).v.n∧(⟨j,bQ,nm⟩:aX).v.n≤40:=fun _ _=>⟨by show(-20:Int)≤0;decide,by show(0:Int)≤40;decide⟩
 have u9:∀n s,-20≤(rZ n s).v.n∧(rZ n s).v.n≤40:=fun n s=>by
  show -20≤(py ⟨n,eu n 40-20,s⟩).n∧(py ⟨n,eu n 40-20,s⟩).n≤40;have O:=ke n (show(1:Int)≤40 by decide);have h2:=ke (eu n 40-20) (show(1:Int)≤2 by decide);unfold py;split
  ·dsimp only;omega
  split
  ·dsimp only;omega
  split
  ·dsimp only;omega
  exact⟨by show(-20:Int)≤0;decide,by show(0:Int)≤40;decide⟩
 have E:∀k n s,∀o∈my k n s,-20≤o.v.n∧o.v.n≤40:=fun k n s o ho=>by
  unfold my at ho;split at ho<;>(simp only[mem_singleton] at ho;subst ho)
  ·exact hz _ _
  exact u9 _ _
 have key:∀(r:Nat) (t:Tw),∀o∈iz r t,-20≤o.v.n∧o.v.n≤40:=by
  intro r;induction r with
  | zero=>intro t;obtain⟨k,n,s,ts⟩:=t;exact E k n s
  | succ r ih =>
   intro t o ho;obtain⟨k,n,s,ts⟩:=t;have I:∀i:Nat,∀o∈gI r ts n s i,-20≤o.v.n∧o.v.n≤40:=fun i o ho=>by
    unfold gI at ho;split at ho
    ·exact ih _ o ho
    exact E _ _ _ o ho
   rw[vW] at ho;split at ho
   ·simp only[mem_singleton] at ho;subst ho;exact u9 _ _
   split at ho
   ·simp only[mem_singleton] at ho;subst ho;exact hz _ _
   split at ho
   ·rcases mem_append.1 ho with ho|ho
    ·exact I 0 o ho
    simp only[mem_singleton] at ho;subst ho;exact hz _ _
   rcases mem_append.1 ho with ho|ho
   ·rcases mem_append.1 ho with ho|ho
    ·exact I 0 o ho
    exact I 1 o ho
   simp only[mem_singleton] at ho;subst ho;exact hz _ _
 exact key 3 t
theorem Tg(t:Tw):NL (iz 3 t):=by
 have h:=O3 t;refine⟨by omega,?_,fun o ho=>⟨abM (abL t) o ho,?_⟩⟩
 ·unfold nE;rw[if_neg w4];exact O4 t
 have:=aa6 t o ho;omega
theorem aa7(s:cx):ku s s=true:=by
 unfold ku;simp only[Bool.and_eq_true,beq_iff_eq,wi,and_self]
theorem yz{s:cx}(ht:cU s.table=0)(he:jF s=0)(hb:iA s=s):gP s=0:=by
 unfold gP;rw[if_neg (fun h=>h.2 ht),hb,if_neg (fun h=>by rw[aa7] at h;cases h.2),he]
theorem small{x:ByteArray}(h:cU x=0):x.size≤maxLen:=Nat.le_trans (aev h).2 w7
def qt(s:cx):Prop:=s.aj=[]∧∀w,NL w→(4≤s.kind∨w=[])→jZ {s with aj:=w}
theorem qt.tU{s:cx}(h:qt s):jZ s:=by
 have:=h.2 [] aew (.inr rfl);rw[←h.1] at this;exact this
theorem HE(ht:cU t=0):qt {gN with kind:=1,table:=t,az:=dM}:=⟨rfl,fun w hw h=>by
 have E:w=[]:=h.resolve_left (by show ¬(4:Int)≤1;decide);subst E;exact⟨⟨⟨by show 4≤6;decide,Nat.zero_le _,Nat.zero_le _,Nat.zero_le _,Nat.zero_le _⟩,small ht,by show ∀c∈dM,c.n.size≤maxLen;decide,(fun _ h=>by cases h),Nat.zero_le _,Nat.zero_le _,(fun _ h=>by cases h),(fun _ h=>by cases h),(fun _ h=>by cases h)⟩,by show(1:Int)≤1;decide,by show(1:Int)≤6;decide,Cn,
  yz ht (show fI dM=0 by decide +kernel) aA⟩⟩
theorem Rj(ht:cU t=0):qt {gN with kind:=2,table:=t}:=⟨rfl,fun w hw h=>by
 have E:w=[]:=h.resolve_left (by show ¬(4:Int)≤2;decide);subst E;exact⟨⟨⟨Nat.zero_le _,Nat.zero_le _,Nat.zero_le _,Nat.zero_le _,Nat.zero_le _⟩,small ht,(fun _ h=>by cases h),(fun _ h=>by cases h),Nat.zero_le _,Nat.zero_le _,(fun _ h=>by cases h),(fun _ h=>by cases h),(fun _ h=>by cases h)⟩,by show(1:Int)≤2;decide,by show(2:Int)≤6;decide,Cn,
  yz ht aA aA⟩⟩
theorem Th{x:Int}(h0:0≤x):iU ⟨2,x,⟨#[]⟩⟩=0:=by
 unfold iU;rw[if_neg (by intro h;have:=h.2;dsimp only at this;omega)];kernel_rfl
theorem aex{s:ByteArray}(h:s.size≤20):iU ⟨3,0,s⟩=0:=by
 unfold iU;rw[if_neg (by intro h;exact absurd h.1 (by show ¬(3:Int)=2;decide))];unfold dH;rw[if_neg (by show ¬(3:Int)=0;decide),if_neg (by show ¬(3:Int)=1;decide),if_neg (by show ¬(3:Int)=2;decide),if_pos rfl,if_neg (fun h=>h rfl),if_neg (by show ¬s.size>20;omega)]
theorem aa8(n:Int):iU (qh n)=0∧-9223372036854775808≤(qh n).n∧(qh n).n≤9223372036854775807:=by
 have h:=ke n (show(1:Int)≤3 by decide);unfold qh;split
 ·exact⟨by decide,by decide,by decide⟩
 have h2:eu n 3=0∨eu n 3=1:=(by omega)
 rcases h2 with h2|h2<;>rw[h2]<;>exact⟨by decide,by decide,by decide⟩
theorem ZG(ht:cU t=0){x y b:Int}(hx:0≤x∧x<12)(hy:0≤y∧y<9){u:ByteArray}(Z:u.size≤6):qt {gN with kind:=3,table:=t,row:=[⟨2,x,⟨#[]⟩⟩,⟨2,y,⟨#[]⟩⟩,⟨3,0,u⟩,qh b]}:=⟨rfl,fun w hw h=>by
 have E:w=[]:=h.resolve_left (by show ¬(4:Int)≤3;decide);subst E;have l1:=Th hx.1;have l2:=Th hy.1;have l3:iU ⟨3,0,u⟩=0:=aex w4;obtain⟨l4,O,U⟩:=aa8 b;refine⟨⟨⟨Nat.zero_le _,by show 4≤6;decide,Nat.zero_le _,Nat.zero_le _,Nat.zero_le _⟩,small ht,(fun _ h=>by cases h),(fun _ h=>by cases h),Nat.zero_le _,Nat.zero_le _,fun v I=>?_,(fun _ h=>by cases h),(fun _ h=>by cases h)⟩,by show(1:Int)≤3;decide,by show(3:Int)≤6;decide,Cn,yz ht ?_ aA⟩
 ·simp only[mem_cons,not_mem_nil,or_false] at I;rcases I with rfl|rfl|rfl|rfl
  ·dsimp only;omega
  ·dsimp only;omega
  ·dsimp only;omega
  exact⟨O,U⟩
 show en [⟨2,x,⟨#[]⟩⟩,⟨2,y,⟨#[]⟩⟩,⟨3,0,u⟩,qh b]=0;unfold en;rw[if_neg bu];simp[jN,l1,l2,l3,l4]⟩
theorem ZH(ht:cU t=0){N:List ByteArray}(E:N.length≤6∧∀x∈N,cU x=0){c:Bool}(hc:c=true→N=[]){o:ByteArray}(ho:o=⟨#[]⟩∨cU o=0){d:Bool}(hd:o=⟨#[]⟩→d=false){m:Int}(hm:-1≤m∧m≤7):qt {gN with kind:=4,table:=t,names:=N,count:=c,order:=o,down:=d,ig:=m}:=⟨rfl,fun w hw h=>by
 have I:o.size≤maxLen:=(by rcases ho with rfl|h;exact Nat.zero_le _;exact small h)
 refine⟨⟨⟨Nat.zero_le _,Nat.zero_le _,E.1,hw.l,Nat.zero_le _⟩,small ht,(fun _ h=>by cases h),fun x hx=>small (E.2 x hx),I,Nat.zero_le _,(fun _ h=>by cases h),hw.b,(fun _ h=>by cases h)⟩,by show(1:Int)≤4;decide,by show(4:Int)≤6;decide,(by show _≤(9223372036854775807:Int);dsimp only;omega),yz ht ?_ aA⟩;show oK {gN with kind:=4,table:=t,names:=N,count:=c,aj:=w,order:=o,down:=d,ig:=m}=0;have gL:jN cU N=0:=by
  have key:∀l:List ByteArray,(∀x∈l,cU x=0)→jN cU l=0:=by
   intro l;induction l with
   | nil=>intro _;rfl
   | cons a r ih=>intro h;rw[jN,if_neg (by rw[h a mem_cons_self];decide)];exact ih fun x hx=>h x (mem_cons_of_mem _ hx)
  exact key N E.2
 unfold oK;dsimp only;rw[if_neg w4,if_neg w4,if_neg (by
  rintro(⟨h1,h2⟩|⟨h1,h2⟩)
  ·rw[hc h1] at h2;simp at h2
  rw[hd (wi.1 h2)] at h1;cases h1),if_neg (by rw[gL];decide),if_neg (by rw[hw.f];decide)]
 split
 ·rfl
 rename_i h2;exact ho.resolve_left fun h=>h2 (wi.2 h)⟩
theorem ZI(ht:cU t=0){c:ByteArray}(hc:cU c=0)(E:Tw):qt {gN with kind:=5,table:=t,set:=c,bU:=iz 3 E}:=⟨rfl,fun w hw h=>by
 have ho:=Tg E;refine⟨⟨⟨Nat.zero_le _,Nat.zero_le _,Nat.zero_le _,hw.l,ho.l⟩,small ht,(fun _ h=>by cases h),(fun _ h=>by cases h),Nat.zero_le _,small hc,(fun _ h=>by cases h),hw.b,ho.b⟩,by show(1:Int)≤5;decide,by show(5:Int)≤6;decide,Cn,yz ht ?_ aA⟩;show(if cU c=0 then (if iT (iz 3 E)=0 then nE w else iT (iz 3 E)) else cU c)=0;rw[if_pos hc,if_pos (O4 E),hw.f]⟩
theorem ZJ(ht:cU t=0):qt {gN with kind:=6,table:=t}:=⟨rfl,fun w hw h=>by
 refine⟨⟨⟨Nat.zero_le _,Nat.zero_le _,Nat.zero_le _,hw.l,Nat.zero_le _⟩,small ht,(fun _ h=>by cases h),(fun _ h=>by cases h),Nat.zero_le _,Nat.zero_le _,(fun _ h=>by cases h),hw.b,(fun _ h=>by cases h)⟩,by show(1:Int)≤6;decide,by show(6:Int)≤6;decide,Cn,yz ht hw.f aA⟩⟩
def dZ:List ByteArray:=[⟨#[116]⟩,⟨#[117]⟩]
def iP:List ByteArray:=[⟨#[]⟩,⟨#[110]⟩,⟨#[115]⟩,⟨#[105,100]⟩]
def Av:List ByteArray:=[⟨#[110]⟩,⟨#[110]⟩,⟨#[115]⟩,⟨#[98]⟩,⟨#[105,100]⟩]
theorem FI:∀x∈dZ,cU x=0:=by decide +kernel
theorem ahq:∀x∈iP,x.size=0∨cU x=0:=by decide +kernel
theorem Ky:∀x∈Av,cU x=0:=by decide +kernel
theorem s6(n:Int)(h1:-9223372036854775808≤n)(h2:n≤9223372036854775807):VP Tryz.prog G 28 [ae n] (.agg [ae (qh n).k,ae (qh n).n,bn (qh n).s]):=by
 refine VC.body func28 rfl ntmps28 aS fun X0 w0 aZ=>?_;refine bY ?_;refine OD.alloc (ds:=[_,_,_]) ap rfl rfl zeroValue41 rfl (fun b2=>?_);refine an 10 [0,2] ?_;refine cH [0,2,5] (lf G n 3 h1 h2 w7) ?_;refine au ?_ ?_<;>intro aN bC
 ·refine aD 1 ?_;refine aP 0 [_,_,_] sizeOf41 ?_;refine an 10 [2] ?_;refine aJ [] ?_;refine⟨?_,rfl⟩;unfold qh bQ;simp_all
 refine aD 1 ?_;refine dS call21 (lf G n 3 h1 h2 w7) ?_;refine aE 1 ?_;refine aP 0 [_,_,_] sizeOf41 ?_;refine an 10 [2] ?_;refine aJ [] ?_;refine⟨?_,rfl⟩;unfold qh bQ;simp_all

theorem afX{s:ByteArray}(h:s.size=0):s=⟨#[]⟩:=by
 obtain⟨d⟩:=s;have:d = #[]:=Array.eq_empty_of_size_eq_zero h;rw[this]
theorem aa9(k t a b:Int)(row:List Vl)(O U:Int)(Z:ByteArray)(E:List Tw)(y1 y2:Int)(y3:ByteArray)(I:List Tw)(bare:Bool):VP Tryz.prog G 36 [.agg [ae k,ae t,ae a,ae b,av 3 cV row,ae O,ae U,bn Z,.list 4 (Tw.mq E) E.length,ae y1,ae y2,bn y3,.list 4 (Tw.mq I) I.length,cg bare]] (bn (tG row)):=by
 refine VC.body func36 rfl ntmps36 aS fun X0 w0 aZ=>?_;refine bY ?_;refine OD.box (ds:=[_,_,_,_,_,_,_,_,_,_,_,_,_,_]) ap rfl rfl ot rfl rfl (fun b1=>?_);refine an 12 [1] ?_;refine af [1,6] ?_;refine au ?_ ?_<;>intro aN bC
 ·obtain⟨v,r,rfl⟩:∃v r,row=v::r:=(by (cases row;simp at aN;exact⟨_,_,rfl⟩))
  refine cQ [2] ?_;refine aU 2 ?_ (h:=by exact(rS (mk:=Op.indexAddr 75) rfl ot bL (by first|exact tE runUnderlying75 sizeOf114 (j:=0) rfl bu|exact tI runUnderlying75 sizeOf114 (j:=0) rfl bu)));refine aU 1 ?_ (h:=by exact(cR (mk:=Op.load 9) rfl ot (by exact uY (i:=0) (j:=2) fq isAgg9 bu rfl)));refine bG ?_;refine aJ [] ?_;exact⟨rfl,rfl⟩
 obtain rfl:row=[]:=eq_nil_of_length_eq_zero (by simp at aN;simp[aN]);refine af [2] ?_;exact z51
theorem N1 : ∀ w, ((#[{ name := "Kind", type := 3, offset := 0, embedded := false, tag := "", pkgPath := "", byteOffset := 0 }, { name := "Table", type := 9, offset := 1, embedded := false, tag := "", pkgPath := "", byteOffset := 8 }, { name := "Cols", type := 27, offset := 2, embedded := false, tag := "", pkgPath := "", byteOffset := 24 }, { name := "Row", type := 28, offset := 3, embedded := false, tag := "", pkgPath := "", byteOffset := 48 }, { name := "Names", type := 29, offset := 4, embedded := false, tag := "", pkgPath := "", byteOffset := 72 }, { name := "Count", type := 4, offset := 5, embedded := false, tag := "", pkgPath := "", byteOffset := 96 }, { name := "Where", type := 30, offset := 6, embedded := false, tag := "", pkgPath := "", byteOffset := 104 }, { name := "Order", type := 9, offset := 7, embedded := false, tag := "", pkgPath := "", byteOffset := 128 }, { name := "Down", type := 4, offset := 8, embedded := false, tag := "", pkgPath := "", byteOffset := 144 }, { name := "Limit", type := 3, offset := 9, embedded := false, tag := "", pkgPath := "", byteOffset := 152 }, { name := "Set", type := 9, offset := 10, embedded := false, tag := "", pkgPath := "", byteOffset := 160 }, { name := "To", type := 30, offset := 11, embedded := false, tag := "", pkgPath := "", byteOffset := 176 }] : Array Field).mapM fun f => do pure (f.offset, ← sizeOf f.type) : Sem (Array (Nat × Nat))).run Tryz.prog w = .ok #[(0, 1), (1, 1), (2, 1), (3, 1), (4, 1), (5, 1), (6, 1), (7, 1), (8, 1), (9, 1), (10, 1), (11, 1)] w := fun w => by simp [sizeOf27, sizeOf28, sizeOf29, sizeOf3, sizeOf30, sizeOf4, sizeOf9]
theorem Yy(k t a b:Int)(row:List Vl)(x1 x2:Int)(x3:ByteArray)(E:List Tw)(y1 y2:Int)(y3:ByteArray)(I:List Tw)(bare:Bool)(dO:-9223372036854775808≤k)(fi:k≤9223372036854775807)(ht1:-9223372036854775808≤t)(ht2:t≤9223372036854775807)(U:-9223372036854775808≤a)(pO:a≤9223372036854775807)(iO:-9223372036854775808≤b)(nA:b≤9223372036854775807)(vl:∀v∈row,v.s.size≤maxLen)(hto:(Tw.mk x1 x2 x3 E).Ok)(M9:(Tw.mk y1 y2 y3 I).Ok):VC Tryz.prog G 23 [.agg [ae k,ae t,ae a,ae b,av 3 cV row,ae x1,ae x2,bn x3,.list 4 (Tw.mq E) E.length,ae y1,ae y2,bn y3,.list 4 (Tw.mq I) I.length,cg bare]] [] (fun r S'=>∃s,r = .agg (bI s)∧S'=[]∧jZ s∧s.kind=1+eu k 6):=by
 refine VC.body func23 rfl ntmps23 aS fun X0 w0 aZ=>?_;have apf:=ke k (show(1:Int)≤6 by decide);have O:=lf G k 6 dO fi w7;generalize eu k 6=ki at *;have aj8:=ke t (show(1:Int)≤2 by decide);have FT:=lf G t 2 ht1 ht2 w7;generalize eu t 2=ti at *;obtain⟨tj,rfl⟩:=Int.eq_ofNat_of_zero_le aj8.1;have ry:tj<dZ.length:=(by show tj<2;omega)
 have Z:=FI dZ[tj] (getElem_mem ry);generalize UG:dZ[tj]=tn at *;refine bY ?_;refine OD.box (ds:=[_,_,_,_,_,_,_,_,_,_,_,_,_,_]) ap rfl rfl ot rfl rfl (fun b1=>?_);refine OD.alloc (ds:=[_,_,_,_,_,_,_,_,_,_,_,_]) ap rfl rfl zeroValue32 rfl (fun b2=>?_);refine an 111 [1,2] ?_;refine CD.seq ?_;refine CD.mono (Q:=fun aW aI=>aW=Exit.normal∧∃(b3:Nat),(True)∧Wk aI (⟨111,[(1,dI b1),(2,dI b2),(3,dI b3)],[⟨b3,32,12,[ae (1+ki),bn tn,bS,bS,bS,cg false,bS,fL,cg false,ae (-1),fL,bS]⟩,⟨b2,32,12,[ae 0,fL,bS,bS,bS,cg false,bS,fL,cg false,ae 0,fL,bS]⟩,⟨b1,77,14,[ae k,ae t,ae a,ae b,av 3 cV row,ae x1,ae x2,bn x3,.list 4 (Tw.mq E) E.length,ae y1,ae y2,bn y3,.list 4 (Tw.mq I) I.length,cg bare]⟩]⟩:St)) ?_ ?_
 ·refine CD.draw (aq _) aA (fun _ h=>h) ?_;refine ay 0 rfl (dj 0) ?_;refine ay 1 rfl (dJ 1) ?_;refine ay 5 rfl (dj 1) ?_;refine ay 6 rfl (dJ 1) ?_;refine di.later rfl ?_;refine AD.three (i:=2) (j:=4) (k:=11) aA ?_ ?_ ?_
  ·refine jG call21 (O) ?_;refine cy 3 rfl mP ?_;refine AD.three (i:=4) (j:=7) (k:=11) aA ?_ ?_ ?_
   ·refine jt (cf 0 [_,_]) [.string ⟨#[]⟩,.string ⟨#[]⟩] [_,_] zeroValue9 runUnderlying29 sizeOf9 (fun b8=>?_);refine ju 0 8 1 2 ?_;exact z146
   ·refine jG call21 (FT) ?_;refine AD.two (i:=4) (j:=11) aA ?_ ?_
    ·refine jt (cf 0 [_,_]) [.string ⟨#[]⟩,.string ⟨#[]⟩] [_,_] zeroValue9 runUnderlying29 sizeOf9 (fun b8=>?_);refine ju 0 8 1 2 ?_;exact UX
    refine bj.alloc (ds:=[_,_,_,_,_,_,_,_,_,_,_,_]) rfl ap rfl rfl zeroValue32 rfl (fun b3=>?_);refine AD.one (i:=4) aA ?_;refine jt (cf 0 [_,_]) [.string ⟨#[]⟩,.string ⟨#[]⟩] [_,_] zeroValue9 runUnderlying29 sizeOf9 (fun b8=>?_);refine ju 0 8 1 2 ?_;exact z117
   refine bj.alloc (ds:=[_,_,_,_,_,_,_,_,_,_,_,_]) rfl ap rfl rfl zeroValue32 rfl (fun b3=>?_);exact z145
  ·refine jt (cf 0 [_,_]) [.string ⟨#[]⟩,.string ⟨#[]⟩] [_,_] zeroValue9 runUnderlying29 sizeOf9 (fun b8=>?_);refine ju 0 8 1 2 ?_;refine AD.two (i:=2) (j:=11) aA ?_ ?_
   ·refine jG call21 (O) ?_;refine cy 3 rfl mP ?_;exact z146
   refine bj.alloc (ds:=[_,_,_,_,_,_,_,_,_,_,_,_]) rfl ap rfl rfl zeroValue32 rfl (fun b3=>?_);refine AD.one (i:=2) aA ?_;refine jG call21 (O) ?_;refine cy 3 rfl mP ?_;exact FR
  refine bj.alloc (ds:=[_,_,_,_,_,_,_,_,_,_,_,_]) rfl ap rfl rfl zeroValue32 rfl (fun b3=>?_);refine AD.two (i:=2) (j:=4) aA ?_ ?_
  ·refine jG call21 (O) ?_;refine cy 3 rfl mP ?_;exact z145
  refine jt (cf 0 [_,_]) [.string ⟨#[]⟩,.string ⟨#[]⟩] [_,_] zeroValue9 runUnderlying29 sizeOf9 (fun b8=>?_);refine ju 0 8 1 2 ?_;refine AD.one (i:=2) aA ?_;refine jG call21 (O) ?_;refine cy 3 rfl mP ?_;exact FR
 rintro _ _ ⟨rfl,b3,_,Km⟩;refine CD.wk Km ?_;refine jV [1,2,3] (fun aW _ aI=>∃(s:cx),(qt s)∧(s.kind=1+ki)∧aI=(⟨111,aW,[⟨b3,32,12,[ae s.kind,bn s.table,av 2 cC s.az,av 3 cV s.row,av 1 cS s.names,cg s.count,av 5 cO s.aj,bn s.order,cg s.down,ae s.ig,bn s.set,av 5 cO s.bU]⟩,⟨b2,32,12,[ae 0,fL,bS,bS,bS,cg false,bS,fL,cg false,ae 0,fL,bS]⟩,⟨b1,77,14,[ae k,ae t,ae a,ae b,av 3 cV row,ae x1,ae x2,bn x3,.list 4 (Tw.mq E) E.length,ae y1,ae y2,bn y3,.list 4 (Tw.mq I) I.length,cg bare]⟩]⟩:St)) ?_ ?_
 ·refine CD.seq ?_;refine CD.cells (k:=0) (cs':=[_,_,.list 2 [] 0,.list 3 [] 0,.list 1 [] 0,_,.list 5 [] 0,_,_,_,_,.list 5 [] 0]) (S':=[_,_,_]) rfl (by repeat (first|exact trivial|exact⟨cY,trivial⟩|exact⟨eV,trivial⟩|refine⟨cY,?_⟩|refine⟨eV,?_⟩)) rfl ?_;refine cm [1,2,3,16] ?_;refine af [1,2,3,16,17] ?_;refine au ?_ ?_<;>intro aN bC
  ·obtain rfl:ki=0:=(by simp at aN;omega)
   refine sX ?_;refine OD.gZ ap rfl rfl rfl call18 (HQ) trivial ?_;refine aE 1 ?_;refine aP 0 [_,_,_,_,_,_,_,_,_,_,_,_] sizeOf27 ?_;refine an 111 [1,2,3] ?_;refine⟨_,aQ,{gN with kind:=1+0,table:=tn,az:=dM},(HE Z),Cl,rfl⟩
  refine af [1,2,3,16,21] ?_;refine au ?_ ?_<;>intro aY cz
  ·obtain rfl:ki=2:=(by simp at aY;omega)
   have aj9:=ke a (show(1:Int)≤12 by decide);have aka:=lf G a 12 U pO w7;generalize eu a 12=xa at *;have akb:=ke b (show(1:Int)≤9 by decide);have akc:=lf G b 9 iO nA w7;generalize eu b 9=xb at *;have C3:(tG row).size≤maxLen:=(by (cases row;decide;exact vl _ mem_cons_self))
   have yc:(nl (tG row) 2).size≤maxLen:=(by rw[Ec];exact Nat.le_trans (Nat.min_le_left _ _) C3)
   have dB:((⟨#[]⟩:ByteArray)++nl (tG row) 2).size≤maxLen:=(by rw[ByteArray.size_append];show 0+_≤_;omega)
   have sP:(⟨#[]⟩:ByteArray).size+(nl (tG row) 2).size≤9223372036854775807:=(by (have:=yc;unfold maxLen at this;show 0+_≤_;omega))
   have hu6:=(Oj ((⟨#[]⟩:ByteArray)++nl (tG row) 2)).2;refine mg 18 [1,2,3,40] ?_;refine de (aka) ?_;refine de (akc) ?_;refine de (aa9 k t a b row x1 x2 x3 E y1 y2 y3 I bare) ?_;refine de (Bc (tG row) 2 C3) ?_;refine aU 0 ?_ (h:=by exact(c8 rfl bL ot (EP sP)));refine de (Nm.qe ((⟨#[]⟩:ByteArray)++nl (tG row) 2) dB) ?_;refine de (s6 b iO nA) ?_;refine bG ?_;refine aE 1 ?_;refine aP 0 [_,_,_,_,_,_,_,_,_,_,_,_] sizeOf28 ?_;refine an 111 [1,2,3] ?_;refine⟨_,aQ,{gN with kind:=1+2,table:=tn,row:=[⟨2,xa,⟨#[]⟩⟩,⟨2,xb,⟨#[]⟩⟩,⟨3,0,tJ ((⟨#[]⟩:ByteArray)++nl (tG row) 2)⟩,qh b]},(ZG Z aj9 akb hu6),Cl,rfl⟩
  refine af [1,2,3,16,42] ?_;refine au ?_ ?_<;>intro bZ cM
  ·obtain rfl:ki=3:=(by simp at bZ;omega)
   refine jV [1,2,3] (fun aW _ aI=>∃(N:List ByteArray),((N.length≤6∧∀x∈N,cU x=0))∧aI=(⟨111,aW,[⟨b3,32,12,[ae (1+3),bn tn,.list 2 [] 0,.list 3 [] 0,av 1 cS N,cg false,.list 5 [] 0,fL,cg false,ae (-1),fL,.list 5 [] 0]⟩,⟨b2,32,12,[ae 0,fL,bS,bS,bS,cg false,bS,fL,cg false,ae 0,fL,bS]⟩,⟨b1,77,14,[ae k,ae t,ae a,ae b,av 3 cV row,ae x1,ae x2,bn x3,.list 4 (Tw.mq E) E.length,ae y1,ae y2,bn y3,.list 4 (Tw.mq I) I.length,cg bare]⟩]⟩:St)) ?_ ?_
   ·refine CD.seq ?_;have apg:=ke a (show(1:Int)≤3 by decide);have akd:=lf G a 3 U pO w7;generalize eu a 3=xc at *;refine iF [1,2,3,47] ?_;refine de (akd) ?_;refine bG ?_;refine au ?_ ?_<;>intro cW ek
    ·have pyb:=ke b (show(1:Int)≤3 by decide);have NM:=lf G b 3 iO nA w7;generalize eu b 3=yb at *;have hyb:yb=0∨yb=1∨yb=2:=(by omega)
     rcases hyb with rfl|rfl|rfl
     ·refine sX ?_;refine ez (cf 0 [_,_,_]) [.string ⟨#[]⟩,.string ⟨#[]⟩,.string ⟨#[]⟩] [_,_,_] zeroValue9 runUnderlying29 sizeOf9 (fun ND=>?_);refine fP 0 48 1 3 ?_;refine aE 2 ?_;refine dS call21 (NM) ?_;refine aE 1 ?_;refine bH (ei (l:=0) (h:=1) rfl ot trivial ⟨_,ot⟩ LO) ?_;refine aE 1 ?_;refine aP 0 [_,_,_,_,_,_,_,_,_,_,_,_] sizeOf29 ?_;refine an 111 [1,2,3] ?_;refine⟨_,aQ,[⟨#[115]⟩],⟨by decide,by decide +kernel⟩,rfl⟩
     ·refine sX ?_;refine ez (cf 0 [_,_,_]) [.string ⟨#[]⟩,.string ⟨#[]⟩,.string ⟨#[]⟩] [_,_,_] zeroValue9 runUnderlying29 sizeOf9 (fun ND=>?_);refine fP 0 48 1 3 ?_;refine aE 2 ?_;refine dS call21 (NM) ?_;refine aE 1 ?_;refine bH (ei (l:=0) (h:=2) rfl ot trivial ⟨_,ot⟩ LO) ?_;refine aE 1 ?_;refine aP 0 [_,_,_,_,_,_,_,_,_,_,_,_] sizeOf29 ?_;refine an 111 [1,2,3] ?_;refine⟨_,aQ,[⟨#[115]⟩,⟨#[105,100]⟩],⟨by decide,by decide +kernel⟩,rfl⟩
     refine sX ?_;refine ez (cf 0 [_,_,_]) [.string ⟨#[]⟩,.string ⟨#[]⟩,.string ⟨#[]⟩] [_,_,_] zeroValue9 runUnderlying29 sizeOf9 (fun ND=>?_);refine fP 0 48 1 3 ?_;refine aE 2 ?_;refine dS call21 (NM) ?_;refine aE 1 ?_;refine bH (ei (l:=0) (h:=3) rfl ot trivial ⟨_,ot⟩ LO) ?_;refine aE 1 ?_;refine aP 0 [_,_,_,_,_,_,_,_,_,_,_,_] sizeOf29 ?_;refine an 111 [1,2,3] ?_;refine⟨_,aQ,[⟨#[115]⟩,⟨#[105,100]⟩,⟨#[110]⟩],⟨by decide,by decide +kernel⟩,rfl⟩
    refine CD.skip ?_;refine⟨_,aQ,[],⟨by simp,fun _ h=>by cases h⟩,rfl⟩
   rintro _ ⟨N,hN,rfl⟩;refine CD.seq ?_;have aph:=ke a (show(1:Int)≤5 by decide);have ake:=lf G a 5 U pO w7;generalize eu a 5=xd at *;refine dN 2 ?_;refine dS call21 (ake) ?_;refine aE 2 ?_;refine aP 0 [_,_,_,_,_,_,_,_,_,_,_,_] sizeOf4 ?_;refine an 111 [1,2,3] ?_;refine jV [1,2,3] (fun aW _ aI=>∃(N:List ByteArray),∃(ct:Bool),((N.length≤6∧∀x∈N,cU x=0))∧(ct=true→N=[])∧aI=(⟨111,aW,[⟨b3,32,12,[ae (1+3),bn tn,.list 2 [] 0,.list 3 [] 0,av 1 cS N,cg ct,.list 5 [] 0,fL,cg false,ae (-1),fL,.list 5 [] 0]⟩,⟨b2,32,12,[ae 0,fL,bS,bS,bS,cg false,bS,fL,cg false,ae 0,fL,bS]⟩,⟨b1,77,14,[ae k,ae t,ae a,ae b,av 3 cV row,ae x1,ae x2,bn x3,.list 4 (Tw.mq E) E.length,ae y1,ae y2,bn y3,.list 4 (Tw.mq I) I.length,cg bare]⟩]⟩:St)) ?_ ?_
   ·refine af [1,2,3,61] ?_;refine au ?_ ?_<;>intro eA fA
    ·refine dN 1 ?_;refine aP 0 [_,_,_,_,_,_,_,_,_,_,_,_] sizeOf29 ?_;refine an 111 [1,2,3] ?_;refine⟨_,(Wk.cells (k:=0) (cs':=[_,_,_,_,.list 1 [] 0,_,_,_,_,_,_,_]) rfl (by repeat (first|exact trivial|exact⟨cY,trivial⟩|exact⟨eV,trivial⟩|refine⟨cY,?_⟩|refine⟨eV,?_⟩)) rfl).trans (aQ),[],(xd==3),⟨Nat.zero_le _,fun _ h=>by cases h⟩,(fun _=>rfl),rfl⟩
    refine CD.skip ?_;refine⟨_,aQ,N,(xd==3),hN,(fun h=>absurd h (by rw[eA];decide)),rfl⟩
   rintro _ ⟨N,ct,hN,hcn,rfl⟩;refine CD.seq ?_;have akf:=ke b (show(1:Int)≤4 by decide);have akg:=lf G b 4 iO nA w7;generalize eu b 4=xe at *;obtain⟨ej,rfl⟩:=Int.eq_ofNat_of_zero_le akf.1;have NN:ej<iP.length:=(by show ej<4;omega)
   have jK:=ahq iP[ej] (getElem_mem NN);generalize akh:iP[ej]=od at *;refine sX ?_;refine ez (cf 0 [_,_,_,_]) [.string ⟨#[]⟩,.string ⟨#[]⟩,.string ⟨#[]⟩,.string ⟨#[]⟩] [_,_,_,_] zeroValue9 runUnderlying29 sizeOf9 (fun DF=>?_);refine fP 0 63 1 4 ?_;refine aE 2 ?_;refine dS call21 (akg) ?_;refine aE 1 ?_;refine bH (cR (mk:=Op.load 9) rfl ot (by exact qf (g:=cS) (ls:=iP) (i:=ej) (d:=bn od) jl isAgg9 NN (by show some (D.v (.string (iP[ej]'NN)))=some (D.v (.string od));rw[akh]))) ?_;refine aE 1 ?_;refine aP 0 [_,_,_,_,_,_,_,_,_,_,_,_] sizeOf9 ?_;refine an 111 [1,2,3] ?_;refine jV [1,2,3] (fun aW _ aI=>∃(dn:Bool),(od=⟨#[]⟩→dn=false)∧aI=(⟨111,aW,[⟨b3,32,12,[ae (1+3),bn tn,.list 2 [] 0,.list 3 [] 0,av 1 cS N,cg ct,.list 5 [] 0,bn od,cg dn,ae (-1),fL,.list 5 [] 0]⟩,⟨b2,32,12,[ae 0,fL,bS,bS,bS,cg false,bS,fL,cg false,ae 0,fL,bS]⟩,⟨b1,77,14,[ae k,ae t,ae a,ae b,av 3 cV row,ae x1,ae x2,bn x3,.list 4 (Tw.mq E) E.length,ae y1,ae y2,bn y3,.list 4 (Tw.mq I) I.length,cg bare]⟩]⟩:St)) ?_ ?_
   ·have api:=ke a (show(1:Int)≤2 by decide);have aki:=lf G a 2 U pO w7;generalize eu a 2=xf at *;refine dN 4 ?_;refine bX 73 (fun LF ahr=>?_) (fun LF ahr=>?_)
    ·refine aE 2 ?_;refine OD.gZ iu rfl rfl rfl call21 (aki) ⟨ot,bL,trivial⟩ ?_;refine aE 3 ?_;refine aP 0 [_,_,_,_,_,_,_,_,_,_,_,_] sizeOf4 ?_;refine an 111 [1,2,3] ?_;refine⟨_,aQ,(xf==1),(fun h=>by rw[h] at LF;exact absurd LF (by decide +kernel)),rfl⟩
    refine xI 4 ?_;refine aE 2 ?_;refine aP 0 [_,_,_,_,_,_,_,_,_,_,_,_] sizeOf4 ?_;refine an 111 [1,2,3] ?_;refine⟨_,aQ,false,(fun _=>rfl),rfl⟩
   rintro _ ⟨dn,Ac,rfl⟩;have apj:=ke a (show(1:Int)≤9 by decide);have akj:=lf G a 9 U pO w7;generalize eu a 9=xg at *;refine dN 2 ?_;refine dS call21 (akj) ?_;refine aE 2 ?_;refine aP 0 [_,_,_,_,_,_,_,_,_,_,_,_] sizeOf3 ?_;refine an 111 [1,2,3] ?_;refine⟨_,aQ,{gN with kind:=1+3,table:=tn,names:=N,count:=ct,order:=od,down:=dn,ig:=xg-1},(ZH Z hN hcn (jK.imp (fun h=>afX h) id) Ac w4),Cl,rfl⟩
  refine af [1,2,3,85] ?_;refine au ?_ ?_<;>intro fx gG
  ·obtain rfl:ki=4:=(by simp at fx;omega)
   refine CD.seq ?_;have akk:=ke a (show(1:Int)≤5 by decide);have akl:=lf G a 5 U pO w7;generalize eu a 5=xh at *;obtain⟨hj,rfl⟩:=Int.eq_ofNat_of_zero_le akk.1;have NQ:hj<Av.length:=(by show hj<5;omega)
   have hsn:=Ky Av[hj] (getElem_mem NQ);generalize akm:Av[hj]=sn at *;refine sX ?_;refine ez (cf 0 [_,_,_,_,_]) [.string ⟨#[]⟩,.string ⟨#[]⟩,.string ⟨#[]⟩,.string ⟨#[]⟩,.string ⟨#[]⟩] [_,_,_,_,_] zeroValue9 runUnderlying29 sizeOf9 (fun b87=>?_);refine fP 0 87 1 5 ?_;refine aE 2 ?_;refine dS call21 (akl) ?_;refine aE 1 ?_;refine bH (cR (mk:=Op.load 9) rfl ot (by exact qf (g:=cS) (ls:=Av) (i:=hj) (d:=bn sn) jl isAgg9 NQ (by show some (D.v (.string (Av[hj]'NQ)))=some (D.v (.string sn));rw[akm]))) ?_;refine aE 1 ?_;refine aP 0 [_,_,_,_,_,_,_,_,_,_,_,_] sizeOf9 ?_;refine an 111 [1,2,3] ?_;refine dN 2 ?_;refine dS call19 (TL (.mk x1 x2 x3 E) hto) ?_;refine aE 1 ?_;refine aP 0 [_,_,_,_,_,_,_,_,_,_,_,_] sizeOf30 ?_;refine an 111 [1,2,3] ?_;refine⟨_,aQ,{gN with kind:=1+4,table:=tn,set:=sn,bU:=iz 3 (.mk x1 x2 x3 E)},(ZI Z hsn (.mk x1 x2 x3 E)),Cl,rfl⟩
  have akn:ki=1∨ki=5:=(by simp at aN aY bZ fx;omega)
  refine CD.skip ?_;refine⟨_,aQ,{gN with kind:=1+ki,table:=tn},(by (rcases akn with rfl|rfl;exact Rj Z;exact ZJ Z)),Cl,rfl⟩
 rintro _ ⟨s,LG,LH,rfl⟩;refine aD 4 ?_;refine bX 101 (fun UC afY=>?_) (fun UC afY=>?_)
 ·refine bg [1,2,3,105] ?_;refine au ?_ ?_<;>intro gX kO
  ·have hg4:4≤s.kind∧bare=false:=(by (have q1:=gX;simp at q1;first|exact⟨by simpa using UC,by simpa using q1⟩|simp_all))
   have oc:=LG.2 (iz 3 (.mk y1 y2 y3 I)) (Tg _) (.inl hg4.1);refine dN 2 ?_;refine dS call19 (TL (.mk y1 y2 y3 I) M9) ?_;refine aE 1 ?_;refine aP 0 [_,_,_,_,_,_,_,_,_,_,_,_] sizeOf30 ?_;refine an 111 [2,3] ?_;refine aD 1 ?_;refine aP 1 [_,_,_,_,_,_,_,_,_,_,_,_] sizeOf32 ?_;refine an 111 [2] ?_;refine aJ [] ?_;exact⟨{s with aj:=iz 3 (.mk y1 y2 y3 I)},rfl,rfl,oc,LH⟩
  have oc:=LG.tU;refine aD 1 ?_;refine aP 1 [_,_,_,_,_,_,_,_,_,_,_,_] sizeOf32 ?_;refine an 111 [2] ?_;refine aJ [] ?_;exact⟨s,rfl,rfl,oc,LH⟩
 refine bg [1,2,3,105] ?_;refine fT ?_;have oc:=LG.tU;refine aD 1 ?_;refine aP 1 [_,_,_,_,_,_,_,_,_,_,_,_] sizeOf32 ?_;refine an 111 [2] ?_;refine aJ [] ?_;exact⟨s,rfl,rfl,oc,LH⟩

end Go.Proofs.YtdgichenhdikgaaGreatDoor.Pa
namespace Go.Proofs.YtdgichenhdikgaaGreatDoor.Ba
open List
open Go.Proofs.Tryz
open Go.RowKit V Pk Tr Vl Go.Proofs.YtdgichenhdikgaaGreatDoor.Nm Pc Cd Ex Tw
open Pa (cx bI j3 gQ jZ gP jF ku iA)
variable {l:List aL} {a c:Nat}
theorem Kz{v:Vl}(h:dH v=0)(h1:-9223372036854775808≤v.n)(h2:v.n≤9223372036854775807):v.Ok:=by
 unfold dH at h;have hk:(0≤v.k∧v.k≤3)∧v.s.size≤20:=by
  repeat' split at h
  all_goals first|(cases h;done)|omega
 exact⟨by omega,by omega,h1,h2,Nat.le_trans hk.2 w7⟩
theorem PP{α:Type}{f:α→Int}:∀{l:List α},Pa.jN f l=0→∀a∈l,f a=0
 | [],_,a,ha=>by cases ha
 | x::r,h,a,ha=>by
  rw[Pa.jN] at h;split at h
  ·rename_i hx;exact absurd h hx
  rename_i hx;rcases mem_cons.1 ha with rfl|ha
  ·exact Classical.not_not.1 hx
  exact PP h a ha
theorem IR{w:List aX}(h:Pa.nE w=0):∀o∈w,dH o.v=0:=fun o ho=>by
 unfold Pa.nE at h;split at h
 ·rename_i h0;rw[length_eq_zero_iff.1 h0] at ho;cases ho
 obtain⟨h',h1⟩:=EJ w 0 (wj h).2 o ho;exact Eh (v8 h1).2.2.1
theorem aey{w:List aX}(h:iT w=0):∀o∈w,dH o.v=0:=fun o ho=>by
 obtain⟨h',h1⟩:=EJ w 0 (wj h).2 o ho;exact Eh (v8 h1).2.2.1
structure Ck (s:cx):Prop where
 fin:j3 s
 row:∀v∈s.row,v.Ok
 wnm:∀o∈s.aj,o.nm.size≤maxLen
 wok:∀o∈s.aj,o.v.Ok
 X3:∀o∈s.bU,o.nm.size≤maxLen
 X4:∀o∈s.bU,o.v.Ok
theorem Ky{s:cx}(hf:j3 s)(dO:1≤s.kind)(Aa:s.kind≤6)(hc:gP s=0):Ck s:=by
 unfold gP at hc;split at hc
 ·rename_i h1;exact absurd hc h1.2
 split at hc
 ·cases hc
 rename_i h1 h2;have hb:ku s (iA s)=true:=by
  cases h:ku s (iA s) with
  | true=>rfl
  | false=>exact absurd ⟨hc,h⟩ h2
 unfold ku at hb;simp only[Bool.and_eq_true,beq_iff_eq] at hb;have hr:∀v∈s.row,dH v=0:=by
  by_cases h3:s.kind=3
  ·unfold jF at hc;rw[if_neg w4,if_pos h3] at hc;unfold Pa.en at hc;split at hc
   ·cases hc
   exact fun v O=>Eh (PP hc v O)
  have E:(s.row.length:Int)=((iA s).row.length:Int):=hb.2.2.1;have h0:(iA s).row=[]:=(by unfold iA;split;rfl;split;rfl;split;rfl;split;rfl;rfl)
  rw[h0] at E;have:s.row=[]:=length_eq_zero_iff.1 (by simpa using E);rw[this];intro v O;cases O
 have hw:∀o∈s.aj,dH o.v=0:=by
  by_cases h3:4≤s.kind
  ·unfold jF at hc;rw[if_neg w4,if_neg w4] at hc;by_cases h4:s.kind=4
   ·rw[if_pos h4] at hc;unfold Pa.oK at hc;split at hc
    ·cases hc
    split at hc
    ·cases hc
    split at hc
    ·cases hc
    split at hc
    ·rename_i I;exact absurd hc I
    split at hc
    ·rename_i I;exact absurd hc I
    rename_i I;exact IR (Classical.not_not.1 I)
   rw[if_neg h4] at hc;by_cases h5:s.kind=5
   ·rw[if_pos h5] at hc;split at hc
    ·split at hc
     ·exact IR hc
     rename_i I;exact absurd hc I
    rename_i I;exact absurd hc I
   rw[if_neg h5,if_pos w4] at hc;exact IR hc
  have E:(s.aj.length:Int)=((iA s).aj.length:Int):=hb.2.2.2.2.2.1;have h0:(iA s).aj=[]:=(by unfold iA;split;rfl;split;rfl;rw[if_neg w4,if_neg w4,if_neg w4];rfl)
  rw[h0] at E;have:s.aj=[]:=length_eq_zero_iff.1 (by simpa using E);rw[this];intro v O;cases O
 have hx:∀o∈s.bU,dH o.v=0:=by
  by_cases h5:s.kind=5
  ·unfold jF at hc;rw[if_neg w4,if_neg w4,if_neg w4,if_pos h5] at hc;split at hc
   ·split at hc
    ·rename_i I;exact aey I
    rename_i I;exact absurd hc I
   rename_i I;exact absurd hc I
  have E:(s.bU.length:Int)=((iA s).bU.length:Int):=(by simpa using hb.2.2.2.2.2.2.2.2.2.2)
  have h0:(iA s).bU=[]:=(by unfold iA;split;rfl;split;rfl;split;rfl;split;rfl;rfl)
  rw[h0] at E;have:s.bU=[]:=length_eq_zero_iff.1 (by simpa using E);rw[this];intro v O;cases O
 exact⟨hf,fun v O=>Kz (hr v O) (hf.r v O).1 (hf.r v O).2,fun o ho=>(hf.w o ho).1,fun o ho=>Kz (hw o ho) (hf.w o ho).2.1 (hf.w o ho).2.2,fun o ho=>(hf.x o ho).1,fun o ho=>Kz (hx o ho) (hf.x o ho).2.1 (hf.x o ho).2.2⟩
theorem jZ.st{s:cx}(h:jZ s):Ck s:=Ky h.1 h.2.1 h.2.2.1 h.2.2.2.2
structure qW (l:List aL) (a c:Nat):Prop where
 g:l8 l (a*(1+c))
 r:∀t∈l,t.rows.length≤a
theorem acN(s:cx)(h:cU s.table=0)(hc:s.az=dM):eW (eC s) 0:=⟨h,hc,Nat.zero_le _,aco,fun i h=>absurd h (Nat.not_lt_zero _),fun x hx=>by
 have:eE oM=[]:=Q0;rw[show(eC s).ix=oM from rfl,this] at hx;cases hx⟩
theorem l8.mono{l:List aL}{n m:Nat}(g:l8 l n)(h:n≤m):l8 l m:=⟨g.eD,fun t ht=>(g.tb t ht).mono h,g.sz,g.DQ⟩
theorem l8.put{n:Nat}(g:l8 l n){i:Nat}(hi:i<l.length){t:aL}(ht:eW t n)(hn:t.nm=l[i].nm):l8 (l.set i t) n:=by
 refine⟨by rw[length_set];exact g.eD,fun x hx=>?_,fun x hx=>?_,?_⟩
 ·rcases mem_or_eq_of_mem_set hx with h|h
  ·exact g.tb x h
  rw[h];exact ht
 ·rcases mem_or_eq_of_mem_set hx with h|h
  ·exact g.sz x h
  rw[h,hn];exact g.sz _ (getElem_mem hi)
 have hm:(l.set i t).map aL.nm=l.map aL.nm:=by
  exact UN
 have h1:∀l:List aL,(l.Pairwise fun a b=>a.nm.toList≠b.nm.toList)↔(l.map aL.nm).Pairwise fun a b=>a.toList≠b.toList:=fun l=>by rw[pairwise_map]
 rw[h1,hm,←h1];exact g.DQ

theorem T3(t:aL)(row:List Vl):(gC t row).1.nm=t.nm:=by
 unfold gC;by_cases h1:Pc.en t.az row≠0
 ·rw[if_pos h1]
 rw[if_neg h1];cases iy t.ix (c9 row) (dK t.ix) with
 | true=>rw[if_pos rfl]
 | false =>
  rw[if_neg w7];by_cases h3:t.rows.length=40
  ·rw[if_pos h3]
  rw[if_neg h3]
theorem Ti:∀(l:List Int) (t:aL),(rj t l).nm=t.nm
 | [],_=>rfl
 | _::l,t=>(Ti l _).trans rfl
theorem T4(t:aL)(w:List aX):(mA t w).1.nm=t.nm:=by unfold mA;split;rfl;exact Ti _ _
theorem Tj{c:Nat}:∀(l:List Int) (vs:List Vl) (t:aL),(mK c t l vs).nm=t.nm
 | [],_,t=>by unfold mK;rfl
 | _::_,[],t=>by unfold mK;rfl
 | _::l,_::vs,t=>(Tj l vs _).trans rfl
theorem Rk:∀(l:List Int) (vs:List Vl) (t:aL),(kC t l vs).1.nm=t.nm
 | [],_,t=>by unfold kC;rfl
 | _::_,[],t=>by unfold kC;rfl
 | _::l,_::vs,t=>by
  rw[kC];split
  ·rfl
  exact(Rk l vs _).trans rfl
theorem T5(t:aL)(s:cx):(hU t s).1.nm=t.nm:=by
 unfold hU;repeat' split
 all_goals first|rfl|exact Tj _ _ _|exact(Rk _ _ _).trans rfl
theorem afZ{nm:ByteArray}(h:aM l nm<0):∀t∈l,t.nm.toList≠nm.toList:=fun t ht e=>by
 unfold aM dR at h;split at h
 ·omega
 rename_i h1;have:=findIdx?_eq_none_iff.1 h1 t ht;rw[e] at this;simp at this
theorem Rl(h:a+c≤30):a*(1+c)≤260:=by
 have key:∀a<31,∀c<31,a+c≤30→a*(1+c)≤260:=(by decide +kernel)
 exact key a w4 c w4 h
theorem UD:a*(1+c)+1≤(a+1)*(1+c):=by rw[Nat.add_mul];omega
theorem UE:a*(1+c)+a=a*(1+(c+1)):=by rw[←Nat.add_assoc,Nat.mul_add a (1+c) 1,Nat.mul_one]
theorem qW.put{l:List aL}{a c a' E:Nat}(g:qW l a c)(h:a*(1+c)≤a'*(1+E))(ha:a≤a'){i:Nat}(hi:i<l.length){t:aL}(ht:eW t (a'*(1+E)))(hr:t.rows.length≤a')(hn:t.nm=l[i].nm):qW (l.set i t) a' E:=by
 refine⟨(g.g.mono h).put hi ht hn,fun x hx=>?_⟩;rcases mem_or_eq_of_mem_set hx with hx|hx
 ·exact Nat.le_trans (g.r x hx) ha
 rw[hx];exact hr
theorem JZ{i:Nat}(hi:i<l.length){t:aL}(hn:t.nm=l[i].nm):(l.set i t).map aL.nm=l.map aL.nm:=by
 exact UN
theorem EK(g:qW l a c)(O:a+c≤30){s:cx}(hs:Ck s)(fi:¬s.kind=2)(qz:cU s.table=0)(I:s.kind=1→s.az=dM)(h0:(gi l s).2.2=0) :
  ∃a' U,a'+U≤a+c+1∧qW (gi l s).1 a' U∧(s.kind=1→(gi l s).1=l++[eC s]∧a'=a∧U=c)∧(¬s.kind=1→(gi l s).1.map aL.nm=l.map aL.nm):=by
 have hb:=Rl O;have iO:=uO (fun t:aL=>t.nm.toList==s.table.toList) l;rw[show dR (fun t:aL=>t.nm.toList==s.table.toList) l=aM l s.table from rfl] at iO;unfold gi at h0 ⊢;by_cases dO:s.kind=1
 ·rw[if_pos dO] at h0 ⊢;dsimp only at h0;unfold nT at h0 ⊢;by_cases h1:0≤aM l s.table
  ·rw[if_pos h1] at h0;cases h0
  rw[if_neg h1] at h0 ⊢;by_cases h2:l.length=4
  ·rw[if_pos h2] at h0;cases h0
  rw[if_neg h2] at h0 ⊢;have Z:=acN s qz (I dO);have hf:=g.g.eD;refine⟨a,c,by omega,⟨⟨by rw[length_append,length_singleton];omega,fun t ht=>?_,fun t ht=>?_,?_⟩,fun t ht=>?_⟩,fun _=>⟨rfl,rfl,rfl⟩,fun h=>absurd dO h⟩
  ·rcases mem_append.1 ht with ht|ht
   ·exact g.g.tb t ht
   rw[mem_singleton] at ht;rw[ht];exact Z.mono (Nat.zero_le _)
  ·rcases mem_append.1 ht with ht|ht
   ·exact g.g.sz t ht
   rw[mem_singleton] at ht;rw[ht];exact hs.fin.t
  ·refine pairwise_append.2 ⟨g.g.DQ,pairwise_singleton _ _,fun x hx y hy=>?_⟩;rw[mem_singleton] at hy;subst hy;exact afZ (show aM l s.table<0 by omega) x hx
  rcases mem_append.1 ht with ht|ht
  ·exact g.r t ht
  rw[mem_singleton] at ht;rw[ht];exact Nat.zero_le _
 rw[if_neg dO] at h0 ⊢;by_cases h1:aM l s.table<0
 ·rw[if_pos h1] at h0;cases h0
 rw[if_neg h1] at h0 ⊢;have E:(aM l s.table).toNat<l.length:=(by omega)
 have kW:l.getD (aM l s.table).toNat (eC s)=l[(aM l s.table).toNat]:=(by rw[getD_eq_getElem?_getD,getElem?_eq_getElem E];rfl)
 rw[kW] at h0 ⊢;have gt:=g.g.tb _ (getElem_mem E);have gr:=g.r _ (getElem_mem E);by_cases h3:s.kind=3
 ·rw[if_pos h3] at h0 ⊢;obtain⟨q1,q2⟩:=aa4 gt w4 hs.row h0;exact⟨a+1,c,by omega,g.put (Nat.le_trans (Nat.le_succ _) UD) (Nat.le_succ _) E (q1.mono UD) w4 (T3 _ _),fun h=>absurd h dO,fun _=>JZ E (T3 _ _)⟩
 rw[if_neg h3] at h0 ⊢;by_cases h4:s.kind=4
 ·rw[if_pos h4];exact⟨a,c,by omega,g,fun h=>absurd h dO,fun _=>rfl⟩
 rw[if_neg h4] at h0 ⊢;by_cases h5:s.kind=5
 ·rw[if_pos h5];obtain⟨q1,q2⟩:=aa5 gt s hs.X3 hs.X4 hb;exact⟨a,c+1,by omega,g.put (by rw[←UE];omega) (Nat.le_refl _) E (q1.mono (by rw[←UE];omega)) w4 (T5 _ _),fun h=>absurd h dO,fun _=>JZ E (T5 _ _)⟩
 rw[if_neg h5];obtain⟨q1,q2⟩:=Yx gt s.aj;exact⟨a,c,by omega,g.put (Nat.le_refl _) (Nat.le_refl _) E q1 w4 (T4 _ _),fun h=>absurd h dO,fun _=>JZ E (T4 _ _)⟩

end Go.Proofs.YtdgichenhdikgaaGreatDoor.Ba

namespace Go.Proofs.YtdgichenhdikgaaGreatDoor.Pa
open List
open Go.Proofs.Tryz
open Go.RowKit V Pk Go.Proofs.YtdgichenhdikgaaGreatDoor.Vl Go.Proofs.YtdgichenhdikgaaGreatDoor.Nm Go.Proofs.YtdgichenhdikgaaGreatDoor.Pc
section
variable {H:Type} {enc:TypeId×Value→H} {P:Program} {w:World} {base:Nat} {sp:Nat→Bool} {held:Bool}
theorem ZK {fuel:Nat} {t:TypeId} {f0 f1 f2 f3 f4 f5 f6 f7:Field} {E I O U Z α5 α6 α7:Type} {g0:E→List D} {k0:E→Prop} {g1:I→List D} {k1:I→Prop} {g2:O→List D} {k2:O→Prop} {g3:U→List D} {k3:U→Prop} {g4:Z→List D} {k4:Z→Prop} {g5:α5→List D} {k5:α5→Prop} {g6:α6→List D} {k6:α6→Prop} {g7:α7→List D} {k7:α7→Prop} {n0 n1 n2 n3 n4 n5 n6 n7:Nat}
  (ht:P.underlying t=some (.struct #[f0,f1,f2,f3,f4,f5,f6,f7])) (hc:P.cellsOf t=n0+n1+n2+n3+n4+n5+n6+n7) (o0:f0.offset=0) (c0:P.cellsOf f0.type=n0) (o1:f1.offset=n0) (c1:P.cellsOf f1.type=n1) (o2:f2.offset=n0+n1) (c2:P.cellsOf f2.type=n2) (o3:f3.offset=n0+n1+n2) (c3:P.cellsOf f3.type=n3) (o4:f4.offset=n0+n1+n2+n3) (c4:P.cellsOf f4.type=n4) (o5:f5.offset=n0+n1+n2+n3+n4) (c5:P.cellsOf f5.type=n5) (o6:f6.offset=n0+n1+n2+n3+n4+n5) (c6:P.cellsOf f6.type=n6) (o7:f7.offset=n0+n1+n2+n3+n4+n5+n6) (c7:P.cellsOf f7.type=n7)
  (r0:∀n,n+1=fuel→mc n enc P w base sp held f0.type g0 k0) (r1:∀n,n+1=fuel→mc n enc P w base sp held f1.type g1 k1) (r2:∀n,n+1=fuel→mc n enc P w base sp held f2.type g2 k2) (r3:∀n,n+1=fuel→mc n enc P w base sp held f3.type g3 k3) (r4:∀n,n+1=fuel→mc n enc P w base sp held f4.type g4 k4) (r5:∀n,n+1=fuel→mc n enc P w base sp held f5.type g5 k5) (r6:∀n,n+1=fuel→mc n enc P w base sp held f6.type g6 k6) (r7:∀n,n+1=fuel→mc n enc P w base sp held f7.type g7 k7) :
  mc fuel enc P w base sp held t (fun a:E × I × O × U × Z × α5 × α6 × α7=>(g0 (a.1)++(g1 (a.2.1)++(g2 (a.2.2.1)++(g3 (a.2.2.2.1)++(g4 (a.2.2.2.2.1)++(g5 (a.2.2.2.2.2.1)++(g6 (a.2.2.2.2.2.2.1)++g7 (a.2.2.2.2.2.2.2))))))))) (fun a=>k0 (a.1)∧k1 (a.2.1)∧k2 (a.2.2.1)∧k3 (a.2.2.2.1)∧k4 (a.2.2.2.2.1)∧k5 (a.2.2.2.2.2.1)∧k6 (a.2.2.2.2.2.2.1)∧k7 (a.2.2.2.2.2.2.2)):=fun cs x h=>by
 obtain⟨xs,n,hn,_,hl,gd,hf⟩:=DataW.trod_struct ht h;have e0:=hf 0 f0 rfl;have e1:=hf 1 f1 rfl;have e2:=hf 2 f2 rfl;have e3:=hf 3 f3 rfl;have e4:=hf 4 f4 rfl;have e5:=hf 5 f5 rfl;have e6:=hf 6 f6 rfl;have e7:=hf 7 f7 rfl;rw[o0,c0,drop_zero] at e0;rw[o1,c1] at e1;rw[o2,c2] at e2;rw[o3,c3] at e3;rw[o4,c4] at e4;rw[o5,c5] at e5;rw[o6,c6] at e6;rw[o7,c7] at e7;have hx8:xs.length=8:=gd;rw[getElem?_eq_getElem w4] at e0 e1 e2 e3 e4 e5 e6 e7;obtain⟨a0,p0,q0⟩:=r0 n hn.symm _ _ e0;obtain⟨a1,p1,q1⟩:=r1 n hn.symm _ _ e1;obtain⟨a2,p2,q2⟩:=r2 n hn.symm _ _ e2;obtain⟨a3,p3,q3⟩:=r3 n hn.symm _ _ e3;obtain⟨a4,p4,q4⟩:=r4 n hn.symm _ _ e4;obtain⟨a5,p5,q5⟩:=r5 n hn.symm _ _ e5;obtain⟨a6,p6,q6⟩:=r6 n hn.symm _ _ e6;obtain⟨a7,p7,q7⟩:=r7 n hn.symm _ _ e7;refine⟨(a0,a1,a2,a3,a4,a5,a6,a7),?_,q0,q1,q2,q3,q4,q5,q6,q7⟩;have dB:cs=(cs.take n0++((cs.drop (n0)).take n1++((cs.drop (n0+n1)).take n2++((cs.drop (n0+n1+n2)).take n3++((cs.drop (n0+n1+n2+n3)).take n4++((cs.drop (n0+n1+n2+n3+n4)).take n5++((cs.drop (n0+n1+n2+n3+n4+n5)).take n6++((cs.drop (n0+n1+n2+n3+n4+n5+n6)).take n7)))))))):=by
  rw[take_of_length_le (l:=drop (n0+n1+n2+n3+n4+n5+n6) cs) (by rw[length_drop];omega)];have d2:cs.drop (n0+n1)=(cs.drop (n0)).drop n1:=(by rw[drop_drop])
  have d3:cs.drop (n0+n1+n2)=(cs.drop (n0+n1)).drop n2:=(by rw[drop_drop])
  have d4:cs.drop (n0+n1+n2+n3)=(cs.drop (n0+n1+n2)).drop n3:=(by rw[drop_drop])
  have d5:cs.drop (n0+n1+n2+n3+n4)=(cs.drop (n0+n1+n2+n3)).drop n4:=(by rw[drop_drop])
  have d6:cs.drop (n0+n1+n2+n3+n4+n5)=(cs.drop (n0+n1+n2+n3+n4)).drop n5:=(by rw[drop_drop])
  have d7:cs.drop (n0+n1+n2+n3+n4+n5+n6)=(cs.drop (n0+n1+n2+n3+n4+n5)).drop n6:=(by rw[drop_drop])
  rw[d7,take_append_drop,d6,take_append_drop,d5,take_append_drop,d4,take_append_drop,d3,take_append_drop,d2,take_append_drop,take_append_drop]
 rw[dB];exact(p0.append (p1.append (p2.append (p3.append (p4.append (p5.append (p6.append p7)))))))
end


structure Ph where
 k:Int
 t:Int
 a:Int
 b:Int
 row:List Vl
 bU:Tw
 wh:Tw
 bare:Bool
def Ph.cs(p:Ph):List D:=[ae p.k]++([ae p.t]++([ae p.a]++([ae p.b]++([av 3 cV p.row]++(p.bU.cs++(p.wh.cs++[cg p.bare]))))))
structure Ph.Ok (p:Ph):Prop where
 k:-9223372036854775808≤p.k∧p.k≤9223372036854775807
 t:-9223372036854775808≤p.t∧p.t≤9223372036854775807
 a:-9223372036854775808≤p.a∧p.a≤9223372036854775807
 b:-9223372036854775808≤p.b∧p.b≤9223372036854775807
 row:∀v∈p.row,v.s.size≤maxLen
 bU:p.bU.Ok
 wh:p.wh.Ok
theorem aez{H:Type}{enc:TypeId×Value→H}{w:World}{base:Nat}{sp:Nat→Bool}{held:Bool}:oU enc Tryz.prog w base sp held 114 cV (fun v:Vl=>v.s.size≤maxLen) :=
 (Y1 (n0:=1) (n1:=1) (n2:=1) underlying114 aA rfl rfl rfl aA aA aA (uT underlying3) (uT underlying3) (OO underlying9)).map (fun a=>(⟨a.1,a.2.1,a.2.2⟩:Vl)) (fun _=>rfl) (fun _ h=>h.2.2)
theorem ZL{H:Type}{enc:TypeId×Value→H}{w:World}{base:Nat}{sp:Nat→Bool}{held:Bool}(n:Nat):mc n enc Tryz.prog w base sp held 77 Ph.cs Ph.Ok:=fun cs x h=>by
 obtain⟨⟨a0,a1,a2,a3,a4,a5,a6,a7⟩,h1,q0,q1,q2,E,I,O,U,_⟩:=ZK (fuel:=n) (n0:=1) (n1:=1) (n2:=1) (n3:=1) (n4:=1) (n5:=4) (n6:=4) (n7:=1) underlying77 aA rfl aA rfl aA rfl aA rfl aA rfl aA rfl aA rfl aA rfl aA
  (fun q _=>(uT underlying3).at q) (fun q _=>(uT underlying3).at q) (fun q _=>(uT underlying3).at q) (fun q _=>(uT underlying3).at q) (fun q _=>OS (sz:=3) underlying75 aA w7 (fun z _=>aez.at z) fq) (fun q _=>Qv q) (fun q _=>Qv q) (fun q _=>(acY underlying4).at q) cs x h
 exact⟨⟨a0,a1,a2,a3,a4,a5,a6,a7⟩,h1,⟨q0,q1,q2,E,I.1,O,U⟩⟩
end Go.Proofs.YtdgichenhdikgaaGreatDoor.Pa

namespace Go.Proofs.YtdgichenhdikgaaGreatDoor.Ba
open List
open Go.Proofs.Tryz
open Go.RowKit V Pk Tr Vl Go.Proofs.YtdgichenhdikgaaGreatDoor.Nm Pc Cd Ex Tw
open Pa (cx bI j3 gQ jZ gP jF ku iA gN dZ Ph)
variable {G:List (Nat×List Value)} {m:Int}
variable {l:List aL}
theorem VC.Ct{P:Program}{f:FuncId}{args args':List D}{S:List ah}{post:D→List ah→Prop}(h:VC P G f args S post)(k:pV args' args):VC P G f args' S post:=by
 obtain⟨h1,h2⟩:=k.spec;exact h.args h1.symm fun w L i q1 q2 v hr=>h2 i q2 q1 _ _ _ hr
theorem Tq(hm:(3,marksC)∈G)(hw:(1,wordsC)∈G)(ht:(0,typesC)∈G)(hG:(2,[Value.int .i64 m])∈G)(p:Ph)(h:p.Ok):VC Tryz.prog G 23 [.agg p.cs] [] (fun r S'=>∃s,r = .agg (bI s)∧S'=[]∧jZ s∧s.kind=1+eu p.k 6):=by
 obtain⟨k,t,a,b,row,⟨x1,O,U,E⟩,⟨y1,y2,y3,I⟩,bare⟩:=p;exact Pa.Yy k t a b row x1 O U E y1 y2 y3 I bare h.k.1 h.k.2 h.t.1 h.t.2 h.a.1 h.a.2 h.b.1 h.b.2 h.row h.bU h.wh
theorem FJ(hm:(3,marksC)∈G)(hw:(1,wordsC)∈G)(ht:(0,typesC)∈G)(hG:(2,[Value.int .i64 m])∈G){a c:Nat}(g:qW l a c)(E:a+c≤30){s:cx}(hs:Ck s)(fi:¬s.kind=2)(qz:s.kind≤6→cU s.table=0)(Aa:s.kind≤6)(I:s.kind=1→s.az=dM):VP Tryz.prog G 11 [.agg [av 5 dg (l)],.agg (bI s)] (uB (nM l s)):=by
 refine afW hm hw ht hG l (Rl E) g.g s hs.fin fi hs.row hs.wnm hs.wok hs.X3 hs.X4 fun h0=>?_;obtain⟨a',c',_,g',_⟩:=EK g E hs fi (qz Aa) I h0;exact⟨Nat.le_trans g'.g.eD w7,fun t ht=>(g'.g.tb t ht).small⟩
theorem Tm{s:cx}(h:(nM l s).2.2=0):(gi l s).2.2=0∧(nM l s).1=(gi l s).1:=by
 unfold nM at h ⊢;by_cases h1:gQ s≠0
 ·rw[if_pos h1] at h;exact absurd h h1
 rw[if_neg h1] at h ⊢;by_cases h2:7≤s.kind
 ·rw[if_pos h2] at h;cases h
 rw[if_neg h2] at h ⊢;by_cases h3:(gi l s).2.2≠0
 ·rw[if_pos h3] at h;exact absurd h h3
 rw[if_neg h3];exact⟨Classical.not_not.1 h3,rfl⟩
def eo(x:ByteArray):cx:={gN with kind:=1,table:=x,az:=dM}
theorem acO:∀x∈dZ,gQ (eo x)=0:=by decide +kernel
theorem Tn{x:ByteArray}(hx:x∈dZ):Ck (eo x):=jZ.st (Pa.qt.tU (Pa.HE (Pa.FI x hx)))
def VX:List aL:=dZ.map fun x=>eC (eo x)
theorem T6:∀i (h:i<dZ.length),nM ((dZ.take i).map fun x=>eC (eo x)) (eo dZ[i])=((dZ.take (i+1)).map (fun x=>eC (eo x)),(([],0),0)):=by
 intro i h;have hx:dZ[i]∈dZ:=getElem_mem h;unfold nM;rw[if_neg (by rw[acO _ hx];decide),if_neg (by show ¬(7:Int)≤1;decide)];have h1:gi ((dZ.take i).map fun x=>eC (eo x)) (eo dZ[i])=((dZ.take (i+1)).map (fun x=>eC (eo x)),(([],0),0)):=by
  have h2:i=0∨i=1:=(by have:dZ.length=2:=rfl;omega)
  rcases h2 with rfl|rfl
  ·exact(show gi ((dZ.take 0).map fun x=>eC (eo x)) (eo (dZ[0]'w7))=((dZ.take 1).map (fun x=>eC (eo x)),(([],0),0)) by kernel_rfl)
  exact(show gi ((dZ.take 1).map fun x=>eC (eo x)) (eo (dZ[1]'w7))=((dZ.take 2).map (fun x=>eC (eo x)),(([],0),0)) by kernel_rfl)
 rw[h1];rfl
theorem yJ(p:Ph):p.cs.length=14:=by
 obtain⟨k,t,a,b,row,⟨x1,O,U,E⟩,⟨y1,y2,y3,I⟩,bare⟩:=p;rfl
theorem aba:qW [] 0 0:=⟨⟨by decide,(fun t h=>by cases h),(fun t h=>by cases h),Pairwise.nil⟩,(fun t h=>by cases h)⟩
theorem Ts:(Nm.Tw.mk 0 0 ⟨#[]⟩ []).Ok:=by constructor<;>first|decide|(simp;done)|trivial
theorem aeA{s:cx}(h:jZ s):cU s.table=0:=by
 have hc:=h.2.2.2.2;have h6:=h.2.2.1;unfold gP at hc;split at hc
 ·rename_i h1;exact absurd hc h1.2
 rename_i h1;exact Classical.not_not.1 fun e=>h1 ⟨by omega,e⟩
theorem VY:∀i,i≤2→qW ((dZ.take i).map fun x=>eC (eo x)) 0 0:=by
 intro i;induction i with
 | zero=>intro _;exact aba
 | succ i ih =>
  intro hi;have aa:i<dZ.length:=(by have:dZ.length=2:=rfl;omega)
  have hr:=T6 i aa;have h0:(nM ((dZ.take i).map fun x=>eC (eo x)) (eo dZ[i])).2.2=0:=(by rw[hr])
  obtain⟨h1,h2⟩:=Tm h0;obtain⟨a',c',_,g',h4,_⟩:=EK (ih w4) w7 (Tn (getElem_mem aa)) (show ¬(1:Int)=2 by decide) (Pa.FI _ (getElem_mem aa)) (fun _=>rfl) h1;obtain⟨_,rfl,rfl⟩:=h4 rfl;rw[←h2,hr] at g';exact g'
theorem aeB(hm:(3,marksC)∈G)(hw:(1,wordsC)∈G)(ht:(0,typesC)∈G)(hG:(2,[Value.int .i64 m])∈G)(ps:List Ph)(ic:∀p∈ps,p.Ok)(fQ:ps.length≤maxLen):VC Tryz.prog G 9 [.list 14 (ps.flatMap Ph.cs) ps.length] [] (fun r S=>∃l a c,r = .agg [av 5 dg (l)]∧S=[]∧qW l a c∧a+c≤30∧l.map aL.nm=dZ):=by
 refine VC.body func9 rfl ntmps9 aS fun X0 w0 aZ=>?_;have da:=dW;have oO:dZ.length=2:=rfl;skip;refine bY ?_;refine OD.alloc (ds:=[_]) ap rfl rfl zeroValue25 rfl (fun b2=>?_);refine an 88 [0,2] ?_;refine bY ?_;refine OD.alloc (ds:=[_]) ap rfl rfl zeroValue25 rfl (fun b3=>?_);refine OD.cells (k:=0) (cs':=[.list 5 [] 0]) rfl ⟨eV,trivial⟩ rfl ?_;refine an 88 [0,2,3] ?_;refine af [0,2,3,4] ?_;refine eK [0,2,3] (fun aW _ (i:Nat) aI=>(i≤2)∧aI=(⟨88,(4,ae (i:Nat))::aW,[⟨b3,25,1,[.list 5 ((((dZ.take i).map fun x=>eC (eo x))).flatMap dg) (((dZ.take i).map fun x=>eC (eo x))).length]⟩,⟨b2,25,1,[bS]⟩]⟩:St)) (fun (i:Nat)=>2-i) 0 ⟨(Nat.zero_le _),rfl⟩ ?_;rintro i _ ⟨hi,rfl⟩;refine af [0,2,3,4,14] ?_;refine au ?_ ?_<;>intro aN bC
 ·have aa:i<dZ.length:=(by omega)
  have O:=VC.Ct (FJ hm hw ht hG (l:=((dZ.take i).map fun x=>eC (eo x))) (a:=0) (c:=0) (s:=eo (dZ[i]'aa)) (VY i w4) w7 (Tn (getElem_mem aa)) (show ¬(1:Int)=2 by decide) (fun _=>Pa.FI _ (getElem_mem aa)) (show(1:Int)≤6 by decide) (fun _=>rfl)) (args':=[.agg [.list 5 ((((dZ.take i).map fun x=>eC (eo x))).flatMap dg) (((dZ.take i).map fun x=>eC (eo x))).length],.agg [ae 1,bn (dZ[i]'aa),av 2 cC dM,bS,bS,cg false,bS,fL,cg false,ae (-1),fL,bS]]) ⟨cY,yK ⟨cY,cY,cY,eV,eV,cY,eV,cY,cY,cY,cY,eV,trivial⟩,trivial⟩;rw[T6 i aa] at O;unfold uB at O;refine CD.skip ?_;refine CD.seq ?_;refine CD.block ?_;refine CD.seq ?_;refine dv_ 14 13 12 [0,2,3,4,5,6,26,27,28] ?_;refine mS 1 ?_;refine MQ (g:=cS) (dZ) ?_;refine de (HQ) ?_;refine de (O) ?_;refine mS 4 ?_;refine rC ?_;refine rC ?_;refine jJ ?_;refine⟨rfl,rfl,fun b6 b5=>?_⟩;refine aP 1 [_] sizeOf25 ?_;refine aP 0 [_,_] sizeOf36 ?_;refine an 88 [0,2,3,4,5,7] ?_;refine af [0,2,3,4,5,30] ?_;refine au ?_ ?_<;>intro aY cz
  ·refine dN 1 ?_;refine aP 2 [_] sizeOf25 ?_;refine an 88 [0,2,3,4] ?_;refine cm [0,2,3,4] ?_;refine⟨(i+1),_,cD,aQ,w4,rfl⟩
  exact absurd aY (by simp at aY)
 have lU:i=2:=(by omega)
 subst lU;have htw:((dZ.take 2).map fun x=>eC (eo x))=VX:=rfl;refine af [0,2,3,8] ?_;refine eK [0,2,3] (fun aW _ (U:Nat×List aL×Nat×Nat) aI=>match U with|(k,l,a,c)=>(k≤30)∧(k≤ps.length)∧(a+c≤k)∧(qW l a c)∧((l).map aL.nm=dZ)∧aI=(⟨88,(8,ae (k:Nat))::aW,[⟨b3,25,1,[av 5 dg (l)]⟩,⟨b2,25,1,[bS]⟩]⟩:St)) (fun (U:Nat×List aL×Nat×Nat)=>match U with|(k,l,a,c)=>30-k) (0,VX,0,0) ⟨(Nat.zero_le _),(Nat.zero_le _),(Nat.le_refl _),(VY 2 (Nat.le_refl _)),rfl,rfl⟩ ?_;rintro⟨k,l,a,c⟩ _ ⟨lR,hkp,hac,gn,I,rfl⟩;refine aD 5 ?_;refine bX 36 (fun ako ahs=>?_) (fun ako ahs=>?_)
 ·refine bg [0,2,3,8,39] ?_;refine au ?_ ?_<;>intro bZ cM
  ·have aa:k<ps.length:=(by first|omega|(simp at *;omega))
   have apk:k<30:=(by first|omega|(simp at *;omega))
   have rB:=ic (ps[k]'aa) (getElem_mem aa);refine aD 3 ?_;refine bH (cR (mk:=Op.load 77) rfl ot (jY (g:=Ph.cs) (ls:=ps) (i:=k) yJ isAgg77 sizeOf77 aa)) ?_;refine OD.call ap rfl rfl rfl call23 (Tq hm hw ht hG (ps[k]'aa) rB) ⟨ot,trivial⟩ (eT _) ?_;rintro _ _ ⟨s,rfl,rfl,Z,G8⟩;refine OD.alloc (ds:=[_,_,_,_,_,_,_,_,_,_,_,_]) ap rfl rfl zeroValue32 rfl (fun b9=>?_);refine aP 0 [_,_,_,_,_,_,_,_,_,_,_,_] sizeOf32 ?_;refine an 88 [0,2,3,8,9] ?_;refine jV [0,2,3,8,9] (fun aW _ aI=>∃(s:cx),(jZ s)∧(¬s.kind=1∧¬s.kind=2)∧aI=(⟨88,aW,[⟨b9,32,12,bI s⟩,⟨b3,25,1,[av 5 dg (l)]⟩,⟨b2,25,1,[bS]⟩]⟩:St)) ?_ ?_
   ·refine aD 4 ?_;refine bX 50 (fun VZ aht=>?_) (fun VZ aht=>?_)
    ·refine bg [0,2,3,8,9,54] ?_;refine eM ?_;exact V6
    refine bg [0,2,3,8,9,54] ?_;refine au ?_ ?_<;>intro cW ek
    ·exact V6
    have E:¬s.kind=1∧¬s.kind=2:=(by first|exact⟨by simpa using VZ,by simpa using cW⟩|(simp at *;omega))
    refine CD.skip ?_;refine⟨_,aQ,s,Z,E,rfl⟩
   rintro _ ⟨s,Z,E,rfl⟩;refine CD.seq ?_;have Au:=jZ.st Z;have qz:=aeA Z;have O:=FJ hm hw ht hG gn w4 Au E.2 (fun _=>qz) Z.2.2.1 (fun h=>absurd h E.1);unfold uB at O;refine dN 2 ?_;refine dS call11 (O) ?_;refine aE 4 ?_;refine OD.alloc (ds:=[_]) ap rfl rfl zeroValue25 rfl (fun kJ=>?_);refine OD.alloc (ds:=[_,_]) ap rfl rfl zeroValue36 rfl (fun kI=>?_);refine aP 1 [_] sizeOf25 ?_;refine aP 0 [_,_] sizeOf36 ?_;refine an 88 [0,2,3,8,10,12] ?_;refine af [0,2,3,8,10,85] ?_;refine au ?_ ?_<;>intro eA fA
   ·have h0:(nM l s).2.2=0:=(by simpa using eA)
    obtain⟨h1,h2⟩:=Tm h0;obtain⟨a',c',apl,gn1,_,gw⟩:=EK gn w4 Au E.2 qz (fun h=>absurd h E.1) h1;have gn2:qW (nM l s).1 a' c':=(by rw[h2];exact gn1)
    have ahu:(nM l s).1.map aL.nm=dZ:=(by rw[h2,gw E.1];exact I)
    refine dN 1 ?_;refine aP 3 [_] sizeOf25 ?_;refine an 88 [0,2,3,8] ?_;refine cm [0,2,3,8] ?_;refine⟨((k+1),(nM l s).1,a',c'),_,cD,aQ,w4,w4,w4,gn2,ahu,rfl⟩
   refine cm [0,2,3,8] ?_;refine⟨((k+1),l,a,c),_,cD,aQ,w4,w4,w4,gn,I,rfl⟩
  refine aD 1 ?_;refine aP 1 [_] sizeOf25 ?_;refine an 88 [2] ?_;refine aJ [] ?_;exact⟨l,a,c,rfl,rfl,gn,by omega,I⟩
 refine bg [0,2,3,8,39] ?_;refine fT ?_;refine aD 1 ?_;refine aP 1 [_] sizeOf25 ?_;refine an 88 [2] ?_;refine aJ [] ?_;exact⟨l,a,c,rfl,rfl,gn,by omega,I⟩

theorem akp(h:l.map aL.nm=dZ):aM l ⟨#[116]⟩=0:=by
 match l,h with
 | a::r,h =>
  rw[map_cons] at h;have ha:a.nm=⟨#[116]⟩:=(by injection h)
  unfold aM;rw[uH (ls:=a::r) (k:=0) bu (fun x hx=>by cases hx) (by show(a.nm.toList==_)=true;rw[ha];exact BEq.rfl)];rfl

end Go.Proofs.YtdgichenhdikgaaGreatDoor.Ba
namespace Go.Proofs.YtdgichenhdikgaaGreatDoor.Ba
open List
open Go.Proofs.Tryz
open Go.RowKit V Pk Tr Vl Go.Proofs.YtdgichenhdikgaaGreatDoor.Nm Pc Cd Ex Tw
open Pa (Ph)
variable {m:Int}
def Aw(m:Int):List (Nat×List Value):=[(3,marksC),(1,wordsC),(0,typesC),(2,[Value.int .i64 m])]
theorem tm1:(3,marksC)∈Aw m:=mem_cons_self
theorem tm2:(1,wordsC)∈Aw m:=mem_cons_of_mem _ mem_cons_self
theorem tm3:(0,typesC)∈Aw m:=mem_cons_of_mem _ (mem_cons_of_mem _ mem_cons_self)
theorem tm4:(2,[Value.int .i64 m])∈Aw m:=mem_cons_of_mem _ (mem_cons_of_mem _ (mem_cons_of_mem _ mem_cons_self))
theorem akq{w:World}(h1:MarksTab w)(h2:WordsTab w)(h3:TypesTab w)(h4:Tab.mD w 2 [Value.int .i64 m]):∀g∈Aw m,g.2≠[]∧BR w g.1 g.2:=fun g hg=>by
 rcases mem_cons.1 hg with rfl|hg
 ·exact⟨by decide,.of h1 rfl⟩
 rcases mem_cons.1 hg with rfl|hg
 ·exact⟨by decide,.of h2 rfl⟩
 rcases mem_cons.1 hg with rfl|hg
 ·exact⟨by decide,.of h3 rfl⟩
 rw[mem_singleton] at hg;subst hg;exact⟨by simp,.of h4 rfl⟩
theorem rd_phrases{H:Type}{enc:TypeId×Value→H}{w:World}{base E:Nat}{sp:Nat→Bool}{held:Bool}{v:Value}{d:DataW H}{p:List MemPlace}(hval:Value.okWide Tryz.prog w .any E 22 v)(h:DataW.Trod enc Tryz.prog w base sp held 22 v d p) :
  ∃l:List Ph,cq w (fun _=>False) (.list 14 (l.flatMap Ph.cs) l.length) v∧((∀x∈l,x.Ok)∧l.length≤maxLen)∧True:=by
 obtain⟨l,h1,h2,h3⟩:=abn (g:=Ph.cs) (ok:=Ph.Ok) (sz:=14) underlying22 aA w7 (fun n cs x hn=>Pa.ZL n cs x hn) yJ hval h;exact⟨l,h1,⟨h2,h3⟩,trivial⟩

end Go.Proofs.YtdgichenhdikgaaGreatDoor.Ba
namespace Go.Proofs.YtdgichenhdikgaaGreatDoor.Ba
open List
open Go.Proofs.Tryz
open Go.RowKit V Pk Tr Vl Go.Proofs.YtdgichenhdikgaaGreatDoor.Nm Pc Cd Ex Tw
open Pa (cx bI j3 gQ jZ gP jF ku iA gN dZ Ph)
variable {G:List (Nat×List Value)} {m:Int}
variable {t:aL} {n i:Nat}
theorem aeC{v:Vl}(h:dH v=0)(hk:v.k=2):ga [v]=(gb [v],0):=by
 unfold ga;rw[if_neg bu,ES (fun x hx=>by rw[mem_singleton] at hx;rw[hx];exact h),if_neg bu,if_neg];show ¬(gb [v]).length>100;unfold gb Cd.u7 sB;simp[hk,mL]
theorem abb(g:eW t n){i:Int}(h:gA t i):∃(v:Vl) (r:List Vl),rowAt t i=v::r∧r.length=3∧v.k=2∧v.s.size=0∧v.Ok∧dH v=0∧c9 (rowAt t i)=gb [v]:=by
 obtain⟨h4,aT⟩:=gA.ok g h;obtain⟨h0,h1,h2⟩:=h;have hf:=(g.row _ h1 h2).1;rw[←jk h1] at hf;match hr:rowAt t i,h4 with
 | v::r,h4 =>
  rw[hr] at hf aT;obtain⟨hv,hc⟩:=aT v mem_cons_self;have hk:v.k=2:=by
   unfold Pc.en at hf;rw[if_neg BG,if_neg ze] at hf;unfold dM Pc.pK at hf;split at hf
   ·rename_i h1;exact absurd hf h1
   rename_i h1;have h1:=Decidable.not_not.1 h1;unfold Pc.l9 at h1;rw[if_neg (by rw[hc];decide)] at h1;split at h1
   ·cases h1
   rename_i h3;exact Decidable.not_not.1 fun e=>h3 ⟨e,.inl rfl⟩
  refine⟨v,r,rfl,by simpa using h4,hk,?_,hv,hc,?_⟩
  ·unfold dH at hc;rw[if_neg w4,if_neg w4,if_pos hk] at hc;split at hc
   ·cases hc
   rename_i h3;exact Decidable.not_not.1 h3
  unfold c9;rw[show(v::r).take 1=[v] from rfl,aeC hc hk]
noncomputable def qo(t:aL):List (List Vl):=(eE t.ix).map fun x=>rowAt t x.2
theorem T7{l:List aL}{nm:ByteArray}(h:aM l nm=(i:Int))(hi:i<l.length):qV l nm=(qo l[i],0):=by
 unfold qV;rw[h,if_neg w4,Int.toNat_natCast,getD_eq_getElem?_getD,getElem?_eq_getElem hi];rfl
theorem aeD(g:eW t n)(h:i<(qo t).length):∃h':i<(eE t.ix).length,(qo t)[i]=rowAt t (eE t.ix)[i].2∧gA t (eE t.ix)[i].2∧(eE t.ix)[i].1=c9 (rowAt t (eE t.ix)[i].2):=by
 have h':i<(eE t.ix).length:=(by unfold qo at h;rwa [length_map] at h)
 obtain⟨h0,h1,h2,h3⟩:=g.iZ _ (getElem_mem h');exact⟨h',by show((eE t.ix).map fun x=>rowAt t x.2)[i]=_;exact getElem_map _,⟨h0,h1,h2⟩,by rw[jk h1];exact h3⟩
theorem ZM(g:eW t n)(h:i<(qo t).length):∃(v:Vl) (r:List Vl),(qo t)[i]=v::r∧r.length=3∧v.k=2∧v.s.size=0∧v.Ok∧dH v=0:=by
 obtain⟨h',e,j9,_⟩:=aeD g h;obtain⟨v,r,h1,h2,h3,h4,h5,h6,_⟩:=abb g j9;exact⟨v,r,e.trans h1,h2,h3,h4,h5,h6⟩
theorem Rm(g:eW t n):(qo t).length≤16000:=by
 have:=Q5 g.ix [] [];rw[IK] at this;unfold qo;rwa [length_map]
theorem zE{l:List aL}(h:l.map aL.nm=dZ):l.length=2:=by have:=congrArg length h;rw[length_map] at this;rw[this];decide

end Go.Proofs.YtdgichenhdikgaaGreatDoor.Ba
namespace Go.Proofs.YtdgichenhdikgaaGreatDoor.Ba

end Go.Proofs.YtdgichenhdikgaaGreatDoor.Ba
