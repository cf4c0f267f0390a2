/-
  What the proof of LimitNone leans on, part 8 of 8: walks of the program's functions at the level of values, and plain facts of what they compute.
-/
import Derived.Test.YtdgichenhdikgaaGreatDoorPLimitNone7
set_option linter.unusedVariables false
set_option linter.unusedSimpArgs false
set_option maxRecDepth 100000
set_option maxHeartbeats 4000000
namespace Go.Proofs.YtdgichenhdikgaaGreatDoor.Ba
open List
open Go.Proofs.Tryz
open Go.RowKit V Pk Tr Vl Go.Proofs.YtdgichenhdikgaaGreatDoor.Nm Pc Cd Ex Tw
open Pa (cx bY)
variable {G:List (Nat×List Value)} {m:Int}
variable {t:aQ} {L:List cj} {ad:Option Addr} {cap i n:Nat} {E S:List ah} {o:cj} {p:(List (List Vl)×Int)×Int}
def F5(t:aQ)(L:List cj)(ad:Option Addr)(cap:Nat)(Sr:List ah):Prop:=L.map cj.r=t.rows∧(∀o∈L,nK o)∧su L ad cap Sr
theorem QH(h:F5 t L ad cap E)(hs:∀B∈E++L.flatMap bR,B∈S):View S (.agg (tC t ad cap)) (.agg (dA t)) :=
 RV (o:=⟨t,L.flatMap gR,ad,cap,E,L.flatMap bR⟩) (pN.w ⟨L,rfl,rfl,h.2.1,h.1,h.2.2⟩) hs
theorem QI(aT:∀o∈L,nK o)(hi:i<L.length)(hs:∀B∈L.flatMap bR,B∈S):View S (aN L[i].ad L[i].r.length L[i].cap) (.list 3 (L[i].r.flatMap cV) L[i].r.length) :=
 lA (aT _ (getElem_mem hi)) (cy fj _) (fun B E=>hs B (mem_flatMap.2 ⟨_,getElem_mem hi,E⟩))
theorem Jl(f:ah→Nat):∀(L:List cj) (i:Nat) (o:cj) (h:i<L.length),(((L.set i o).flatMap bR).map f).sum=(o.S.map f).sum+(((L.eraseIdx i).flatMap bR).map f).sum
 | [],_,_,h=>absurd h (Nat.not_lt_zero _)
 | x::L,0,o,_=>by simp[bR]
 | x::L,i+1,o,h=>by
  have:=Jl f L i o (Nat.lt_of_succ_lt_succ h);simp only[set_cons_succ,flatMap_cons,map_append,sum_append,eraseIdx_cons_succ,this];omega
theorem QJ{A B C X:ah}(h:i<L.length)(hS:L[i].S=[X]):(A::B::([C]++L.flatMap bR)).Perm (X::A::B::C::(L.eraseIdx i).flatMap bR):=iE fun f=>by
 have:=Jl f L i L[i] h;rw[set_getElem_self,hS] at this;simp only[map_cons,sum_cons,map_append,sum_append,map_nil,sum_nil,this];omega
theorem Si{A B C X:ah}(h:i<L.length)(hS:o.S=[X]):(X::A::B::C::(L.eraseIdx i).flatMap bR).Perm (A::B::([C]++(L.set i o).flatMap bR)):=iE fun f=>by
 have:=Jl f L i o h;rw[hS] at this;simp only[map_cons,sum_cons,map_append,sum_append,map_nil,sum_nil,this];omega
theorem QK{t:aQ}{c:Int}{e:List aU}:∀(l:List Int) (acc:List Vl),(iL t c e acc l).2=0→(iL t c e acc l).1.length=acc.length+l.length
 | [],acc,_=>rfl
 | i::r,acc,h=>by
  rw[iL] at h ⊢;split
  ·rename_i h1;rw[if_pos h1] at h;exact absurd h h1
  rename_i h1;rw[if_neg h1] at h;split
  ·rename_i h2;rw[if_pos h2] at h;cases h
  rename_i h2;rw[if_neg h2] at h;rw[QK r _ h,length_append,length_cons,length_cons,length_nil];omega
theorem IA{t:aQ}{n:Nat}(g:eV t n){c:Int}{e:List aU}(kO:∀o∈e,o.nm.size≤maxLen)(fN:∀o∈e,o.v.Ok)(hk:(eo dB e).2=0):∀(l:List Int) (acc:List Vl),(∀i∈l,gN t i)→(iL t c e acc l).2=0 →
  (∀v∈acc,v.Ok∧jI (eo dB e).1 v∧(c=0→v.k≠0))→∀v∈(iL t c e acc l).1,v.Ok∧jI (eo dB e).1 v∧(c=0→v.k≠0)
 | [],acc,_,_,ha=>ha
 | i::r,acc,hl,h,ha=>by
  rw[iL] at h ⊢;have hi:=hl i mem_cons_self;obtain⟨h0,h1,h2⟩:=id hi;obtain⟨p1,p2,_⟩:=g.row _ h1 h2;rw[←jE h1] at p1 p2;split
  ·rename_i h1;rw[if_pos h1] at h;exact absurd h h1
  rename_i hne;rw[if_neg hne] at h;split
  ·rename_i h2;rw[if_pos h2] at h;cases h
  rename_i h3;rw[if_neg h3] at h;refine IA g kO fN hk r _ (fun j hj=>hl j (mem_cons_of_mem _ hj)) h fun v E=>?_;rcases mem_append.1 E with E|E
  ·exact ha v E
  rw[mem_singleton] at E;subst E;rw[g.ay] at hne h3 ⊢;exact⟨adQ p2 fN,ab8 kO fN p1 hk (Classical.not_not.1 hne),fun hc hz=>h3 ⟨hc,hz⟩⟩
theorem Jm{g:cj→List D}:∀(M:List cj) (i:Nat) (h:i<M.length) (o:cj),g o=g M[i]→(M.set i o).flatMap g=M.flatMap g
 | [],_,h,_,_=>absurd h (Nat.not_lt_zero _)
 | x::M,0,_,o,e=>by
  rw[set_cons_zero,flatMap_cons,flatMap_cons,e];rfl
 | x::M,i+1,h,o,e=>by
  rw[set_cons_succ,flatMap_cons,flatMap_cons,Jm M i (Nat.lt_of_succ_lt_succ h) o e]
theorem O9{x:aG}{M:List cj}{i:Int}(h:i.toNat<M.length):rowAt {t with rows:=M.map cj.r,ix:=x} i=M[i.toNat].r:=by
 rw[jE (by show _<(M.map cj.r).length;rw[length_map];exact h)];exact getElem_map ..
theorem Sj{x:aG}{M:List cj}{i:Int}(h:i.toNat<M.length){c:Nat}{v:Vl}(ho:o.r=M[i.toNat].r.set c v):q9 {t with rows:=M.map cj.r,ix:=x} i c v={t with rows:=(M.set i.toNat o).map cj.r,ix:=x}:=by
 unfold q9;rw[O9 h,map_set,ho]
theorem ab9{c:Nat}{l:List Vl}:mF c t [] l=t:=by unfold mF;rfl
theorem aas{l:List Vl}:ko t [] l=(t,0):=by unfold ko;rfl
theorem F6{l:List (List Vl)}(h:L.map cj.r=l)(h1:i<L.length)(h2:i<l.length):L[i].r=l[i]:=by subst h;rw[getElem_map]
theorem Y1:(Tryz.prog.info? 41).map (fun i=>(i.zero,i.size,i.bytes))=some (some (.agg #[.int .i64 0,.int .i64 0,.string ⟨#[]⟩]),3,32):=by kernel_rfl
theorem aat(hm:(3,marksC)∈G)(hw:(1,wordsC)∈G)(ht:(0,typesC)∈G)(hG:(2,[Value.int .i64 m])∈G)(t:aQ)(g:eV t n)(s:cx)(ho:∀o∈s.aj,o.nm.size≤maxLen)(fN:∀o∈s.aj,o.v.Ok)(qB:∀o∈s.bS,o.nm.size≤maxLen)(F7:∀o∈s.bS,o.v.Ok)(hn:n≤260)(bt off pP:Nat)(pre post:List D)(hp:pre.length=off)(L:List cj)(ad:Option Addr)(cap:Nat)(Sr:List ah)(hL:L.map cj.r=t.rows)(aT:∀o∈L,nK o)(kr:su L ad cap Sr):VC Tryz.prog G 45 [.v (.pointer (some ⟨bt,off,none⟩)),.agg (bY s)] (⟨bt,53,pP,pre++(tC t ad cap++post)⟩::(Sr++L.flatMap bR)) (fun r S=>r = .dG [ae (gS t s).2.1,ae (gS t s).2.2]∧((gS t s).2.2=0→∃L' nJ ku oo,F5 (gS t s).1 L' nJ ku oo∧S=⟨bt,53,pP,pre++(tC (gS t s).1 nJ ku++post)⟩::(oo++L'.flatMap bR))):=by
 refine VC.body func45 rfl ntmps45 aO fun X0 w0 aY=>?_;have dy:=dY;have GY:F5 t L ad cap Sr:=⟨hL,aT,kr⟩
 have rE:L.length=t.rows.length:=(by rw[←hL,length_map])
 have nc:=g.eM;have DB:=EQ g s.aj;have mj:=uJ g s.aj;have hnd:=Ec g s.aj;have ajh:t.ay.length=4:=(by rw[g.ay];rfl)
 have agA:=HT (G:=G) t w4 s.set;have vD:=I0 (G:=G) hm hw ht t.ay xn xm s.bS qB;unfold pz at vD;have Xk:=yB (fun c:cz=>c.n.toList==s.set.toList) t.ay;rw[show dS (fun c:cz=>c.n.toList==s.set.toList) t.ay=(bM t.ay s.set) from rfl] at Xk;unfold tC;unfold bY;refine cf ?_;refine OD.box (ds:=[_,_,_,_,_,_,_,_,_,_,_,_]) ap rfl rfl ot rfl rfl (fun b3=>?_);refine an 205 [0,3] ?_;refine cR [0,3,6] ?_;refine aR 2 ?_ (h:=by exact(K7 1));refine nj 2 ?_;refine zk (agA) (ha:=by exact⟨⟨_,ot,(QH GY (fun B U=>by repeat (first|exact U|apply mem_append_right|apply mem_cons_of_mem)):View _ (.agg (tC t ad cap)) _)⟩,⟨_,ot,eP⟩,trivial⟩) (K:=?_);refine bH ?_;refine af [0,3,6,30] ?_;refine au ?_ ?_<;>intro aP bF
 ·have hA:(bM t.ay s.set)<0:=(by simpa using aP)
  have aV:gS t s=(t,0,8):=(by unfold gS;rw[if_pos hA])
  exact wJ
 have hA:¬(bM t.ay s.set)<0:=(by simpa using aP)
 have lp:(bM t.ay s.set).toNat<t.ay.length:=(by omega)
 refine cR [0,3,6,7,8] ?_;refine aR 3 ?_ (h:=by exact(om 1));refine cZ (vD) ?_;refine bH ?_;refine af [0,3,6,7,8,42] ?_;refine au ?_ ?_<;>intro aX cJ
 ·have U:(eo t.ay s.bS).2≠0:=(by simpa using aX)
  have aV:gS t s=(t,0,(eo t.ay s.bS).2):=(by unfold gS;rw[if_neg hA,if_pos U])
  exact wJ
 have U:¬(eo t.ay s.bS).2≠0:=(by simpa using aX)
 have kN:t.ay.getD (bM t.ay s.set).toNat ⟨⟨#[]⟩,0⟩=t.ay[(bM t.ay s.set).toNat]:=(by rw[getD_eq_getElem?_getD,getElem?_eq_getElem lp];rfl)
 refine CD.skip ?_;refine jQ [0,3,6] (fun aW ug aJ=>(¬((eo t.ay s.bS).1≠(t.ay.getD (bM t.ay s.set).toNat ⟨⟨#[]⟩,0⟩).k∧(eo t.ay s.bS).1≠0))∧aJ=(⟨205,aW,ug⟩:St)) ?_ ?_
 ·refine aC 4 ?_;refine bQ (om 1) ?_;refine aE 1 ?_;refine bQ (dF 2 (h:=by first|exact .l (j:=(bM t.ay s.set).toNat) (Int.toNat_of_nonneg w4).symm lp|exact .r (j:=(bM t.ay s.set).toNat) (Int.toNat_of_nonneg w4).symm lp)) ?_;refine aE 4 ?_;refine bW 54 (fun zh yR=>?_) (fun zh yR=>?_)
  ·refine an 205 [0,3,6,57] ?_;refine au ?_ ?_<;>intro cr cU
   ·have hC:(eo t.ay s.bS).1≠(t.ay.getD (bM t.ay s.set).toNat ⟨⟨#[]⟩,0⟩).k∧(eo t.ay s.bS).1≠0:=(by rw[kN];exact⟨by simpa using zh,by simpa using cr⟩)
    have aV:gS t s=(t,0,4):=(by unfold gS;rw[if_neg hA,if_neg U,if_pos hC])
    exact wJ
   exact VT
  refine an 205 [0,3,6,57] ?_;refine fM ?_;exact VT
 rintro _ ⟨hC,rfl⟩;refine cR [0,3,6,8,9] ?_;refine aR 2 ?_ (h:=by exact(K7 1));refine nj 2 ?_;refine zj (JI hm hw ht hG t g s.aj ho fN) (fun r S h=>h.flat) (fun r S h=>h.view) (ha:=by exact⟨⟨_,ot,(QH GY (fun B U=>by repeat (first|exact U|apply mem_append_right|apply mem_cons_of_mem)):View _ (.agg (tC t ad cap)) _)⟩,⟨_,ot,eP⟩,trivial⟩) (K:=?_);refine bH ?_;refine af [0,3,6,8,9,68] ?_;refine au ?_ ?_<;>intro cX ec
 ·have hD:(av t s.aj).2≠0:=(by simpa using cX)
  have aV:gS t s=(t,0,(av t s.aj).2):=(by unfold gS;rw[if_neg hA,if_neg U,if_neg hC,if_pos hD])
  exact wJ
 have hD:¬(av t s.aj).2≠0:=(by simpa using cX)
 refine cf ?_;refine bg [0,3,6,9,10] ?_;refine af [0,3,6,9,10,70,71,72] ?_;refine eL [0,3,6,9,70,71] (fun aW _ (E:Nat×List Vl×Option Addr×Nat×List ah) aJ=>match E with|(k,acc,dW,dK,Sx)=>(k≤(av t s.aj).1.length)∧((acc).length=k)∧((iL t (bM t.ay s.set) s.bS [] (av t s.aj).1)=iL t (bM t.ay s.set) s.bS acc ((av t s.aj).1.drop k))∧(bw 41 3 ((acc).flatMap cV) (acc).length dW dK Sx)∧aJ=(⟨205,(10,aN dW (acc).length dK)::(72,ae (k:Nat))::aW,(⟨b3,32,12,bY s⟩::⟨bt,53,pP,pre++([bf t.nm,ax 2 cC t.ay,aN ad t.rows.length cap,ax 5 cP t.ix.ag,ae t.ix.root]++post)⟩::(Sr++(Sx++L.flatMap bR)))⟩:St)) (fun (E:Nat×List Vl×Option Addr×Nat×List ah)=>match E with|(k,acc,dW,dK,Sx)=>(av t s.aj).1.length-k) (0,([]:List Vl),none,0,[]) ⟨(Nat.zero_le _),rfl,rfl,iK,rfl⟩ ?_;rintro⟨k,acc,dW,dK,Sx⟩ _ ⟨hk,wV,Aa,er,rfl⟩;refine af [0,3,6,9,10,70,71,72,73] ?_;refine au ?_ ?_<;>intro ew fp
 ·have aa:k<(av t s.aj).1.length:=(by omega)
  have jr:(av t s.aj).1.drop k=((av t s.aj).1[k]'aa)::(av t s.aj).1.drop (k+1):=drop_eq_getElem_cons aa;have rH:gN t ((av t s.aj).1[k]'aa):=mj _ (getElem_mem aa);obtain⟨gW,O,oX⟩:=id rH;have fU:((av t s.aj).1[k]'aa).toNat<L.length:=(by rw[rE];exact O)
  obtain⟨br,rfl,tY,tZ,rfl⟩:=kr.pos w4;have vE:L[((av t s.aj).1[k]'aa).toNat].r=rowAt t ((av t s.aj).1[k]'aa):=(by rw[jE O];exact(F6 hL fU O))
  obtain⟨Xj,DC⟩:=gN.ok g rH;have K8:=RF (G:=G) hm hw ht t.ay xn xm L[((av t s.aj).1[k]'aa).toNat].r (by rw[vE];omega) (by rw[vE];exact fun v hv=>(DC v hv).1) s.bS qB F7;rw[show eW t.ay L[((av t s.aj).1[k]'aa).toNat].r s.bS=(eW t.ay (rowAt t ((av t s.aj).1[k]'aa)) s.bS) from by rw[vE]] at K8;unfold mO at K8;refine af [0,3,6,9,10,12,70,71,72] ?_;refine CD.seq ?_;refine tV 18 17 [0,3,6,9,10,13,70,71,72,91,92] ?_;refine aR 3 ?_ (h:=by exact(om 1));refine aR 3 ?_ (h:=by exact(om 1));refine aR 1 ?_ (h:=by exact(dF 1 (h:=by first|exact .l (j:=((av t s.aj).1[k]'aa).toNat) (Int.toNat_of_nonneg gW).symm O|exact .r (j:=((av t s.aj).1[k]'aa).toNat) (Int.toNat_of_nonneg gW).symm O)));refine aR 0 ?_ (h:=by exact(cM (mk:=Op.load 28) rfl ot (iU (k:=2) (i:=((av t s.aj).1[k]'aa).toNat) (ls:=L) uI rfl rfl rfl isAgg28 fU rfl)));refine nj 2 ?_;refine zk (K8) (ha:=by exact⟨⟨_,ot,eP⟩,⟨_,ot,(QI aT fU (fun B U=>by repeat (first|exact U|apply mem_append_right|apply mem_cons_of_mem)))⟩,⟨_,ot,eP⟩,trivial⟩) (K:=?_);refine nj 3 ?_;refine rq ?_;refine jX ?_;refine⟨rfl,fun mi=>?_⟩;refine aK 0 [_,_,_] sizeOf41 ?_;refine an 205 [0,3,6,9,10,13,14,70,71,72] ?_;refine af [0,3,6,9,10,13,14,70,71,72,94] ?_;refine au ?_ ?_<;>intro fm gv
  ·have hE:(eW t.ay (rowAt t ((av t s.aj).1[k]'aa)) s.bS).2≠0:=(by simpa using fm)
   have iR:(iL t (bM t.ay s.set) s.bS [] (av t s.aj).1)=([],(eW t.ay (rowAt t ((av t s.aj).1[k]'aa)) s.bS).2):=(by rw[Aa,jr,iL,if_pos hE])
   have aV:gS t s=(t,0,(eW t.ay (rowAt t ((av t s.aj).1[k]'aa)) s.bS).2):=(by unfold gS;rw[if_neg hA,if_neg U,if_neg hC,if_neg hD,iR,if_pos hE])
   exact wJ
  have hE:¬(eW t.ay (rowAt t ((av t s.aj).1[k]'aa)) s.bS).2≠0:=(by simpa using fm)
  refine CD.skip ?_;refine jQ [0,3,6,9,10,13,70,71,72] (fun aW ug aJ=>((iL t (bM t.ay s.set) s.bS [] (av t s.aj).1)=iL t (bM t.ay s.set) s.bS (acc++[(eW t.ay (rowAt t ((av t s.aj).1[k]'aa)) s.bS).1]) ((av t s.aj).1.drop (k+1)))∧aJ=(⟨205,aW,ug⟩:St)) ?_ ?_
  ·refine aC 3 ?_;refine bW 98 (fun zb Fs=>?_) (fun zb Fs=>?_)
   ·refine bg [0,3,6,9,10,13,70,71,72,102] ?_;refine au ?_ ?_<;>intro gL kG
    ·have hF:(bM t.ay s.set)=0∧(eW t.ay (rowAt t ((av t s.aj).1[k]'aa)) s.bS).1.k=0:=⟨Fs,by simpa using gL⟩
     have iR:(iL t (bM t.ay s.set) s.bS [] (av t s.aj).1)=([],4):=(by rw[Aa,jr,iL,if_neg hE,if_pos hF])
     have aV:gS t s=(t,0,4):=(by unfold gS;rw[if_neg hA,if_neg U,if_neg hC,if_neg hD,iR,if_pos w7])
     exact wJ
    exact VH
   refine bg [0,3,6,9,10,13,70,71,72,102] ?_;refine fM ?_;exact VH
  rintro _ ⟨nI,rfl⟩;refine dQ 2 ?_;refine en (bZ 0 [_]) [.int .i64 0,.int .i64 0,.string ⟨#[]⟩] [_,_,_] zeroValue41 runUnderlying28 sizeOf41 (fun aoI=>?_);refine fB 0 105 3 1 ?_;refine OD.ev (ls:=acc) (new:=[(eW t.ay (rowAt t ((av t s.aj).1[k]'aa)) s.bS).1]) (Sq:=Sx) fj ET ap rfl rfl underlying28 Y1 rfl w7 ot er (sV (A:=[_,_,_]) (S1:=[⟨br,28,cap*1,L.flatMap gR⟩]) (S2:=Sx) (S3:=L.flatMap bR)) ot bu nF nG (fun K9 Ke agB agC=>?_);refine OD.perm (vP (S2:=[⟨K9,41,Ke*3,flatMap cV (acc++[(eW t.ay (rowAt t ((av t s.aj).1[k]'aa)) s.bS).1])⟩]) (A:=[_,_,_])) ?_;refine an 205 [0,3,6,9,10,70,71,72] ?_;refine cl [0,3,6,9,10,70,71,72] ?_;refine⟨((k+1),(acc++[(eW t.ay (rowAt t ((av t s.aj).1[k]'aa)) s.bS).1]),(some ⟨K9,0,none⟩),Ke,[⟨K9,41,Ke*3,flatMap cV (acc++[(eW t.ay (rowAt t ((av t s.aj).1[k]'aa)) s.bS).1])⟩]),_,cD,aM,w4,Cj,nI,(bJ agB agC),rfl⟩
 have DD:(iL t (bM t.ay s.set) s.bS [] (av t s.aj).1)=(acc,0):=(by rw[Aa,drop_of_length_le w4];rfl)
 have hN:¬(iL t (bM t.ay s.set) s.bS [] (av t s.aj).1).2≠0:=(by rw[DD];exact fun h=>h rfl)
 have rA:acc.length=(av t s.aj).1.length:=(by omega)
 have U3:=IA g qB F7 (c:=(bM t.ay s.set)) (by rw[←g.ay];exact Classical.not_not.1 U) (av t s.aj).1 [] mj (Classical.not_not.1 hN) (fun v hv=>by cases hv);rw[DD] at U3;have hl4:∀i∈(av t s.aj).1,∃h:i.toNat<L.length,L[i.toNat].r.length=4:=fun i hi=>by obtain⟨h0,h1,h2⟩:=mj i hi;have:=(gN.ok g (mj i hi)).1;rw[jE h1] at this;exact⟨by omega,by rw[F6 hL w4 h1];exact this⟩
 have hl5:∀i∈(av t s.aj).1,∃h:i.toNat<L.length,Pc.dZ dB L[i.toNat].r=0∧∀v∈L[i.toNat].r,v.Ok:=fun i hi=>by obtain⟨h0,h1,h2⟩:=mj i hi;obtain⟨p1,p2,_⟩:=g.row _ h1 h2;exact⟨by omega,by rw[F6 hL w4 h1];exact⟨p1,p2⟩⟩
 refine CD.exit ?_;refine CD.seq ?_;refine CD.seq ?_;refine CD.iq (t:=10) (Sq:=Sx) lk er (cy fj _) (sV (A:=[_,_])) ?_;refine rz ?_;refine bg [0,6,9,10,109] ?_;refine au ?_ ?_<;>intro gg k8
 ·have hP:0<(bM t.ay s.set):=(by simpa using gg)
  refine af [0,6,9,10,110,111,112] ?_;refine eL [0,6,9,10,110,111] (fun aW _ (E:Nat×List cj) aJ=>match E with|(k,M)=>(k≤(av t s.aj).1.length)∧(mF (bM t.ay s.set).toNat {t with rows:=M.map cj.r} ((av t s.aj).1.drop k) (acc.drop k)=mF (bM t.ay s.set).toNat t (av t s.aj).1 acc)∧(∀o∈M,nK o)∧(su M ad cap Sr)∧(M.length=t.rows.length)∧(∀i∈(av t s.aj).1,∃h:i.toNat<M.length,M[i.toNat].r.length=4)∧aJ=(⟨205,(112,ae (k:Nat))::aW,(⟨b3,32,12,bY s⟩::⟨bt,53,pP,pre++([bf t.nm,ax 2 cC t.ay,aN ad t.rows.length cap,ax 5 cP t.ix.ag,ae t.ix.root]++post)⟩::(Sr++M.flatMap bR))⟩:St)) (fun (E:Nat×List cj)=>match E with|(k,M)=>(av t s.aj).1.length-k) (0,L) ⟨(Nat.zero_le _),(by rw[hL];rfl),aT,kr,rE,hl4,rfl⟩ ?_;rintro⟨k,M⟩ _ ⟨dM,U4,Z,vC,xk,Xl,rfl⟩;refine af [0,6,9,10,110,111,112,113] ?_;refine au ?_ ?_<;>intro pF FU
  ·have aa:k<(av t s.aj).1.length:=(by omega)
   have dr:k<acc.length:=(by omega)
   have jr:(av t s.aj).1.drop k=((av t s.aj).1[k]'aa)::(av t s.aj).1.drop (k+1):=drop_eq_getElem_cons aa;have lq:acc.drop k=(acc[k]'dr)::acc.drop (k+1):=drop_eq_getElem_cons dr;obtain⟨gW,O,oX⟩:=mj _ (getElem_mem aa);obtain⟨fU,rI⟩:=Xl _ (getElem_mem aa);obtain⟨br,rfl,tY,tZ,rfl⟩:=vC.pos w4;obtain⟨I,x4,Cl,DE,Nc⟩:=(Z _ (getElem_mem fU)).pos w4;have jK:∀o∈(M.set ((av t s.aj).1[k]'aa).toNat (⟨M[((av t s.aj).1[k]'aa).toNat].r.set (bM t.ay s.set).toNat (acc[k]'dr),some ⟨I,0,none⟩,M[((av t s.aj).1[k]'aa).toNat].cap,[⟨I,41,M[((av t s.aj).1[k]'aa).toNat].cap*3,(M[((av t s.aj).1[k]'aa).toNat].r.set (bM t.ay s.set).toNat (acc[k]'dr)).flatMap cV⟩]⟩:cj)),nK o:=fun o ho=>by rcases mem_or_eq_of_mem_set ho with h|h;exact Z o h;rw[h];exact bJ (g:=cV) Gj DE
   have Nd:(M.set ((av t s.aj).1[k]'aa).toNat (⟨M[((av t s.aj).1[k]'aa).toNat].r.set (bM t.ay s.set).toNat (acc[k]'dr),some ⟨I,0,none⟩,M[((av t s.aj).1[k]'aa).toNat].cap,[⟨I,41,M[((av t s.aj).1[k]'aa).toNat].cap*3,(M[((av t s.aj).1[k]'aa).toNat].r.set (bM t.ay s.set).toNat (acc[k]'dr)).flatMap cV⟩]⟩:cj)).flatMap gR=M.flatMap gR:=Jm M _ fU _ (by show[D.v (.slice _ (M[((av t s.aj).1[k]'aa).toNat].r.set (bM t.ay s.set).toNat (acc[k]'dr)).length _)]=[D.v (.slice _ _ _)];rw[length_set,x4]);have Cg:su (M.set ((av t s.aj).1[k]'aa).toNat (⟨M[((av t s.aj).1[k]'aa).toNat].r.set (bM t.ay s.set).toNat (acc[k]'dr),some ⟨I,0,none⟩,M[((av t s.aj).1[k]'aa).toNat].cap,[⟨I,41,M[((av t s.aj).1[k]'aa).toNat].cap*3,(M[((av t s.aj).1[k]'aa).toNat].r.set (bM t.ay s.set).toNat (acc[k]'dr)).flatMap cV⟩]⟩:cj)) (some ⟨br,0,none⟩) cap [⟨br,28,cap*1,M.flatMap gR⟩]:=(by rw[←Nd];exact bJ (by rw[length_set];exact tY) tZ)
   have aji:∀i∈(av t s.aj).1,∃h:i.toNat<(M.set ((av t s.aj).1[k]'aa).toNat (⟨M[((av t s.aj).1[k]'aa).toNat].r.set (bM t.ay s.set).toNat (acc[k]'dr),some ⟨I,0,none⟩,M[((av t s.aj).1[k]'aa).toNat].cap,[⟨I,41,M[((av t s.aj).1[k]'aa).toNat].cap*3,(M[((av t s.aj).1[k]'aa).toNat].r.set (bM t.ay s.set).toNat (acc[k]'dr)).flatMap cV⟩]⟩:cj)).length,(M.set ((av t s.aj).1[k]'aa).toNat (⟨M[((av t s.aj).1[k]'aa).toNat].r.set (bM t.ay s.set).toNat (acc[k]'dr),some ⟨I,0,none⟩,M[((av t s.aj).1[k]'aa).toNat].cap,[⟨I,41,M[((av t s.aj).1[k]'aa).toNat].cap*3,(M[((av t s.aj).1[k]'aa).toNat].r.set (bM t.ay s.set).toNat (acc[k]'dr)).flatMap cV⟩]⟩:cj))[i.toNat].r.length=4:=fun i hi=>by obtain⟨h1,h2⟩:=Xl i hi;refine⟨by rw[length_set];exact h1,?_⟩;rw[getElem_set];split;(show(M[((av t s.aj).1[k]'aa).toNat].r.set (bM t.ay s.set).toNat (acc[k]'dr)).length=4;rw[length_set];exact rI);exact h2
   have agD:mF (bM t.ay s.set).toNat {t with rows:=(M.set ((av t s.aj).1[k]'aa).toNat (⟨M[((av t s.aj).1[k]'aa).toNat].r.set (bM t.ay s.set).toNat (acc[k]'dr),some ⟨I,0,none⟩,M[((av t s.aj).1[k]'aa).toNat].cap,[⟨I,41,M[((av t s.aj).1[k]'aa).toNat].cap*3,(M[((av t s.aj).1[k]'aa).toNat].r.set (bM t.ay s.set).toNat (acc[k]'dr)).flatMap cV⟩]⟩:cj)).map cj.r} ((av t s.aj).1.drop (k+1)) (acc.drop (k+1))=mF (bM t.ay s.set).toNat t (av t s.aj).1 acc:=(by rw[←U4,jr,lq,mF];congr 1;exact(Sj (x:=t.ix) fU rfl).symm)
   refine CD.perm (QJ fU Nc) ?_;refine af [0,6,9,10,15,16,110,111,112] ?_;refine l9 12 [0,6,9,10,110,111,112,123,124,128] ?_;refine aR 3 ?_ (h:=by exact(om 2));refine aR 1 ?_ (h:=by exact(dF 1 (h:=by first|exact .l (j:=((av t s.aj).1[k]'aa).toNat) (Int.toNat_of_nonneg gW).symm vj|exact .r (j:=((av t s.aj).1[k]'aa).toNat) (Int.toNat_of_nonneg gW).symm vj)));refine aR 0 ?_ (h:=by exact(cM (mk:=Op.load 28) rfl ot (iU (k:=3) (i:=((av t s.aj).1[k]'aa).toNat) (ls:=M) (d:=aN (some ⟨I,0,none⟩) M[((av t s.aj).1[k]'aa).toNat].r.length M[((av t s.aj).1[k]'aa).toNat].cap) uI rfl rfl rfl isAgg28 fU (by rw[←x4];rfl))));refine bH ?_;refine bQ (dF 3 (h:=by first|exact .l (j:=(bM t.ay s.set).toNat) (Int.toNat_of_nonneg w4).symm (by rw[rI];omega)|exact .r (j:=(bM t.ay s.set).toNat) (Int.toNat_of_nonneg w4).symm (by rw[rI];omega))) ?_;refine OD.storeAt (k:=0) (cs':=(M[((av t s.aj).1[k]'aa).toNat].r.set (bM t.ay s.set).toNat (acc[k]'dr)).flatMap cV) ap rfl rfl ot rfl rfl ot rfl rfl sizeOf41 rfl (by show 0+(bM t.ay s.set).toNat*3+3≤(M[((av t s.aj).1[k]'aa).toNat].r.flatMap cV).length;rw[cy fj,rI];omega) (by show dc (M[((av t s.aj).1[k]'aa).toNat].r.flatMap cV) (0+(bM t.ay s.set).toNat*3) (cV (acc[k]'dr))=_;rw[Nat.zero_add];exact oA fj _ _ (by rw[rI];omega)) ?_;refine an 205 [0,6,9,10,110,111,112] ?_;refine dQ 1 ?_
   refine OD.perm (Si fU (o:=(⟨M[((av t s.aj).1[k]'aa).toNat].r.set (bM t.ay s.set).toNat (acc[k]'dr),some ⟨I,0,none⟩,M[((av t s.aj).1[k]'aa).toNat].cap,[⟨I,41,M[((av t s.aj).1[k]'aa).toNat].cap*3,(M[((av t s.aj).1[k]'aa).toNat].r.set (bM t.ay s.set).toNat (acc[k]'dr)).flatMap cV⟩]⟩:cj)) rfl) ?_;refine an 205 [0,6,9,10,110,111,112] ?_;refine⟨((k+1),(M.set ((av t s.aj).1[k]'aa).toNat (⟨M[((av t s.aj).1[k]'aa).toNat].r.set (bM t.ay s.set).toNat (acc[k]'dr),some ⟨I,0,none⟩,M[((av t s.aj).1[k]'aa).toNat].cap,[⟨I,41,M[((av t s.aj).1[k]'aa).toNat].cap*3,(M[((av t s.aj).1[k]'aa).toNat].r.set (bM t.ay s.set).toNat (acc[k]'dr)).flatMap cV⟩]⟩:cj))),_,cD,aM,w4,agD,jK,Cg,(by rw[length_set];exact xk),aji,rfl⟩
  have agE:mF (bM t.ay s.set).toNat t (av t s.aj).1 acc={t with rows:=M.map cj.r}:=(by rw[←U4,drop_of_length_le (l:=(av t s.aj).1) w4,ab9])
  have aV:gS t s=({t with rows:=M.map cj.r},((av t s.aj).1.length:Int),0):=(by unfold gS;rw[if_neg hA,if_neg U,if_neg hC,if_neg hD,if_neg hN,if_pos hP,DD,agE])
  refine af [4,5] ?_;refine aI (⟨bt,53,pP,pre++(_++post)⟩::(Sr++M.flatMap bR)) ?_;rw[aV];exact⟨rfl,fun _=>⟨M,ad,cap,Sr,⟨rfl,Z,vC⟩,by simp only[tC,length_map,xk]⟩⟩
 have hP:¬0<(bM t.ay s.set):=(by simpa using gg)
 have x5:(bM t.ay s.set)=0:=(by omega)
 refine af [0,9,10,133,134,135] ?_;refine eL [0,9,10,133,134] (fun aW _ (E:Nat×aG) aJ=>match E with|(k,x)=>(k≤(av t s.aj).1.length)∧(nV t x ((av t s.aj).1.drop k)=nV t t.ix (av t s.aj).1)∧(iH x n)∧(∀i∈(av t s.aj).1.drop k,(dx (rowAt t i),i)∈gp x)∧aJ=(⟨205,(135,ae (k:Nat))::aW,(⟨b3,32,12,bY s⟩::⟨bt,53,pP,pre++([bf t.nm,ax 2 cC t.ay,aN ad t.rows.length cap,ax 5 cP x.ag,ae x.root]++post)⟩::(Sr++L.flatMap bR))⟩:St)) (fun (E:Nat×aG)=>match E with|(k,x)=>(av t s.aj).1.length-k) (0,t.ix) ⟨(Nat.zero_le _),rfl,g.ix,(fun i hi=>(mj i hi).jf g),rfl⟩ ?_;rintro⟨k,x⟩ _ ⟨fu,La,gx,xP,rfl⟩;refine af [0,9,10,133,134,135,136] ?_;refine au ?_ ?_<;>intro CW KO
 ·have aa:k<(av t s.aj).1.length:=(by omega)
  have jr:(av t s.aj).1.drop k=((av t s.aj).1[k]'aa)::(av t s.aj).1.drop (k+1):=drop_eq_getElem_cons aa;have rH:gN t ((av t s.aj).1[k]'aa):=mj _ (getElem_mem aa);obtain⟨gW,O,oX⟩:=id rH;have fU:((av t s.aj).1[k]'aa).toNat<L.length:=(by rw[rE];exact O)
  obtain⟨br,rfl,tY,tZ,rfl⟩:=kr.pos w4;have vE:L[((av t s.aj).1[k]'aa).toNat].r=rowAt t ((av t s.aj).1[k]'aa):=(by rw[jE O];exact(F6 hL fU O))
  obtain⟨Xj,DC⟩:=gN.ok g rH;have U5:=JG (G:=G) hG L[((av t s.aj).1[k]'aa).toNat].r (by rw[vE];omega) (by rw[vE];omega) (by rw[vE];exact fun v hv=>(DC v hv).1);rw[show dx L[((av t s.aj).1[k]'aa).toNat].r=dx (rowAt t ((av t s.aj).1[k]'aa)) from by rw[vE]] at U5;have iQ:=xP _ (by rw[jr];exact mem_cons_self);have Xm:=Iv gx ((AL gx.val _).2 ⟨_,iQ⟩);have xZ:=Qy (G:=G) gx (dx (rowAt t ((av t s.aj).1[k]'aa)));rw[RU gx (vW (by rw[jE O];exact(g.row _ O oX).1)) ((AM gx _).2 ⟨_,iQ⟩)] at xZ;unfold Tw.cT at xZ;have agF:nV t (gC x (dH x) (dx (rowAt t ((av t s.aj).1[k]'aa)))) ((av t s.aj).1.drop (k+1))=nV t t.ix (av t s.aj).1:=(by rw[←La,jr];rfl)
  have ajj:∀i∈(av t s.aj).1.drop (k+1),(dx (rowAt t i),i)∈gp (gC x (dH x) (dx (rowAt t ((av t s.aj).1[k]'aa)))):=fun i hi=>by refine(Xm.2 _).2 ⟨xP i (by rw[jr];exact mem_cons_of_mem _ hi),fun e=>?_⟩;have h9:=hnd.sublist (drop_sublist k _);rw[jr,nodup_cons] at h9;have h8:=Jj g.ix ((mj i (mem_of_mem_drop hi)).jf g) (rH.jf g) e;simp only[Prod.mk.injEq] at h8;exact h9.1 (h8.2 ▸ hi)
  refine af [0,9,10,18,133,134,135] ?_;refine l9 17 [0,9,10,133,134,135,140,154] ?_;refine aR 4 ?_ (h:=by exact(wW 1));refine aR 3 ?_ (h:=by exact(om 1));refine aR 1 ?_ (h:=by exact(dF 1 (h:=by first|exact .l (j:=((av t s.aj).1[k]'aa).toNat) (Int.toNat_of_nonneg gW).symm O|exact .r (j:=((av t s.aj).1[k]'aa).toNat) (Int.toNat_of_nonneg gW).symm O)));refine aR 0 ?_ (h:=by exact(cM (mk:=Op.load 28) rfl ot (iU (k:=2) (i:=((av t s.aj).1[k]'aa).toNat) (ls:=L) uI rfl rfl rfl isAgg28 fU rfl)));refine zj (U5) (fun r S h=>h.flat) (fun r S h=>h.view) (ha:=by exact⟨⟨_,ot,(QI aT fU (fun B U=>by repeat (first|exact U|apply mem_append_right|apply mem_cons_of_mem)))⟩,trivial⟩) (K:=?_);refine cZ (xZ) ?_;refine bH ?_;refine aE 2 ?_;refine OD.storeAt (k:=1) (cs':=pre++([bf t.nm,ax 2 cC t.ay,aN (some ⟨br,0,none⟩) t.rows.length cap,.list 5 ((gC x (dH x) (dx (rowAt t ((av t s.aj).1[k]'aa)))).ag.flatMap cP) (gC x (dH x) (dx (rowAt t ((av t s.aj).1[k]'aa)))).ag.length,ae (gC x (dH x) (dx (rowAt t ((av t s.aj).1[k]'aa)))).root]++post)) ap rfl rfl ot rfl rfl ot rfl rfl sizeOf51 rfl (by show off+3+2≤(pre++(([bf t.nm,ax 2 cC t.ay,aN (some ⟨br,0,none⟩) t.rows.length cap,ax 5 cP x.ag,ae x.root]:List D)++post)).length;simp only[length_append,length_cons,length_nil];omega) (by exact Bc (j:=3) hp aO rfl) ?_;refine an 205 [0,9,10,133,134,135] ?_
  refine cl [0,9,10,133,134,135] ?_;refine⟨((k+1),(gC x (dH x) (dx (rowAt t ((av t s.aj).1[k]'aa))))),_,cD,aM,w4,agF,Xm.1,ajj,rfl⟩
 have xT:nV t t.ix (av t s.aj).1=x:=(by rw[←La,drop_of_length_le w4];rfl)
 clear La xP;skip;refine af [0,9,10,159,160,161] ?_;refine eL [0,9,10,159,160] (fun aW _ (E:Nat×List cj×aG) aJ=>match E with|(k,M,y)=>(k≤(av t s.aj).1.length)∧(ko {t with rows:=M.map cj.r,ix:=y} ((av t s.aj).1.drop k) (acc.drop k)=ko {t with ix:=nV t t.ix (av t s.aj).1} (av t s.aj).1 acc)∧(∀o∈M,nK o)∧(su M ad cap Sr)∧(M.length=t.rows.length)∧(∀i∈(av t s.aj).1,∃h:i.toNat<M.length,Pc.dZ dB M[i.toNat].r=0∧∀v∈M[i.toNat].r,v.Ok)∧(iH y (n+k))∧aJ=(⟨205,(161,ae (k:Nat))::aW,(⟨b3,32,12,bY s⟩::⟨bt,53,pP,pre++([bf t.nm,ax 2 cC t.ay,aN ad t.rows.length cap,ax 5 cP y.ag,ae y.root]++post)⟩::(Sr++M.flatMap bR))⟩:St)) (fun (E:Nat×List cj×aG)=>match E with|(k,M,y)=>(av t s.aj).1.length-k) (0,L,x) ⟨(Nat.zero_le _),(by rw[hL,xT];rfl),aT,kr,rE,hl5,gx,rfl⟩ ?_;rintro⟨k,M,y⟩ _ ⟨dM,At,Z,vC,xk,Xn,gy,rfl⟩;refine af [0,9,10,159,160,161,162] ?_;refine au ?_ ?_<;>intro FF Bm
 ·have aa:k<(av t s.aj).1.length:=(by omega)
  have dr:k<acc.length:=(by omega)
  have jr:(av t s.aj).1.drop k=((av t s.aj).1[k]'aa)::(av t s.aj).1.drop (k+1):=drop_eq_getElem_cons aa;have lq:acc.drop k=(acc[k]'dr)::acc.drop (k+1):=drop_eq_getElem_cons dr;obtain⟨gW,O,oX⟩:=mj _ (getElem_mem aa);obtain⟨fU,Xo,hx6⟩:=Xn _ (getElem_mem aa);have rI:=qg Xo;obtain⟨ajk,U6,ajl⟩:=U3 _ (getElem_mem dr);have xY:(acc[k]'dr).k≠0∧jI (dB[0]'w7).k (acc[k]'dr):=(by have h1:=ajl x5;refine⟨h1,U6.1,?_⟩;have h2:=U6.2;have ajm:bM dB s.set=0:=(by rw[←g.ay];exact x5);have Xp:=hC;simp only[g.ay,ajm] at Xp;have h3:(eo dB s.bS).1=(dB[0]'w7).k∨(eo dB s.bS).1=0:=(Classical.em ((eo dB s.bS).1=(dB[0]'w7).k)).imp id fun h=>Classical.not_not.1 fun h'=>Xp ⟨h,h'⟩;omega)
  obtain⟨br,rfl,tY,tZ,rfl⟩:=vC.pos w4;obtain⟨I,x4,Cl,DE,Nc⟩:=(Z _ (getElem_mem fU)).pos w4;have jK:∀o∈(M.set ((av t s.aj).1[k]'aa).toNat (⟨M[((av t s.aj).1[k]'aa).toNat].r.set 0 (acc[k]'dr),some ⟨I,0,none⟩,M[((av t s.aj).1[k]'aa).toNat].cap,[⟨I,41,M[((av t s.aj).1[k]'aa).toNat].cap*3,(M[((av t s.aj).1[k]'aa).toNat].r.set 0 (acc[k]'dr)).flatMap cV⟩]⟩:cj)),nK o:=fun o ho=>by rcases mem_or_eq_of_mem_set ho with h|h;exact Z o h;rw[h];exact bJ (g:=cV) Gj DE
  have Nd:(M.set ((av t s.aj).1[k]'aa).toNat (⟨M[((av t s.aj).1[k]'aa).toNat].r.set 0 (acc[k]'dr),some ⟨I,0,none⟩,M[((av t s.aj).1[k]'aa).toNat].cap,[⟨I,41,M[((av t s.aj).1[k]'aa).toNat].cap*3,(M[((av t s.aj).1[k]'aa).toNat].r.set 0 (acc[k]'dr)).flatMap cV⟩]⟩:cj)).flatMap gR=M.flatMap gR:=Jm M _ fU _ (by show[D.v (.slice _ (M[((av t s.aj).1[k]'aa).toNat].r.set 0 (acc[k]'dr)).length _)]=[D.v (.slice _ _ _)];rw[length_set,x4]);have Cg:su (M.set ((av t s.aj).1[k]'aa).toNat (⟨M[((av t s.aj).1[k]'aa).toNat].r.set 0 (acc[k]'dr),some ⟨I,0,none⟩,M[((av t s.aj).1[k]'aa).toNat].cap,[⟨I,41,M[((av t s.aj).1[k]'aa).toNat].cap*3,(M[((av t s.aj).1[k]'aa).toNat].r.set 0 (acc[k]'dr)).flatMap cV⟩]⟩:cj)) (some ⟨br,0,none⟩) cap [⟨br,28,cap*1,M.flatMap gR⟩]:=(by rw[←Nd];exact bJ (by rw[length_set];exact tY) tZ)
  have TX:Pc.dZ dB (M[((av t s.aj).1[k]'aa).toNat].r.set 0 (acc[k]'dr))=0:=Se Xo w7 xY.2 (fun _=>xY.1);have wT:∀v∈M[((av t s.aj).1[k]'aa).toNat].r.set 0 (acc[k]'dr),v.Ok:=fun v hv=>by rcases mem_or_eq_of_mem_set hv with h|h;exact hx6 v h;rw[h];exact ajk
  have ajn:∀i∈(av t s.aj).1,∃h:i.toNat<(M.set ((av t s.aj).1[k]'aa).toNat (⟨M[((av t s.aj).1[k]'aa).toNat].r.set 0 (acc[k]'dr),some ⟨I,0,none⟩,M[((av t s.aj).1[k]'aa).toNat].cap,[⟨I,41,M[((av t s.aj).1[k]'aa).toNat].cap*3,(M[((av t s.aj).1[k]'aa).toNat].r.set 0 (acc[k]'dr)).flatMap cV⟩]⟩:cj)).length,Pc.dZ dB (M.set ((av t s.aj).1[k]'aa).toNat (⟨M[((av t s.aj).1[k]'aa).toNat].r.set 0 (acc[k]'dr),some ⟨I,0,none⟩,M[((av t s.aj).1[k]'aa).toNat].cap,[⟨I,41,M[((av t s.aj).1[k]'aa).toNat].cap*3,(M[((av t s.aj).1[k]'aa).toNat].r.set 0 (acc[k]'dr)).flatMap cV⟩]⟩:cj))[i.toNat].r=0∧∀v∈(M.set ((av t s.aj).1[k]'aa).toNat (⟨M[((av t s.aj).1[k]'aa).toNat].r.set 0 (acc[k]'dr),some ⟨I,0,none⟩,M[((av t s.aj).1[k]'aa).toNat].cap,[⟨I,41,M[((av t s.aj).1[k]'aa).toNat].cap*3,(M[((av t s.aj).1[k]'aa).toNat].r.set 0 (acc[k]'dr)).flatMap cV⟩]⟩:cj))[i.toNat].r,v.Ok:=fun i hi=>by obtain⟨h1,h2⟩:=Xn i hi;refine⟨by rw[length_set];exact h1,?_⟩;rw[getElem_set];split;exact⟨TX,wT⟩;exact h2
  have dX:=vW TX;have U7:=JG (G:=G) hG (M[((av t s.aj).1[k]'aa).toNat].r.set 0 (acc[k]'dr)) vh vh wT;have DF:=Qx (G:=G) gy (dx (M[((av t s.aj).1[k]'aa).toNat].r.set 0 (acc[k]'dr))) ((av t s.aj).1[k]'aa);unfold Tw.cT at DF
  have U8:ko {t with ix:=nV t t.ix (av t s.aj).1} (av t s.aj).1 acc=if ik y (dx (M[((av t s.aj).1[k]'aa).toNat].r.set 0 (acc[k]'dr))) (dH y)=true then ({t with rows:=M.map cj.r,ix:=y},9) else ko {t with rows:=(M.set ((av t s.aj).1[k]'aa).toNat (⟨M[((av t s.aj).1[k]'aa).toNat].r.set 0 (acc[k]'dr),some ⟨I,0,none⟩,M[((av t s.aj).1[k]'aa).toNat].cap,[⟨I,41,M[((av t s.aj).1[k]'aa).toNat].cap*3,(M[((av t s.aj).1[k]'aa).toNat].r.set 0 (acc[k]'dr)).flatMap cV⟩]⟩:cj)).map cj.r,ix:=(gB y (dH y) (dx (M[((av t s.aj).1[k]'aa).toNat].r.set 0 (acc[k]'dr))) ((av t s.aj).1[k]'aa))} ((av t s.aj).1.drop (k+1)) (acc.drop (k+1)):=by rw[←At,jr,lq,ko,Sj (o:=(⟨M[((av t s.aj).1[k]'aa).toNat].r.set 0 (acc[k]'dr),some ⟨I,0,none⟩,M[((av t s.aj).1[k]'aa).toNat].cap,[⟨I,41,M[((av t s.aj).1[k]'aa).toNat].cap*3,(M[((av t s.aj).1[k]'aa).toNat].r.set 0 (acc[k]'dr)).flatMap cV⟩]⟩:cj)) fU rfl,O9 rf,show((M.set ((av t s.aj).1[k]'aa).toNat (⟨M[((av t s.aj).1[k]'aa).toNat].r.set 0 (acc[k]'dr),some ⟨I,0,none⟩,M[((av t s.aj).1[k]'aa).toNat].cap,[⟨I,41,M[((av t s.aj).1[k]'aa).toNat].cap*3,(M[((av t s.aj).1[k]'aa).toNat].r.set 0 (acc[k]'dr)).flatMap cV⟩]⟩:cj))[((av t s.aj).1[k]'aa).toNat]'rf)=(⟨M[((av t s.aj).1[k]'aa).toNat].r.set 0 (acc[k]'dr),some ⟨I,0,none⟩,M[((av t s.aj).1[k]'aa).toNat].cap,[⟨I,41,M[((av t s.aj).1[k]'aa).toNat].cap*3,(M[((av t s.aj).1[k]'aa).toNat].r.set 0 (acc[k]'dr)).flatMap cV⟩]⟩:cj) from getElem_set_self _]
  refine CD.perm (QJ fU Nc) ?_;refine af [0,9,10,19,20,159,160,161] ?_;refine CD.seq ?_;refine l9 11 [0,9,10,20,159,160,161,172,176] ?_;refine aR 3 ?_ (h:=by exact(om 2));refine aR 1 ?_ (h:=by exact(dF 1 (h:=by first|exact .l (j:=((av t s.aj).1[k]'aa).toNat) (Int.toNat_of_nonneg gW).symm vj|exact .r (j:=((av t s.aj).1[k]'aa).toNat) (Int.toNat_of_nonneg gW).symm vj)));refine aR 0 ?_ (h:=by exact(cM (mk:=Op.load 28) rfl ot (iU (k:=3) (i:=((av t s.aj).1[k]'aa).toNat) (ls:=M) (d:=aN (some ⟨I,0,none⟩) M[((av t s.aj).1[k]'aa).toNat].r.length M[((av t s.aj).1[k]'aa).toNat].cap) uI rfl rfl rfl isAgg28 fU (by rw[←x4];rfl))));refine bH ?_;refine bQ (pW (mk:=Op.indexAddr 28) rfl ot bI (by first|exact qG runUnderlying28 sizeOf41 (j:=0) rfl (by rw[rI];decide)|exact qL runUnderlying28 sizeOf41 (j:=0) rfl (by rw[rI];decide))) ?_;refine OD.storeAt (k:=0) (cs':=(M[((av t s.aj).1[k]'aa).toNat].r.set 0 (acc[k]'dr)).flatMap cV) ap rfl rfl ot rfl rfl ot rfl rfl sizeOf41 rfl (by show 0+0*3+3≤(M[((av t s.aj).1[k]'aa).toNat].r.flatMap cV).length;rw[cy fj,rI];omega) (by show dc (M[((av t s.aj).1[k]'aa).toNat].r.flatMap cV) (0+0*3) (cV (acc[k]'dr))=_;rw[Nat.zero_add];exact oA fj _ _ (by rw[rI];omega)) ?_;refine an 205 [0,9,10,20,159,160,161] ?_;refine CD.seq ?_;rcases iQ:ik y (dx (M[((av t s.aj).1[k]'aa).toNat].r.set 0 (acc[k]'dr))) (dH y) with _|_
  ·rw[Te gy w4 dX gW iQ] at DF;have gy2:iH (gB y (dH y) (dx (M[((av t s.aj).1[k]'aa).toNat].r.set 0 (acc[k]'dr))) ((av t s.aj).1[k]'aa)) (n+(k+1)):=(Eu gy w4 ((Ev gy).1 iQ) dX gW).1;have ajo:ko {t with rows:=(M.set ((av t s.aj).1[k]'aa).toNat (⟨M[((av t s.aj).1[k]'aa).toNat].r.set 0 (acc[k]'dr),some ⟨I,0,none⟩,M[((av t s.aj).1[k]'aa).toNat].cap,[⟨I,41,M[((av t s.aj).1[k]'aa).toNat].cap*3,(M[((av t s.aj).1[k]'aa).toNat].r.set 0 (acc[k]'dr)).flatMap cV⟩]⟩:cj)).map cj.r,ix:=(gB y (dH y) (dx (M[((av t s.aj).1[k]'aa).toNat].r.set 0 (acc[k]'dr))) ((av t s.aj).1[k]'aa))} ((av t s.aj).1.drop (k+1)) (acc.drop (k+1))=ko {t with ix:=nV t t.ix (av t s.aj).1} (av t s.aj).1 acc:=(by rw[U8,if_neg xo])
   refine tV 18 17 [0,9,10,21,159,160,161,193,194] ?_;refine aR 3 ?_ (h:=by exact(wW 2));refine aR 3 ?_ (h:=by exact(om 2));refine aR 1 ?_ (h:=by exact(dF 1 (h:=by first|exact .l (j:=((av t s.aj).1[k]'aa).toNat) (Int.toNat_of_nonneg gW).symm vj|exact .r (j:=((av t s.aj).1[k]'aa).toNat) (Int.toNat_of_nonneg gW).symm vj)));refine aR 0 ?_ (h:=by exact(cM (mk:=Op.load 28) rfl ot (iU (k:=3) (i:=((av t s.aj).1[k]'aa).toNat) (ls:=M) (d:=aN (some ⟨I,0,none⟩) (M[((av t s.aj).1[k]'aa).toNat].r.set 0 (acc[k]'dr)).length M[((av t s.aj).1[k]'aa).toNat].cap) uI rfl rfl rfl isAgg28 fU (by rw[←x4,length_set];rfl))));refine zj (U7) (fun r S h=>h.flat) (fun r S h=>h.view) (ha:=by exact⟨⟨_,ot,(lA (bJ (g:=cV) Gj DE) (cy fj _) (fun B U=>by rw[mem_singleton] at U;rw[U];exact mem_cons_self))⟩,trivial⟩) (K:=?_);refine cZ (DF) ?_;refine nj 3 ?_;refine rq ?_;refine jX ?_;refine⟨rfl,fun CQ=>?_⟩;refine aK 0 [_,_] sizeOf51 ?_;refine an 205 [0,9,10,21,22,159,160,161] ?_;refine af [0,9,10,21,22,159,160,161,196] ?_;refine au ?_ ?_<;>intro uU E9
   ·exact absurd uU (by simp at uU)
   refine dQ 4 ?_;refine OD.storeAt (k:=3) (cs':=pre++([bf t.nm,ax 2 cC t.ay,aN (some ⟨br,0,none⟩) t.rows.length cap,.list 5 ((gB y (dH y) (dx (M[((av t s.aj).1[k]'aa).toNat].r.set 0 (acc[k]'dr))) ((av t s.aj).1[k]'aa)).ag.flatMap cP) (gB y (dH y) (dx (M[((av t s.aj).1[k]'aa).toNat].r.set 0 (acc[k]'dr))) ((av t s.aj).1[k]'aa)).ag.length,ae (gB y (dH y) (dx (M[((av t s.aj).1[k]'aa).toNat].r.set 0 (acc[k]'dr))) ((av t s.aj).1[k]'aa)).root]++post)) ap rfl rfl ot rfl rfl ot rfl rfl sizeOf51 rfl (by show off+3+2≤(pre++(([bf t.nm,ax 2 cC t.ay,aN (some ⟨br,0,none⟩) t.rows.length cap,ax 5 cP y.ag,ae y.root]:List D)++post)).length;simp only[length_append,length_cons,length_nil];omega) (by exact Bc (j:=3) hp aO rfl) ?_;refine an 205 [0,9,10,159,160,161] ?_;refine dQ 1 ?_;refine OD.perm ((Si fU (o:=(⟨M[((av t s.aj).1[k]'aa).toNat].r.set 0 (acc[k]'dr),some ⟨I,0,none⟩,M[((av t s.aj).1[k]'aa).toNat].cap,[⟨I,41,M[((av t s.aj).1[k]'aa).toNat].cap*3,(M[((av t s.aj).1[k]'aa).toNat].r.set 0 (acc[k]'dr)).flatMap cV⟩]⟩:cj)) rfl).cons _) ?_;refine an 205 [0,9,10,159,160,161] ?_
   refine⟨((k+1),(M.set ((av t s.aj).1[k]'aa).toNat (⟨M[((av t s.aj).1[k]'aa).toNat].r.set 0 (acc[k]'dr),some ⟨I,0,none⟩,M[((av t s.aj).1[k]'aa).toNat].cap,[⟨I,41,M[((av t s.aj).1[k]'aa).toNat].cap*3,(M[((av t s.aj).1[k]'aa).toNat].r.set 0 (acc[k]'dr)).flatMap cV⟩]⟩:cj)),(gB y (dH y) (dx (M[((av t s.aj).1[k]'aa).toNat].r.set 0 (acc[k]'dr))) ((av t s.aj).1[k]'aa))),_,cD,aM,w4,ajo,jK,Cg,(by rw[length_set];exact xk),ajn,gy2,rfl⟩
  rw[adu gy dX gW iQ] at DF;have aV:gS t s=(t,0,9):=(by unfold gS;rw[if_neg hA,if_neg U,if_neg hC,if_neg hD,if_neg hN,if_neg hP,DD,U8,if_pos iQ];exact if_pos (show(9:Int)≠0 by decide))
  refine tV 18 17 [0,9,10,21,159,160,161,193,194] ?_;refine aR 3 ?_ (h:=by exact(wW 2));refine aR 3 ?_ (h:=by exact(om 2));refine aR 1 ?_ (h:=by exact(dF 1 (h:=by first|exact .l (j:=((av t s.aj).1[k]'aa).toNat) (Int.toNat_of_nonneg gW).symm vj|exact .r (j:=((av t s.aj).1[k]'aa).toNat) (Int.toNat_of_nonneg gW).symm vj)));refine aR 0 ?_ (h:=by exact(cM (mk:=Op.load 28) rfl ot (iU (k:=3) (i:=((av t s.aj).1[k]'aa).toNat) (ls:=M) (d:=aN (some ⟨I,0,none⟩) (M[((av t s.aj).1[k]'aa).toNat].r.set 0 (acc[k]'dr)).length M[((av t s.aj).1[k]'aa).toNat].cap) uI rfl rfl rfl isAgg28 fU (by rw[←x4,length_set];rfl))));refine zj (U7) (fun r S h=>h.flat) (fun r S h=>h.view) (ha:=by exact⟨⟨_,ot,(lA (bJ (g:=cV) Gj DE) (cy fj _) (fun B U=>by rw[mem_singleton] at U;rw[U];exact mem_cons_self))⟩,trivial⟩) (K:=?_);refine cZ (DF) ?_;refine nj 3 ?_;refine rq ?_;refine jX ?_;refine⟨rfl,fun CQ=>?_⟩;refine aK 0 [_,_] sizeOf51 ?_;refine an 205 [0,9,10,21,22,159,160,161] ?_;refine af [0,9,10,21,22,159,160,161,196] ?_;refine au ?_ ?_<;>intro uU E9
  ·exact wJ
  exact absurd uU (by simp at uU)
 have agG:ko {t with ix:=nV t t.ix (av t s.aj).1} (av t s.aj).1 acc=({t with rows:=M.map cj.r,ix:=y},0):=(by rw[←At,drop_of_length_le (l:=(av t s.aj).1) w4,aas])
 have aV:gS t s=({t with rows:=M.map cj.r,ix:=y},((av t s.aj).1.length:Int),0):=(by unfold gS;rw[if_neg hA,if_neg U,if_neg hC,if_neg hD,if_neg hN,if_neg hP,DD,agG];exact if_neg (fun h=>h rfl))
 refine af [4,5] ?_;refine aI (⟨bt,53,pP,pre++(_++post)⟩::(Sr++M.flatMap bR)) ?_;rw[aV];exact⟨rfl,fun _=>⟨M,ad,cap,Sr,⟨rfl,Z,vC⟩,by simp only[tC,length_map,xk]⟩⟩

open Go.Proofs.YtdgichenhdikgaaGreatDoor.So
def BE(p:(List (List Vl)×Int)×Int)(r:D)(S:List ah):Prop:=∃(L:List cj) (ad:Option Addr) (cap:Nat) (Sx:List ah),r = .dG [.agg [aN ad L.length cap,ae p.1.2],ae p.2]∧su L ad cap Sx∧(∀o∈L,nK o)∧L.map cj.r=p.1.1∧S=Sx++L.flatMap bR
theorem BE.view{r:D}(h:BE p r S):View S r (As p):=by
 obtain⟨L,ad,cap,Sx,rfl,ho,aT,hL,rfl⟩:=h;unfold As;rw[←hL];unfold ax;rw[length_map];exact Ek ⟨uv ⟨AG ho (EM aT fun B E=>mem_append_right _ E) (by rw[cy kV,length_map]) (fun B E=>mem_append_left _ E),eP,trivial⟩,eP,trivial⟩
theorem afj(l:List Vl):∀d∈l.flatMap cV,kE d=true:=fun d hd=>by
 obtain⟨v,_,hv⟩:=mem_flatMap.1 hd;unfold cV at hv;simp only[mem_cons,not_mem_nil,or_false] at hv;rcases hv with rfl|rfl|rfl<;>rfl
theorem afk(l:List cj):∀d∈l.flatMap gR,kE d=true:=fun d hd=>by
 obtain⟨v,_,hv⟩:=mem_flatMap.1 hd;unfold gR at hv;rw[mem_singleton] at hv;subst hv;rfl
theorem BE.flat{r:D}(h:BE p r S):kE r=true∧∀B∈S,∀d∈B.cs,kE d=true:=by
 obtain⟨L,ad,cap,Sx,rfl,ho,aT,hL,rfl⟩:=h;refine⟨rfl,fun B E=>?_⟩;rcases mem_append.1 E with E|E
 ·rcases ho with ⟨_,_,_,_,rfl⟩|⟨b,_,_,_,rfl⟩
  ·cases E
  rw[mem_singleton] at E;subst E;exact afk L
 obtain⟨o,I,E⟩:=mem_flatMap.1 E;have h1:=aT o I;unfold bR at E;rcases h1 with ⟨_,_,_,_,h2⟩|⟨b,_,_,_,h2⟩
 ·rw[h2] at E;cases E
 rw[h2,mem_singleton] at E;subst E;exact afj o.r
theorem afl(g:eV t n)(s:cx):qZ t s<4:=by
 unfold qZ;split
 ·decide
 have:=(JJ (l:=t.ay) (nm:=s.order)).2;rw[g.ay] at this ⊢;exact this
theorem agH(g:eV t n){names:List ByteArray}(h:∀n∈names,0≤bM t.ay n):∀c∈vB t names,0≤c∧c.toNat<4:=fun c hc=>by
 have h4:t.ay.length=4:=(by rw[g.ay];rfl)
 unfold vB at hc;split at hc
 ·obtain⟨i,hi,rfl⟩:=mem_map.1 hc;have:=mem_range.1 hi;constructor
  ·exact Int.natCast_nonneg i
  show i<4;omega
 obtain⟨x,hx,rfl⟩:=mem_map.1 hc;have:=(JJ (l:=t.ay) (nm:=x)).2;have:=h x hx;omega
theorem agI(f:ah→Nat):(((L++[o]).flatMap bR).map f).sum=((L.flatMap bR).map f).sum+(o.S.map f).sum:=by
 rw[RX];simp only[bR,map_append,sum_append]
theorem Pb:(Tryz.prog.info? 3).map (fun i=>(i.zero,i.size,i.bytes))=some (some (.int .i64 0),1,8):=by kernel_rfl
theorem Y2:(Tryz.prog.info? 28).map (fun i=>(i.zero,i.size,i.bytes))=some (some (.slice none 0 0),1,24):=by kernel_rfl
theorem Y3:(Tryz.prog.info? 41).map (fun i=>(i.zero,i.size,i.bytes))=some (some (.agg #[.int .i64 0,.int .i64 0,.string ⟨#[]⟩]),3,32):=by kernel_rfl
theorem adR(hm:(3,marksC)∈G)(hw:(1,wordsC)∈G)(ht:(0,typesC)∈G)(hG:(2,[Value.int .i64 m])∈G)(t:aQ)(g:eV t n)(s:cx)(sF:s.names.length≤1000)(ho:∀o∈s.aj,o.nm.size≤maxLen)(fN:∀o∈s.aj,o.v.Ok):VC Tryz.prog G 44 [.agg (dA t),.agg (bY s)] [] (BE (mB t s)):=by
 refine VC.body func44 rfl ntmps44 aO fun X0 w0 aY=>?_;have dy:=dY;have At:=JI (G:=G) hm hw ht hG t g s.aj ho fN;have DB:=EQ g s.aj;have mj:=uJ g s.aj;have Nf:=Iy g s.aj;obtain⟨M,hM⟩:∃M,M=av t s.aj:=⟨_,rfl⟩
 rw[←hM] at At DB mj Nf;obtain⟨sl,em⟩:=M;dsimp only at DB mj Nf;have nc:=g.eM;have ajh:t.ay.length=4:=(by rw[g.ay];rfl)
 unfold dA at At;unfold dA bY;refine cf ?_;refine OD.box (ds:=[_,_,_,_,_]) ap rfl rfl ot rfl rfl (fun b2=>?_);refine OD.box (ds:=[_,_,_,_,_,_,_,_,_,_,_,_]) ap rfl rfl ot rfl rfl (fun b3=>?_);refine OD.alloc (ds:=[_,_]) ap rfl rfl zeroValue36 rfl (fun b4=>?_);refine an 135 [2,3,4] ?_;refine cf ?_;refine bg [2,3,4,6] ?_;refine af [2,3,4,6,21,22,23] ?_;refine eL [2,3,4,21,22] (fun aW _ (O:Nat×List Int×Option Addr×Nat×List ah) aJ=>match O with|(i,acc,Z,nL,Sa)=>(i≤s.names.length)∧(acc=(s.names.take i).map (bM t.ay))∧(∀x∈s.names.take i,0≤bM t.ay x)∧(bw 3 1 ((acc).flatMap Tw.cI) (acc).length Z nL Sa)∧aJ=(⟨135,(6,aN Z (acc).length nL)::(23,ae (i:Nat))::aW,(⟨b4,36,2,[bB,ae 0]⟩::⟨b3,32,12,bY s⟩::⟨b2,53,5,dA t⟩::Sa)⟩:St)) (fun (O:Nat×List Int×Option Addr×Nat×List ah)=>match O with|(i,acc,Z,nL,Sa)=>s.names.length-i) (0,([]:List Int),none,0,[]) ⟨(Nat.zero_le _),rfl,(fun x h=>by cases h),(bw.cast iK lK),rfl⟩ ?_;rintro⟨i,acc,Z,nL,Sa⟩ _ ⟨hi,wV,jW,og,rfl⟩;refine af [2,3,4,6,21,22,23,24] ?_;refine au ?_ ?_<;>intro aP bF
 ·have aa:i<s.names.length:=(by omega)
  have ff:=HT (G:=G) t w4 s.names[i];unfold dA at ff;have rA:acc.length=i:=(by rw[wV,length_map,length_take];omega)
  refine af [2,3,4,6,8,21,22,23] ?_;refine cW [2,3,4,6,9,21,22,23] (ff) ?_;refine af [2,3,4,6,9,21,22,23,31] ?_;refine au ?_ ?_<;>intro aX cJ
  ·have Ch:bM t.ay s.names[i]<0:=(by simpa using aX)
   have aV:mB t s=(([],0),8):=if_pos (any_eq_true.2 ⟨s.names[i],getElem_mem _,decide_eq_true Ch⟩);refine aC 1 ?_;refine aK 0 [_,_] sizeOf36 ?_;exact LZ
  have Ch:¬bM t.ay s.names[i]<0:=(by simpa using aX)
  have ajp:∀x∈s.names.take (i+1),0≤bM t.ay x:=fun x hx=>by rw[take_succ_eq_append_getElem aa] at hx;rcases mem_append.1 hx with hx|hx;exact jW x hx;rw[mem_singleton] at hx;subst hx;omega
  refine dQ 2 ?_;refine en (bZ 0 [_]) [.int .i64 0] [_] zeroValue3 runUnderlying67 sizeOf3 (fun b35=>?_);refine fB 0 35 1 1 ?_;refine OD.ev (ls:=(acc)) (new:=[bM t.ay s.names[i]]) (Sq:=Sa) Tw.eA Tw.nu ap rfl rfl underlying67 Pb rfl w7 ot og (dI (A:=[_,_,_])) ot bu nF nG (fun GK Lb ajq ajr=>?_);refine OD.perm (ee (S1:=[⟨GK,3,Lb*1,flatMap Tw.cI ((acc)++[bM t.ay s.names[i]])⟩]) (A:=[_,_,_])) ?_;refine an 135 [2,3,4,6,21,22,23] ?_;refine cl [2,3,4,6,21,22,23] ?_;refine⟨((i+1),(acc++[bM t.ay s.names[i]]),(some ⟨GK,0,none⟩),Lb,[⟨GK,3,Lb*1,flatMap Tw.cI ((acc)++[bM t.ay s.names[i]])⟩]),_,cD,aM,w4,(by rw[wV,←pS aa,map_append];rfl),ajp,(bw.cast (bJ ajq ajr) lK),rfl⟩
 have vw:s.names.take i=s.names:=take_of_length_le w4;rw[vw] at wV jW;have F8:¬(s.names.any fun n=>decide (bM t.ay n<0))=true:=fun h=>by obtain⟨x,h1,h2⟩:=any_eq_true.1 h;have:=jW x h1;have:=of_decide_eq_true h2;omega
 refine CD.exit ?_;refine jQ [2,3,4] (fun aW _ aJ=>∃(acc:List Int),∃(Z:Option Addr),∃(nL:Nat),∃(Sa:List ah),(acc=vB t s.names)∧(bw 3 1 (acc.flatMap Tw.cI) acc.length Z nL Sa)∧aJ=(⟨135,(6,aN Z acc.length nL)::aW,(⟨b4,36,2,[bB,ae 0]⟩::⟨b3,32,12,bY s⟩::⟨b2,53,5,dA t⟩::Sa)⟩:St)) ?_ ?_
 ·refine af [2,3,4,6,41] ?_;refine au ?_ ?_<;>intro cr cU
  ·have gE:s.names.length=0:=(by simpa using cr)
   have ajs:acc=[]:=(by rw[wV,length_eq_zero_iff.1 gE];rfl)
   refine af [2,3,4,6,44,45] ?_;refine eL [2,3,4,44] (fun aW _ (O:Nat×List Int×Option Addr×Nat×List ah) aJ=>match O with|(j,U,Z,nL,Sa)=>(j≤t.ay.length)∧(U=(range j).map Int.ofNat)∧(bw 3 1 ((U).flatMap Tw.cI) (U).length Z nL Sa)∧aJ=(⟨135,(6,aN Z (U).length nL)::(45,ae (j:Nat))::aW,(⟨b4,36,2,[bB,ae 0]⟩::⟨b3,32,12,bY s⟩::⟨b2,53,5,dA t⟩::Sa)⟩:St)) (fun (O:Nat×List Int×Option Addr×Nat×List ah)=>match O with|(j,U,Z,nL,Sa)=>t.ay.length-j) (0,acc,Z,nL,Sa) ⟨(Nat.zero_le _),ajs,(bw.cast og lK),rfl⟩ ?_;rintro⟨j,U,Z,nL,Sa⟩ _ ⟨hj,Kf,og,rfl⟩;refine af [2,3,4,6,44,45,46] ?_;refine au ?_ ?_<;>intro cX ec
   ·have aoJ:j<t.ay.length:=(by omega)
    have aoK:U.length=j:=(by rw[Kf,length_map,length_range])
    refine af [2,3,4,6,10,44,45] ?_;refine dQ 2 ?_;refine en (bZ 0 [_]) [.int .i64 0] [_] zeroValue3 runUnderlying67 sizeOf3 (fun Ao=>?_);refine fB 0 50 1 1 ?_;refine OD.ev (ls:=(U)) (new:=[(j:Int)]) (Sq:=Sa) Tw.eA Tw.nu ap rfl rfl underlying67 Pb rfl w7 ot og (dI (A:=[_,_,_])) ot bu nF nG (fun Ng Lc ajt aju=>?_);refine OD.perm (ee (S1:=[⟨Ng,3,Lc*1,flatMap Tw.cI ((U)++[(j:Int)])⟩]) (A:=[_,_,_])) ?_;refine an 135 [2,3,4,6,44,45] ?_;refine cl [2,3,4,6,44,45] ?_;refine⟨((j+1),(U++[(j:Int)]),(some ⟨Ng,0,none⟩),Lc,[⟨Ng,3,Lc*1,flatMap Tw.cI ((U)++[(j:Int)])⟩]),_,cD,aM,w4,(by rw[Kf,range_succ,map_append];rfl),(bw.cast (bJ ajt aju) lK),rfl⟩
   have hjf:U=vB t s.names:=(by unfold vB;rw[if_pos gE,Kf,show j=t.ay.length by omega])
   refine CD.exit ?_;refine⟨_,aM,(U),Z,nL,Sa,hjf,og,rfl⟩
  have gE:¬s.names.length=0:=(by simpa using cr)
  refine CD.skip ?_;refine⟨_,aM,(acc),Z,nL,Sa,(by unfold vB;rw[if_neg gE];exact wV),og,rfl⟩
 rintro _ ⟨acc,Z,nL,Sa,uf,og,rfl⟩;refine CD.seq ?_;refine CD.iq (t:=6) (Sq:=Sa) lk og (cy Tw.eA _) (dI (A:=[_,_,_])) ?_;refine rz ?_;refine OD.alloc (ds:=[_]) ap rfl rfl zeroValue3 rfl (fun kx=>?_);refine aK 0 [_] sizeOf3 ?_;refine an 135 [2,3,4,6,11] ?_;refine jQ [2,3,4,6,11] (fun aW _ aJ=>∃(ov:Int),(0≤ov)∧(ov=qZ t s)∧aJ=(⟨135,aW,[⟨kx,3,1,[ae ov]⟩,⟨b4,36,2,[bB,ae 0]⟩,⟨b3,32,12,bY s⟩,⟨b2,53,5,dA t⟩]⟩:St)) ?_ ?_
 ·refine af [2,3,4,6,11,55] ?_;refine au ?_ ?_<;>intro ew fp
  ·have Au:¬(s.order.toList==(⟨#[]⟩:ByteArray).toList)=true:=(by rw[fp];decide)
   have U9:=HT (G:=G) t w4 s.order;unfold dA at U9;have DG:qZ t s=bM t.ay s.order:=if_neg Au;refine aC 3 ?_;refine dO call85 (U9) ?_;refine aK 0 [_] sizeOf3 ?_;refine an 135 [2,3,4,6,11] ?_;refine af [2,3,4,6,11,61] ?_;refine au ?_ ?_<;>intro fm gv
   ·have Ch:qZ t s<0:=(by rw[DG];simpa using fm)
    have aV:mB t s=(([],0),8):=(by unfold mB;rw[if_neg F8,if_pos Ch])
    refine aC 1 ?_;refine aK 1 [_,_] sizeOf36 ?_;exact LZ
   have Ch:¬qZ t s<0:=(by rw[DG];simpa using fm)
   refine CD.skip ?_;refine⟨_,aM,(bM t.ay s.order),w4,DG.symm,rfl⟩
  have Au:(s.order.toList==(⟨#[]⟩:ByteArray).toList)=true:=fp;have DG:qZ t s=0:=if_pos Au;refine CD.skip ?_;refine⟨_,aM,0,(Int.le_refl 0),DG.symm,rfl⟩
 rintro _ ⟨ov,ajv,mJ,rfl⟩;refine aC 3 ?_;refine OD.call ap rfl rfl rfl call86 At ⟨ot,ot,trivial⟩ (eO _) ?_;rintro _ Sx ⟨dW,dK,rfl,er⟩;refine OD.perm (ee (A:=[_,_,_,_])) ?_;refine an 135 [2,3,4,6,11,12,13] ?_;refine af [2,3,4,6,11,12,13,71] ?_;refine au ?_ ?_<;>intro gL kG
 ·have G2:em≠0:=(by simpa using gL)
  have aV:mB t s=(([],0),em):=(by unfold mB;rw[if_neg F8,if_neg w4,←hM];exact if_pos G2)
  refine aC 2 ?_;refine aK 1 [_,_] sizeOf36 ?_;exact LZ
 have G2:¬em≠0:=(by simpa using gL)
 refine CD.skip ?_;refine jQ [2,3,4,6] (fun aW _ aJ=>∃(on:Nat),∃(lz:List Int),((on:Int)=qZ t s)∧(lz=Fw t s.down on sl)∧(lz.length=sl.length)∧(∀x∈lz,gN t x)∧aJ=(⟨135,(12,ax 1 Tw.cI lz)::aW,[⟨kx,3,1,[ae (on:Nat)]⟩,⟨b4,36,2,[bB,ae 0]⟩,⟨b3,32,12,bY s⟩,⟨b2,53,5,dA t⟩]⟩:St)) ?_ ?_
 ·obtain⟨on,rfl⟩:=Int.eq_ofNat_of_zero_le ajv;have jF:on<4:=(by have:=afl g s;omega)
  rcases er with ⟨hn,dw,rfl,rfl,rfl⟩|⟨bx,rfl,pQ,oX,rfl⟩
  ·obtain rfl:=length_eq_zero_iff.1 hn;refine dQ 1 ?_;refine bQ (oZ (ds:=[_,_,_]) rfl ⟨ot,ot,ot,trivial⟩) ?_;refine dO call87 (ab7 _) ?_;refine OD.wk (Wk.uy (t:=12) (sz:=1) lk) ?_;refine an 135 [2,3,4,6,12] ?_;refine⟨_,aM,on,[],mJ,(Ji ⟨Perm.refl _,Pairwise.nil⟩),rfl,(fun x h=>by cases h),rfl⟩
  refine dQ 1 ?_;refine bQ (oZ (ds:=[_,_,_]) rfl ⟨ot,ot,ot,trivial⟩) ?_;refine OD.call (Sf:=⟨bx,3,dK*1,sl.flatMap Tw.cI⟩::[⟨b2,53,5,dA t⟩,⟨kx,3,1,[ae (on:Nat)]⟩,⟨b3,32,12,bY s⟩]) (R:=[⟨b4,36,2,[bB,ae 0]⟩]) ap rfl rfl rfl call87 (adI sl.length dK bx 88 [dJ b2,dJ kx,dJ b3] [⟨b2,53,5,dA t⟩,⟨kx,3,1,[ae (on:Nat)]⟩,⟨b3,32,12,bY s⟩] (lJ t s.down on) (gN t) (G0 t) (fun x y hx hy=>adM t g s on jF b2 kx b3 x y hx hy) call88 (fun h1 h2=>afg t s.down on h1 h2) (fun x y h=>by have:=O6 t s.down on x y;omega) pQ oX DB sl Nf rfl mj) ⟨ot,ot,trivial⟩ (show([⟨kx,3,1,[ae (on:Nat)]⟩,⟨b4,36,2,[bB,ae 0]⟩,⟨b3,32,12,bY s⟩,⟨b2,53,5,dA t⟩]++[⟨bx,3,dK*1,sl.flatMap Tw.cI⟩]:List ah).Perm ((⟨bx,3,dK*1,sl.flatMap Tw.cI⟩::[⟨b2,53,5,dA t⟩,⟨kx,3,1,[ae (on:Nat)]⟩,⟨b3,32,12,bY s⟩])++[⟨b4,36,2,[bB,ae 0]⟩]) from(iE fun ja=>by simp only[map_append,map_cons,map_nil,sum_append,sum_cons,sum_nil];omega)) ?_;rintro _ _ ⟨rfl,lz,xQ,rfl⟩;have lU:=xQ.1.length_eq;refine OD.perm (S':=⟨kx,3,1,[ae (on:Nat)]⟩::⟨b4,36,2,[bB,ae 0]⟩::⟨b3,32,12,bY s⟩::⟨b2,53,5,dA t⟩::[⟨bx,3,dK*1,lz.flatMap Tw.cI⟩]) (show((⟨bx,3,dK*1,lz.flatMap Tw.cI⟩::[⟨b2,53,5,dA t⟩,⟨kx,3,1,[ae (on:Nat)]⟩,⟨b3,32,12,bY s⟩])++[⟨b4,36,2,[bB,ae 0]⟩]:List ah).Perm _ from(iE fun ja=>by simp only[map_append,map_cons,map_nil,sum_append,sum_cons,sum_nil];omega)) ?_;rw[←lU]
  refine OD.iq (t:=12) (Sq:=[⟨bx,3,dK*1,lz.flatMap Tw.cI⟩]) lk (bJ (by rw[lU];exact pQ) oX) (cy Tw.eA _) (dI (A:=[_,_,_,_])) ?_;refine an 135 [2,3,4,6,12] ?_;refine⟨_,aM,on,lz,mJ,(Ji xQ),(by first|exact lU|rfl),(fun x hx=>mj x (xQ.1.subset hx)),rfl⟩
 rintro _ ⟨on,lz,mJ,T7,lU,T8,rfl⟩;refine jQ [2,3,4,6] (fun aW ug aJ=>∃(E:List Int),(E=qJ t s)∧(∀x∈E,gN t x)∧(E.length≤40)∧aJ=(⟨135,(12,ax 1 Tw.cI E)::aW,ug⟩:St)) ?_ ?_
 ·refine aC 4 ?_;refine bW 80 (fun Kk E8=>?_) (fun Kk E8=>?_)
  ·refine bg [2,3,4,6,12,86] ?_;refine au ?_ ?_<;>intro gg k8
   ·have mH:0≤s.gH∧s.gH<lz.length:=⟨E8,k8⟩
    refine iB [2,3,4,6,12] ?_;refine aR 3 ?_ (h:=by exact(eu (l:=0) (h:=s.gH.toNat) rfl ot trivial ⟨_,by rw[Int.toNat_of_nonneg mH.1];exact ot⟩ (by exact ox Tw.eA (fun h=>by cases h) runUnderlying67 sizeOf3 w4)));refine bH ?_;refine⟨_,aM,(lz.take s.gH.toNat),(by unfold qJ rZ;rw[←mJ,Int.toNat_natCast,←hM,←T7,if_pos mH]),(fun x hx=>T8 x (mem_of_mem_take hx)),oJ,rfl⟩
   exact VU
  refine bg [2,3,4,6,12,86] ?_;refine fM ?_;exact VU
 rintro _ ⟨E,Va,xM,aoL,rfl⟩;refine aC 3 ?_;refine OD.alloc (ds:=[_,_]) ap rfl rfl zeroValue36 rfl (fun Ac=>?_);refine aK 0 [_,_] sizeOf36 ?_;refine an 135 [2,3,4,6,12,14] ?_;refine af [2,4,6,12,14,95] ?_;refine au ?_ ?_<;>intro pF FU
 ·have BY:s.count=true:=pF;have aV:mB t s=(([[⟨2,((E.length:Nat):Int),⟨#[]⟩⟩]],((E.length:Nat):Int)),0):=(by unfold mB;rw[if_neg F8,if_neg w4,←hM,if_neg G2,if_pos BY,←Va])
  refine aC 3 ?_;refine en (bZ 0 [_]) [.int .i64 0,.int .i64 0,.string ⟨#[]⟩] [_,_,_] zeroValue41 runUnderlying28 sizeOf41 (fun Nh=>?_);refine en (bZ 0 [_]) [.slice none 0 0] [_] zeroValue28 runUnderlying34 sizeOf28 (fun Vb=>?_);refine aE 1 ?_;refine aK 2 [_,_] sizeOf34 ?_;refine an 135 [4,14] ?_;refine aC 1 ?_;refine aK 4 [_,_] sizeOf36 ?_;refine an 135 [4,5] ?_;refine aI [_,_] ?_;rw[aV];exact⟨[⟨[⟨2,(E.length:Nat),⟨#[]⟩⟩],some ⟨Nh,0,none⟩,1,[⟨Nh,41,1*3,[⟨2,(E.length:Nat),⟨#[]⟩⟩].flatMap cV⟩]⟩],some ⟨Vb,0,none⟩,1,[_],rfl,.inr ⟨Vb,rfl,Nat.le_refl _,(show 1≤maxLen by decide),rfl⟩,(fun o ho=>by rw[mem_singleton] at ho;subst ho;exact .inr ⟨Nh,rfl,Nat.le_refl _,(show 1≤maxLen by decide),rfl⟩),rfl,rfl⟩
 have BY:¬s.count=true:=(by rw[pF];decide)
 have aV:mB t s=((E.map (zB t acc),((E.length:Nat):Int)),0):=(by unfold mB;rw[if_neg F8,if_neg w4,←hM,if_neg G2,if_neg BY,←Va,←uf])
 have Vc:=agH g jW;rw[←uf] at Vc;have aoM:acc.length≤1000:=(by rw[uf];unfold vB;split;(rw[length_map,length_range];omega);(rw[length_map];omega))
 refine af [2,4,6,14,103,104,105] ?_;refine eL [2,4,6,14,103,104] (fun aW _ (O:Nat×List cj×Option Addr×Nat×List ah) aJ=>match O with|(i,L,dW,dK,Sx)=>(i≤E.length)∧(L.map cj.r=(E.take i).map (zB t acc))∧(∀o∈L,nK o)∧(su L dW dK Sx)∧aJ=(⟨135,(105,ae (i:Nat))::aW,(⟨Ac,36,2,[aN dW L.length dK,ae (E.length:Nat)]⟩::⟨kx,3,1,[ae (on:Nat)]⟩::⟨b4,36,2,[bB,ae 0]⟩::⟨b3,32,12,bY s⟩::⟨b2,53,5,dA t⟩::(Sx++L.flatMap bR))⟩:St)) (fun (O:Nat×List cj×Option Addr×Nat×List ah)=>match O with|(i,L,dW,dK,Sx)=>E.length-i) (0,([]:List cj),none,0,[]) ⟨(Nat.zero_le _),rfl,(fun o h=>by cases h),iK,rfl⟩ ?_;rintro⟨i,L,dW,dK,Sx⟩ _ ⟨hi,hL,aT,er,rfl⟩;refine af [2,4,6,14,103,104,105,106] ?_;refine au ?_ ?_<;>intro CW KO
 ·have aa:i<E.length:=(by omega)
  obtain⟨gW,pQ,oX⟩:=xM _ (getElem_mem aa);have rI:=qg (g.row _ pQ oX).1;have rE:L.length=i:=(by have:=congrArg length hL;rw[length_map,length_map,length_take] at this;omega)
  refine af [2,4,6,14,16,103,104,105] ?_;refine cf ?_;refine bg [2,4,6,14,16,17,103,104,105] ?_;refine af [2,4,6,14,16,17,103,104,105,109,110,111] ?_;refine eL [2,4,6,14,16,103,104,105,109,110] (fun aW _ (O:Nat×List Vl×Option Addr×Nat×List ah) aJ=>match O with|(j,I,iz,iA,Sy)=>(j≤acc.length)∧(I=(acc.take j).map fun c=>(rowAt t (E[i]'aa)).getD c.toNat bD)∧(bw 41 3 (I.flatMap cV) I.length iz iA Sy)∧aJ=(⟨135,(17,aN iz I.length iA)::(111,ae (j:Nat))::aW,(⟨Ac,36,2,[aN dW L.length dK,ae (E.length:Nat)]⟩::⟨kx,3,1,[ae (on:Nat)]⟩::⟨b4,36,2,[bB,ae 0]⟩::⟨b3,32,12,bY s⟩::⟨b2,53,5,dA t⟩::(Sy++(Sx++L.flatMap bR)))⟩:St)) (fun (O:Nat×List Vl×Option Addr×Nat×List ah)=>match O with|(j,I,iz,iA,Sy)=>acc.length-j) (0,([]:List Vl),none,0,[]) ⟨(Nat.zero_le _),rfl,iK,rfl⟩ ?_;rintro⟨j,I,iz,iA,Sy⟩ _ ⟨hj,Kg,Dx,rfl⟩;refine af [2,4,6,14,16,17,103,104,105,109,110,111,112] ?_;refine au ?_ ?_<;>intro FF Bm
  ·have lR:j<acc.length:=(by omega)
   obtain⟨Vd,aoN⟩:=Vc _ (getElem_mem lR);have Ni:(acc[j]'lR).toNat<(t.rows[(E[i]'aa).toNat]'pQ).length:=(by omega)
   have agJ:(rowAt t (E[i]'aa)).getD (acc[j]'lR).toNat bD=(t.rows[(E[i]'aa).toNat]'pQ)[(acc[j]'lR).toNat]:=(by rw[jE pQ,getD_eq_getElem?_getD,getElem?_eq_getElem Ni];rfl)
   have aoO:I.length=j:=(by rw[Kg,length_map,length_take];omega)
   refine af [2,4,6,14,16,17,19,103,104,105,109,110,111] ?_;refine dQ 4 ?_;refine bQ (dF 1 (h:=by first|exact .l (j:=(E[i]'aa).toNat) (Int.toNat_of_nonneg gW).symm pQ|exact .r (j:=(E[i]'aa).toNat) (Int.toNat_of_nonneg gW).symm pQ)) ?_;refine aE 2 ?_;refine bQ (dF 3 (h:=by first|exact .l (j:=(acc[j]'lR).toNat) (Int.toNat_of_nonneg Vd).symm Ni|exact .r (j:=(acc[j]'lR).toNat) (Int.toNat_of_nonneg Vd).symm Ni)) ?_;refine aE 1 ?_;refine en (bZ 0 [_]) [.int .i64 0,.int .i64 0,.string ⟨#[]⟩] [_,_,_] zeroValue41 runUnderlying28 sizeOf41 (fun aoP=>?_);refine fB 0 124 3 1 ?_;refine OD.ev (ls:=I) (new:=[(t.rows[(E[i]'aa).toNat]'pQ)[(acc[j]'lR).toNat]]) (Sq:=Sy) fj ET ap rfl rfl underlying28 Y3 rfl w7 ot Dx (Ib (A:=[_,_,_,_,_])) ot bu nF nG (fun Ld Kh agK agL=>?_);refine OD.perm (Pz (S1:=[⟨Ld,41,Kh*3,flatMap cV (I++[(t.rows[(E[i]'aa).toNat]'pQ)[(acc[j]'lR).toNat]])⟩]) (A:=[_,_,_,_,_])) ?_;refine an 135 [2,4,6,14,16,17,103,104,105,109,110,111] ?_;refine cl [2,4,6,14,16,17,103,104,105,109,110,111] ?_;refine⟨((j+1),(I++[(t.rows[(E[i]'aa).toNat]'pQ)[(acc[j]'lR).toNat]]),(some ⟨Ld,0,none⟩),Kh,[⟨Ld,41,Kh*3,flatMap cV (I++[(t.rows[(E[i]'aa).toNat]'pQ)[(acc[j]'lR).toNat]])⟩]),_,cD,aM,w4,(by rw[Kg,←agJ,←pS lR,map_append];rfl),(bJ agK agL),rfl⟩
  have vp:(L++[(⟨I,iz,iA,Sy⟩:cj)]).map cj.r=(E.take (i+1)).map (zB t acc):=(by rw[map_append,hL,←pS aa,map_append];congr 1;show[I]=[zB t acc (E[i]'aa)];rw[Kg,take_of_length_le w4];rfl)
  have jK:∀o∈L++[(⟨I,iz,iA,Sy⟩:cj)],nK o:=fun o ho=>by rcases mem_append.1 ho with ho|ho;exact aT o ho;rw[mem_singleton] at ho;subst ho;exact Dx
  refine dQ 3 ?_;refine en (bZ 0 [_]) [.slice none 0 0] [_] zeroValue28 runUnderlying34 sizeOf28 (fun aoQ=>?_);refine fB 0 130 1 1 ?_;refine OD.ev (ls:=L) (new:=[(⟨I,iz,iA,Sy⟩:cj)]) (Sq:=Sx) uI Tg ap rfl rfl underlying34 Y2 rfl w7 ot er (sV (A:=[_,_,_,_,_])) ot bu nF nG (fun F9 Fx agM agN=>?_);refine OD.perm (vP (S2:=[⟨F9,28,Fx*1,flatMap gR (L++[(⟨I,iz,iA,Sy⟩:cj)])⟩]) (A:=[_,_,_,_,_])) ?_;refine OD.perm (S':=⟨Ac,36,2,[aN dW L.length dK,ae (E.length:Nat)]⟩::⟨kx,3,1,[ae (on:Nat)]⟩::⟨b4,36,2,[bB,ae 0]⟩::⟨b3,32,12,bY s⟩::⟨b2,53,5,dA t⟩::([⟨F9,28,Fx*1,flatMap gR (L++[(⟨I,iz,iA,Sy⟩:cj)])⟩]++(L++[(⟨I,iz,iA,Sy⟩:cj)]).flatMap bR)) (iE fun ja=>by simp only[map_append,map_cons,map_nil,sum_append,sum_cons,sum_nil,agI];omega) ?_;refine aE 1 ?_;refine aK 0 [_,_] sizeOf34 ?_;refine an 135 [2,4,6,14,103,104,105] ?_;refine cl [2,4,6,14,103,104,105] ?_;refine⟨((i+1),(L++[(⟨I,iz,iA,Sy⟩:cj)]),(some ⟨F9,0,none⟩),Fx,[⟨F9,28,Fx*1,flatMap gR (L++[(⟨I,iz,iA,Sy⟩:cj)])⟩]),_,cD,aM,w4,vp,jK,(bJ agM agN),rfl⟩
 have oW:L.map cj.r=E.map (zB t acc):=(by rw[hL,take_of_length_le w4])
 refine aC 1 ?_;refine aK 2 [_,_] sizeOf36 ?_;refine an 135 [4,5] ?_;refine aI (Sx++L.flatMap bR) ?_;rw[aV];exact⟨L,dW,dK,Sx,rfl,er,aT,oW,rfl⟩

abbrev gQ(bo:Nat)(ad:Option Addr)(n cap:Nat):ah:=⟨bo,25,1,[aN ad n cap]⟩
def gJ(s:cx):aQ:=⟨s.table,s.ay,[],sg⟩
def wX(s:cx):aS:=⟨gJ s,[],none,0,[],[]⟩
theorem adS(s:cx):pN (wX s):=⟨[],rfl,rfl,(fun o h=>by cases h),rfl,iK⟩
def pR(l:List aQ)(s:cx):List aQ×Int:=if 0≤bz l s.table then (l,9) else if l.length=4 then (l,10) else (l++[gJ s],0)
def Fy(l:List aQ)(bo:Nat)(S:List ah):Prop:=∃(L:List aS) (ad:Option Addr) (cap:Nat) (Sx:List ah),wU L ad cap Sx∧(∀o∈L,okW o)∧L.map aS.t=l∧S.Perm (gQ bo ad L.length cap::(Sx++L.flatMap bT))
theorem Y4:(Tryz.prog.info? 53).map (fun i=>(i.zero,i.size,i.bytes))=some (some (.agg #[.string ⟨#[]⟩,.slice none 0 0,.slice none 0 0,.slice none 0 0,.int .i64 0]),5,96):=by kernel_rfl
theorem aau(L:List aS)(aT:∀o∈L,pN o)(hL:L.length≤4)(s:cx)(lp:s.ay.length≤1000)(bo:Nat)(ad:Option Addr)(cap:Nat)(Sx:List ah)(O:wU L ad cap Sx):VC Tryz.prog G 41 [dJ bo,.agg (bY s)] (gQ bo ad L.length cap::(Sx++L.flatMap bT)) (fun r S=>r=ae (pR (L.map aS.t) s).2∧((pR (L.map aS.t) s).2=0→Fy (pR (L.map aS.t) s).1 bo S)):=by
 refine VC.body func41 rfl ntmps41 aO fun X0 w0 aY=>?_;have dy:=dY;have U:=fun o ho=>(aT o ho).w;have fR:=qI (G:=G) (L.map aS.t) FC s.table;unfold ax at fR;rw[length_map] at fR;unfold bY;refine cf ?_;refine OD.box (ds:=[_,_,_,_,_,_,_,_,_,_,_,_]) ap rfl rfl ot rfl rfl (fun b3=>?_);refine an 37 [0,3] ?_;refine cR [0,3,5] ?_;refine nj 6 ?_;refine zk (fR) (ha:=by exact⟨⟨_,ot,(E5 O U (fun B hB=>by repeat (first|exact hB|apply mem_append_right|apply mem_cons_of_mem)))⟩,⟨_,ot,eP⟩,trivial⟩) (K:=?_);refine bH ?_;refine au ?_ ?_<;>intro aP bF
 ·have h0:0≤bz (L.map aS.t) s.table:=(by simpa using aP)
  have aV:pR (L.map aS.t) s=(L.map aS.t,9):=if_pos h0;refine af [4] ?_;exact z51
 have h0:¬0≤bz (L.map aS.t) s.table:=(by simpa using aP)
 refine af [0,3,14] ?_;refine au ?_ ?_<;>intro aX cJ
 ·have h4:L.length=4:=(by have:=aX;simp at this;omega)
  have aV:pR (L.map aS.t) s=(L.map aS.t,10):=(by unfold pR;rw[if_neg h0,if_pos (by rw[length_map];exact h4)])
  refine af [4] ?_;exact z51
 have h4:¬L.length=4:=(by have:=aX;simp at this;omega)
 have aV:pR (L.map aS.t) s=(L.map aS.t++[gJ s],0):=(by unfold pR;rw[if_neg h0,if_neg (by rw[length_map];exact h4)])
 have ng:=ae0 (G:=G);refine CD.skip ?_;refine CD.seq ?_;refine l9 13 [21,25,33] ?_;refine cZ (O0 s.ay w4) ?_;refine cZ (ng) ?_;refine bH ?_;refine OD.ev (ls:=L) (new:=[wX s]) (Sq:=Sx) uC Th ap rfl rfl underlying23 Y4 rfl w7 ot O (ow (A:=[_,_])) ot bu nF nG (fun I E Z ajw=>?_);refine OD.perm (jg (S1:=[⟨I,53,E*5,flatMap gT (L++[wX s])⟩]) (A:=[_,_])) ?_;refine aE 2 ?_;refine aK 1 [_] sizeOf23 ?_;refine an 37 [] ?_;refine af [4] ?_;refine aI (⟨bo,25,1,[_]⟩::([⟨I,53,E*5,flatMap gT (L++[wX s])⟩]++L.flatMap bT)) ?_;rw[aV];exact⟨rfl,fun _=>⟨L++[wX s],some ⟨I,0,none⟩,E,[⟨I,53,E*5,flatMap gT (L++[wX s])⟩],bJ Z ajw,(fun o ho=>by rcases mem_append.1 ho with ho|ho;exact U o ho;rw[mem_singleton] at ho;subst ho;exact(adS s).w),by rw[map_append];rfl,by rw[RY,show bT (wX s)=[] from rfl,append_nil]⟩⟩

noncomputable def gD(l:List aQ)(s:cx):List aQ×((List (List Vl)×Int)×Int) :=
 if s.kind=1 then ((pR l s).1,(([],0),(pR l s).2))
 else if bz l s.table<0 then (l,(([],0),8))
 else if s.kind=3 then (l.set (bz l s.table).toNat (gl (l.getD (bz l s.table).toNat (gJ s)) s.row).1,(([],1),(gl (l.getD (bz l s.table).toNat (gJ s)) s.row).2))
 else if s.kind=4 then (l,mB (l.getD (bz l s.table).toNat (gJ s)) s)
 else if s.kind=5 then (l.set (bz l s.table).toNat (gS (l.getD (bz l s.table).toNat (gJ s)) s).1,(([],(gS (l.getD (bz l s.table).toNat (gJ s)) s).2.1),(gS (l.getD (bz l s.table).toNat (gJ s)) s).2.2))
 else (l.set (bz l s.table).toNat (mu (l.getD (bz l s.table).toNat (gJ s)) s.aj).1,(([],(mu (l.getD (bz l s.table).toNat (gJ s)) s.aj).2.1),(mu (l.getD (bz l s.table).toNat (gJ s)) s.aj).2.2))
theorem N7:∀(c:List D) {S:List ah},gq S c c
 | [],_=>trivial
 | _::c,_=>⟨eP,N7 c⟩
theorem acd(L:List aS)(h:i<L.length):L.flatMap gT=(L.take i).flatMap gT++(gT L[i]++(L.drop (i+1)).flatMap gT):=by
 conv=>lhs;rw[←take_append_drop i L,drop_eq_getElem_cons h]
 rw[flatMap_append,flatMap_cons]
theorem afm(L:List aS)(h:i<L.length)(o:aS):(L.set i o).flatMap gT=(L.take i).flatMap gT++(gT o++(L.drop (i+1)).flatMap gT):=by
 rw[set_eq_take_append_cons_drop,if_pos h,flatMap_append,flatMap_cons]
theorem JK(f:ah→Nat):∀(L:List aS) (i:Nat) (o:aS) (h:i<L.length),(((L.set i o).flatMap bT).map f).sum=((bT o).map f).sum+(((L.eraseIdx i).flatMap bT).map f).sum
 | [],_,_,h=>absurd h (Nat.not_lt_zero _)
 | x::L,0,o,_=>by simp
 | x::L,i+1,o,h=>by
  have:=JK f L i o (Nat.lt_of_succ_lt_succ h);simp only[set_cons_succ,flatMap_cons,map_append,sum_append,eraseIdx_cons_succ,this];omega
theorem HX{A:List ah}{L:List aS}{bx z:Nat}(h:i<L.length):(A++([(⟨bx,53,z,L.flatMap gT⟩:ah)]++L.flatMap bT)).Perm (A++((⟨bx,53,z,(L.take i).flatMap gT++(gT L[i]++(L.drop (i+1)).flatMap gT)⟩:ah)::(bT L[i]++(L.eraseIdx i).flatMap bT))):=by
 rw[←acd L h];exact iE fun f=>by
  have:=JK f L i L[i] h;rw[set_getElem_self] at this;simp only[map_cons,sum_cons,map_append,sum_append,map_nil,sum_nil,this];omega
theorem Jn{L:List aS}{bx E:Nat}(h:i<L.length)(h1:L.length≤cap)(h2:cap≤maxLen)(aT:∀o∈L,okW o){o:aS}(ho:okW o)(hS:S.Perm (gQ E (some ⟨bx,0,none⟩) L.length cap::((⟨bx,53,cap*5,(L.take i).flatMap gT++(gT o++(L.drop (i+1)).flatMap gT)⟩::bT o)++(L.eraseIdx i).flatMap bT))):Fy ((L.map aS.t).set i o.t) E S:=by
 refine⟨L.set i o,some ⟨bx,0,none⟩,cap,[⟨bx,53,cap*5,(L.set i o).flatMap gT⟩],bJ (by rw[length_set];exact h1) h2,fun x hx=>?_,by rw[map_set],?_⟩
 ·rcases mem_or_eq_of_mem_set hx with hx|hx
  ·exact aT x hx
  rw[hx];exact ho
 rw[length_set,afm L h];refine hS.trans (iE fun f=>?_);have:=JK f L i o h;simp only[map_cons,sum_cons,map_append,sum_append,map_nil,sum_nil,this];omega
theorem Sk(h:u5 t ad cap E):okW ⟨t,t.rows.flatMap iw,ad,cap,E,[]⟩:=⟨h,fun S _=>N7 _⟩
theorem ace(h:F5 t L ad cap E):okW ⟨t,L.flatMap gR,ad,cap,E,L.flatMap bR⟩:=pN.w ⟨L,rfl,rfl,h.2.1,h.1,h.2.2⟩
theorem N8{o:aS}(h:pN o):∃U,u5 o.t o.ad o.cap U∧∀(n:Nat) (env:List (Nat×D)) (A R:List ah),Wk ⟨n,env,A++(bT o++R)⟩ ⟨n,env,A++(U++R)⟩:=by
 obtain⟨L,h1,h2,h3,h4,h5⟩:=h;have Z:=EM (S:=L.flatMap bR) h3 (fun B h=>h);have E:L.length=o.t.rows.length:=(by rw[←h4,length_map])
 rcases h5 with ⟨e1,e2,I,O,e5⟩|⟨b,e1,e2,I,O⟩
 ·have hL:L=[]:=length_eq_zero_iff.1 e1;subst hL;have hr:o.t.rows=[]:=(by rw[←h4];rfl)
  refine⟨[],.inl ⟨by rw[hr];rfl,by rw[hr];rfl,I,O,rfl⟩,fun n env A R=>?_⟩;have hb:bT o=[]:=(by unfold bT;rw[e5,h2];rfl)
  rw[hb];exact Wk.refl _
 refine⟨[⟨b,28,o.cap*1,o.t.rows.flatMap iw⟩],.inr ⟨b,e1,by rw[←E];exact e2,I,rfl⟩,fun n env A R=>?_⟩;have hb:bT o=⟨b,28,o.cap*1,L.flatMap gR⟩::L.flatMap bR:=(by unfold bT;rw[O,h2];rfl)
 rw[hb,←h4];have hc:=Wk.cover (n:=n) (l:=env) (S:=A++((⟨b,28,o.cap*1,L.flatMap gR⟩::L.flatMap bR)++R)) (A:=⟨b,28,o.cap*1,L.flatMap gR⟩) (R:=A++R) (Sd:=L.flatMap bR) (cs':=(L.map cj.r).flatMap iw) (iE fun f=>by simp only[map_cons,sum_cons,map_append,sum_append,map_nil,sum_nil];omega) Z;refine hc.trans (Wk.perm (iE fun f=>by simp only[map_cons,sum_cons,map_append,sum_append,map_nil,sum_nil];omega))
theorem afn(hm:(3,marksC)∈G)(hw:(1,wordsC)∈G)(ht:(0,typesC)∈G)(hG:(2,[Value.int .i64 m])∈G)(L:List aS)(aT:∀o∈L,pN o)(hL:L.length≤4)(hg:∀o∈L,∃n,n≤260∧eV o.t n)(s:cx)(fu:¬s.kind=2)(lp:s.ay.length≤1000)(rD:s.row.length≤1000)(KV:∀v∈s.row,v.Ok)(sF:s.names.length≤1000)(ho:∀o∈s.aj,o.nm.size≤maxLen)(fN:∀o∈s.aj,o.v.Ok)(qB:∀o∈s.bS,o.nm.size≤maxLen)(F7:∀o∈s.bS,o.v.Ok)(I:Nat)(ad:Option Addr)(cap:Nat)(Sx:List ah)(Z:wU L ad cap Sx):VC Tryz.prog G 27 [dJ I,.agg (bY s)] (gQ I ad L.length cap::(Sx++L.flatMap bT)) (fun r S=>r=As (gD (L.map aS.t) s).2∧((gD (L.map aS.t) s).2.2=0→Fy (gD (L.map aS.t) s).1 I S)):=by
 refine VC.body func27 rfl ntmps27 aO fun X0 w0 aY=>?_;have dy:=dY;have O:=fun o ho=>(aT o ho).w;have fR:=qI (G:=G) (L.map aS.t) FC s.table;unfold ax at fR;rw[length_map] at fR;have vk:=yB (fun t:aQ=>t.nm.toList==s.table.toList) (L.map aS.t);rw[show dS (fun t:aQ=>t.nm.toList==s.table.toList) (L.map aS.t)=(bz (L.map aS.t) s.table) from rfl,length_map] at vk;refine cf ?_;refine OD.box (ds:=[_,_,_,_,_,_,_,_,_,_,_,_]) ap rfl rfl ot rfl rfl (fun b3=>?_);refine OD.alloc (ds:=[_,_]) ap rfl rfl zeroValue36 rfl (fun b4=>?_);refine aE 1 ?_;first|refine OD.cells (k:=0) (cs':=[.list 1 [] 0,_]) rfl ⟨eB,cN,trivial⟩ rfl ?_|skip
 refine an 87 [0,3,4] ?_;refine af [0,3,4,14] ?_;refine au ?_ ?_<;>intro aP bF
 ·have dM:s.kind=1:=(by simpa using aP)
  have aV:gD (L.map aS.t) s=((pR (L.map aS.t) s).1,(([],0),(pR (L.map aS.t) s).2)):=(by unfold gD;rw[if_pos dM])
  refine aC 3 ?_;refine OD.call (Sf:=gQ I ad L.length cap::(Sx++L.flatMap bT)) (R:=[⟨b4,36,2,[.list 1 [] 0,ae 0]⟩,⟨b3,32,12,bY s⟩]) ap rfl rfl rfl call41 (aau L aT hL s lp I ad cap Sx Z) ⟨ot,ot,trivial⟩ (show(⟨b4,36,2,[.list 1 [] 0,ae 0]⟩::⟨b3,32,12,bY s⟩::gQ I ad L.length cap::(Sx++L.flatMap bT):List ah).Perm (gQ I ad L.length cap::(Sx++L.flatMap bT)++[⟨b4,36,2,[.list 1 [] 0,ae 0]⟩,⟨b3,32,12,bY s⟩]) from(iE fun ja=>by simp only[map_append,map_cons,map_nil,sum_append,sum_cons,sum_nil];omega)) ?_;rintro _ U ⟨rfl,h9⟩;refine OD.perm (S':=⟨b4,36,2,[.list 1 [] 0,ae 0]⟩::⟨b3,32,12,bY s⟩::U) (show(U++[⟨b4,36,2,[.list 1 [] 0,ae 0]⟩,⟨b3,32,12,bY s⟩]:List ah).Perm _ from(iE fun ja=>by simp only[map_append,map_cons,map_nil,sum_append,sum_cons,sum_nil];omega)) ?_;refine aK 0 [_,_] sizeOf36 ?_;refine aE 1 ?_;first|refine OD.cells (k:=0) (cs':=[.list 1 [] 0,_]) rfl ⟨eB,cN,trivial⟩ rfl ?_|skip
  refine an 87 [4,5] ?_;refine aI U ?_;rw[aV];exact⟨rfl,fun h=>h9 h⟩
 have dM:¬s.kind=1:=(by simpa using aP)
 refine cR [0,3,4,6] ?_;refine nj 6 ?_;refine zk (fR) (ha:=by exact⟨⟨_,ot,(E5 Z O (fun B hB=>by repeat (first|exact hB|apply mem_append_right|apply mem_cons_of_mem)))⟩,⟨_,ot,eP⟩,trivial⟩) (K:=?_);refine bH ?_;refine af [0,3,4,6,27] ?_;refine au ?_ ?_<;>intro aX cJ
 ·have h0:(bz (L.map aS.t) s.table)<0:=(by simpa using aX)
  have aV:gD (L.map aS.t) s=(L.map aS.t,(([],0),8)):=(by unfold gD;rw[if_neg dM,if_pos h0])
  refine aC 1 ?_;refine aK 0 [_,_] sizeOf36 ?_;refine aE 1 ?_;first|refine OD.cells (k:=0) (cs':=[.list 1 [] 0,_]) rfl ⟨eB,cN,trivial⟩ rfl ?_|skip
  refine an 87 [4,5] ?_;exact z51
 have h0:¬(bz (L.map aS.t) s.table)<0:=(by simpa using aX)
 have E:(bz (L.map aS.t) s.table).toNat<L.length:=(by omega)
 obtain⟨bx,rfl,jb,oT,rfl⟩:=Z.pos w4;have kN:(L.map aS.t).getD (bz (L.map aS.t) s.table).toNat (gJ s)=(L[(bz (L.map aS.t) s.table).toNat]'E).t:=(by rw[getD_eq_getElem?_getD,getElem?_map,getElem?_eq_getElem E];rfl)
 refine cR [0,3,4,6,7] ?_;refine aR 5 ?_ (h:=by exact(dF 5 (h:=by first|exact .l (j:=(bz (L.map aS.t) s.table).toNat) (Int.toNat_of_nonneg w4).symm E|exact .r (j:=(bz (L.map aS.t) s.table).toNat) (Int.toNat_of_nonneg w4).symm E)));refine bH ?_;refine af [0,3,4,6,7,36] ?_;refine af [0,3,4,6,7,36,37] ?_;refine au ?_ ?_<;>intro cr cU
 ·exact absurd cr (by exact absurd (by simpa using cr) fu)
 refine af [3,4,7,36,51] ?_;refine au ?_ ?_<;>intro cX ec
 ·have lP:s.kind=3:=(by simpa using cX)
  have aV:gD (L.map aS.t) s=((L.map aS.t).set (bz (L.map aS.t) s.table).toNat (gl (L[(bz (L.map aS.t) s.table).toNat]'E).t s.row).1,(([],1),(gl (L[(bz (L.map aS.t) s.table).toNat]'E).t s.row).2)):=(by unfold gD;rw[kN,if_neg dM,if_neg h0,if_pos lP])
  obtain⟨n,hn,g⟩:=hg (L[(bz (L.map aS.t) s.table).toNat]'E) (getElem_mem E);obtain⟨Sg,Nj,jD⟩:=N8 (aT (L[(bz (L.map aS.t) s.table).toNat]'E) (getElem_mem E));refine CD.perm (HX (A:=[_,_,_]) E) ?_;refine CD.wk (jD _ _ [_,_,_,_] _) ?_;refine aC 4 ?_
  refine OD.call (Sf:=(⟨bx,53,cap*5,(L.take (bz (L.map aS.t) s.table).toNat).flatMap gT++(gT (L[(bz (L.map aS.t) s.table).toNat]'E)++(L.drop ((bz (L.map aS.t) s.table).toNat+1)).flatMap gT)⟩:ah)::Sg) (R:=⟨b4,36,2,[.list 1 [] 0,ae 0]⟩::⟨b3,32,12,bY s⟩::gQ I (some ⟨bx,0,none⟩) L.length cap::((L.eraseIdx (bz (L.map aS.t) s.table).toNat).flatMap bT)) ap rfl rfl rfl call43 (HS hm hw ht hG (L[(bz (L.map aS.t) s.table).toNat]'E).t g w4 s.row rD KV bx (0+(bz (L.map aS.t) s.table).toNat*5) (cap*5) ((L.take (bz (L.map aS.t) s.table).toNat).flatMap gT) ((L.drop ((bz (L.map aS.t) s.table).toNat+1)).flatMap gT) Kj (L[(bz (L.map aS.t) s.table).toNat]'E).ad (L[(bz (L.map aS.t) s.table).toNat]'E).cap Sg Nj) ⟨ot,ot,trivial⟩ (show(⟨b4,36,2,[.list 1 [] 0,ae 0]⟩::⟨b3,32,12,bY s⟩::gQ I (some ⟨bx,0,none⟩) L.length cap::(⟨bx,53,cap*5,(L.take (bz (L.map aS.t) s.table).toNat).flatMap gT++(gT (L[(bz (L.map aS.t) s.table).toNat]'E)++(L.drop ((bz (L.map aS.t) s.table).toNat+1)).flatMap gT)⟩:ah)::(Sg++(L.eraseIdx (bz (L.map aS.t) s.table).toNat).flatMap bT):List ah).Perm (((⟨bx,53,cap*5,(L.take (bz (L.map aS.t) s.table).toNat).flatMap gT++(gT (L[(bz (L.map aS.t) s.table).toNat]'E)++(L.drop ((bz (L.map aS.t) s.table).toNat+1)).flatMap gT)⟩:ah)::Sg)++(⟨b4,36,2,[.list 1 [] 0,ae 0]⟩::⟨b3,32,12,bY s⟩::gQ I (some ⟨bx,0,none⟩) L.length cap::((L.eraseIdx (bz (L.map aS.t) s.table).toNat).flatMap bT))) from(iE fun ja=>by simp only[map_append,map_cons,map_nil,sum_append,sum_cons,sum_nil];omega)) ?_
  rintro _ U ⟨rfl,h9⟩;refine OD.perm (S':=⟨b4,36,2,[.list 1 [] 0,ae 0]⟩::⟨b3,32,12,bY s⟩::gQ I (some ⟨bx,0,none⟩) L.length cap::(U++(L.eraseIdx (bz (L.map aS.t) s.table).toNat).flatMap bT)) (show(U++(⟨b4,36,2,[.list 1 [] 0,ae 0]⟩::⟨b3,32,12,bY s⟩::gQ I (some ⟨bx,0,none⟩) L.length cap::((L.eraseIdx (bz (L.map aS.t) s.table).toNat).flatMap bT)):List ah).Perm _ from(iE fun ja=>by simp only[map_append,map_cons,map_nil,sum_append,sum_cons,sum_nil];omega)) ?_;refine aK 0 [_,_] sizeOf36 ?_;refine aE 1 ?_;first|refine OD.cells (k:=0) (cs':=[.list 1 [] 0,_]) rfl ⟨eB,cN,trivial⟩ rfl ?_|skip
  refine an 87 [4,5] ?_;refine aI (gQ I (some ⟨bx,0,none⟩) L.length cap::(U++(L.eraseIdx (bz (L.map aS.t) s.table).toNat).flatMap bT)) ?_;rw[aV];refine⟨rfl,fun h=>?_⟩;obtain⟨nJ,ku,oo,Le,rfl⟩:=h9 h;exact Jn E jb oT O (Sk Le) (by rw[show bT (⟨_,_,nJ,ku,oo,[]⟩:aS)=oo from append_nil _];exact Perm.refl _)
 have lP:¬s.kind=3:=(by simpa using cX)
 refine af [3,4,7,36,58] ?_;refine au ?_ ?_<;>intro ew fp
 ·have xB:s.kind=4:=(by simpa using ew)
  have aV:gD (L.map aS.t) s=(L.map aS.t,(mB (L[(bz (L.map aS.t) s.table).toNat]'E).t s)):=(by unfold gD;rw[kN,if_neg dM,if_neg h0,if_neg lP,if_pos xB])
  obtain⟨n,hn,g⟩:=hg (L[(bz (L.map aS.t) s.table).toNat]'E) (getElem_mem E);refine CD.seq ?_;refine l9 7 [4,65,66] ?_;refine aR 2 ?_ (h:=by exact(cM (mk:=Op.load 53) rfl ot (dN (k:=3) (i:=(bz (L.map aS.t) s.table).toNat) (ls:=L) uC rfl rfl rfl isAgg53 sizeOf53 E)));refine nj 1 ?_;refine zj (adR hm hw ht hG (L[(bz (L.map aS.t) s.table).toNat]'E).t g s sF ho fN) (fun r S h=>h.flat) (fun r S h=>(by have h9:=h.view;unfold As at h9;exact h9)) (ha:=by exact⟨⟨_,ot,(RV (O _ (getElem_mem E)) (fun B hB=>by have h9:=mem_flatMap.2 ⟨_,getElem_mem E,hB⟩;repeat (first|exact h9|apply mem_append_right|apply mem_cons_of_mem)):View _ (.agg (gT (L[(bz (L.map aS.t) s.table).toNat]'E))) _)⟩,⟨_,ot,eP⟩,trivial⟩) (K:=?_);refine bH ?_;refine aK 0 [_,_] sizeOf36 ?_;refine aE 1 ?_;first|refine OD.cells (k:=0) (cs':=[.list 1 [] 0,_]) rfl ⟨eB,cN,trivial⟩ rfl ?_|skip
  refine an 87 [4,5] ?_;refine aI (gQ I (some ⟨bx,0,none⟩) L.length cap::([⟨bx,53,cap*5,L.flatMap gT⟩]++L.flatMap bT)) ?_;rw[aV];exact⟨rfl,fun _=>⟨L,_,cap,_,Z,O,rfl,Perm.refl _⟩⟩
 have xB:¬s.kind=4:=(by simpa using ew)
 refine af [3,4,7,67] ?_;refine au ?_ ?_<;>intro fm gv
 ·have CU:s.kind=5:=(by simpa using fm)
  have aV:gD (L.map aS.t) s=((L.map aS.t).set (bz (L.map aS.t) s.table).toNat (gS (L[(bz (L.map aS.t) s.table).toNat]'E).t s).1,(([],(gS (L[(bz (L.map aS.t) s.table).toNat]'E).t s).2.1),(gS (L[(bz (L.map aS.t) s.table).toNat]'E).t s).2.2)):=(by unfold gD;rw[kN,if_neg dM,if_neg h0,if_neg lP,if_neg xB,if_pos CU])
  obtain⟨n,hn,g⟩:=hg (L[(bz (L.map aS.t) s.table).toNat]'E) (getElem_mem E);obtain⟨LR,q1,q2,q3,q4,q5⟩:=aT (L[(bz (L.map aS.t) s.table).toNat]'E) (getElem_mem E);refine CD.perm (HX (A:=[_,_,_]) E) ?_;refine aC 2 ?_
  refine OD.call (Sf:=(⟨bx,53,cap*5,(L.take (bz (L.map aS.t) s.table).toNat).flatMap gT++(gT (L[(bz (L.map aS.t) s.table).toNat]'E)++(L.drop ((bz (L.map aS.t) s.table).toNat+1)).flatMap gT)⟩:ah)::((L[(bz (L.map aS.t) s.table).toNat]'E).sr++LR.flatMap bR)) (R:=⟨b4,36,2,[.list 1 [] 0,ae 0]⟩::⟨b3,32,12,bY s⟩::gQ I (some ⟨bx,0,none⟩) L.length cap::((L.eraseIdx (bz (L.map aS.t) s.table).toNat).flatMap bT)) ap rfl rfl rfl call45 (aat hm hw ht hG (L[(bz (L.map aS.t) s.table).toNat]'E).t g s ho fN qB F7 hn bx (0+(bz (L.map aS.t) s.table).toNat*5) (cap*5) ((L.take (bz (L.map aS.t) s.table).toNat).flatMap gT) ((L.drop ((bz (L.map aS.t) s.table).toNat+1)).flatMap gT) Kj LR (L[(bz (L.map aS.t) s.table).toNat]'E).ad (L[(bz (L.map aS.t) s.table).toNat]'E).cap (L[(bz (L.map aS.t) s.table).toNat]'E).sr q4 q3 q5) ⟨ot,ot,trivial⟩ (show(⟨b4,36,2,[.list 1 [] 0,ae 0]⟩::⟨b3,32,12,bY s⟩::gQ I (some ⟨bx,0,none⟩) L.length cap::(⟨bx,53,cap*5,(L.take (bz (L.map aS.t) s.table).toNat).flatMap gT++(gT (L[(bz (L.map aS.t) s.table).toNat]'E)++(L.drop ((bz (L.map aS.t) s.table).toNat+1)).flatMap gT)⟩:ah)::((bT (L[(bz (L.map aS.t) s.table).toNat]'E))++(L.eraseIdx (bz (L.map aS.t) s.table).toNat).flatMap bT):List ah).Perm (((⟨bx,53,cap*5,(L.take (bz (L.map aS.t) s.table).toNat).flatMap gT++(gT (L[(bz (L.map aS.t) s.table).toNat]'E)++(L.drop ((bz (L.map aS.t) s.table).toNat+1)).flatMap gT)⟩:ah)::((L[(bz (L.map aS.t) s.table).toNat]'E).sr++LR.flatMap bR))++(⟨b4,36,2,[.list 1 [] 0,ae 0]⟩::⟨b3,32,12,bY s⟩::gQ I (some ⟨bx,0,none⟩) L.length cap::((L.eraseIdx (bz (L.map aS.t) s.table).toNat).flatMap bT))) from by rw[show bT (L[(bz (L.map aS.t) s.table).toNat]'E)=((L[(bz (L.map aS.t) s.table).toNat]'E).sr++LR.flatMap bR) from by unfold bT;rw[q2]];exact(iE fun ja=>by simp only[map_append,map_cons,map_nil,sum_append,sum_cons,sum_nil];omega)) ?_
  rintro _ U ⟨rfl,h9⟩;refine OD.perm (S':=⟨b4,36,2,[.list 1 [] 0,ae 0]⟩::⟨b3,32,12,bY s⟩::gQ I (some ⟨bx,0,none⟩) L.length cap::(U++(L.eraseIdx (bz (L.map aS.t) s.table).toNat).flatMap bT)) (show(U++(⟨b4,36,2,[.list 1 [] 0,ae 0]⟩::⟨b3,32,12,bY s⟩::gQ I (some ⟨bx,0,none⟩) L.length cap::((L.eraseIdx (bz (L.map aS.t) s.table).toNat).flatMap bT)):List ah).Perm _ from(iE fun ja=>by simp only[map_append,map_cons,map_nil,sum_append,sum_cons,sum_nil];omega)) ?_;refine an 87 [4,8,9] ?_;refine aC 3 ?_;refine aK 0 [_,_] sizeOf36 ?_;refine aE 1 ?_;first|refine OD.cells (k:=0) (cs':=[.list 1 [] 0,_]) rfl ⟨eB,cN,trivial⟩ rfl ?_|skip
  refine an 87 [4,5] ?_;refine aI (gQ I (some ⟨bx,0,none⟩) L.length cap::(U++(L.eraseIdx (bz (L.map aS.t) s.table).toNat).flatMap bT)) ?_;rw[aV];refine⟨rfl,fun h=>?_⟩;obtain⟨L',nJ,ku,oo,ajx,rfl⟩:=h9 h;exact Jn E jb oT O (ace ajx) (Perm.refl _)
 have CU:¬s.kind=5:=(by simpa using fm)
 have aV:gD (L.map aS.t) s=((L.map aS.t).set (bz (L.map aS.t) s.table).toNat (mu (L[(bz (L.map aS.t) s.table).toNat]'E).t s.aj).1,(([],(mu (L[(bz (L.map aS.t) s.table).toNat]'E).t s.aj).2.1),(mu (L[(bz (L.map aS.t) s.table).toNat]'E).t s.aj).2.2)):=(by unfold gD;rw[kN,if_neg dM,if_neg h0,if_neg lP,if_neg xB,if_neg CU])
 obtain⟨n,hn,g⟩:=hg (L[(bz (L.map aS.t) s.table).toNat]'E) (getElem_mem E);obtain⟨Sg,Nj,jD⟩:=N8 (aT (L[(bz (L.map aS.t) s.table).toNat]'E) (getElem_mem E));refine CD.perm (HX (A:=[_,_,_]) E) ?_;refine CD.wk (jD _ _ [_,_,_,_] _) ?_;refine aC 2 ?_
 refine OD.call (Sf:=(⟨bx,53,cap*5,(L.take (bz (L.map aS.t) s.table).toNat).flatMap gT++(gT (L[(bz (L.map aS.t) s.table).toNat]'E)++(L.drop ((bz (L.map aS.t) s.table).toNat+1)).flatMap gT)⟩:ah)::Sg) (R:=⟨b4,36,2,[.list 1 [] 0,ae 0]⟩::⟨b3,32,12,bY s⟩::gQ I (some ⟨bx,0,none⟩) L.length cap::((L.eraseIdx (bz (L.map aS.t) s.table).toNat).flatMap bT)) ap rfl rfl rfl call46 (aaq hm hw ht hG (L[(bz (L.map aS.t) s.table).toNat]'E).t g s ho fN bx (0+(bz (L.map aS.t) s.table).toNat*5) (cap*5) ((L.take (bz (L.map aS.t) s.table).toNat).flatMap gT) ((L.drop ((bz (L.map aS.t) s.table).toNat+1)).flatMap gT) Kj (L[(bz (L.map aS.t) s.table).toNat]'E).ad (L[(bz (L.map aS.t) s.table).toNat]'E).cap Sg Nj) ⟨ot,ot,trivial⟩ (show(⟨b4,36,2,[.list 1 [] 0,ae 0]⟩::⟨b3,32,12,bY s⟩::gQ I (some ⟨bx,0,none⟩) L.length cap::(⟨bx,53,cap*5,(L.take (bz (L.map aS.t) s.table).toNat).flatMap gT++(gT (L[(bz (L.map aS.t) s.table).toNat]'E)++(L.drop ((bz (L.map aS.t) s.table).toNat+1)).flatMap gT)⟩:ah)::(Sg++(L.eraseIdx (bz (L.map aS.t) s.table).toNat).flatMap bT):List ah).Perm (((⟨bx,53,cap*5,(L.take (bz (L.map aS.t) s.table).toNat).flatMap gT++(gT (L[(bz (L.map aS.t) s.table).toNat]'E)++(L.drop ((bz (L.map aS.t) s.table).toNat+1)).flatMap gT)⟩:ah)::Sg)++(⟨b4,36,2,[.list 1 [] 0,ae 0]⟩::⟨b3,32,12,bY s⟩::gQ I (some ⟨bx,0,none⟩) L.length cap::((L.eraseIdx (bz (L.map aS.t) s.table).toNat).flatMap bT))) from(iE fun ja=>by simp only[map_append,map_cons,map_nil,sum_append,sum_cons,sum_nil];omega)) ?_
 rintro _ U ⟨rfl,h9⟩;refine OD.perm (S':=⟨b4,36,2,[.list 1 [] 0,ae 0]⟩::⟨b3,32,12,bY s⟩::gQ I (some ⟨bx,0,none⟩) L.length cap::(U++(L.eraseIdx (bz (L.map aS.t) s.table).toNat).flatMap bT)) (show(U++(⟨b4,36,2,[.list 1 [] 0,ae 0]⟩::⟨b3,32,12,bY s⟩::gQ I (some ⟨bx,0,none⟩) L.length cap::((L.eraseIdx (bz (L.map aS.t) s.table).toNat).flatMap bT)):List ah).Perm _ from(iE fun ja=>by simp only[map_append,map_cons,map_nil,sum_append,sum_cons,sum_nil];omega)) ?_;refine an 87 [4,10,11] ?_;refine aC 3 ?_;refine aK 0 [_,_] sizeOf36 ?_;refine aE 1 ?_;first|refine OD.cells (k:=0) (cs':=[.list 1 [] 0,_]) rfl ⟨eB,cN,trivial⟩ rfl ?_|skip
 refine an 87 [4,5] ?_;refine aI (gQ I (some ⟨bx,0,none⟩) L.length cap::(U++(L.eraseIdx (bz (L.map aS.t) s.table).toNat).flatMap bT)) ?_;rw[aV];refine⟨rfl,fun h=>?_⟩;obtain⟨nJ,ku,oo,Le,rfl⟩:=h9 h;exact Jn E jb oT O (Sk Le) (by rw[show bT (⟨_,_,nJ,ku,oo,[]⟩:aS)=oo from append_nil _];exact Perm.refl _)

end Go.Proofs.YtdgichenhdikgaaGreatDoor.Ba
namespace Go.Proofs.YtdgichenhdikgaaGreatDoor.Ba
open List
open Go.Proofs.Tryz
open Go.RowKit V Pk Tr Vl Go.Proofs.YtdgichenhdikgaaGreatDoor.Nm Pc Cd Ex Tw
open Pa (cx bY)
variable {G:List (Nat×List Value)} {m:Int}
variable {n:Nat}
def u6(t:aQ)(i:Nat):Nat:=((range i).filter fun j=>decide ((t.rows.getD j []).length≠0)).length
theorem Ef(t:aQ)(i:Nat):u6 t (i+1)=u6 t i+if (t.rows.getD i []).length≠0 then 1 else 0:=by
 unfold u6;rw[range_succ,filter_append,length_append];congr 1;by_cases h:(t.rows.getD i []).length≠0
 ·rw[if_pos h,filter_cons_of_pos oL];rfl
 rw[if_neg h,filter_cons_of_neg oL];rfl
theorem afo(t:aQ)(i:Nat):u6 t i≤i:=by
 unfold u6;exact Nat.le_trans (length_filter_le _ _) (by rw[length_range];exact Nat.le_refl _)
theorem IB{t:aQ}{i:Nat}(h:i<t.rows.length):t.rows.getD i []=t.rows[i]:=by rw[getD_eq_getElem?_getD,getElem?_eq_getElem h];rfl
theorem adT{t:aQ}(g:eV t n):u6 t t.rows.length=(gp t.ix).length:=by
 unfold u6;have hA:((gp t.ix).map fun x=>x.2.toNat).Nodup:=by
  have hr:(gp t.ix).Pairwise (fun a b=>bN a.1 b.1):=HP g.ix.val;rw[Nodup,pairwise_map];refine hr.imp_of_mem fun {a b} ha hb h e=>?_;obtain⟨a0,a1,a2,a3⟩:=g.jf a ha;obtain⟨b0,b1,b2,b3⟩:=g.jf b hb;refine j8 a.1 ?_;have:a.1=b.1:=(by rw[a3,b3];simp only[e])
  rw[←this] at h;exact h
 have Z:((range t.rows.length).filter fun j=>decide ((t.rows.getD j []).length≠0)).Nodup:=List.nodup_range.filter _;have h1:=hA.length_le_of_subset (l₂:=(range t.rows.length).filter fun j=>decide ((t.rows.getD j []).length≠0)) fun i hi=>by
  obtain⟨x,hx,rfl⟩:=mem_map.1 hi;obtain⟨x0,x1,x2,x3⟩:=g.jf x hx;refine mem_filter.2 ⟨mem_range.2 x1,decide_eq_true ?_⟩;rw[IB x1];exact fun h=>x2 (length_eq_zero_iff.1 h)
 have h2:=Z.length_le_of_subset (l₂:=(gp t.ix).map fun x=>x.2.toNat) fun i hi=>by
  obtain⟨O,U⟩:=mem_filter.1 hi;have E:=mem_range.1 O;have I:=of_decide_eq_true U;rw[IB E] at I;exact mem_map.2 ⟨_,(g.row i E (fun h=>I (by rw[h];rfl))).2.2,by simp⟩
 rw[length_map] at h1 h2;omega
theorem acf(hm:(3,marksC)∈G)(hw:(1,wordsC)∈G)(ht:(0,typesC)∈G)(hG:(2,[Value.int .i64 m])∈G)(t:aQ)(g:eV t n)(sF:t.nm.size≤maxLen):VP Tryz.prog G 37 [.agg (dA t)] (bX true):=by
 refine VC.body func37 rfl ntmps37 aO fun X0 w0 aY=>?_;have dy:=dY;have nc:=g.eM;have ng:=s8 (G:=G) hm hw t.nm sF;rw[g.nm] at ng;have ff:=Pc.EH (G:=G) hm hw ht t.ay xn xm;have hco:Pc.fE t.ay=0:=(by rw[g.ay];exact yC)
 rw[hco] at ff;have vD:=adA (G:=G) g.ix;have Z:=adB (G:=G) g.ix;rw[Qz] at Z;unfold Tw.cT at vD Z;have hca:=adT g;unfold dA;refine cf ?_;refine OD.box (ds:=[_,_,_,_,_]) ap rfl rfl ot rfl rfl (fun b1=>?_);refine an 76 [1] ?_;refine aC 2 ?_;refine dO call64 (ng) ?_;refine aE 2 ?_;refine bW 14 (fun E agO=>?_) (fun E agO=>?_)
 ·exact absurd E (by simp at E)
 refine aE 2 ?_;refine OD.gY ic rfl rfl rfl call54 (ff) ⟨ot,trivial⟩ ?_;refine aE 3 ?_;refine bW 20 (fun I agP=>?_) (fun I agP=>?_)
 ·exact absurd I (by simp at I)
 refine aE 6 ?_;refine bW 26 (fun O J7=>?_) (fun O J7=>?_)
 ·exact absurd O (by (simp at O;omega))
 refine aE 2 ?_;refine OD.gY ic rfl rfl rfl call49 (vD) ⟨ot,trivial⟩ ?_;refine an 76 [1,31] ?_;refine au ?_ ?_<;>intro aP bF
 ·exact absurd aP (by simp at aP)
 refine af [1,3] ?_;refine af [1,3,33,34,35] ?_;refine CD.block ?_;refine mM (fun (i:Nat) aJ=>(i≤t.rows.length)∧aJ=(⟨76,[(1,dJ b1),(3,ae (u6 t i:Nat)),(33,ax 1 iw t.rows),(34,ae (t.rows.length:Nat)),(35,ae (i:Nat))],[⟨b1,53,5,dA t⟩]⟩:St)) (fun (i:Nat)=>t.rows.length-i) 0 ⟨(Nat.zero_le _),rfl⟩ (aM (h:=by repeat (first|exact trivial|refine⟨(by (repeat (first|exact fx|(apply fQ;focus (first|rfl|(rw[Ef,if_neg zg];rfl)|(rw[Ef,if_pos zg];rfl)|(simp;done)|(congr 2;omega)))|(apply fD;focus rfl)));done),?_⟩))) ?_;rintro i _ ⟨hi,rfl⟩;refine af [1,3,33,34,35,36] ?_;refine au ?_ ?_<;>intro aX cJ
 ·have aa:i<t.rows.length:=(by omega)
  have kN:t.rows.getD i []=(t.rows[i]'aa):=IB aa;have lp:=afo t i;refine af [1,3,4,5,33,34,35] ?_;refine af [1,3,4,5,33,34,35,42] ?_;refine au ?_ ?_<;>intro cr cU
  ·have zg:¬(t.rows.getD i []).length≠0:=(by rw[kN];simpa using cr)
   exact z72
  have zg:(t.rows.getD i []).length≠0:=(by rw[kN];simpa using cr)
  have hne:(t.rows[i]'aa)≠[]:=fun h=>zg (by rw[kN,h];rfl);obtain⟨p1,p2,p3⟩:=g.row i aa hne;have p4:=qg p1;have xY:=Jw (G:=G) hm hw ht t.ay xn xm (t.rows[i]'aa) w4;have Xi:Pc.dZ t.ay (t.rows[i]'aa)=0:=(by rw[g.ay];exact p1)
  rw[Xi] at xY;have hyv:=yM (G:=G) hG (t.rows[i]'aa) w4 w4 p2;have fR:=JF (G:=G) g.ix (dx (t.rows[i]'aa));rw[Qw g.ix (vW p1) p3] at fR;unfold Tw.cT at fR;refine af [1,3,4,5,33,34,35] ?_;refine cW [1,3,4,5,33,34,35,49] (xY) ?_;refine au ?_ ?_<;>intro cX ec
  ·exact absurd cX (by simp at cX)
  refine cR [1,3,4,6,7,33,34,35] ?_;refine cZ (hyv) ?_;refine cZ (fR) ?_;refine bH ?_;refine aC 3 ?_;refine bW 60 (fun U J0=>?_) (fun U J0=>?_)
  ·exact absurd U (by simp at U)
  refine bg [1,3,33,34,35,64] ?_;refine au ?_ ?_<;>intro ew fp
  ·exact absurd ew (by simp at ew)
  exact z72
 have tM:i=t.rows.length:=(by omega)
 subst tM;refine cW [3,8] (Z) ?_;refine af [2] ?_;refine aI [] ?_;refine⟨?_,rfl⟩;first|rfl|(rw[hca];simp)

structure qh (l:List aQ) (n:Nat):Prop where
 eM:l.length≤4
 tb:∀t∈l,eV t n
 sz:∀t∈l,t.nm.size≤maxLen
 G3:l.Pairwise fun a b=>a.nm.toList≠b.nm.toList
theorem qh.no{l:List aQ}(g:qh l n){i:Nat}(h:i<l.length):bz (l.take i) l[i].nm<0:=by
 unfold bz;rw[vH (k:=(l.take i).length) w4 (fun x hx=>?_)]
 ·decide
 rw[take_of_length_le (Nat.le_refl _)] at hx;obtain⟨j,hj,rfl⟩:=mem_iff_getElem.1 hx;rw[length_take] at hj;rw[getElem_take];have:=pairwise_iff_getElem.1 g.G3 j i w4 h w4;simpa using this
theorem aav(hm:(3,marksC)∈G)(hw:(1,wordsC)∈G)(ht:(0,typesC)∈G)(hG:(2,[Value.int .i64 m])∈G)(l:List aQ)(g:qh l n):VP Tryz.prog G 24 [.agg [ax 5 dA (l)]] (ae 0):=by
 refine VC.body func24 rfl ntmps24 aO fun X0 w0 aY=>?_;have dy:=dY;have U:=g.eM;refine cf ?_;refine OD.box (ds:=[_]) ap rfl rfl ot rfl rfl (fun b1=>?_);refine an 31 [1] ?_;refine af [1,8] ?_;refine au ?_ ?_<;>intro aP bF
 ·exact absurd aP (by (simp at aP;omega))
 refine af [1,10,11,12] ?_;refine eL [1,10,11] (fun aW _ (i:Nat) aJ=>(i≤l.length)∧aJ=(⟨31,(12,ae (i:Nat))::aW,[⟨b1,25,1,[ax 5 dA (l)]⟩]⟩:St)) (fun (i:Nat)=>l.length-i) 0 ⟨(Nat.zero_le _),rfl⟩ ?_;rintro i _ ⟨hi,rfl⟩;refine af [1,10,11,12,13] ?_;refine au ?_ ?_<;>intro aX cJ
 ·have aa:i<l.length:=(by omega)
  have O:=acf hm hw ht hG (l[i]'aa) (g.tb _ (getElem_mem aa)) (g.sz _ (getElem_mem aa));have fR:=qI (G:=G) (l.take i) oJ (l[i]'aa).nm;have kO:=g.no aa;unfold dA at O;refine aC 3 ?_;refine OD.alloc (ds:=[_,_,_,_,_]) ap rfl rfl zeroValue53 rfl (fun b4=>?_);refine aE 1 ?_;refine aK 0 [_,_,_,_,_] sizeOf53 ?_;refine an 31 [1,3,4,10,11,12] ?_;refine CD.seq ?_;refine fL 10 (aq _) ?_ (fun _ h=>h);refine az 0 rfl (cM (mk:=Op.load 53) rfl ot (by first|exact pY (k:=0) (ds:=[_,_,_,_,_]) rfl rfl isAgg53 sizeOf53 rfl rfl|exact jU jT isAgg53 sizeOf53 w5|exact dN (k:=0) jT rfl rfl rfl isAgg53 sizeOf53 w5|exact dN (k:=1) jT rfl rfl rfl isAgg53 sizeOf53 w5|exact qb (ds:=[_,_,_,_,_]) isAgg53 sizeOf53 rfl rfl)) ?_;refine dm.later rfl ?_;refine AD.one (i:=1) aA ?_;refine jB call37 (O) ?_;refine cu 2 rfl kQ ?_;refine cu 3 rfl bj ?_;refine AD.split (t:=20) lk (fun E=>?_) (fun E=>?_)
  ·exact absurd E (by simp at E)
  have I:=E;(try simp only[V.nh,ne_eq] at I)
  refine cu 4 rfl (da 0) ?_;refine cu 6 rfl bj ?_;refine cu 8 rfl (da 0) ?_;refine AD.two (i:=5) (j:=9) aA ?_ ?_
  ·refine at_ rfl (dD 1) ?_;refine cu 7 rfl (eu (l:=0) (h:=i) rfl ot trivial ⟨_,ot⟩ (by exact ox jT (fun h=>by cases h) runUnderlying23 sizeOf53 w4)) ?_;refine AD.one (i:=9) aA ?_;refine at_ rfl (dD 0) ?_;exact VS
  refine at_ rfl (dD 0) ?_;refine AD.one (i:=5) aA ?_;refine at_ rfl (dD 1) ?_;refine cu 7 rfl (eu (l:=0) (h:=i) rfl ot trivial ⟨_,ot⟩ (by exact ox jT (fun h=>by cases h) runUnderlying23 sizeOf53 w4)) ?_;exact VS
 refine af [2] ?_;exact mI

end Go.Proofs.YtdgichenhdikgaaGreatDoor.Ba
namespace Go.Proofs.YtdgichenhdikgaaGreatDoor.Ba
open List
open Go.Proofs.Tryz
open Go.RowKit V Pk Tr Vl Go.Proofs.YtdgichenhdikgaaGreatDoor.Nm Pc Cd Ex Tw
open Pa (cx bY lH gX)
variable {G:List (Nat×List Value)} {m:Int}
noncomputable def n8(l:List aQ)(s:cx):List aQ×((List (List Vl)×Int)×Int) :=
 if gX s≠0 then ([],(([],0),gX s)) else if 7≤s.kind then ([],(([],0),2)) else if (gD l s).2.2≠0 then ([],(([],0),(gD l s).2.2)) else ((gD l s).1,((gD l s).2.1,0))
noncomputable def u7(rr:List aQ×((List (List Vl)×Int)×Int))(s:cx):List aQ×((List (List Vl)×Int)×Int) :=
 if gX s≠0 then ([],(([],0),gX s)) else if 7≤s.kind then ([],(([],0),2)) else if rr.2.2≠0 then ([],(([],0),rr.2.2)) else (rr.1,(rr.2.1,0))
def uo(p:List aQ×((List (List Vl)×Int)×Int)):D:=.dG [.agg [ax 5 dA p.1],.agg [ax 1 iw p.2.1.1,ae p.2.1.2],ae p.2.2]
theorem adU(hm:(3,marksC)∈G)(hw:(1,wordsC)∈G)(ht:(0,typesC)∈G)(hG:(2,[Value.int .i64 m])∈G)(l:List aQ){n:Nat}(g:qh l n)(s:cx)(hf:lH s)(E:List aQ×((List (List Vl)×Int)×Int))(ny:∀(L:List aS),L.map aS.t=l→(∀o∈L,pN o)→∀(bo:Nat) (ad:Option Addr) (cap:Nat) (Sx:List ah),wU L ad cap Sx→VC Tryz.prog G 27 [dJ bo,.agg (bY s)] (gQ bo ad L.length cap::(Sx++L.flatMap bT)) (fun r S=>r=As E.2∧(E.2.2=0→Fy E.1 bo S)))(Ar:E.2.2=0→E.1.length≤1000∧∀t∈E.1,yP t):VP Tryz.prog G 11 [.agg [ax 5 dA (l)],.agg (bY s)] (uo (u7 E s)):=by
 refine VC.body func11 rfl ntmps11 aO fun X0 w0 aY=>?_;have dy:=dY;have nc:=g.eM;have pC:=aav hm hw ht hG l g;have ff:=Pa.PX (G:=G) hm hw ht s hf;refine cf ?_;refine OD.box (ds:=[_]) ap rfl rfl ot rfl rfl (fun b2=>?_);refine OD.box (ds:=[_,_,_,_,_,_,_,_,_,_,_,_]) ap rfl rfl ot rfl rfl (fun b3=>?_);refine OD.alloc (ds:=[_]) ap rfl rfl zeroValue25 rfl (fun b4=>?_);refine OD.alloc (ds:=[_,_]) ap rfl rfl zeroValue36 rfl (fun b5=>?_);refine aE 1 ?_;first|refine OD.cells (k:=0) (cs':=[.list 1 [] 0,_]) rfl ⟨eB,cN,trivial⟩ rfl ?_|skip
 first|refine OD.cells (k:=1) (cs':=[.list 1 [] 0,_]) rfl ⟨eB,cN,trivial⟩ rfl ?_|skip
 first|refine OD.cells (k:=1) (cs':=[.list 5 [] 0]) rfl ⟨eB,trivial⟩ rfl ?_|skip
 first|refine OD.cells (k:=2) (cs':=[.list 5 [] 0]) rfl ⟨eB,trivial⟩ rfl ?_|skip
 refine an 46 [2,3,4,5] ?_;refine cW [2,3,4,5,7] (pC) ?_;refine af [2,3,4,5,7,15] ?_;refine au ?_ ?_<;>intro aP bF
 ·exact absurd aP (by simp at aP)
 refine cW [2,3,4,5,8] (ff) ?_;refine af [2,3,4,5,8,22] ?_;refine au ?_ ?_<;>intro aX cJ
 ·have h1:gX s≠0:=(by simpa using aX)
  have aV:u7 E s=([],(([],0),gX s)):=if_pos h1;refine aC 3 ?_;refine aK 1 [_] sizeOf25 ?_;refine aK 0 [_,_] sizeOf36 ?_;exact z40
 have h1:¬gX s≠0:=(by simpa using aX)
 refine af [2,3,4,5,28] ?_;refine au ?_ ?_<;>intro cr cU
 ·have h2:7≤s.kind:=(by simpa using cr)
  have aV:u7 E s=([],(([],0),2)):=(by unfold u7;rw[if_neg h1,if_pos h2])
  refine aC 2 ?_;refine aK 1 [_] sizeOf25 ?_;refine aK 0 [_,_] sizeOf36 ?_;exact z40
 have h2:¬7≤s.kind:=(by simpa using cr)
 refine aC 1 ?_;refine OD.call ap rfl rfl rfl call26 (O2 l w4 (fun t h=>(g.tb t h).small)) ⟨ot,trivial⟩ (eO _) ?_;rintro _ _ ⟨L,ad,cap,Sx,rfl,kr,aT,oW,rfl⟩;refine OD.perm (S':=⟨b5,36,2,[.list 1 [] 0,ae 0]⟩::⟨b4,25,1,[.list 5 [] 0]⟩::⟨b3,32,12,bY s⟩::⟨b2,25,1,[ax 5 dA (l)]⟩::(Sx++L.flatMap bT)) (show((Sx++L.flatMap bT)++(⟨b5,36,2,[.list 1 [] 0,ae 0]⟩::⟨b4,25,1,[.list 5 [] 0]⟩::⟨b3,32,12,bY s⟩::[⟨b2,25,1,[ax 5 dA (l)]⟩]):List ah).Perm _ from(iE fun ja=>by simp only[map_append,map_cons,map_nil,sum_append,sum_cons,sum_nil];omega)) ?_;refine OD.alloc (ds:=[_]) ap rfl rfl zeroValue25 rfl (fun b9=>?_);refine aK 0 [_] sizeOf25 ?_;refine an 46 [3,4,5,9] ?_;refine aC 1 ?_;have rE:L.length=l.length:=(by rw[←oW,length_map])
 refine OD.call (Sf:=gQ b9 ad L.length cap::(Sx++L.flatMap bT)) (R:=⟨b5,36,2,[.list 1 [] 0,ae 0]⟩::⟨b4,25,1,[.list 5 [] 0]⟩::⟨b3,32,12,bY s⟩::[⟨b2,25,1,[ax 5 dA (l)]⟩]) ap rfl rfl rfl call27 (ny L oW aT b9 ad cap Sx kr) ⟨ot,ot,trivial⟩ (show(gQ b9 ad L.length cap::⟨b5,36,2,[.list 1 [] 0,ae 0]⟩::⟨b4,25,1,[.list 5 [] 0]⟩::⟨b3,32,12,bY s⟩::⟨b2,25,1,[ax 5 dA (l)]⟩::(Sx++L.flatMap bT):List ah).Perm ((gQ b9 ad L.length cap::(Sx++L.flatMap bT))++(⟨b5,36,2,[.list 1 [] 0,ae 0]⟩::⟨b4,25,1,[.list 5 [] 0]⟩::⟨b3,32,12,bY s⟩::[⟨b2,25,1,[ax 5 dA (l)]⟩])) from(iE fun ja=>by simp only[map_append,map_cons,map_nil,sum_append,sum_cons,sum_nil];omega)) ?_;rintro _ S9 ⟨rfl,h9⟩;refine OD.perm (S':=⟨b5,36,2,[.list 1 [] 0,ae 0]⟩::⟨b4,25,1,[.list 5 [] 0]⟩::⟨b3,32,12,bY s⟩::⟨b2,25,1,[ax 5 dA (l)]⟩::S9) (show(S9++(⟨b5,36,2,[.list 1 [] 0,ae 0]⟩::⟨b4,25,1,[.list 5 [] 0]⟩::⟨b3,32,12,bY s⟩::[⟨b2,25,1,[ax 5 dA (l)]⟩]):List ah).Perm _ from(iE fun ja=>by simp only[map_append,map_cons,map_nil,sum_append,sum_cons,sum_nil];omega)) ?_;unfold As;refine aE 3 ?_;refine OD.alloc (ds:=[_,_]) ap rfl rfl zeroValue36 rfl (fun kM=>?_);refine aK 0 [_,_] sizeOf36 ?_;refine an 46 [4,5,9,10,11] ?_;refine af [4,5,9,10,11,39] ?_;refine au ?_ ?_<;>intro cX ec
 ·have h3:E.2.2≠0:=(by simpa using cX)
  have aV:u7 E s=([],(([],0),E.2.2)):=(by unfold u7;rw[if_neg h1,if_neg h2,if_pos h3])
  refine aC 3 ?_;refine aK 2 [_] sizeOf25 ?_;refine aK 1 [_,_] sizeOf36 ?_;exact z40
 have h3:¬E.2.2≠0:=(by simpa using cX)
 have aV:u7 E s=(E.1,(E.2.1,0)):=(by unfold u7;rw[if_neg h1,if_neg h2,if_neg h3])
 obtain⟨L',I,ku,O,U,Z,ajy,hS⟩:=h9 (Classical.not_not.1 h3);obtain⟨GW,ua⟩:=Ar (Classical.not_not.1 h3);have xy:=aal (G:=G) E.1 GW ua;refine CD.perm (S':=⟨kM,36,2,[ax 1 iw E.2.1.1,ae E.2.1.2]⟩::⟨b5,36,2,[.list 1 [] 0,ae 0]⟩::⟨b4,25,1,[.list 5 [] 0]⟩::⟨b3,32,12,bY s⟩::⟨b2,25,1,[ax 5 dA (l)]⟩::(gQ b9 I L'.length ku::(O++L'.flatMap bT))) (show((⟨kM,36,2,[ax 1 iw E.2.1.1,ae E.2.1.2]⟩::⟨b5,36,2,[.list 1 [] 0,ae 0]⟩::⟨b4,25,1,[.list 5 [] 0]⟩::⟨b3,32,12,bY s⟩::[⟨b2,25,1,[ax 5 dA (l)]⟩])++S9:List ah).Perm ((⟨kM,36,2,[ax 1 iw E.2.1.1,ae E.2.1.2]⟩::⟨b5,36,2,[.list 1 [] 0,ae 0]⟩::⟨b4,25,1,[.list 5 [] 0]⟩::⟨b3,32,12,bY s⟩::[⟨b2,25,1,[ax 5 dA (l)]⟩])++(gQ b9 I L'.length ku::(O++L'.flatMap bT))) from Perm.append_left ((⟨kM,36,2,[ax 1 iw E.2.1.1,ae E.2.1.2]⟩::⟨b5,36,2,[.list 1 [] 0,ae 0]⟩::⟨b4,25,1,[.list 5 [] 0]⟩::⟨b3,32,12,bY s⟩::[⟨b2,25,1,[ax 5 dA (l)]⟩]):List ah) hS) ?_
 refine CD.wk (Wk.cover (A:=gQ b9 I L'.length ku) (R:=⟨kM,36,2,[ax 1 iw E.2.1.1,ae E.2.1.2]⟩::⟨b5,36,2,[.list 1 [] 0,ae 0]⟩::⟨b4,25,1,[.list 5 [] 0]⟩::⟨b3,32,12,bY s⟩::[⟨b2,25,1,[ax 5 dA (l)]⟩]) (Sd:=O++L'.flatMap bT) (cs':=[ax 5 dA (E.1)]) (show(⟨kM,36,2,[ax 1 iw E.2.1.1,ae E.2.1.2]⟩::⟨b5,36,2,[.list 1 [] 0,ae 0]⟩::⟨b4,25,1,[.list 5 [] 0]⟩::⟨b3,32,12,bY s⟩::⟨b2,25,1,[ax 5 dA (l)]⟩::(gQ b9 I L'.length ku::(O++L'.flatMap bT)):List ah).Perm _ from(iE fun ja=>by simp only[map_append,map_cons,map_nil,sum_append,sum_cons,sum_nil];omega)) ⟨by rw[←ajy];unfold ax;rw[length_map];exact E5 U Z (fun B h=>h),trivial⟩) ?_;refine CD.skip ?_;refine CD.seq ?_;refine fL 4 (aq (eraseIdx _ 3)) ?_ (fun _ h=>(Sublist.map _ (eraseIdx_sublist _ 3)).subset h)
 refine az 0 rfl (cM (mk:=Op.load 25) rfl ot (by first|exact pY (k:=0) (ds:=[_]) rfl rfl isAgg25 sizeOf25 rfl rfl|exact jU jT isAgg25 sizeOf25 w5|exact jU kV isAgg25 sizeOf25 w5|exact dN (k:=0) jT rfl rfl rfl isAgg25 sizeOf25 w5|exact dN (k:=1) jT rfl rfl rfl isAgg25 sizeOf25 w5|exact dN (k:=2) jT rfl rfl rfl isAgg25 sizeOf25 w5|exact dN (k:=3) jT rfl rfl rfl isAgg25 sizeOf25 w5|exact dN (k:=4) jT rfl rfl rfl isAgg25 sizeOf25 w5|exact dN (k:=5) jT rfl rfl rfl isAgg25 sizeOf25 w5|exact dN (k:=0) kV rfl rfl rfl isAgg25 sizeOf25 w5|exact dN (k:=1) kV rfl rfl rfl isAgg25 sizeOf25 w5|exact dN (k:=2) kV rfl rfl rfl isAgg25 sizeOf25 w5|exact dN (k:=3) kV rfl rfl rfl isAgg25 sizeOf25 w5|exact dN (k:=4) kV rfl rfl rfl isAgg25 sizeOf25 w5|exact dN (k:=5) kV rfl rfl rfl isAgg25 sizeOf25 w5|exact qb (ds:=[_]) isAgg25 sizeOf25 rfl rfl)) ?_
 refine az 2 rfl (cM (mk:=Op.load 36) rfl ot (by first|exact pY (k:=1) (ds:=[_,_]) rfl rfl isAgg36 sizeOf36 rfl rfl|exact jU jT isAgg36 sizeOf36 w5|exact jU kV isAgg36 sizeOf36 w5|exact dN (k:=0) jT rfl rfl rfl isAgg36 sizeOf36 w5|exact dN (k:=1) jT rfl rfl rfl isAgg36 sizeOf36 w5|exact dN (k:=2) jT rfl rfl rfl isAgg36 sizeOf36 w5|exact dN (k:=3) jT rfl rfl rfl isAgg36 sizeOf36 w5|exact dN (k:=4) jT rfl rfl rfl isAgg36 sizeOf36 w5|exact dN (k:=5) jT rfl rfl rfl isAgg36 sizeOf36 w5|exact dN (k:=0) kV rfl rfl rfl isAgg36 sizeOf36 w5|exact dN (k:=1) kV rfl rfl rfl isAgg36 sizeOf36 w5|exact dN (k:=2) kV rfl rfl rfl isAgg36 sizeOf36 w5|exact dN (k:=3) kV rfl rfl rfl isAgg36 sizeOf36 w5|exact dN (k:=4) kV rfl rfl rfl isAgg36 sizeOf36 w5|exact dN (k:=5) kV rfl rfl rfl isAgg36 sizeOf36 w5|exact qb (ds:=[_,_]) isAgg36 sizeOf36 rfl rfl)) ?_;refine dm.later rfl ?_;refine AD.one (i:=1) aA ?_;refine jB call26 (xy) ?_;refine AD.one (i:=3) aA ?_;refine dR 3 [_] sizeOf25 ?_;refine eD ?_;refine aK 2 [_,_] sizeOf36 ?_;refine aE 1 ?_;first|refine OD.cells (k:=0) (cs':=[.list 1 [] 0,_]) rfl ⟨eB,cN,trivial⟩ rfl ?_|skip
 first|refine OD.cells (k:=1) (cs':=[.list 1 [] 0,_]) rfl ⟨eB,cN,trivial⟩ rfl ?_|skip
 first|refine OD.cells (k:=1) (cs':=[.list 5 [] 0]) rfl ⟨eB,trivial⟩ rfl ?_|skip
 first|refine OD.cells (k:=2) (cs':=[.list 5 [] 0]) rfl ⟨eB,trivial⟩ rfl ?_|skip
 refine an 46 [4,5,6] ?_;exact tU
theorem afp(hm:(3,marksC)∈G)(hw:(1,wordsC)∈G)(ht:(0,typesC)∈G)(hG:(2,[Value.int .i64 m])∈G)(l:List aQ){n:Nat}(hn:n≤260)(g:qh l n)(s:cx)(hf:lH s)(fu:¬s.kind=2)(E:∀v∈s.row,v.Ok)(ho:∀o∈s.aj,o.nm.size≤maxLen)(fN:∀o∈s.aj,o.v.Ok)(Z:∀o∈s.bS,o.nm.size≤maxLen)(I:∀o∈s.bS,o.v.Ok)(Ar:(gD l s).2.2=0→(gD l s).1.length≤1000∧∀t∈(gD l s).1,yP t):VP Tryz.prog G 11 [.agg [ax 5 dA (l)],.agg (bY s)] (uo (n8 l s)) :=
 adU hm hw ht hG l g s hf (gD l s) (fun L oW aT bo ad cap Sx O=>by
  subst oW;have U:=g.eM;rw[length_map] at U;exact afn hm hw ht hG L aT w4 (fun o ho=>⟨n,hn,g.tb _ (mem_map_of_mem ho)⟩) s fu (by have:=hf.ok.1;omega) (by have:=hf.ok.2.1;omega) E (by have:=hf.ok.2.2.1;omega) ho fN Z I bo ad cap Sx O) Ar

end Go.Proofs.YtdgichenhdikgaaGreatDoor.Ba
namespace Go.Proofs.YtdgichenhdikgaaGreatDoor.Ba
open List
open Go.Proofs.Tryz
open Go.RowKit V Pk Tr Vl Go.Proofs.YtdgichenhdikgaaGreatDoor.Nm Pc Cd Ex Tw
open Pa (cx bY)
variable {t:aQ} {n:Nat} {i:Int}
theorem eV.mono{t:aQ}{a b:Nat}(g:eV t a)(h:a≤b):eV t b:=⟨g.nm,g.ay,g.eM,g.ix.mono h,g.row,g.jf⟩
structure nx (t:aQ) (n:Nat) (D:List Int):Prop where
 nm:cQ t.nm=0
 ay:t.ay=dB
 eM:t.rows.length≤40
 ix:iH t.ix n
 row:∀i (h:i<t.rows.length),t.rows[i]≠[]→Pc.dZ dB t.rows[i]=0∧(∀v∈t.rows[i],v.Ok)∧((i:Int)∉D→(dx t.rows[i],(i:Int))∈gp t.ix)
 jf:∀x∈gp t.ix,0≤x.2∧x.2∉D∧∃h:x.2.toNat<t.rows.length,t.rows[x.2.toNat]≠[]∧x.1=dx t.rows[x.2.toNat]
theorem eV.d(g:eV t n):nx t n []:=⟨g.nm,g.ay,g.eM,g.ix,fun i h hn=>⟨(g.row i h hn).1,(g.row i h hn).2.1,fun _=>(g.row i h hn).2.2⟩,fun x hx=>⟨(g.jf x hx).1,not_mem_nil,(g.jf x hx).2⟩⟩
theorem nx.tb(g:nx t n []):eV t n:=⟨g.nm,g.ay,g.eM,g.ix,fun i h hn=>⟨(g.row i h hn).1,(g.row i h hn).2.1,(g.row i h hn).2.2 not_mem_nil⟩,fun x hx=>⟨(g.jf x hx).1,(g.jf x hx).2.2⟩⟩
theorem aaw(g:eV t n)(hn:n≤300){row:List Vl}(aT:∀v∈row,v.Ok)(h:(gl t row).2=0):eV (gl t row).1 (n+1)∧(gl t row).1.rows.length=t.rows.length+1:=by
 unfold gl at h ⊢;by_cases h1:Pc.dZ t.ay row=0
 ·rw[if_neg (fun e=>e h1)] at h ⊢;cases h2:ik t.ix (dx row) (dH t.ix) with
  | true=>rw[h2,if_pos rfl] at h;cases h
  | false =>
   rw[h2,if_neg w7] at h;rw[if_neg w7];by_cases h3:t.rows.length=40
   ·rw[if_pos h3] at h;cases h
   rw[if_neg h3];have h4:Pc.dZ dB row=0:=(by rw[←g.ay];exact h1)
   obtain⟨g1,g2,g3⟩:=Eu g.ix hn ((Ev g.ix).1 h2) (vW h4) (Int.natCast_nonneg t.rows.length);have I:=g.eM;refine⟨⟨g.nm,g.ay,by show(t.rows++[row]).length≤40;rw[length_append,length_singleton];omega,g1,fun i hi hne=>?_,fun x hx=>?_⟩,by show(t.rows++[row]).length=_;rw[length_append,length_singleton]⟩
   ·simp only at hi hne ⊢;rw[length_append,length_singleton] at hi;by_cases hl:i<t.rows.length
    ·have e:(t.rows++[row])[i]'Cj=t.rows[i]:=getElem_append_left hl;rw[e] at hne ⊢;obtain⟨p1,p2,p3⟩:=g.row i hl hne;exact⟨p1,p2,(g3 _).2 (.inr p3)⟩
    have E:i=t.rows.length:=(by omega)
    subst E;have e:(t.rows++[row])[t.rows.length]'Cj=row:=(by rw[getElem_append_right (Nat.le_refl _)];simp)
    rw[e] at hne ⊢;exact⟨h4,aT,(g3 _).2 (.inl rfl)⟩
   rcases(g3 x).1 hx with rfl|hx
   ·refine⟨Int.natCast_nonneg _,by show t.rows.length<(t.rows++[row]).length;rw[length_append,length_singleton];omega,?_⟩;have e:(t.rows++[row])[t.rows.length]'Cj=row:=(by rw[getElem_append_right (Nat.le_refl _)];simp)
    show(t.rows++[row])[t.rows.length]'_≠[]∧dx row=dx ((t.rows++[row])[t.rows.length]'_);rw[e];exact⟨fun e=>(by have:=qg h4;rw[e] at this;cases this),rfl⟩
   obtain⟨x0,x1,O,U⟩:=g.jf x hx;have e:(t.rows++[row])[x.2.toNat]'Cj=t.rows[x.2.toNat]:=getElem_append_left x1;refine⟨x0,by show _<(t.rows++[row]).length;rw[length_append,length_singleton];omega,?_⟩;show(t.rows++[row])[x.2.toNat]'_≠[]∧x.1=dx ((t.rows++[row])[x.2.toNat]'_);rw[e];exact⟨O,U⟩
 rw[if_pos h1] at h;exact absurd h h1
theorem Pd{n:Nat}:∀{l:List Int} {t:aQ},eV t n→l.Nodup→(∀i∈l,gN t i)→eV (q8 t l) n∧(q8 t l).rows.length=t.rows.length
 | [],_,g,_,_=>⟨g,rfl⟩
 | i::r,t,g,hn,hi=>by
  rw[nodup_cons] at hn;have h1:=Pd (O8 g (hi i mem_cons_self)) hn.2 fun j hj=>R9 (hi j (mem_cons_of_mem _ hj)) (fun e=>hn.1 (e ▸ hj)) (hi i mem_cons_self).1;refine⟨h1.1,h1.2.trans ?_⟩;show(t.rows.set _ _).length=_;rw[length_set]
theorem XU(g:eV t n)(w:List aU):eV (mu t w).1 n∧(mu t w).1.rows.length=t.rows.length:=by
 unfold mu;split
 ·exact⟨g,rfl⟩
 exact Pd g (Ec g w) (uJ g w)
theorem Sn{r:List Vl}{c:Nat}(hc:c≠0)(v:Vl):dx (r.set c v)=dx r:=by
 unfold dx;cases r with
 | nil=>rfl
 | cons a r=>cases c with
  | zero=>exact absurd rfl hc
  | succ c=>rfl
theorem TY{D:List Int}(g:nx t n D)(hi:gN t i){c:Nat}(hc:c<dB.length){v:Vl}(hv:jI (dB[c]'hc).k v)(fN:v.Ok)(h0:c=0→v.k≠0∧i∈D):nx (q9 t i c v) n D∧(∀j,gN t j→gN (q9 t i c v) j):=by
 obtain⟨q0,q1,q2⟩:=hi;obtain⟨p1,p2,p3⟩:=g.row _ q1 q2;have U:=jE (t:=t) q1;have Z:Pc.dZ dB ((rowAt t i).set c v)=0:=(by rw[U];exact Se p1 hc hv fun h=>(h0 h).1)
 have jL:(rowAt t i).set c v≠[]:=fun e=>by have:=qg Z;rw[e] at this;cases this
 have hlen:(q9 t i c v).rows.length=t.rows.length:=length_set;have I:∀j (h:j<t.rows.length),(q9 t i c v).rows[j]'(by rw[hlen];exact h)=if i.toNat=j then (rowAt t i).set c v else t.rows[j]:=fun j h=>getElem_set ..
 refine⟨⟨g.nm,g.ay,by rw[hlen];exact g.eM,g.ix,fun j hj hne=>?_,fun x hx=>?_⟩,fun j ⟨j0,j1,j2⟩=>⟨j0,by rw[hlen];exact j1,?_⟩⟩
 ·rw[hlen] at hj;rw[I j hj] at hne ⊢;by_cases E:i.toNat=j
  ·rw[if_pos E];refine⟨Z,fun w hw=>?_,fun hd=>?_⟩
   ·rcases mem_or_eq_of_mem_set hw with hw|hw
    ·rw[U] at hw;exact p2 w hw
    rw[hw];exact fN
   have rB:(j:Int)=i:=(by omega)
   by_cases O:c=0
   ·exact absurd (rB ▸ (h0 O).2) hd
   rw[Sn O,U];subst E;exact p3 hd
  rw[if_neg E] at hne ⊢;exact g.row j hj hne
 ·obtain⟨x0,xd,x1,x2,x3⟩:=g.jf x hx;refine⟨x0,xd,by rw[hlen];exact x1,?_⟩;rw[I _ x1];by_cases E:i.toNat=x.2.toNat
  ·rw[if_pos E];refine⟨jL,?_⟩;have rB:x.2=i:=(by omega)
   by_cases O:c=0
   ·exact absurd (rB ▸ (h0 O).2) xd
   rw[Sn O,U,x3];simp only[E]
  rw[if_neg E];exact⟨x2,x3⟩
 rw[I _ j1];split
 ·exact jL
 exact j2
theorem agR{x:aG}{D:List Int}(g:nx {t with ix:=x} n D)(hi:gN t i)(hd:i∉D):nx {t with ix:=gC x (dH x) (dx (rowAt t i))} n (i::D):=by
 obtain⟨q0,q1,q2⟩:=hi;obtain⟨p1,p2,p3⟩:=g.row _ q1 q2;have E:=jE (t:=t) q1;have I:(dx (rowAt t i),i)∈gp x:=by
  have:=p3 (by rw[Int.toNat_of_nonneg q0];exact hd);rw[Int.toNat_of_nonneg q0] at this;rw[E];exact this
 obtain⟨d1,d2⟩:=Iv g.ix ((AL g.ix.val _).2 ⟨i,I⟩);refine⟨g.nm,g.ay,g.eM,d1,fun j hj hne=>?_,fun y hy=>?_⟩
 ·obtain⟨r1,r2,U⟩:=g.row j hj hne;refine⟨r1,r2,fun hd2=>?_⟩;have O:(j:Int)≠i:=fun e=>hd2 (e ▸ mem_cons_self);refine(d2 _).2 ⟨U fun e=>hd2 (mem_cons_of_mem _ e),fun e=>O ?_⟩;have:=Jj g.ix (U fun e=>hd2 (mem_cons_of_mem _ e)) I e;simp only[Prod.mk.injEq] at this;exact this.2
 obtain⟨y1,y2⟩:=(d2 y).1 hy;obtain⟨z0,zd,z1,z2,z3⟩:=g.jf y y1;refine⟨z0,fun hm=>?_,z1,z2,z3⟩;rcases mem_cons.1 hm with e|hm
 ·refine y2 ?_;rw[z3,E];simp only[e]
 exact zd hm
theorem Ss{t:aQ}{n:Nat}:∀(l:List Int) (x:aG) (D:List Int),nx {t with ix:=x} n D→l.Nodup→(∀i∈l,gN t i∧i∉D)→∃D',nx {t with ix:=nV t x l} n D'∧∀i,i∈D'↔i∈l∨i∈D
 | [],x,D,g,_,_=>⟨D,g,fun i=>by simp⟩
 | i::r,x,D,g,hn,hi=>by
  rw[nodup_cons] at hn;obtain⟨D',h1,h2⟩:=Ss r _ (i::D) (agR g (hi i mem_cons_self).1 (hi i mem_cons_self).2) hn.2 fun j hj=>⟨(hi j (mem_cons_of_mem _ hj)).1,fun e=>by
   rcases mem_cons.1 e with e|e
   ·exact hn.1 (e ▸ hj)
   exact(hi j (mem_cons_of_mem _ hj)).2 e⟩
  refine⟨D',h1,fun j=>(h2 j).trans ?_⟩;simp only[mem_cons];constructor
  ·rintro(h|h|h)
   ·exact .inl (.inr h)
   ·exact .inl (.inl h)
   exact .inr h
  rintro((h|h)|h)
  ·exact .inr (.inl h)
  ·exact .inl h
  exact .inr (.inr h)
theorem nx.ajz{D D':List Int}(g:nx t n D)(h:∀i,i∈D↔i∈D'):nx t n D':=⟨g.nm,g.ay,g.eM,g.ix,fun i hi hne=>⟨(g.row i hi hne).1,(g.row i hi hne).2.1,fun hd=>(g.row i hi hne).2.2 fun e=>hd ((h _).1 e)⟩,fun x hx=>⟨(g.jf x hx).1,fun e=>(g.jf x hx).2.1 ((h _).2 e),(g.jf x hx).2.2⟩⟩
theorem ajA{D:List Int}(g:nx t n D)(hn:n≤300)(hi:gN t i)(hd:i∈D)(kO:ik t.ix (dx (rowAt t i)) (dH t.ix)=false):nx {t with ix:=gB t.ix (dH t.ix) (dx (rowAt t i)) i} (n+1) (D.filter (·≠i)):=by
 obtain⟨q0,q1,q2⟩:=hi;obtain⟨p1,p2,p3⟩:=g.row _ q1 q2;have E:=jE (t:=t) q1;obtain⟨g1,_,g3⟩:=Eu g.ix hn ((Ev g.ix).1 kO) (by rw[E];exact vW p1) q0;have hf:∀j,j∈D.filter (·≠i)↔j∈D∧j≠i:=fun j=>by rw[mem_filter];simp
 refine⟨g.nm,g.ay,g.eM,g1,fun j hj hne=>?_,fun y hy=>?_⟩
 ·obtain⟨r1,r2,O⟩:=g.row j hj hne;refine⟨r1,r2,fun hd2=>(g3 _).2 ?_⟩;by_cases e:(j:Int)=i
  ·left;have I:i.toNat=j:=(by omega)
   subst I;rw[E,Int.toNat_of_nonneg q0]
  right;exact O fun hm=>hd2 ((hf _).2 ⟨hm,e⟩)
 rcases(g3 y).1 hy with rfl|hy
 ·exact⟨q0,fun hm=>((hf _).1 hm).2 rfl,q1,q2,by rw[E]⟩
 obtain⟨z0,zd,z1,z2,z3⟩:=g.jf y hy;exact⟨z0,fun hm=>zd ((hf _).1 hm).1,z1,z2,z3⟩
theorem Tm:∀(l:List Int) (vs:List Vl) (t:aQ) (n:Nat) (D:List Int),nx t n D→n+l.length≤300→l.Nodup→vs.length=l.length→(∀i∈l,gN t i∧i∈D)→(∀v∈vs,v.Ok∧jI (dB[0]'w7).k v∧v.k≠0)→(ko t l vs).2=0 →
  ∃D',nx (ko t l vs).1 (n+l.length) D'∧(ko t l vs).1.rows.length=t.rows.length∧∀i,i∈D'↔i∈D∧i∉l
 | [],[],t,n,D,g,_,_,_,_,_,_=>⟨D,g,rfl,fun i=>by simp⟩
 | [],_::_,_,_,_,_,_,_,h,_,_,_=>by cases h
 | _::_,[],_,_,_,_,_,_,h,_,_,_=>by cases h
 | i::r,v::s,t,n,D,g,hn,hnd,hl,hi,hv,h=>by
  rw[nodup_cons] at hnd;rw[length_cons] at hn hl;rw[length_cons] at hl;obtain⟨E,hid⟩:=hi i mem_cons_self;obtain⟨v1,v2,v3⟩:=hv v mem_cons_self;obtain⟨g1,kP⟩:=TY g E (c:=0) w7 v2 v1 fun _=>⟨v3,hid⟩
  rw[ko] at h ⊢;cases iQ:ik t.ix (dx (rowAt (q9 t i 0 v) i)) (dH t.ix) with
  | true=>rw[iQ,if_pos rfl] at h;cases h
  | false =>
   rw[iQ,if_neg w7] at h;rw[if_neg w7];have g2:=ajA g1 w4 (kP i E) hid iQ;obtain⟨D',h1,h2,h3⟩:=Tm r s _ (n+1) _ g2 w4 hnd.2 w4 (fun j hj=>⟨kP j (hi j (mem_cons_of_mem _ hj)).1,by rw[mem_filter];exact⟨(hi j (mem_cons_of_mem _ hj)).2,by simp;exact fun e=>hnd.1 (e ▸ hj)⟩⟩) (fun w hw=>hv w (mem_cons_of_mem _ hw)) h;refine⟨D',by rw[length_cons,show n+(r.length+1)=n+1+r.length by omega];exact h1,h2.trans (by show(t.rows.set _ _).length=_;rw[length_set]),fun j=>(h3 j).trans ?_⟩;rw[mem_filter,mem_cons];simp only[decide_eq_true_eq,ne_eq,not_or,and_assoc]
theorem Su{n:Nat}{c:Nat}(hc:c<dB.length)(aP:c≠0):∀(l:List Int) (vs:List Vl) (t:aQ),eV t n→(∀i∈l,gN t i)→(∀v∈vs,v.Ok∧jI (dB[c]'hc).k v)→eV (mF c t l vs) n∧(mF c t l vs).rows.length=t.rows.length
 | [],_,t,g,_,_=>by unfold mF;exact⟨g,rfl⟩
 | _::_,[],t,g,_,_=>by unfold mF;exact⟨g,rfl⟩
 | i::r,v::s,t,g,hi,hv=>by
  rw[mF];obtain⟨v1,v2⟩:=hv v mem_cons_self;obtain⟨g1,kP⟩:=TY g.d (hi i mem_cons_self) hc v2 v1 fun e=>absurd e aP;have h1:=Su hc aP r s _ g1.tb (fun j hj=>kP j (hi j (mem_cons_of_mem _ hj))) fun w hw=>hv w (mem_cons_of_mem _ hw);exact⟨h1.1,h1.2.trans (by show(t.rows.set _ _).length=_;rw[length_set])⟩
theorem adV{k:Int}{c:Int}{v:Vl}(h:jI k v)(hk:¬(k≠c∧k≠0)):jI c v:=by
 refine⟨h.1,?_⟩;have:=h.2;omega
theorem aax(g:eV t n)(s:cx)(kO:∀o∈s.bS,o.nm.size≤maxLen)(fN:∀o∈s.bS,o.v.Ok)(hn:n≤260):eV (gS t s).1 (n+t.rows.length)∧(gS t s).1.rows.length=t.rows.length:=by
 have hz:eV t (n+t.rows.length)∧t.rows.length=t.rows.length:=⟨g.mono w4,rfl⟩
 unfold gS;by_cases hA:bM t.ay s.set<0
 ·rw[if_pos hA];exact hz
 rw[if_neg hA];by_cases hB:(eo t.ay s.bS).2≠0
 ·rw[if_pos hB];exact hz
 rw[if_neg hB];by_cases hC:(eo t.ay s.bS).1≠(t.ay.getD (bM t.ay s.set).toNat ⟨⟨#[]⟩,0⟩).k∧(eo t.ay s.bS).1≠0
 ·rw[if_pos hC];exact hz
 rw[if_neg hC];by_cases hD:(av t s.aj).2≠0
 ·rw[if_pos hD];exact hz
 rw[if_neg hD];by_cases hN:(iL t (bM t.ay s.set) s.bS [] (av t s.aj).1).2≠0
 ·rw[if_pos hN];exact hz
 rw[if_neg hN];have Z:=Classical.not_not.1 hN;have hkz:(eo dB s.bS).2=0:=(by rw[←g.ay];exact Classical.not_not.1 hB)
 have E:=IA g kO fN hkz (av t s.aj).1 [] (uJ g s.aj) Z (fun v O=>by cases O);have hlen:=QK (t:=t) (c:=bM t.ay s.set) (e:=s.bS) (av t s.aj).1 [] Z;have Xk:=(JJ (l:=t.ay) (nm:=s.set)).2;have hcc:t.ay.length=dB.length:=(by rw[g.ay])
 have U:(bM t.ay s.set).toNat<dB.length:=(by omega)
 have G1:∀v,jI (eo dB s.bS).1 v→jI (dB[(bM t.ay s.set).toNat]'U).k v:=fun v O=>by
  refine adV O ?_;rw[g.ay] at hC;have e:dB.getD (bM dB s.set).toNat ⟨⟨#[]⟩,0⟩=dB[(bM t.ay s.set).toNat]'U:=by
   rw[getD_eq_getElem?_getD];rw[show(bM dB s.set).toNat=(bM t.ay s.set).toNat by rw[g.ay]];rw[getElem?_eq_getElem U];rfl
  rw[e] at hC;exact hC
 by_cases hP:0<bM t.ay s.set
 ·rw[if_pos hP];have h1:=Su (c:=(bM t.ay s.set).toNat) U w4 (av t s.aj).1 (iL t (bM t.ay s.set) s.bS [] (av t s.aj).1).1 t g (uJ g s.aj) fun v O=>⟨(E v O).1,G1 v (E v O).2.1⟩
  exact⟨h1.1.mono w4,h1.2⟩
 rw[if_neg hP];have x5:bM t.ay s.set=0:=(by omega)
 by_cases hM:(ko {t with ix:=nV t t.ix (av t s.aj).1} (av t s.aj).1 (iL t (bM t.ay s.set) s.bS [] (av t s.aj).1).1).2≠0
 ·rw[if_pos hM];exact hz
 rw[if_neg hM];have hnd:=Ec g s.aj;have I:=uJ g s.aj;have nc:=EQ g s.aj;obtain⟨D,d1,d2⟩:=Ss (av t s.aj).1 t.ix [] g.d hnd fun i hi=>⟨I i hi,not_mem_nil⟩
 obtain⟨D',e1,e2,e3⟩:=Tm (av t s.aj).1 (iL t (bM t.ay s.set) s.bS [] (av t s.aj).1).1 _ n D d1 w4 hnd (by rw[hlen];simp) (fun i hi=>⟨I i hi,(d2 i).2 (.inl hi)⟩) (fun v O=>⟨(E v O).1,by have:=G1 v (E v O).2.1;simp only[x5] at this;exact this,(E v O).2.2 x5⟩) (Classical.not_not.1 hM);have hD':eV _ _:=(e1.ajz (D':=[]) fun i=>by rw[e3,d2];simp).tb;have hle:(av t s.aj).1.length≤t.rows.length:=by
  have h1:((av t s.aj).1.map Int.toNat).Nodup:=by
   rw[Nodup,pairwise_map];refine(Pairwise.and_mem.1 hnd).imp fun {a b} h e=>h.2.2 ?_;have:=(I a h.1).1;have:=(I b h.2.1).1;omega
  have h2:=h1.length_le_of_subset (l₂:=range t.rows.length) fun x hx=>by
   obtain⟨y,hy,rfl⟩:=mem_map.1 hx;exact mem_range.2 (I y hy).2.1
  rwa [length_map,length_range] at h2
 exact⟨hD'.mono w4,e2⟩

end Go.Proofs.YtdgichenhdikgaaGreatDoor.Ba
namespace Go.Proofs.YtdgichenhdikgaaGreatDoor.Pa
open List
open Go.Proofs.Tryz
open Go.RowKit V Pk Vl Go.Proofs.YtdgichenhdikgaaGreatDoor.Nm Pc
variable {t:ByteArray}
theorem adW{s:ByteArray}(h:cQ s=0):nR s=true∧s.size≤8:=by
 unfold cQ at h;split at h
 ·cases h
 split at h
 ·cases h
 rename_i h1 h2;rw[Bool.or_eq_true,Bool.not_eq_true'] at h2;refine⟨?_,by omega⟩;cases hw:nR s with
 | true=>rfl
 | false=>exact absurd (.inl hw) h2
variable {G:List (Nat×List Value)}
def tg:List Vl→ByteArray
 | []=>⟨#[120]⟩
 | v::_=>v.s
def mX(s:cx):Prop:=lH s∧1≤s.kind∧s.kind≤6∧s.gH≤9223372036854775807∧gP s=0
structure Nk (w:List aU):Prop where
 l:w.length≤40
 f:nv w=0
 b:∀o∈w,o.nm.size≤maxLen∧-9223372036854775808≤o.v.n∧o.v.n≤9223372036854775807
theorem adX:Nk []:=⟨Nat.zero_le _,rfl,fun _ h=>by cases h⟩
theorem aay(t:Tw):∀o∈ir 3 t,-20≤o.v.n∧o.v.n≤40:=by
 have hz:∀j nm,-20≤(⟨j,bD,nm⟩:aU).v.n∧(⟨j,bD,nm⟩:aU).v.n≤40:=fun _ _=>⟨by show(-20:Int)≤0;decide,by show(0:Int)≤40;decide⟩
 have uT:∀n s,-20≤(rS n s).v.n∧(rS n s).v.n≤40:=fun n s=>by
  show -20≤(ph ⟨n,ei n 40-20,s⟩).n∧(ph ⟨n,ei n 40-20,s⟩).n≤40;have O:=j4 n (show(1:Int)≤40 by decide);have h2:=j4 (ei n 40-20) (show(1:Int)≤2 by decide);unfold ph;split
  ·dsimp only;omega
  split
  ·dsimp only;omega
  split
  ·dsimp only;omega
  exact⟨by show(-20:Int)≤0;decide,by show(0:Int)≤40;decide⟩
 have E:∀k n s,∀o∈mq k n s,-20≤o.v.n∧o.v.n≤40:=fun k n s o ho=>by
  unfold mq at ho;split at ho<;>(simp only[mem_singleton] at ho;subst ho)
  ·exact hz _ _
  exact uT _ _
 have key:∀(r:Nat) (t:Tw),∀o∈ir r t,-20≤o.v.n∧o.v.n≤40:=by
  intro r;induction r with
  | zero=>intro t;obtain⟨k,n,s,ts⟩:=t;exact E k n s
  | succ r ih =>
   intro t o ho;obtain⟨k,n,s,ts⟩:=t;have I:∀i:Nat,∀o∈gz r ts n s i,-20≤o.v.n∧o.v.n≤40:=fun i o ho=>by
    unfold gz at ho;split at ho
    ·exact ih _ o ho
    exact E _ _ _ o ho
   rw[vN] at ho;split at ho
   ·simp only[mem_singleton] at ho;subst ho;exact uT _ _
   split at ho
   ·simp only[mem_singleton] at ho;subst ho;exact hz _ _
   split at ho
   ·rcases mem_append.1 ho with ho|ho
    ·exact I 0 o ho
    simp only[mem_singleton] at ho;subst ho;exact hz _ _
   rcases mem_append.1 ho with ho|ho
   ·rcases mem_append.1 ho with ho|ho
    ·exact I 0 o ho
    exact I 1 o ho
   simp only[mem_singleton] at ho;subst ho;exact hz _ _
 exact key 3 t
theorem SA(t:Tw):Nk (ir 3 t):=by
 have h:=OB t;refine⟨by omega,?_,fun o ho=>⟨abf (abe t) o ho,?_⟩⟩
 ·unfold nv;rw[if_neg w4];exact OC t
 have:=aay t o ho;omega
theorem aaz(s:cx):kZ s s=true:=by
 unfold kZ;simp only[Bool.and_eq_true,beq_iff_eq,A3,and_self]
theorem yo{s:cx}(ht:cQ s.table=0)(he:jM s=0)(hb:iN s=s):gP s=0:=by
 unfold gP;rw[if_neg (fun h=>h.2 ht),hb,if_neg (fun h=>by rw[aaz] at h;cases h.2),he]
theorem small{x:ByteArray}(h:cQ x=0):x.size≤maxLen:=Nat.le_trans (adW h).2 w7
def sA(s:cx):Prop:=s.aj=[]∧∀w,Nk w→(4≤s.kind∨w=[])→mX {s with aj:=w}
theorem sA.wM{s:cx}(h:sA s):mX s:=by
 have:=h.2 [] adX (.inr rfl);rw[←h.1] at this;exact this
theorem N9(ht:cQ t=0):sA {gj with kind:=1,table:=t,ay:=dB}:=⟨rfl,fun w hw h=>by
 have E:w=[]:=h.resolve_left (by show ¬(4:Int)≤1;decide);subst E;exact⟨⟨⟨by show 4≤6;decide,Nat.zero_le _,Nat.zero_le _,Nat.zero_le _,Nat.zero_le _⟩,small ht,by show ∀c∈dB,c.n.size≤maxLen;decide,(fun _ h=>by cases h),Nat.zero_le _,Nat.zero_le _,(fun _ h=>by cases h),(fun _ h=>by cases h),(fun _ h=>by cases h)⟩,by show(1:Int)≤1;decide,by show(1:Int)≤6;decide,Ck,
  yo ht (show fE dB=0 by decide +kernel) aA⟩⟩
theorem acg(ht:cQ t=0):sA {gj with kind:=2,table:=t}:=⟨rfl,fun w hw h=>by
 have E:w=[]:=h.resolve_left (by show ¬(4:Int)≤2;decide);subst E;exact⟨⟨⟨Nat.zero_le _,Nat.zero_le _,Nat.zero_le _,Nat.zero_le _,Nat.zero_le _⟩,small ht,(fun _ h=>by cases h),(fun _ h=>by cases h),Nat.zero_le _,Nat.zero_le _,(fun _ h=>by cases h),(fun _ h=>by cases h),(fun _ h=>by cases h)⟩,by show(1:Int)≤2;decide,by show(2:Int)≤6;decide,Ck,
  yo ht aA aA⟩⟩
theorem SB{x:Int}(h0:0≤x):iO ⟨2,x,⟨#[]⟩⟩=0:=by
 unfold iO;rw[if_neg (by intro h;have:=h.2;dsimp only at this;omega)];kernel_rfl
theorem adY{s:ByteArray}(h:s.size≤20):iO ⟨3,0,s⟩=0:=by
 unfold iO;rw[if_neg (by intro h;exact absurd h.1 (by show ¬(3:Int)=2;decide))];unfold dP;rw[if_neg (by show ¬(3:Int)=0;decide),if_neg (by show ¬(3:Int)=1;decide),if_neg (by show ¬(3:Int)=2;decide),if_pos rfl,if_neg (fun h=>h rfl),if_neg (by show ¬s.size>20;omega)]
theorem aaA(n:Int):iO (p9 n)=0∧-9223372036854775808≤(p9 n).n∧(p9 n).n≤9223372036854775807:=by
 have h:=j4 n (show(1:Int)≤3 by decide);unfold p9;split
 ·exact⟨by decide,by decide,by decide⟩
 have h2:ei n 3=0∨ei n 3=1:=(by omega)
 rcases h2 with h2|h2<;>rw[h2]<;>exact⟨by decide,by decide,by decide⟩
theorem Y5(ht:cQ t=0){x y b:Int}(hx:0≤x∧x<12)(hy:0≤y∧y<9){u:ByteArray}(Z:u.size≤6):sA {gj with kind:=3,table:=t,row:=[⟨2,x,⟨#[]⟩⟩,⟨2,y,⟨#[]⟩⟩,⟨3,0,u⟩,p9 b]}:=⟨rfl,fun w hw h=>by
 have E:w=[]:=h.resolve_left (by show ¬(4:Int)≤3;decide);subst E;have l1:=SB hx.1;have l2:=SB hy.1;have l3:iO ⟨3,0,u⟩=0:=adY w4;obtain⟨l4,O,U⟩:=aaA b;refine⟨⟨⟨Nat.zero_le _,by show 4≤6;decide,Nat.zero_le _,Nat.zero_le _,Nat.zero_le _⟩,small ht,(fun _ h=>by cases h),(fun _ h=>by cases h),Nat.zero_le _,Nat.zero_le _,fun v I=>?_,(fun _ h=>by cases h),(fun _ h=>by cases h)⟩,by show(1:Int)≤3;decide,by show(3:Int)≤6;decide,Ck,yo ht ?_ aA⟩
 ·simp only[mem_cons,not_mem_nil,or_false] at I;rcases I with rfl|rfl|rfl|rfl
  ·dsimp only;omega
  ·dsimp only;omega
  ·dsimp only;omega
  exact⟨O,U⟩
 show dZ [⟨2,x,⟨#[]⟩⟩,⟨2,y,⟨#[]⟩⟩,⟨3,0,u⟩,p9 b]=0;unfold dZ;rw[if_neg bu];simp[jH,l1,l2,l3,l4]⟩
theorem Y6(ht:cQ t=0){N:List ByteArray}(E:N.length≤6∧∀x∈N,cQ x=0){c:Bool}(hc:c=true→N=[]){o:ByteArray}(ho:o=⟨#[]⟩∨cQ o=0){d:Bool}(hd:o=⟨#[]⟩→d=false){m:Int}(hm:-1≤m∧m≤7):sA {gj with kind:=4,table:=t,names:=N,count:=c,order:=o,down:=d,gH:=m}:=⟨rfl,fun w hw h=>by
 have I:o.size≤maxLen:=(by rcases ho with rfl|h;exact Nat.zero_le _;exact small h)
 refine⟨⟨⟨Nat.zero_le _,Nat.zero_le _,E.1,hw.l,Nat.zero_le _⟩,small ht,(fun _ h=>by cases h),fun x hx=>small (E.2 x hx),I,Nat.zero_le _,(fun _ h=>by cases h),hw.b,(fun _ h=>by cases h)⟩,by show(1:Int)≤4;decide,by show(4:Int)≤6;decide,(by show _≤(9223372036854775807:Int);dsimp only;omega),yo ht ?_ aA⟩;show oD {gj with kind:=4,table:=t,names:=N,count:=c,aj:=w,order:=o,down:=d,gH:=m}=0;have gE:jH cQ N=0:=by
  have key:∀l:List ByteArray,(∀x∈l,cQ x=0)→jH cQ l=0:=by
   intro l;induction l with
   | nil=>intro _;rfl
   | cons a r ih=>intro h;rw[jH,if_neg (by rw[h a mem_cons_self];decide)];exact ih fun x hx=>h x (mem_cons_of_mem _ hx)
  exact key N E.2
 unfold oD;dsimp only;rw[if_neg w4,if_neg w4,if_neg (by
  rintro(⟨h1,h2⟩|⟨h1,h2⟩)
  ·rw[hc h1] at h2;simp at h2
  rw[hd (A3.1 h2)] at h1;cases h1),if_neg (by rw[gE];decide),if_neg (by rw[hw.f];decide)]
 split
 ·rfl
 rename_i h2;exact ho.resolve_left fun h=>h2 (A3.2 h)⟩
theorem Y7(ht:cQ t=0){c:ByteArray}(hc:cQ c=0)(E:Tw):sA {gj with kind:=5,table:=t,set:=c,bS:=ir 3 E}:=⟨rfl,fun w hw h=>by
 have ho:=SA E;refine⟨⟨⟨Nat.zero_le _,Nat.zero_le _,Nat.zero_le _,hw.l,ho.l⟩,small ht,(fun _ h=>by cases h),(fun _ h=>by cases h),Nat.zero_le _,small hc,(fun _ h=>by cases h),hw.b,ho.b⟩,by show(1:Int)≤5;decide,by show(5:Int)≤6;decide,Ck,yo ht ?_ aA⟩;show(if cQ c=0 then (if iM (ir 3 E)=0 then nv w else iM (ir 3 E)) else cQ c)=0;rw[if_pos hc,if_pos (OC E),hw.f]⟩
theorem Y8(ht:cQ t=0):sA {gj with kind:=6,table:=t}:=⟨rfl,fun w hw h=>by
 refine⟨⟨⟨Nat.zero_le _,Nat.zero_le _,Nat.zero_le _,hw.l,Nat.zero_le _⟩,small ht,(fun _ h=>by cases h),(fun _ h=>by cases h),Nat.zero_le _,Nat.zero_le _,(fun _ h=>by cases h),hw.b,(fun _ h=>by cases h)⟩,by show(1:Int)≤6;decide,by show(6:Int)≤6;decide,Ck,yo ht hw.f aA⟩⟩
def eJ:List ByteArray:=[⟨#[116]⟩,⟨#[117]⟩]
def iJ:List ByteArray:=[⟨#[]⟩,⟨#[110]⟩,⟨#[115]⟩,⟨#[105,100]⟩]
def Av:List ByteArray:=[⟨#[110]⟩,⟨#[110]⟩,⟨#[115]⟩,⟨#[98]⟩,⟨#[105,100]⟩]
theorem Fz:∀x∈eJ,cQ x=0:=by decide +kernel
theorem agS:∀x∈iJ,x.size=0∨cQ x=0:=by decide +kernel
theorem FB:∀x∈Av,cQ x=0:=by decide +kernel
theorem sS(n:Int)(h1:-9223372036854775808≤n)(h2:n≤9223372036854775807):VP Tryz.prog G 28 [ae n] (.agg [ae (p9 n).k,ae (p9 n).n,bf (p9 n).s]):=by
 refine VC.body func28 rfl ntmps28 aO fun X0 w0 aY=>?_;refine cf ?_;refine OD.alloc (ds:=[_,_,_]) ap rfl rfl zeroValue41 rfl (fun b2=>?_);refine an 10 [0,2] ?_;refine cW [0,2,5] (kU G n 3 h1 h2 w7) ?_;refine au ?_ ?_<;>intro aP bF
 ·refine aC 1 ?_;refine aK 0 [_,_,_] sizeOf41 ?_;refine an 10 [2] ?_;refine aI [] ?_;refine⟨?_,rfl⟩;unfold p9 bD;simp_all
 refine aC 1 ?_;refine dO call21 (kU G n 3 h1 h2 w7) ?_;refine aE 1 ?_;refine aK 0 [_,_,_] sizeOf41 ?_;refine an 10 [2] ?_;refine aI [] ?_;refine⟨?_,rfl⟩;unfold p9 bD;simp_all

theorem afq{s:ByteArray}(h:s.size=0):s=⟨#[]⟩:=by
 obtain⟨d⟩:=s;have:d = #[]:=Array.eq_empty_of_size_eq_zero h;rw[this]
theorem aaB(k t a b:Int)(row:List Vl)(O U:Int)(Z:ByteArray)(E:List Tw)(y1 y2:Int)(y3:ByteArray)(I:List Tw)(bare:Bool):VP Tryz.prog G 36 [.agg [ae k,ae t,ae a,ae b,ax 3 cV row,ae O,ae U,bf Z,.list 4 (Tw.mh E) E.length,ae y1,ae y2,bf y3,.list 4 (Tw.mh I) I.length,bX bare]] (bf (tg row)):=by
 refine VC.body func36 rfl ntmps36 aO fun X0 w0 aY=>?_;refine cf ?_;refine OD.box (ds:=[_,_,_,_,_,_,_,_,_,_,_,_,_,_]) ap rfl rfl ot rfl rfl (fun b1=>?_);refine an 12 [1] ?_;refine af [1,6] ?_;refine au ?_ ?_<;>intro aP bF
 ·obtain⟨v,r,rfl⟩:∃v r,row=v::r:=(by (cases row;simp at aP;exact⟨_,_,rfl⟩))
  refine cR [2] ?_;refine aR 2 ?_ (h:=by exact(pW (mk:=Op.indexAddr 75) rfl ot bI (by first|exact qG runUnderlying75 sizeOf114 (j:=0) rfl bu|exact qL runUnderlying75 sizeOf114 (j:=0) rfl bu)));refine aR 1 ?_ (h:=by exact(cM (mk:=Op.load 9) rfl ot (by exact uL (i:=0) (j:=2) fj isAgg9 bu rfl)));refine bH ?_;refine aI [] ?_;exact⟨rfl,rfl⟩
 obtain rfl:row=[]:=eq_nil_of_length_eq_zero (by simp at aP;simp[aP]);refine af [2] ?_;exact mI
theorem Ny : ∀ w, ((#[{ name := "Kind", type := 3, offset := 0, embedded := false, tag := "", pkgPath := "", byteOffset := 0 }, { name := "Table", type := 9, offset := 1, embedded := false, tag := "", pkgPath := "", byteOffset := 8 }, { name := "Cols", type := 27, offset := 2, embedded := false, tag := "", pkgPath := "", byteOffset := 24 }, { name := "Row", type := 28, offset := 3, embedded := false, tag := "", pkgPath := "", byteOffset := 48 }, { name := "Names", type := 29, offset := 4, embedded := false, tag := "", pkgPath := "", byteOffset := 72 }, { name := "Count", type := 4, offset := 5, embedded := false, tag := "", pkgPath := "", byteOffset := 96 }, { name := "Where", type := 30, offset := 6, embedded := false, tag := "", pkgPath := "", byteOffset := 104 }, { name := "Order", type := 9, offset := 7, embedded := false, tag := "", pkgPath := "", byteOffset := 128 }, { name := "Down", type := 4, offset := 8, embedded := false, tag := "", pkgPath := "", byteOffset := 144 }, { name := "Limit", type := 3, offset := 9, embedded := false, tag := "", pkgPath := "", byteOffset := 152 }, { name := "Set", type := 9, offset := 10, embedded := false, tag := "", pkgPath := "", byteOffset := 160 }, { name := "To", type := 30, offset := 11, embedded := false, tag := "", pkgPath := "", byteOffset := 176 }] : Array Field).mapM fun f => do pure (f.offset, ← sizeOf f.type) : Sem (Array (Nat × Nat))).run Tryz.prog w = .ok #[(0, 1), (1, 1), (2, 1), (3, 1), (4, 1), (5, 1), (6, 1), (7, 1), (8, 1), (9, 1), (10, 1), (11, 1)] w := fun w => by simp [sizeOf27, sizeOf28, sizeOf29, sizeOf3, sizeOf30, sizeOf4, sizeOf9]
theorem XV(k t a b:Int)(row:List Vl)(x1 x2:Int)(x3:ByteArray)(E:List Tw)(y1 y2:Int)(y3:ByteArray)(I:List Tw)(bare:Bool)(dM:-9223372036854775808≤k)(fu:k≤9223372036854775807)(ht1:-9223372036854775808≤t)(ht2:t≤9223372036854775807)(U:-9223372036854775808≤a)(pD:a≤9223372036854775807)(jb:-9223372036854775808≤b)(oT:b≤9223372036854775807)(u3:∀v∈row,v.s.size≤maxLen)(hto:(Tw.mk x1 x2 x3 E).Ok)(MI:(Tw.mk y1 y2 y3 I).Ok):VC Tryz.prog G 23 [.agg [ae k,ae t,ae a,ae b,ax 3 cV row,ae x1,ae x2,bf x3,.list 4 (Tw.mh E) E.length,ae y1,ae y2,bf y3,.list 4 (Tw.mh I) I.length,bX bare]] [] (fun r S'=>∃s,r = .agg (bY s)∧S'=[]∧mX s∧s.kind=1+ei k 6):=by
 refine VC.body func23 rfl ntmps23 aO fun X0 w0 aY=>?_;have aoR:=j4 k (show(1:Int)≤6 by decide);have O:=kU G k 6 dM fu w7;generalize ei k 6=ki at *;have ajB:=j4 t (show(1:Int)≤2 by decide);have FM:=kU G t 2 ht1 ht2 w7;generalize ei t 2=ti at *;obtain⟨tj,rfl⟩:=Int.eq_ofNat_of_zero_le ajB.1;have ri:tj<eJ.length:=(by show tj<2;omega)
 have Z:=Fz eJ[tj] (getElem_mem ri);generalize T3:eJ[tj]=tn at *;refine cf ?_;refine OD.box (ds:=[_,_,_,_,_,_,_,_,_,_,_,_,_,_]) ap rfl rfl ot rfl rfl (fun b1=>?_);refine OD.alloc (ds:=[_,_,_,_,_,_,_,_,_,_,_,_]) ap rfl rfl zeroValue32 rfl (fun b2=>?_);refine an 111 [1,2] ?_;refine CD.seq ?_;refine CD.mono (Q:=fun aW aJ=>aW=Exit.normal∧∃(b3:Nat),(True)∧Wk aJ (⟨111,[(1,dJ b1),(2,dJ b2),(3,dJ b3)],[⟨b3,32,12,[ae (1+ki),bf tn,bB,bB,bB,bX false,bB,e9,bX false,ae (-1),e9,bB]⟩,⟨b2,32,12,[ae 0,e9,bB,bB,bB,bX false,bB,e9,bX false,ae 0,e9,bB]⟩,⟨b1,77,14,[ae k,ae t,ae a,ae b,ax 3 cV row,ae x1,ae x2,bf x3,.list 4 (Tw.mh E) E.length,ae y1,ae y2,bf y3,.list 4 (Tw.mh I) I.length,bX bare]⟩]⟩:St)) ?_ ?_
 ·refine CD.draw (aq _) aA (fun _ h=>h) ?_;refine az 0 rfl (da 0) ?_;refine az 1 rfl (dD 1) ?_;refine az 5 rfl (da 1) ?_;refine az 6 rfl (dD 1) ?_;refine dm.later rfl ?_;refine AD.three (i:=2) (j:=4) (k:=11) aA ?_ ?_ ?_
  ·refine jB call21 (O) ?_;refine cu 3 rfl mK ?_;refine AD.three (i:=4) (j:=7) (k:=11) aA ?_ ?_ ?_
   ·refine jo (bZ 0 [_,_]) [.string ⟨#[]⟩,.string ⟨#[]⟩] [_,_] zeroValue9 runUnderlying29 sizeOf9 (fun b8=>?_);refine jq 0 8 1 2 ?_;exact Us
   ·refine jB call21 (FM) ?_;refine AD.two (i:=4) (j:=11) aA ?_ ?_
    ·refine jo (bZ 0 [_,_]) [.string ⟨#[]⟩,.string ⟨#[]⟩] [_,_] zeroValue9 runUnderlying29 sizeOf9 (fun b8=>?_);refine jq 0 8 1 2 ?_;exact z109
    refine aZ.alloc (ds:=[_,_,_,_,_,_,_,_,_,_,_,_]) rfl ap rfl rfl zeroValue32 rfl (fun b3=>?_);refine AD.one (i:=4) aA ?_;refine jo (bZ 0 [_,_]) [.string ⟨#[]⟩,.string ⟨#[]⟩] [_,_] zeroValue9 runUnderlying29 sizeOf9 (fun b8=>?_);refine jq 0 8 1 2 ?_;exact Uh
   refine aZ.alloc (ds:=[_,_,_,_,_,_,_,_,_,_,_,_]) rfl ap rfl rfl zeroValue32 rfl (fun b3=>?_);exact z139
  ·refine jo (bZ 0 [_,_]) [.string ⟨#[]⟩,.string ⟨#[]⟩] [_,_] zeroValue9 runUnderlying29 sizeOf9 (fun b8=>?_);refine jq 0 8 1 2 ?_;refine AD.two (i:=2) (j:=11) aA ?_ ?_
   ·refine jB call21 (O) ?_;refine cu 3 rfl mK ?_;exact Us
   refine aZ.alloc (ds:=[_,_,_,_,_,_,_,_,_,_,_,_]) rfl ap rfl rfl zeroValue32 rfl (fun b3=>?_);refine AD.one (i:=2) aA ?_;refine jB call21 (O) ?_;refine cu 3 rfl mK ?_;exact FL
  refine aZ.alloc (ds:=[_,_,_,_,_,_,_,_,_,_,_,_]) rfl ap rfl rfl zeroValue32 rfl (fun b3=>?_);refine AD.two (i:=2) (j:=4) aA ?_ ?_
  ·refine jB call21 (O) ?_;refine cu 3 rfl mK ?_;exact z139
  refine jo (bZ 0 [_,_]) [.string ⟨#[]⟩,.string ⟨#[]⟩] [_,_] zeroValue9 runUnderlying29 sizeOf9 (fun b8=>?_);refine jq 0 8 1 2 ?_;refine AD.one (i:=2) aA ?_;refine jB call21 (O) ?_;refine cu 3 rfl mK ?_;exact FL
 rintro _ _ ⟨rfl,b3,_,J6⟩;refine CD.wk J6 ?_;refine jQ [1,2,3] (fun aW _ aJ=>∃(s:cx),(sA s)∧(s.kind=1+ki)∧aJ=(⟨111,aW,[⟨b3,32,12,[ae s.kind,bf s.table,ax 2 cC s.ay,ax 3 cV s.row,ax 1 cS s.names,bX s.count,ax 5 cO s.aj,bf s.order,bX s.down,ae s.gH,bf s.set,ax 5 cO s.bS]⟩,⟨b2,32,12,[ae 0,e9,bB,bB,bB,bX false,bB,e9,bX false,ae 0,e9,bB]⟩,⟨b1,77,14,[ae k,ae t,ae a,ae b,ax 3 cV row,ae x1,ae x2,bf x3,.list 4 (Tw.mh E) E.length,ae y1,ae y2,bf y3,.list 4 (Tw.mh I) I.length,bX bare]⟩]⟩:St)) ?_ ?_
 ·refine CD.seq ?_;refine CD.cells (k:=0) (cs':=[_,_,.list 2 [] 0,.list 3 [] 0,.list 1 [] 0,_,.list 5 [] 0,_,_,_,_,.list 5 [] 0]) (S':=[_,_,_]) rfl (by repeat (first|exact trivial|exact⟨cN,trivial⟩|exact⟨eB,trivial⟩|refine⟨cN,?_⟩|refine⟨eB,?_⟩)) rfl ?_;refine cl [1,2,3,16] ?_;refine af [1,2,3,16,17] ?_;refine au ?_ ?_<;>intro aP bF
  ·obtain rfl:ki=0:=(by simp at aP;omega)
   refine rz ?_;refine OD.gY ap rfl rfl rfl call18 (OH) trivial ?_;refine aE 1 ?_;refine aK 0 [_,_,_,_,_,_,_,_,_,_,_,_] sizeOf27 ?_;refine an 111 [1,2,3] ?_;refine⟨_,aM,{gj with kind:=1+0,table:=tn,ay:=dB},(N9 Z),Ci,rfl⟩
  refine af [1,2,3,16,21] ?_;refine au ?_ ?_<;>intro aX cJ
  ·obtain rfl:ki=2:=(by simp at aX;omega)
   have ajC:=j4 a (show(1:Int)≤12 by decide);have ajD:=kU G a 12 U pD w7;generalize ei a 12=xa at *;have ajE:=j4 b (show(1:Int)≤9 by decide);have ajF:=kU G b 9 jb oT w7;generalize ei b 9=xb at *;have GJ:(tg row).size≤maxLen:=(by (cases row;decide;exact u3 _ mem_cons_self))
   have x5:(nB (tg row) 2).size≤maxLen:=(by rw[HF];exact Nat.le_trans (Nat.min_le_left _ _) GJ)
   have dw:((⟨#[]⟩:ByteArray)++nB (tg row) 2).size≤maxLen:=(by rw[ByteArray.size_append];show 0+_≤_;omega)
   have sG:(⟨#[]⟩:ByteArray).size+(nB (tg row) 2).size≤9223372036854775807:=(by (have:=x5;unfold maxLen at this;show 0+_≤_;omega))
   have hu6:=(YA ((⟨#[]⟩:ByteArray)++nB (tg row) 2)).2;refine l9 18 [1,2,3,40] ?_;refine cZ (ajD) ?_;refine cZ (ajF) ?_;refine cZ (aaB k t a b row x1 x2 x3 E y1 y2 y3 I bare) ?_;refine cZ (EV (tg row) 2 GJ) ?_;refine aR 0 ?_ (h:=by exact(c9 rfl bI ot (IM sG)));refine cZ (Nm.qH ((⟨#[]⟩:ByteArray)++nB (tg row) 2) dw) ?_;refine cZ (sS b jb oT) ?_;refine bH ?_;refine aE 1 ?_;refine aK 0 [_,_,_,_,_,_,_,_,_,_,_,_] sizeOf28 ?_;refine an 111 [1,2,3] ?_;refine⟨_,aM,{gj with kind:=1+2,table:=tn,row:=[⟨2,xa,⟨#[]⟩⟩,⟨2,xb,⟨#[]⟩⟩,⟨3,0,wm ((⟨#[]⟩:ByteArray)++nB (tg row) 2)⟩,p9 b]},(Y5 Z ajC ajE hu6),Ci,rfl⟩
  refine af [1,2,3,16,42] ?_;refine au ?_ ?_<;>intro cr cU
  ·obtain rfl:ki=3:=(by simp at cr;omega)
   refine jQ [1,2,3] (fun aW _ aJ=>∃(N:List ByteArray),((N.length≤6∧∀x∈N,cQ x=0))∧aJ=(⟨111,aW,[⟨b3,32,12,[ae (1+3),bf tn,.list 2 [] 0,.list 3 [] 0,ax 1 cS N,bX false,.list 5 [] 0,e9,bX false,ae (-1),e9,.list 5 [] 0]⟩,⟨b2,32,12,[ae 0,e9,bB,bB,bB,bX false,bB,e9,bX false,ae 0,e9,bB]⟩,⟨b1,77,14,[ae k,ae t,ae a,ae b,ax 3 cV row,ae x1,ae x2,bf x3,.list 4 (Tw.mh E) E.length,ae y1,ae y2,bf y3,.list 4 (Tw.mh I) I.length,bX bare]⟩]⟩:St)) ?_ ?_
   ·refine CD.seq ?_;have aoS:=j4 a (show(1:Int)≤3 by decide);have ajG:=kU G a 3 U pD w7;generalize ei a 3=xc at *;refine iB [1,2,3,47] ?_;refine cZ (ajG) ?_;refine bH ?_;refine au ?_ ?_<;>intro cX ec
    ·have pyb:=j4 b (show(1:Int)≤3 by decide);have Nl:=kU G b 3 jb oT w7;generalize ei b 3=yb at *;have hyb:yb=0∨yb=1∨yb=2:=(by omega)
     rcases hyb with rfl|rfl|rfl
     ·refine rz ?_;refine en (bZ 0 [_,_,_]) [.string ⟨#[]⟩,.string ⟨#[]⟩,.string ⟨#[]⟩] [_,_,_] zeroValue9 runUnderlying29 sizeOf9 (fun Na=>?_);refine fB 0 48 1 3 ?_;refine aE 2 ?_;refine dO call21 (Nl) ?_;refine aE 1 ?_;refine bQ (eu (l:=0) (h:=1) rfl ot trivial ⟨_,ot⟩ Lo) ?_;refine aE 1 ?_;refine aK 0 [_,_,_,_,_,_,_,_,_,_,_,_] sizeOf29 ?_;refine an 111 [1,2,3] ?_;refine⟨_,aM,[⟨#[115]⟩],⟨by decide,by decide +kernel⟩,rfl⟩
     ·refine rz ?_;refine en (bZ 0 [_,_,_]) [.string ⟨#[]⟩,.string ⟨#[]⟩,.string ⟨#[]⟩] [_,_,_] zeroValue9 runUnderlying29 sizeOf9 (fun Na=>?_);refine fB 0 48 1 3 ?_;refine aE 2 ?_;refine dO call21 (Nl) ?_;refine aE 1 ?_;refine bQ (eu (l:=0) (h:=2) rfl ot trivial ⟨_,ot⟩ Lo) ?_;refine aE 1 ?_;refine aK 0 [_,_,_,_,_,_,_,_,_,_,_,_] sizeOf29 ?_;refine an 111 [1,2,3] ?_;refine⟨_,aM,[⟨#[115]⟩,⟨#[105,100]⟩],⟨by decide,by decide +kernel⟩,rfl⟩
     refine rz ?_;refine en (bZ 0 [_,_,_]) [.string ⟨#[]⟩,.string ⟨#[]⟩,.string ⟨#[]⟩] [_,_,_] zeroValue9 runUnderlying29 sizeOf9 (fun Na=>?_);refine fB 0 48 1 3 ?_;refine aE 2 ?_;refine dO call21 (Nl) ?_;refine aE 1 ?_;refine bQ (eu (l:=0) (h:=3) rfl ot trivial ⟨_,ot⟩ Lo) ?_;refine aE 1 ?_;refine aK 0 [_,_,_,_,_,_,_,_,_,_,_,_] sizeOf29 ?_;refine an 111 [1,2,3] ?_;refine⟨_,aM,[⟨#[115]⟩,⟨#[105,100]⟩,⟨#[110]⟩],⟨by decide,by decide +kernel⟩,rfl⟩
    refine CD.skip ?_;refine⟨_,aM,[],⟨by simp,fun _ h=>by cases h⟩,rfl⟩
   rintro _ ⟨N,hN,rfl⟩;refine CD.seq ?_;have aoT:=j4 a (show(1:Int)≤5 by decide);have ajH:=kU G a 5 U pD w7;generalize ei a 5=xd at *;refine dQ 2 ?_;refine dO call21 (ajH) ?_;refine aE 2 ?_;refine aK 0 [_,_,_,_,_,_,_,_,_,_,_,_] sizeOf4 ?_;refine an 111 [1,2,3] ?_;refine jQ [1,2,3] (fun aW _ aJ=>∃(N:List ByteArray),∃(ct:Bool),((N.length≤6∧∀x∈N,cQ x=0))∧(ct=true→N=[])∧aJ=(⟨111,aW,[⟨b3,32,12,[ae (1+3),bf tn,.list 2 [] 0,.list 3 [] 0,ax 1 cS N,bX ct,.list 5 [] 0,e9,bX false,ae (-1),e9,.list 5 [] 0]⟩,⟨b2,32,12,[ae 0,e9,bB,bB,bB,bX false,bB,e9,bX false,ae 0,e9,bB]⟩,⟨b1,77,14,[ae k,ae t,ae a,ae b,ax 3 cV row,ae x1,ae x2,bf x3,.list 4 (Tw.mh E) E.length,ae y1,ae y2,bf y3,.list 4 (Tw.mh I) I.length,bX bare]⟩]⟩:St)) ?_ ?_
   ·refine af [1,2,3,61] ?_;refine au ?_ ?_<;>intro ew fp
    ·refine dQ 1 ?_;refine aK 0 [_,_,_,_,_,_,_,_,_,_,_,_] sizeOf29 ?_;refine an 111 [1,2,3] ?_;refine⟨_,(Wk.cells (k:=0) (cs':=[_,_,_,_,.list 1 [] 0,_,_,_,_,_,_,_]) rfl (by repeat (first|exact trivial|exact⟨cN,trivial⟩|exact⟨eB,trivial⟩|refine⟨cN,?_⟩|refine⟨eB,?_⟩)) rfl).trans (aM),[],(xd==3),⟨Nat.zero_le _,fun _ h=>by cases h⟩,(fun _=>rfl),rfl⟩
    refine CD.skip ?_;refine⟨_,aM,N,(xd==3),hN,(fun h=>absurd h (by rw[ew];decide)),rfl⟩
   rintro _ ⟨N,ct,hN,hcn,rfl⟩;refine CD.seq ?_;have ajI:=j4 b (show(1:Int)≤4 by decide);have ajJ:=kU G b 4 jb oT w7;generalize ei b 4=xe at *;obtain⟨ej,rfl⟩:=Int.eq_ofNat_of_zero_le ajI.1;have Nn:ej<iJ.length:=(by show ej<4;omega)
   have jF:=agS iJ[ej] (getElem_mem Nn);generalize ajK:iJ[ej]=od at *;refine rz ?_;refine en (bZ 0 [_,_,_,_]) [.string ⟨#[]⟩,.string ⟨#[]⟩,.string ⟨#[]⟩,.string ⟨#[]⟩] [_,_,_,_] zeroValue9 runUnderlying29 sizeOf9 (fun Dw=>?_);refine fB 0 63 1 4 ?_;refine aE 2 ?_;refine dO call21 (ajJ) ?_;refine aE 1 ?_;refine bQ (cM (mk:=Op.load 9) rfl ot (by exact pZ (g:=cS) (ls:=iJ) (i:=ej) (d:=bf od) jh isAgg9 Nn (by show some (D.v (.string (iJ[ej]'Nn)))=some (D.v (.string od));rw[ajK]))) ?_;refine aE 1 ?_;refine aK 0 [_,_,_,_,_,_,_,_,_,_,_,_] sizeOf9 ?_;refine an 111 [1,2,3] ?_;refine jQ [1,2,3] (fun aW _ aJ=>∃(dn:Bool),(od=⟨#[]⟩→dn=false)∧aJ=(⟨111,aW,[⟨b3,32,12,[ae (1+3),bf tn,.list 2 [] 0,.list 3 [] 0,ax 1 cS N,bX ct,.list 5 [] 0,bf od,bX dn,ae (-1),e9,.list 5 [] 0]⟩,⟨b2,32,12,[ae 0,e9,bB,bB,bB,bX false,bB,e9,bX false,ae 0,e9,bB]⟩,⟨b1,77,14,[ae k,ae t,ae a,ae b,ax 3 cV row,ae x1,ae x2,bf x3,.list 4 (Tw.mh E) E.length,ae y1,ae y2,bf y3,.list 4 (Tw.mh I) I.length,bX bare]⟩]⟩:St)) ?_ ?_
   ·have aoU:=j4 a (show(1:Int)≤2 by decide);have ajL:=kU G a 2 U pD w7;generalize ei a 2=xf at *;refine dQ 4 ?_;refine bW 73 (fun Lf agT=>?_) (fun Lf agT=>?_)
    ·refine aE 2 ?_;refine OD.gY ic rfl rfl rfl call21 (ajL) ⟨ot,bI,trivial⟩ ?_;refine aE 3 ?_;refine aK 0 [_,_,_,_,_,_,_,_,_,_,_,_] sizeOf4 ?_;refine an 111 [1,2,3] ?_;refine⟨_,aM,(xf==1),(fun h=>by rw[h] at Lf;exact absurd Lf (by decide +kernel)),rfl⟩
    refine xC 4 ?_;refine aE 2 ?_;refine aK 0 [_,_,_,_,_,_,_,_,_,_,_,_] sizeOf4 ?_;refine an 111 [1,2,3] ?_;refine⟨_,aM,false,(fun _=>rfl),rfl⟩
   rintro _ ⟨dn,Ab,rfl⟩;have aoV:=j4 a (show(1:Int)≤9 by decide);have ajM:=kU G a 9 U pD w7;generalize ei a 9=xg at *;refine dQ 2 ?_;refine dO call21 (ajM) ?_;refine aE 2 ?_;refine aK 0 [_,_,_,_,_,_,_,_,_,_,_,_] sizeOf3 ?_;refine an 111 [1,2,3] ?_;refine⟨_,aM,{gj with kind:=1+3,table:=tn,names:=N,count:=ct,order:=od,down:=dn,gH:=xg-1},(Y6 Z hN hcn (jF.imp (fun h=>afq h) id) Ab w4),Ci,rfl⟩
  refine af [1,2,3,85] ?_;refine au ?_ ?_<;>intro fm gv
  ·obtain rfl:ki=4:=(by simp at fm;omega)
   refine CD.seq ?_;have ajN:=j4 a (show(1:Int)≤5 by decide);have ajO:=kU G a 5 U pD w7;generalize ei a 5=xh at *;obtain⟨hj,rfl⟩:=Int.eq_ofNat_of_zero_le ajN.1;have No:hj<Av.length:=(by show hj<5;omega)
   have hsn:=FB Av[hj] (getElem_mem No);generalize ajP:Av[hj]=sn at *;refine rz ?_;refine en (bZ 0 [_,_,_,_,_]) [.string ⟨#[]⟩,.string ⟨#[]⟩,.string ⟨#[]⟩,.string ⟨#[]⟩,.string ⟨#[]⟩] [_,_,_,_,_] zeroValue9 runUnderlying29 sizeOf9 (fun b87=>?_);refine fB 0 87 1 5 ?_;refine aE 2 ?_;refine dO call21 (ajO) ?_;refine aE 1 ?_;refine bQ (cM (mk:=Op.load 9) rfl ot (by exact pZ (g:=cS) (ls:=Av) (i:=hj) (d:=bf sn) jh isAgg9 No (by show some (D.v (.string (Av[hj]'No)))=some (D.v (.string sn));rw[ajP]))) ?_;refine aE 1 ?_;refine aK 0 [_,_,_,_,_,_,_,_,_,_,_,_] sizeOf9 ?_;refine an 111 [1,2,3] ?_;refine dQ 2 ?_;refine dO call19 (SZ (.mk x1 x2 x3 E) hto) ?_;refine aE 1 ?_;refine aK 0 [_,_,_,_,_,_,_,_,_,_,_,_] sizeOf30 ?_;refine an 111 [1,2,3] ?_;refine⟨_,aM,{gj with kind:=1+4,table:=tn,set:=sn,bS:=ir 3 (.mk x1 x2 x3 E)},(Y7 Z hsn (.mk x1 x2 x3 E)),Ci,rfl⟩
  have ajQ:ki=1∨ki=5:=(by simp at aP aX cr fm;omega)
  refine CD.skip ?_;refine⟨_,aM,{gj with kind:=1+ki,table:=tn},(by (rcases ajQ with rfl|rfl;exact acg Z;exact Y8 Z)),Ci,rfl⟩
 rintro _ ⟨s,Lg,Lh,rfl⟩;refine aC 4 ?_;refine bW 101 (fun TZ afr=>?_) (fun TZ afr=>?_)
 ·refine bg [1,2,3,105] ?_;refine au ?_ ?_<;>intro gL kG
  ·have hg4:4≤s.kind∧bare=false:=(by (have q1:=gL;simp at q1;first|exact⟨by simpa using TZ,by simpa using q1⟩|simp_all))
   have nT:=Lg.2 (ir 3 (.mk y1 y2 y3 I)) (SA _) (.inl hg4.1);refine dQ 2 ?_;refine dO call19 (SZ (.mk y1 y2 y3 I) MI) ?_;refine aE 1 ?_;refine aK 0 [_,_,_,_,_,_,_,_,_,_,_,_] sizeOf30 ?_;refine an 111 [2,3] ?_;refine aC 1 ?_;refine aK 1 [_,_,_,_,_,_,_,_,_,_,_,_] sizeOf32 ?_;refine an 111 [2] ?_;refine aI [] ?_;exact⟨{s with aj:=ir 3 (.mk y1 y2 y3 I)},rfl,rfl,nT,Lh⟩
  have nT:=Lg.wM;refine aC 1 ?_;refine aK 1 [_,_,_,_,_,_,_,_,_,_,_,_] sizeOf32 ?_;refine an 111 [2] ?_;refine aI [] ?_;exact⟨s,rfl,rfl,nT,Lh⟩
 refine bg [1,2,3,105] ?_;refine fM ?_;have nT:=Lg.wM;refine aC 1 ?_;refine aK 1 [_,_,_,_,_,_,_,_,_,_,_,_] sizeOf32 ?_;refine an 111 [2] ?_;refine aI [] ?_;exact⟨s,rfl,rfl,nT,Lh⟩

end Go.Proofs.YtdgichenhdikgaaGreatDoor.Pa
namespace Go.Proofs.YtdgichenhdikgaaGreatDoor.Ba
open List
open Go.Proofs.Tryz
open Go.RowKit V Pk Tr Vl Go.Proofs.YtdgichenhdikgaaGreatDoor.Nm Pc Cd Ex Tw
open Pa (cx bY lH gX mX gP jM kZ iN)
variable {l:List aQ} {a c:Nat}
theorem Ki{v:Vl}(h:dP v=0)(h1:-9223372036854775808≤v.n)(h2:v.n≤9223372036854775807):v.Ok:=by
 unfold dP at h;have hk:(0≤v.k∧v.k≤3)∧v.s.size≤20:=by
  repeat' split at h
  all_goals first|(cases h;done)|omega
 exact⟨by omega,by omega,h1,h2,Nat.le_trans hk.2 w7⟩
theorem Pe{α:Type}{f:α→Int}:∀{l:List α},Pa.jH f l=0→∀a∈l,f a=0
 | [],_,a,ha=>by cases ha
 | x::r,h,a,ha=>by
  rw[Pa.jH] at h;split at h
  ·rename_i hx;exact absurd h hx
  rename_i hx;rcases mem_cons.1 ha with rfl|ha
  ·exact Classical.not_not.1 hx
  exact Pe h a ha
theorem IC{w:List aU}(h:Pa.nv w=0):∀o∈w,dP o.v=0:=fun o ho=>by
 unfold Pa.nv at h;split at h
 ·rename_i h0;rw[length_eq_zero_iff.1 h0] at ho;cases ho
 obtain⟨h',h1⟩:=Ey w 0 (vV h).2 o ho;exact D7 (vS h1).2.2.1
theorem adZ{w:List aU}(h:iM w=0):∀o∈w,dP o.v=0:=fun o ho=>by
 obtain⟨h',h1⟩:=Ey w 0 (vV h).2 o ho;exact D7 (vS h1).2.2.1
structure zC (s:cx):Prop where
 fin:lH s
 row:∀v∈s.row,v.Ok
 wnm:∀o∈s.aj,o.nm.size≤maxLen
 wok:∀o∈s.aj,o.v.Ok
 Xq:∀o∈s.bS,o.nm.size≤maxLen
 Xt:∀o∈s.bS,o.v.Ok
theorem FB{s:cx}(hf:lH s)(dM:1≤s.kind)(zZ:s.kind≤6)(hc:gP s=0):zC s:=by
 unfold gP at hc;split at hc
 ·rename_i h1;exact absurd hc h1.2
 split at hc
 ·cases hc
 rename_i h1 h2;have hb:kZ s (iN s)=true:=by
  cases h:kZ s (iN s) with
  | true=>rfl
  | false=>exact absurd ⟨hc,h⟩ h2
 unfold kZ at hb;simp only[Bool.and_eq_true,beq_iff_eq] at hb;have hr:∀v∈s.row,dP v=0:=by
  by_cases h3:s.kind=3
  ·unfold jM at hc;rw[if_neg w4,if_pos h3] at hc;unfold Pa.dZ at hc;split at hc
   ·cases hc
   exact fun v O=>D7 (Pe hc v O)
  have E:(s.row.length:Int)=((iN s).row.length:Int):=hb.2.2.1;have h0:(iN s).row=[]:=(by unfold iN;split;rfl;split;rfl;split;rfl;split;rfl;rfl)
  rw[h0] at E;have:s.row=[]:=length_eq_zero_iff.1 (by simpa using E);rw[this];intro v O;cases O
 have hw:∀o∈s.aj,dP o.v=0:=by
  by_cases h3:4≤s.kind
  ·unfold jM at hc;rw[if_neg w4,if_neg w4] at hc;by_cases h4:s.kind=4
   ·rw[if_pos h4] at hc;unfold Pa.oD at hc;split at hc
    ·cases hc
    split at hc
    ·cases hc
    split at hc
    ·cases hc
    split at hc
    ·rename_i I;exact absurd hc I
    split at hc
    ·rename_i I;exact absurd hc I
    rename_i I;exact IC (Classical.not_not.1 I)
   rw[if_neg h4] at hc;by_cases h5:s.kind=5
   ·rw[if_pos h5] at hc;split at hc
    ·split at hc
     ·exact IC hc
     rename_i I;exact absurd hc I
    rename_i I;exact absurd hc I
   rw[if_neg h5,if_pos w4] at hc;exact IC hc
  have E:(s.aj.length:Int)=((iN s).aj.length:Int):=hb.2.2.2.2.2.1;have h0:(iN s).aj=[]:=(by unfold iN;split;rfl;split;rfl;rw[if_neg w4,if_neg w4,if_neg w4];rfl)
  rw[h0] at E;have:s.aj=[]:=length_eq_zero_iff.1 (by simpa using E);rw[this];intro v O;cases O
 have hx:∀o∈s.bS,dP o.v=0:=by
  by_cases h5:s.kind=5
  ·unfold jM at hc;rw[if_neg w4,if_neg w4,if_neg w4,if_pos h5] at hc;split at hc
   ·split at hc
    ·rename_i I;exact adZ I
    rename_i I;exact absurd hc I
   rename_i I;exact absurd hc I
  have E:(s.bS.length:Int)=((iN s).bS.length:Int):=(by simpa using hb.2.2.2.2.2.2.2.2.2.2)
  have h0:(iN s).bS=[]:=(by unfold iN;split;rfl;split;rfl;split;rfl;split;rfl;rfl)
  rw[h0] at E;have:s.bS=[]:=length_eq_zero_iff.1 (by simpa using E);rw[this];intro v O;cases O
 exact⟨hf,fun v O=>Ki (hr v O) (hf.r v O).1 (hf.r v O).2,fun o ho=>(hf.w o ho).1,fun o ho=>Ki (hw o ho) (hf.w o ho).2.1 (hf.w o ho).2.2,fun o ho=>(hf.x o ho).1,fun o ho=>Ki (hx o ho) (hf.x o ho).2.1 (hf.x o ho).2.2⟩
theorem mX.st{s:cx}(h:mX s):zC s:=FB h.1 h.2.1 h.2.2.1 h.2.2.2.2
structure qi (l:List aQ) (a c:Nat):Prop where
 g:qh l (a*(1+c))
 r:∀t∈l,t.rows.length≤a
theorem ach(s:cx)(h:cQ s.table=0)(hc:s.ay=dB):eV (gJ s) 0:=⟨h,hc,Nat.zero_le _,abO,fun i h=>absurd h (Nat.not_lt_zero _),fun x hx=>by
 have:gp sg=[]:=abP;rw[show(gJ s).ix=sg from rfl,this] at hx;cases hx⟩
theorem qh.mono{l:List aQ}{n m:Nat}(g:qh l n)(h:n≤m):qh l m:=⟨g.eM,fun t ht=>(g.tb t ht).mono h,g.sz,g.G3⟩
theorem qh.put{n:Nat}(g:qh l n){i:Nat}(hi:i<l.length){t:aQ}(ht:eV t n)(hn:t.nm=l[i].nm):qh (l.set i t) n:=by
 refine⟨by rw[length_set];exact g.eM,fun x hx=>?_,fun x hx=>?_,?_⟩
 ·rcases mem_or_eq_of_mem_set hx with h|h
  ·exact g.tb x h
  rw[h];exact ht
 ·rcases mem_or_eq_of_mem_set hx with h|h
  ·exact g.sz x h
  rw[h,hn];exact g.sz _ (getElem_mem hi)
 have hm:(l.set i t).map aQ.nm=l.map aQ.nm:=by
  exact V5
 have h1:∀l:List aQ,(l.Pairwise fun a b=>a.nm.toList≠b.nm.toList)↔(l.map aQ.nm).Pairwise fun a b=>a.toList≠b.toList:=fun l=>by rw[pairwise_map]
 rw[h1,hm,←h1];exact g.G3

theorem Tn(t:aQ)(row:List Vl):(gl t row).1.nm=t.nm:=by
 unfold gl;by_cases h1:Pc.dZ t.ay row≠0
 ·rw[if_pos h1]
 rw[if_neg h1];cases ik t.ix (dx row) (dH t.ix) with
 | true=>rw[if_pos rfl]
 | false =>
  rw[if_neg w7];by_cases h3:t.rows.length=40
  ·rw[if_pos h3]
  rw[if_neg h3]
theorem SC:∀(l:List Int) (t:aQ),(q8 t l).nm=t.nm
 | [],_=>rfl
 | _::l,t=>(SC l _).trans rfl
theorem Tp(t:aQ)(w:List aU):(mu t w).1.nm=t.nm:=by unfold mu;split;rfl;exact SC _ _
theorem SD{c:Nat}:∀(l:List Int) (vs:List Vl) (t:aQ),(mF c t l vs).nm=t.nm
 | [],_,t=>by unfold mF;rfl
 | _::_,[],t=>by unfold mF;rfl
 | _::l,_::vs,t=>(SD l vs _).trans rfl
theorem QL:∀(l:List Int) (vs:List Vl) (t:aQ),(ko t l vs).1.nm=t.nm
 | [],_,t=>by unfold ko;rfl
 | _::_,[],t=>by unfold ko;rfl
 | _::l,_::vs,t=>by
  rw[ko];split
  ·rfl
  exact(QL l vs _).trans rfl
theorem Tq(t:aQ)(s:cx):(gS t s).1.nm=t.nm:=by
 unfold gS;repeat' split
 all_goals first|rfl|exact SD _ _ _|exact(QL _ _ _).trans rfl
theorem afs{nm:ByteArray}(h:bz l nm<0):∀t∈l,t.nm.toList≠nm.toList:=fun t ht e=>by
 unfold bz dS at h;split at h
 ·omega
 rename_i h1;have:=findIdx?_eq_none_iff.1 h1 t ht;rw[e] at this;simp at this
theorem QM(h:a+c≤30):a*(1+c)≤260:=by
 have key:∀a<31,∀c<31,a+c≤30→a*(1+c)≤260:=(by decide +kernel)
 exact key a w4 c w4 h
theorem T0:a*(1+c)+1≤(a+1)*(1+c):=by rw[Nat.add_mul];omega
theorem T1:a*(1+c)+a=a*(1+(c+1)):=by rw[←Nat.add_assoc,Nat.mul_add a (1+c) 1,Nat.mul_one]
theorem qi.put{l:List aQ}{a c a' E:Nat}(g:qi l a c)(h:a*(1+c)≤a'*(1+E))(ha:a≤a'){i:Nat}(hi:i<l.length){t:aQ}(ht:eV t (a'*(1+E)))(hr:t.rows.length≤a')(hn:t.nm=l[i].nm):qi (l.set i t) a' E:=by
 refine⟨(g.g.mono h).put hi ht hn,fun x hx=>?_⟩;rcases mem_or_eq_of_mem_set hx with hx|hx
 ·exact Nat.le_trans (g.r x hx) ha
 rw[hx];exact hr
theorem JL{i:Nat}(hi:i<l.length){t:aQ}(hn:t.nm=l[i].nm):(l.set i t).map aQ.nm=l.map aQ.nm:=by
 exact V5
theorem ID(g:qi l a c)(O:a+c≤30){s:cx}(hs:zC s)(fu:¬s.kind=2)(qs:cQ s.table=0)(I:s.kind=1→s.ay=dB)(h0:(gD l s).2.2=0) :
  ∃a' U,a'+U≤a+c+1∧qi (gD l s).1 a' U∧(s.kind=1→(gD l s).1=l++[gJ s]∧a'=a∧U=c)∧(¬s.kind=1→(gD l s).1.map aQ.nm=l.map aQ.nm):=by
 have hb:=QM O;have jb:=yB (fun t:aQ=>t.nm.toList==s.table.toList) l;rw[show dS (fun t:aQ=>t.nm.toList==s.table.toList) l=bz l s.table from rfl] at jb;unfold gD at h0 ⊢;by_cases dM:s.kind=1
 ·rw[if_pos dM] at h0 ⊢;dsimp only at h0;unfold pR at h0 ⊢;by_cases h1:0≤bz l s.table
  ·rw[if_pos h1] at h0;cases h0
  rw[if_neg h1] at h0 ⊢;by_cases h2:l.length=4
  ·rw[if_pos h2] at h0;cases h0
  rw[if_neg h2] at h0 ⊢;have Z:=ach s qs (I dM);have hf:=g.g.eM;refine⟨a,c,by omega,⟨⟨by rw[length_append,length_singleton];omega,fun t ht=>?_,fun t ht=>?_,?_⟩,fun t ht=>?_⟩,fun _=>⟨rfl,rfl,rfl⟩,fun h=>absurd dM h⟩
  ·rcases mem_append.1 ht with ht|ht
   ·exact g.g.tb t ht
   rw[mem_singleton] at ht;rw[ht];exact Z.mono (Nat.zero_le _)
  ·rcases mem_append.1 ht with ht|ht
   ·exact g.g.sz t ht
   rw[mem_singleton] at ht;rw[ht];exact hs.fin.t
  ·refine pairwise_append.2 ⟨g.g.G3,pairwise_singleton _ _,fun x hx y hy=>?_⟩;rw[mem_singleton] at hy;subst hy;exact afs (show bz l s.table<0 by omega) x hx
  rcases mem_append.1 ht with ht|ht
  ·exact g.r t ht
  rw[mem_singleton] at ht;rw[ht];exact Nat.zero_le _
 rw[if_neg dM] at h0 ⊢;by_cases h1:bz l s.table<0
 ·rw[if_pos h1] at h0;cases h0
 rw[if_neg h1] at h0 ⊢;have E:(bz l s.table).toNat<l.length:=(by omega)
 have kN:l.getD (bz l s.table).toNat (gJ s)=l[(bz l s.table).toNat]:=(by rw[getD_eq_getElem?_getD,getElem?_eq_getElem E];rfl)
 rw[kN] at h0 ⊢;have gt:=g.g.tb _ (getElem_mem E);have gr:=g.r _ (getElem_mem E);by_cases h3:s.kind=3
 ·rw[if_pos h3] at h0 ⊢;obtain⟨q1,q2⟩:=aaw gt w4 hs.row h0;exact⟨a+1,c,by omega,g.put (Nat.le_trans (Nat.le_succ _) T0) (Nat.le_succ _) E (q1.mono T0) w4 (Tn _ _),fun h=>absurd h dM,fun _=>JL E (Tn _ _)⟩
 rw[if_neg h3] at h0 ⊢;by_cases h4:s.kind=4
 ·rw[if_pos h4];exact⟨a,c,by omega,g,fun h=>absurd h dM,fun _=>rfl⟩
 rw[if_neg h4] at h0 ⊢;by_cases h5:s.kind=5
 ·rw[if_pos h5];obtain⟨q1,q2⟩:=aax gt s hs.Xq hs.Xt hb;exact⟨a,c+1,by omega,g.put (by rw[←T1];omega) (Nat.le_refl _) E (q1.mono (by rw[←T1];omega)) w4 (Tq _ _),fun h=>absurd h dM,fun _=>JL E (Tq _ _)⟩
 rw[if_neg h5];obtain⟨q1,q2⟩:=XU gt s.aj;exact⟨a,c,by omega,g.put (Nat.le_refl _) (Nat.le_refl _) E q1 w4 (Tp _ _),fun h=>absurd h dM,fun _=>JL E (Tp _ _)⟩

end Go.Proofs.YtdgichenhdikgaaGreatDoor.Ba

namespace Go.Proofs.YtdgichenhdikgaaGreatDoor.Pa
open List
open Go.Proofs.Tryz
open Go.RowKit V Pk Go.Proofs.YtdgichenhdikgaaGreatDoor.Vl Go.Proofs.YtdgichenhdikgaaGreatDoor.Nm Go.Proofs.YtdgichenhdikgaaGreatDoor.Pc
section
variable {H:Type} {enc:TypeId×Value→H} {P:Program} {w:World} {base:Nat} {sp:Nat→Bool} {held:Bool}
theorem Y9 {fuel:Nat} {t:TypeId} {f0 f1 f2 f3 f4 f5 f6 f7:Field} {E I O U Z α5 α6 α7:Type} {g0:E→List D} {k0:E→Prop} {g1:I→List D} {k1:I→Prop} {g2:O→List D} {k2:O→Prop} {g3:U→List D} {k3:U→Prop} {g4:Z→List D} {k4:Z→Prop} {g5:α5→List D} {k5:α5→Prop} {g6:α6→List D} {k6:α6→Prop} {g7:α7→List D} {k7:α7→Prop} {n0 n1 n2 n3 n4 n5 n6 n7:Nat}
  (ht:P.underlying t=some (.struct #[f0,f1,f2,f3,f4,f5,f6,f7])) (hc:P.cellsOf t=n0+n1+n2+n3+n4+n5+n6+n7) (o0:f0.offset=0) (c0:P.cellsOf f0.type=n0) (o1:f1.offset=n0) (c1:P.cellsOf f1.type=n1) (o2:f2.offset=n0+n1) (c2:P.cellsOf f2.type=n2) (o3:f3.offset=n0+n1+n2) (c3:P.cellsOf f3.type=n3) (o4:f4.offset=n0+n1+n2+n3) (c4:P.cellsOf f4.type=n4) (o5:f5.offset=n0+n1+n2+n3+n4) (c5:P.cellsOf f5.type=n5) (o6:f6.offset=n0+n1+n2+n3+n4+n5) (c6:P.cellsOf f6.type=n6) (o7:f7.offset=n0+n1+n2+n3+n4+n5+n6) (c7:P.cellsOf f7.type=n7)
  (r0:∀n,n+1=fuel→l7 n enc P w base sp held f0.type g0 k0) (r1:∀n,n+1=fuel→l7 n enc P w base sp held f1.type g1 k1) (r2:∀n,n+1=fuel→l7 n enc P w base sp held f2.type g2 k2) (r3:∀n,n+1=fuel→l7 n enc P w base sp held f3.type g3 k3) (r4:∀n,n+1=fuel→l7 n enc P w base sp held f4.type g4 k4) (r5:∀n,n+1=fuel→l7 n enc P w base sp held f5.type g5 k5) (r6:∀n,n+1=fuel→l7 n enc P w base sp held f6.type g6 k6) (r7:∀n,n+1=fuel→l7 n enc P w base sp held f7.type g7 k7) :
  l7 fuel enc P w base sp held t (fun a:E × I × O × U × Z × α5 × α6 × α7=>(g0 (a.1)++(g1 (a.2.1)++(g2 (a.2.2.1)++(g3 (a.2.2.2.1)++(g4 (a.2.2.2.2.1)++(g5 (a.2.2.2.2.2.1)++(g6 (a.2.2.2.2.2.2.1)++g7 (a.2.2.2.2.2.2.2))))))))) (fun a=>k0 (a.1)∧k1 (a.2.1)∧k2 (a.2.2.1)∧k3 (a.2.2.2.1)∧k4 (a.2.2.2.2.1)∧k5 (a.2.2.2.2.2.1)∧k6 (a.2.2.2.2.2.2.1)∧k7 (a.2.2.2.2.2.2.2)):=fun cs x h=>by
 obtain⟨xs,n,hn,_,hl,fU,hf⟩:=DataW.trod_struct ht h;have e0:=hf 0 f0 rfl;have e1:=hf 1 f1 rfl;have e2:=hf 2 f2 rfl;have e3:=hf 3 f3 rfl;have e4:=hf 4 f4 rfl;have e5:=hf 5 f5 rfl;have e6:=hf 6 f6 rfl;have e7:=hf 7 f7 rfl;rw[o0,c0,drop_zero] at e0;rw[o1,c1] at e1;rw[o2,c2] at e2;rw[o3,c3] at e3;rw[o4,c4] at e4;rw[o5,c5] at e5;rw[o6,c6] at e6;rw[o7,c7] at e7;have hx8:xs.length=8:=fU;rw[getElem?_eq_getElem w4] at e0 e1 e2 e3 e4 e5 e6 e7;obtain⟨a0,p0,q0⟩:=r0 n hn.symm _ _ e0;obtain⟨a1,p1,q1⟩:=r1 n hn.symm _ _ e1;obtain⟨a2,p2,q2⟩:=r2 n hn.symm _ _ e2;obtain⟨a3,p3,q3⟩:=r3 n hn.symm _ _ e3;obtain⟨a4,p4,q4⟩:=r4 n hn.symm _ _ e4;obtain⟨a5,p5,q5⟩:=r5 n hn.symm _ _ e5;obtain⟨a6,p6,q6⟩:=r6 n hn.symm _ _ e6;obtain⟨a7,p7,q7⟩:=r7 n hn.symm _ _ e7;refine⟨(a0,a1,a2,a3,a4,a5,a6,a7),?_,q0,q1,q2,q3,q4,q5,q6,q7⟩;have dw:cs=(cs.take n0++((cs.drop (n0)).take n1++((cs.drop (n0+n1)).take n2++((cs.drop (n0+n1+n2)).take n3++((cs.drop (n0+n1+n2+n3)).take n4++((cs.drop (n0+n1+n2+n3+n4)).take n5++((cs.drop (n0+n1+n2+n3+n4+n5)).take n6++((cs.drop (n0+n1+n2+n3+n4+n5+n6)).take n7)))))))):=by
  rw[take_of_length_le (l:=drop (n0+n1+n2+n3+n4+n5+n6) cs) (by rw[length_drop];omega)];have d2:cs.drop (n0+n1)=(cs.drop (n0)).drop n1:=(by rw[drop_drop])
  have d3:cs.drop (n0+n1+n2)=(cs.drop (n0+n1)).drop n2:=(by rw[drop_drop])
  have d4:cs.drop (n0+n1+n2+n3)=(cs.drop (n0+n1+n2)).drop n3:=(by rw[drop_drop])
  have d5:cs.drop (n0+n1+n2+n3+n4)=(cs.drop (n0+n1+n2+n3)).drop n4:=(by rw[drop_drop])
  have d6:cs.drop (n0+n1+n2+n3+n4+n5)=(cs.drop (n0+n1+n2+n3+n4)).drop n5:=(by rw[drop_drop])
  have d7:cs.drop (n0+n1+n2+n3+n4+n5+n6)=(cs.drop (n0+n1+n2+n3+n4+n5)).drop n6:=(by rw[drop_drop])
  rw[d7,take_append_drop,d6,take_append_drop,d5,take_append_drop,d4,take_append_drop,d3,take_append_drop,d2,take_append_drop,take_append_drop]
 rw[dw];exact(p0.append (p1.append (p2.append (p3.append (p4.append (p5.append (p6.append p7)))))))
end


structure Ph where
 k:Int
 t:Int
 a:Int
 b:Int
 row:List Vl
 bS:Tw
 wh:Tw
 bare:Bool
def Ph.cs(p:Ph):List D:=[ae p.k]++([ae p.t]++([ae p.a]++([ae p.b]++([ax 3 cV p.row]++(p.bS.cs++(p.wh.cs++[bX p.bare]))))))
structure Ph.Ok (p:Ph):Prop where
 k:-9223372036854775808≤p.k∧p.k≤9223372036854775807
 t:-9223372036854775808≤p.t∧p.t≤9223372036854775807
 a:-9223372036854775808≤p.a∧p.a≤9223372036854775807
 b:-9223372036854775808≤p.b∧p.b≤9223372036854775807
 row:∀v∈p.row,v.s.size≤maxLen
 bS:p.bS.Ok
 wh:p.wh.Ok
theorem ad0{H:Type}{enc:TypeId×Value→H}{w:World}{base:Nat}{sp:Nat→Bool}{held:Bool}:oP enc Tryz.prog w base sp held 114 cV (fun v:Vl=>v.s.size≤maxLen) :=
 (Yr (n0:=1) (n1:=1) (n2:=1) underlying114 aA rfl rfl rfl aA aA aA (uG underlying3) (uG underlying3) (Oh underlying9)).map (fun a=>(⟨a.1,a.2.1,a.2.2⟩:Vl)) (fun _=>rfl) (fun _ h=>h.2.2)
theorem Za{H:Type}{enc:TypeId×Value→H}{w:World}{base:Nat}{sp:Nat→Bool}{held:Bool}(n:Nat):l7 n enc Tryz.prog w base sp held 77 Ph.cs Ph.Ok:=fun cs x h=>by
 obtain⟨⟨a0,a1,a2,a3,a4,a5,a6,a7⟩,h1,q0,q1,q2,E,I,O,U,_⟩:=Y9 (fuel:=n) (n0:=1) (n1:=1) (n2:=1) (n3:=1) (n4:=1) (n5:=4) (n6:=4) (n7:=1) underlying77 aA rfl aA rfl aA rfl aA rfl aA rfl aA rfl aA rfl aA rfl aA
  (fun q _=>(uG underlying3).at q) (fun q _=>(uG underlying3).at q) (fun q _=>(uG underlying3).at q) (fun q _=>(uG underlying3).at q) (fun q _=>Om (sz:=3) underlying75 aA w7 (fun z _=>ad0.at z) fj) (fun q _=>P3 q) (fun q _=>P3 q) (fun q _=>(acr underlying4).at q) cs x h
 exact⟨⟨a0,a1,a2,a3,a4,a5,a6,a7⟩,h1,⟨q0,q1,q2,E,I.1,O,U⟩⟩
end Go.Proofs.YtdgichenhdikgaaGreatDoor.Pa

namespace Go.Proofs.YtdgichenhdikgaaGreatDoor.Ba
open List
open Go.Proofs.Tryz
open Go.RowKit V Pk Tr Vl Go.Proofs.YtdgichenhdikgaaGreatDoor.Nm Pc Cd Ex Tw
open Pa (cx bY lH gX mX gP jM kZ iN gj eJ Ph)
variable {G:List (Nat×List Value)} {m:Int}
variable {l:List aQ}
theorem VC.zW{P:Program}{f:FuncId}{args args':List D}{S:List ah}{post:D→List ah→Prop}(h:VC P G f args S post)(k:pK args' args):VC P G f args' S post:=by
 obtain⟨h1,h2⟩:=k.spec;exact h.args h1.symm fun w L i q1 q2 v hr=>h2 i q2 q1 _ _ _ hr
theorem SH(hm:(3,marksC)∈G)(hw:(1,wordsC)∈G)(ht:(0,typesC)∈G)(hG:(2,[Value.int .i64 m])∈G)(p:Ph)(h:p.Ok):VC Tryz.prog G 23 [.agg p.cs] [] (fun r S'=>∃s,r = .agg (bY s)∧S'=[]∧mX s∧s.kind=1+ei p.k 6):=by
 obtain⟨k,t,a,b,row,⟨x1,O,U,E⟩,⟨y1,y2,y3,I⟩,bare⟩:=p;exact Pa.XV k t a b row x1 O U E y1 y2 y3 I bare h.k.1 h.k.2 h.t.1 h.t.2 h.a.1 h.a.2 h.b.1 h.b.2 h.row h.bS h.wh
theorem za(hm:(3,marksC)∈G)(hw:(1,wordsC)∈G)(ht:(0,typesC)∈G)(hG:(2,[Value.int .i64 m])∈G){a c:Nat}(g:qi l a c)(E:a+c≤30){s:cx}(hs:zC s)(fu:¬s.kind=2)(qs:s.kind≤6→cQ s.table=0)(zZ:s.kind≤6)(I:s.kind=1→s.ay=dB):VP Tryz.prog G 11 [.agg [ax 5 dA (l)],.agg (bY s)] (uo (n8 l s)):=by
 refine afp hm hw ht hG l (QM E) g.g s hs.fin fu hs.row hs.wnm hs.wok hs.Xq hs.Xt fun h0=>?_;obtain⟨a',c',_,g',_⟩:=ID g E hs fu (qs zZ) I h0;exact⟨Nat.le_trans g'.g.eM w7,fun t ht=>(g'.g.tb t ht).small⟩
theorem SE{s:cx}(h:(n8 l s).2.2=0):(gD l s).2.2=0∧(n8 l s).1=(gD l s).1:=by
 unfold n8 at h ⊢;by_cases h1:gX s≠0
 ·rw[if_pos h1] at h;exact absurd h h1
 rw[if_neg h1] at h ⊢;by_cases h2:7≤s.kind
 ·rw[if_pos h2] at h;cases h
 rw[if_neg h2] at h ⊢;by_cases h3:(gD l s).2.2≠0
 ·rw[if_pos h3] at h;exact absurd h h3
 rw[if_neg h3];exact⟨Classical.not_not.1 h3,rfl⟩
def jR(x:ByteArray):cx:={gj with kind:=1,table:=x,ay:=dB}
theorem aci:∀x∈eJ,gX (jR x)=0:=by decide +kernel
theorem SF{x:ByteArray}(hx:x∈eJ):zC (jR x):=mX.st (Pa.sA.wM (Pa.N9 (Pa.Fz x hx)))
def Ve:List aQ:=eJ.map fun x=>gJ (jR x)
theorem Ts:∀i (h:i<eJ.length),n8 ((eJ.take i).map fun x=>gJ (jR x)) (jR eJ[i])=((eJ.take (i+1)).map (fun x=>gJ (jR x)),(([],0),0)):=by
 intro i h;have hx:eJ[i]∈eJ:=getElem_mem h;unfold n8;rw[if_neg (by rw[aci _ hx];decide),if_neg (by show ¬(7:Int)≤1;decide)];have h1:gD ((eJ.take i).map fun x=>gJ (jR x)) (jR eJ[i])=((eJ.take (i+1)).map (fun x=>gJ (jR x)),(([],0),0)):=by
  have h2:i=0∨i=1:=(by have:eJ.length=2:=rfl;omega)
  rcases h2 with rfl|rfl
  ·exact(show gD ((eJ.take 0).map fun x=>gJ (jR x)) (jR (eJ[0]'w7))=((eJ.take 1).map (fun x=>gJ (jR x)),(([],0),0)) by kernel_rfl)
  exact(show gD ((eJ.take 1).map fun x=>gJ (jR x)) (jR (eJ[1]'w7))=((eJ.take 2).map (fun x=>gJ (jR x)),(([],0),0)) by kernel_rfl)
 rw[h1];rfl
theorem yG(p:Ph):p.cs.length=14:=by
 obtain⟨k,t,a,b,row,⟨x1,O,U,E⟩,⟨y1,y2,y3,I⟩,bare⟩:=p;rfl
theorem aaC:qi [] 0 0:=⟨⟨by decide,(fun t h=>by cases h),(fun t h=>by cases h),Pairwise.nil⟩,(fun t h=>by cases h)⟩
theorem SI:(Nm.Tw.mk 0 0 ⟨#[]⟩ []).Ok:=by constructor<;>first|decide|(simp;done)|trivial
theorem ad4{s:cx}(h:mX s):cQ s.table=0:=by
 have hc:=h.2.2.2.2;have h6:=h.2.2.1;unfold gP at hc;split at hc
 ·rename_i h1;exact absurd hc h1.2
 rename_i h1;exact Classical.not_not.1 fun e=>h1 ⟨by omega,e⟩
theorem Vf:∀i,i≤2→qi ((eJ.take i).map fun x=>gJ (jR x)) 0 0:=by
 intro i;induction i with
 | zero=>intro _;exact aaC
 | succ i ih =>
  intro hi;have aa:i<eJ.length:=(by have:eJ.length=2:=rfl;omega)
  have hr:=Ts i aa;have h0:(n8 ((eJ.take i).map fun x=>gJ (jR x)) (jR eJ[i])).2.2=0:=(by rw[hr])
  obtain⟨h1,h2⟩:=SE h0;obtain⟨a',c',_,g',h4,_⟩:=ID (ih w4) w7 (SF (getElem_mem aa)) (show ¬(1:Int)=2 by decide) (Pa.Fz _ (getElem_mem aa)) (fun _=>rfl) h1;obtain⟨_,rfl,rfl⟩:=h4 rfl;rw[←h2,hr] at g';exact g'
theorem ad5(hm:(3,marksC)∈G)(hw:(1,wordsC)∈G)(ht:(0,typesC)∈G)(hG:(2,[Value.int .i64 m])∈G)(ps:List Ph)(gU:∀p∈ps,p.Ok)(fJ:ps.length≤maxLen):VC Tryz.prog G 9 [.list 14 (ps.flatMap Ph.cs) ps.length] [] (fun r S=>∃l a c,r = .agg [ax 5 dA (l)]∧S=[]∧qi l a c∧a+c≤30∧l.map aQ.nm=eJ):=by
 refine VC.body func9 rfl ntmps9 aO fun X0 w0 aY=>?_;have dy:=dY;have oI:eJ.length=2:=rfl;skip;refine cf ?_;refine OD.alloc (ds:=[_]) ap rfl rfl zeroValue25 rfl (fun b2=>?_);refine an 88 [0,2] ?_;refine cf ?_;refine OD.alloc (ds:=[_]) ap rfl rfl zeroValue25 rfl (fun b3=>?_);refine OD.cells (k:=0) (cs':=[.list 5 [] 0]) rfl ⟨eB,trivial⟩ rfl ?_;refine an 88 [0,2,3] ?_;refine af [0,2,3,4] ?_;refine eL [0,2,3] (fun aW _ (i:Nat) aJ=>(i≤2)∧aJ=(⟨88,(4,ae (i:Nat))::aW,[⟨b3,25,1,[.list 5 ((((eJ.take i).map fun x=>gJ (jR x))).flatMap dA) (((eJ.take i).map fun x=>gJ (jR x))).length]⟩,⟨b2,25,1,[bB]⟩]⟩:St)) (fun (i:Nat)=>2-i) 0 ⟨(Nat.zero_le _),rfl⟩ ?_;rintro i _ ⟨hi,rfl⟩;refine af [0,2,3,4,14] ?_;refine au ?_ ?_<;>intro aP bF
 ·have aa:i<eJ.length:=(by omega)
  have O:=VC.zW (za hm hw ht hG (l:=((eJ.take i).map fun x=>gJ (jR x))) (a:=0) (c:=0) (s:=jR (eJ[i]'aa)) (Vf i w4) w7 (SF (getElem_mem aa)) (show ¬(1:Int)=2 by decide) (fun _=>Pa.Fz _ (getElem_mem aa)) (show(1:Int)≤6 by decide) (fun _=>rfl)) (args':=[.agg [.list 5 ((((eJ.take i).map fun x=>gJ (jR x))).flatMap dA) (((eJ.take i).map fun x=>gJ (jR x))).length],.agg [ae 1,bf (eJ[i]'aa),ax 2 cC dB,bB,bB,bX false,bB,e9,bX false,ae (-1),e9,bB]]) ⟨cN,vX ⟨cN,cN,cN,eB,eB,cN,eB,cN,cN,cN,cN,eB,trivial⟩,trivial⟩;rw[Ts i aa] at O;unfold uo at O;refine CD.skip ?_;refine CD.seq ?_;refine CD.block ?_;refine CD.seq ?_;refine dv_ 14 13 12 [0,2,3,4,5,6,26,27,28] ?_;refine nj 1 ?_;refine Mp (g:=cS) (eJ) ?_;refine cZ (OH) ?_;refine cZ (O) ?_;refine nj 4 ?_;refine rq ?_;refine rq ?_;refine jX ?_;refine⟨rfl,rfl,fun b6 b5=>?_⟩;refine aK 1 [_] sizeOf25 ?_;refine aK 0 [_,_] sizeOf36 ?_;refine an 88 [0,2,3,4,5,7] ?_;refine af [0,2,3,4,5,30] ?_;refine au ?_ ?_<;>intro aX cJ
  ·refine dQ 1 ?_;refine aK 2 [_] sizeOf25 ?_;refine an 88 [0,2,3,4] ?_;refine cl [0,2,3,4] ?_;refine⟨(i+1),_,cD,aM,w4,rfl⟩
  exact absurd aX (by simp at aX)
 have lS:i=2:=(by omega)
 subst lS;have htw:((eJ.take 2).map fun x=>gJ (jR x))=Ve:=rfl;refine af [0,2,3,8] ?_;refine eL [0,2,3] (fun aW _ (U:Nat×List aQ×Nat×Nat) aJ=>match U with|(k,l,a,c)=>(k≤30)∧(k≤ps.length)∧(a+c≤k)∧(qi l a c)∧((l).map aQ.nm=eJ)∧aJ=(⟨88,(8,ae (k:Nat))::aW,[⟨b3,25,1,[ax 5 dA (l)]⟩,⟨b2,25,1,[bB]⟩]⟩:St)) (fun (U:Nat×List aQ×Nat×Nat)=>match U with|(k,l,a,c)=>30-k) (0,Ve,0,0) ⟨(Nat.zero_le _),(Nat.zero_le _),(Nat.le_refl _),(Vf 2 (Nat.le_refl _)),rfl,rfl⟩ ?_;rintro⟨k,l,a,c⟩ _ ⟨lP,hkp,DH,gn,I,rfl⟩;refine aC 5 ?_;refine bW 36 (fun ajR agU=>?_) (fun ajR agU=>?_)
 ·refine bg [0,2,3,8,39] ?_;refine au ?_ ?_<;>intro cr cU
  ·have aa:k<ps.length:=(by first|omega|(simp at *;omega))
   have aoW:k<30:=(by first|omega|(simp at *;omega))
   have rp:=gU (ps[k]'aa) (getElem_mem aa);refine aC 3 ?_;refine bQ (cM (mk:=Op.load 77) rfl ot (jU (g:=Ph.cs) (ls:=ps) (i:=k) yG isAgg77 sizeOf77 aa)) ?_;refine OD.call ap rfl rfl rfl call23 (SH hm hw ht hG (ps[k]'aa) rp) ⟨ot,trivial⟩ (eO _) ?_;rintro _ _ ⟨s,rfl,rfl,Z,GX⟩;refine OD.alloc (ds:=[_,_,_,_,_,_,_,_,_,_,_,_]) ap rfl rfl zeroValue32 rfl (fun b9=>?_);refine aK 0 [_,_,_,_,_,_,_,_,_,_,_,_] sizeOf32 ?_;refine an 88 [0,2,3,8,9] ?_;refine jQ [0,2,3,8,9] (fun aW _ aJ=>∃(s:cx),(mX s)∧(¬s.kind=1∧¬s.kind=2)∧aJ=(⟨88,aW,[⟨b9,32,12,bY s⟩,⟨b3,25,1,[ax 5 dA (l)]⟩,⟨b2,25,1,[bB]⟩]⟩:St)) ?_ ?_
   ·refine aC 4 ?_;refine bW 50 (fun Vg agV=>?_) (fun Vg agV=>?_)
    ·refine bg [0,2,3,8,9,54] ?_;refine eE ?_;exact Vo
    refine bg [0,2,3,8,9,54] ?_;refine au ?_ ?_<;>intro cX ec
    ·exact Vo
    have E:¬s.kind=1∧¬s.kind=2:=(by first|exact⟨by simpa using Vg,by simpa using cX⟩|(simp at *;omega))
    refine CD.skip ?_;refine⟨_,aM,s,Z,E,rfl⟩
   rintro _ ⟨s,Z,E,rfl⟩;refine CD.seq ?_;have Au:=mX.st Z;have qs:=ad4 Z;have O:=za hm hw ht hG gn w4 Au E.2 (fun _=>qs) Z.2.2.1 (fun h=>absurd h E.1);unfold uo at O;refine dQ 2 ?_;refine dO call11 (O) ?_;refine aE 4 ?_;refine OD.alloc (ds:=[_]) ap rfl rfl zeroValue25 rfl (fun kM=>?_);refine OD.alloc (ds:=[_,_]) ap rfl rfl zeroValue36 rfl (fun kx=>?_);refine aK 1 [_] sizeOf25 ?_;refine aK 0 [_,_] sizeOf36 ?_;refine an 88 [0,2,3,8,10,12] ?_;refine af [0,2,3,8,10,85] ?_;refine au ?_ ?_<;>intro ew fp
   ·have h0:(n8 l s).2.2=0:=(by simpa using ew)
    obtain⟨h1,h2⟩:=SE h0;obtain⟨a',c',aoX,gn1,_,gh⟩:=ID gn w4 Au E.2 qs (fun h=>absurd h E.1) h1;have gn2:qi (n8 l s).1 a' c':=(by rw[h2];exact gn1)
    have agW:(n8 l s).1.map aQ.nm=eJ:=(by rw[h2,gh E.1];exact I)
    refine dQ 1 ?_;refine aK 3 [_] sizeOf25 ?_;refine an 88 [0,2,3,8] ?_;refine cl [0,2,3,8] ?_;refine⟨((k+1),(n8 l s).1,a',c'),_,cD,aM,w4,w4,w4,gn2,agW,rfl⟩
   refine cl [0,2,3,8] ?_;refine⟨((k+1),l,a,c),_,cD,aM,w4,w4,w4,gn,I,rfl⟩
  refine aC 1 ?_;refine aK 1 [_] sizeOf25 ?_;refine an 88 [2] ?_;refine aI [] ?_;exact⟨l,a,c,rfl,rfl,gn,by omega,I⟩
 refine bg [0,2,3,8,39] ?_;refine fM ?_;refine aC 1 ?_;refine aK 1 [_] sizeOf25 ?_;refine an 88 [2] ?_;refine aI [] ?_;exact⟨l,a,c,rfl,rfl,gn,by omega,I⟩

theorem ajS(h:l.map aQ.nm=eJ):bz l ⟨#[116]⟩=0:=by
 match l,h with
 | a::r,h =>
  rw[map_cons] at h;have ha:a.nm=⟨#[116]⟩:=(by injection h)
  unfold bz;rw[vM (ls:=a::r) (k:=0) bu (fun x hx=>by cases hx) (by show(a.nm.toList==_)=true;rw[ha];exact BEq.rfl)];rfl

end Go.Proofs.YtdgichenhdikgaaGreatDoor.Ba
namespace Go.Proofs.YtdgichenhdikgaaGreatDoor.Ba
open List
open Go.Proofs.Tryz
open Go.RowKit V Pk Tr Vl Go.Proofs.YtdgichenhdikgaaGreatDoor.Nm Pc Cd Ex Tw
open Pa (Ph)
variable {m:Int}
def Aw(m:Int):List (Nat×List Value):=[(3,marksC),(1,wordsC),(0,typesC),(2,[Value.int .i64 m])]
theorem tm1:(3,marksC)∈Aw m:=mem_cons_self
theorem tm2:(1,wordsC)∈Aw m:=mem_cons_of_mem _ mem_cons_self
theorem tm3:(0,typesC)∈Aw m:=mem_cons_of_mem _ (mem_cons_of_mem _ mem_cons_self)
theorem tm4:(2,[Value.int .i64 m])∈Aw m:=mem_cons_of_mem _ (mem_cons_of_mem _ (mem_cons_of_mem _ mem_cons_self))
theorem ajT{w:World}(h1:MarksTab w)(h2:WordsTab w)(h3:TypesTab w)(h4:Tab.my w 2 [Value.int .i64 m]):∀g∈Aw m,g.2≠[]∧BO w g.1 g.2:=fun g hg=>by
 rcases mem_cons.1 hg with rfl|hg
 ·exact⟨by decide,.of h1 rfl⟩
 rcases mem_cons.1 hg with rfl|hg
 ·exact⟨by decide,.of h2 rfl⟩
 rcases mem_cons.1 hg with rfl|hg
 ·exact⟨by decide,.of h3 rfl⟩
 rw[mem_singleton] at hg;subst hg;exact⟨by simp,.of h4 rfl⟩
theorem rd_phrases{H:Type}{enc:TypeId×Value→H}{w:World}{base E:Nat}{sp:Nat→Bool}{held:Bool}{v:Value}{d:DataW H}{p:List MemPlace}(hval:Value.okWide Tryz.prog w .any E 22 v)(h:DataW.Trod enc Tryz.prog w base sp held 22 v d p) :
  ∃l:List Ph,cm w (fun _=>False) (.list 14 (l.flatMap Ph.cs) l.length) v∧((∀x∈l,x.Ok)∧l.length≤maxLen)∧True:=by
 obtain⟨l,h1,h2,h3⟩:=aaR (g:=Ph.cs) (ok:=Ph.Ok) (sz:=14) underlying22 aA w7 (fun n cs x hn=>Pa.Za n cs x hn) yG hval h;exact⟨l,h1,⟨h2,h3⟩,trivial⟩

end Go.Proofs.YtdgichenhdikgaaGreatDoor.Ba
namespace Go.Proofs.YtdgichenhdikgaaGreatDoor.Ba
open List
open Go.Proofs.Tryz
open Go.RowKit V Pk Tr Vl Go.Proofs.YtdgichenhdikgaaGreatDoor.Nm Pc Cd Ex Tw
open Pa (cx bY lH gX mX gP jM kZ iN gj eJ Ph)
variable {G:List (Nat×List Value)} {m:Int}
variable {l:List aQ} {t:aQ} {n:Nat}
theorem ajU(h:l.map aQ.nm=eJ):l.length=2:=by have:=congrArg length h;rw[length_map] at this;rw[this];decide

def wY(w:List aU):cx:={gj with kind:=4,table:=⟨#[116]⟩,aj:=w}
theorem ad6(h:l.map aQ.nm=eJ){s:cx}(hk:s.kind=4)(ht:s.table=⟨#[116]⟩)(hc:gX s=0)(h0:0<l.length):n8 l s=(if (mB l[0] s).2≠0 then ([],(([],0),(mB l[0] s).2)) else (l,((mB l[0] s).1,0)):List aQ×((List (List Vl)×Int)×Int)):=by
 have hr:gD l s=(l,mB l[0] s):=by
  unfold gD;have ha:bz l s.table=0:=(by rw[ht];exact ajS h)
  have kN:l.getD (0:Int).toNat (gJ s)=l[0]:=(by show l.getD 0 _=_;rw[getD_eq_getElem?_getD,getElem?_eq_getElem h0];rfl)
  rw[ha,if_neg w4,if_neg w7,if_neg w4,if_pos hk,kN]
 unfold n8;rw[if_neg (fun e=>e hc),if_neg w4,hr]
theorem QN{t:aQ}:∀(l:List (K×Int)) (acc:List Int),kw t [] acc l=(acc++l.map Prod.snd,0)
 | [],acc=>by simp[kw]
 | x::l,acc=>by rw[kw,if_neg w7,QN l];simp
theorem yE(g:eV t n):av t []=((gp t.ix).map Prod.snd,0):=by
 unfold av;have hb:ij t.ay []=(([],[]),0):=(by rw[g.ay];decide +kernel)
 rw[hb,if_neg w7,QN];show([]++(oF t.ix [] []).map Prod.snd,0)=_;rw[Qz];rfl
theorem SG{t:aQ}{w:List aU}(hw:0<w.length):∀(l:List (K×Int)) (acc:List Int),(∀x∈l,(eW t.ay (rowAt t x.2) w).2=0∧(eW t.ay (rowAt t x.2) w).1.n≠1)→kw t w acc l=(acc,0)
 | [],acc,_=>rfl
 | x::l,acc,h=>by
  obtain⟨h1,h2⟩:=h x mem_cons_self;rw[kw,if_pos hw,if_neg (fun e=>e h1),if_pos h2,SG hw l acc fun y hy=>h y (mem_cons_of_mem _ hy)]
theorem ad8(g:eV t n):∀x∈gp t.ix,Pc.dZ dB (rowAt t x.2)=0:=fun x hx=>by
 obtain⟨h0,h1,h2,h3⟩:=g.jf x hx;rw[jE h1];exact(g.row _ h1 h2).1
theorem aft(g:eV t n){w:List aU}(hw:0<w.length)(hb:(ij dB w).2=0)(he:∀row,Pc.dZ dB row=0→(eW dB row w).2=0∧(eW dB row w).1.n≠1):av t w=([],0):=by
 unfold av;rw[g.ay,if_neg (fun e=>e hb)];exact SG hw _ [] fun x hx=>by rw[g.ay];exact he _ (ad8 g x (AX x hx))
theorem QO{d:Bool}{o:Nat}:Fw t d o []=[]:=(Ji ⟨Perm.refl _,Pairwise.nil⟩).symm
theorem T2(l:List Int):rZ 0 l=[]:=by
 unfold rZ;split
 ·rfl
 rename_i h;cases l with
 | nil=>rfl
 | cons a r=>exact absurd ⟨Int.le_refl _,by simp⟩ h
theorem aaD(x:ByteArray):VP Tryz.prog G 10 [bf x,bB] (.agg [ae 4,bf x,bB,bB,bB,bX false,bB,e9,bX false,ae (-1),e9,bB]):=by
 exact Ul
theorem QR(x:ByteArray)(w:List aU):VP Tryz.prog G 10 [bf x,ax 5 cO w] (.agg [ae 4,bf x,bB,bB,bB,bX false,ax 5 cO w,e9,bX false,ae (-1),e9,bB]):=by
 exact Ul
theorem aaE(x:Int):VP Tryz.prog G 12 [ae x] (.agg (cV (wS x))):=by
 refine VC.body func12 rfl ntmps12 aO fun X0 w0 aY=>?_;refine cf ?_;refine OD.alloc (ds:=[_,_,_]) ap rfl rfl zeroValue41 rfl (fun b2=>?_);refine an 5 [0,2] ?_;refine aC 2 ?_;refine aK 0 [_,_,_] sizeOf41 ?_;refine an 5 [2] ?_;exact mI

theorem E7{s:cx}(hk:s.kind=4)(hc:gX s=0)(h:(s.table.size≤20∧s.ay=[]∧s.row=[]∧s.bS=[])∧(s.set.size≤20∧s.order.size≤20∧s.names.length≤6)∧(∀x∈s.names,x.size≤20)∧(s.aj.length≤40∧∀o∈s.aj,o.nm.size≤20∧-9223372036854775808≤o.v.n∧o.v.n≤9223372036854775807)):zC s:=by
 obtain⟨⟨h1,h2,h3,h4⟩,⟨h5,h6,h7⟩,h8,h9,Xu⟩:=h;have dy:=dY;exact FB ⟨⟨(by rw[h2];exact Nat.zero_le _),(by rw[h3];exact Nat.zero_le _),h7,h9,(by rw[h4];exact Nat.zero_le _)⟩,w4,(by rw[h2];exact fun _ h=>by cases h),(fun x hx=>Nat.le_trans (h8 x hx) w4),w4,w4,(by rw[h3];exact fun _ h=>by cases h),(fun o ho=>⟨Nat.le_trans (Xu o ho).1 w4,(Xu o ho).2⟩),(by rw[h4];exact fun _ h=>by cases h)⟩ w4 w4 (Pa.acV hc).2.2.1
def u9:cx:={wY [] with gH:=0}
def va:cx:={wY [] with gH:=0,count:=true}
def oH(v:Vl):cx:=wY [⟨1,v,⟨#[]⟩⟩]
theorem Bk:∀s∈[u9,va,oH ⟨1,0,⟨#[]⟩⟩,oH bD],gX s=0∧s.kind=4∧s.table=⟨#[116]⟩∧s.names=[]∧(s.order.toList==(⟨#[]⟩:ByteArray).toList)=true∧cQ s.table=0∧((s.table.size≤20∧s.ay=[]∧s.row=[]∧s.bS=[])∧(s.set.size≤20∧s.order.size≤20∧s.names.length≤6)∧(∀x∈s.names,x.size≤20)∧(s.aj.length≤40∧∀o∈s.aj,o.nm.size≤20∧-9223372036854775808≤o.v.n∧o.v.n≤9223372036854775807)):=by
 intro s hs;simp only[mem_cons,not_mem_nil,or_false] at hs;rcases hs with rfl|rfl|rfl|rfl<;>refine⟨by decide +kernel,rfl,rfl,rfl,by decide +kernel,by decide +kernel,⟨by decide,rfl,rfl,rfl⟩,by decide,by decide,by decide,by decide +kernel⟩
theorem aaF{s:cx}(hn:s.names=[])(ho:(s.order.toList==(⟨#[]⟩:ByteArray).toList)=true)(hm:(av t s.aj).2=0)(hs:qJ t s=[]):mB t s=(if s.count=true then (([[⟨2,0,⟨#[]⟩⟩]],0),0) else (([],0),0)):=by
 unfold mB;rw[hn,if_neg bu,show qZ t s=0 from if_pos ho,if_neg w7,if_neg (fun e=>e hm),hs];rfl
theorem ER{a c:Nat}(O:qi l a c)(h:l.map aQ.nm=eJ):∀s∈[u9,va,oH ⟨1,0,⟨#[]⟩⟩,oH bD],n8 l s=(l,(if s.count=true then ([[⟨2,0,⟨#[]⟩⟩]],0) else ([],0),0)):=by
 intro s hs;obtain⟨h1,h2,h3,h4,h5,_,_⟩:=Bk s hs;have h0:0<l.length:=(by rw[ajU h];decide)
 have g:=O.g.tb _ (getElem_mem h0);rw[ad6 h h2 h3 h1 h0];have key:(av l[0] s.aj).2=0∧qJ l[0] s=[]:=by
  have I:∀v∈[(⟨1,0,⟨#[]⟩⟩:Vl),bD],av l[0] [⟨1,v,⟨#[]⟩⟩]=([],0):=fun v E=>by
   refine aft g (Nat.zero_lt_succ _) ?_ fun row hr=>?_
   ·simp only[mem_cons,not_mem_nil,or_false] at E;rcases E with rfl|rfl<;>decide +kernel
   simp only[mem_cons,not_mem_nil,or_false] at E;unfold eW;rw[if_neg (fun e=>e hr)];rcases E with rfl|rfl<;>(rw[if_neg (by decide +kernel)];exact⟨rfl,by show(0:Int)≠1;decide⟩)
  simp only[mem_cons,not_mem_nil,or_false] at hs;rcases hs with rfl|rfl|rfl|rfl
  ·exact⟨by rw[show u9.aj=[] from rfl,yE g],T2 _⟩
  ·exact⟨by rw[show va.aj=[] from rfl,yE g],T2 _⟩
  ·have:=I _ mem_cons_self;refine⟨by rw[show(oH ⟨1,0,⟨#[]⟩⟩).aj=[⟨1,⟨1,0,⟨#[]⟩⟩,⟨#[]⟩⟩] from rfl,this],?_⟩;unfold qJ;rw[show(oH ⟨1,0,⟨#[]⟩⟩).aj=[⟨1,⟨1,0,⟨#[]⟩⟩,⟨#[]⟩⟩] from rfl,this,QO];rfl
  have:=I bD (mem_cons_of_mem _ mem_cons_self);refine⟨by rw[show(oH bD).aj=[⟨1,bD,⟨#[]⟩⟩] from rfl,this],?_⟩;unfold qJ;rw[show(oH bD).aj=[⟨1,bD,⟨#[]⟩⟩] from rfl,this,QO];rfl
 rw[aaF h4 h5 key.1 key.2];by_cases hc:s.count=true
 ·rw[if_pos hc,if_pos hc,if_neg w7]
 rw[if_neg hc,if_neg hc,if_neg w7]
theorem XW(hm:(3,marksC)∈G)(hw:(1,wordsC)∈G)(ht:(0,typesC)∈G)(hG:(2,[Value.int .i64 m])∈G)(ps:List Ph)(gU:∀p∈ps,p.Ok)(fJ:ps.length≤maxLen):VP Tryz.prog G 3 [.list 14 (ps.flatMap Ph.cs) ps.length] (bX true):=by
 refine VC.body func3 rfl ntmps3 aO fun X0 w0 aY=>?_;have dy:=dY;have hA:0<([[⟨2,0,⟨#[]⟩⟩]]:List (List Vl)).length:=(by decide)
 have hB:0<([[⟨2,0,⟨#[]⟩⟩]]:List (List Vl))[0].length:=Nat.zero_lt_succ 0;refine af [0] ?_;refine aC 1 ?_;refine OD.call ap rfl rfl rfl call9 (ad5 hm hw ht hG ps gU fJ) ⟨ot,trivial⟩ (eO _) ?_;rintro _ _ ⟨l,a,c,rfl,rfl,gn,DH,E⟩;refine OD.alloc (ds:=[_]) ap rfl rfl zeroValue25 rfl (fun b3=>?_);refine aK 0 [_] sizeOf25 ?_;refine an 103 [3] ?_;refine CD.seq ?_;obtain⟨c01,G4,c03,_,_,c06,c07⟩:=Bk _ mem_cons_self;have I:=VC.zW (za hm hw ht hG gn DH (s:=u9) (E7 G4 c01 c07) (by rw[G4];decide) (fun _=>c06) (by rw[G4];decide) (fun h=>by rw[G4] at h;cases h)) (args':=[.agg [ax 5 dA (l)],.agg [ae 4,bf ⟨#[116]⟩,bB,bB,bB,bX false,bB,e9,bX false,ae 0,e9,bB]]) ⟨cN,vX ⟨cN,cN,eB,eB,eB,cN,eB,cN,cN,cN,cN,eB,trivial⟩,trivial⟩;rw[ER gn E _ mem_cons_self] at I;unfold uo at I;dsimp only[u9,va,oH,wY,gj] at I;simp only[Bool.false_eq_true,if_false,ax,flatMap_nil,length_nil] at I;obtain⟨c11,G5,c13,_,_,c16,c17⟩:=Bk _ (mem_cons_of_mem _ mem_cons_self)
 have O:=VC.zW (za hm hw ht hG gn DH (s:=va) (E7 G5 c11 c17) (by rw[G5];decide) (fun _=>c16) (by rw[G5];decide) (fun h=>by rw[G5] at h;cases h)) (args':=[.agg [ax 5 dA (l)],.agg [ae 4,bf ⟨#[116]⟩,bB,bB,bB,bX true,bB,e9,bX false,ae 0,e9,bB]]) ⟨cN,vX ⟨cN,cN,eB,eB,eB,cN,eB,cN,cN,cN,cN,eB,trivial⟩,trivial⟩;rw[ER gn E _ (mem_cons_of_mem _ mem_cons_self)] at O;unfold uo at O;dsimp only[u9,va,oH,wY,gj] at O;simp only[if_true] at O;obtain⟨c21,G6,c23,_,_,c26,c27⟩:=Bk _ (mem_cons_of_mem _ (mem_cons_of_mem _ mem_cons_self));have U:=VC.zW (za hm hw ht hG gn DH (s:=(oH (⟨1,0,⟨#[]⟩⟩:Vl))) (E7 G6 c21 c27) (by rw[G6];decide) (fun _=>c26) (by rw[G6];decide) (fun h=>by rw[G6] at h;cases h)) (args':=[.agg [ax 5 dA (l)],.agg [ae 4,bf ⟨#[116]⟩,bB,bB,bB,bX false,.list 5 ([(⟨1,(⟨1,0,⟨#[]⟩⟩:Vl),⟨#[]⟩⟩:aU)].flatMap cO) [(⟨1,(⟨1,0,⟨#[]⟩⟩:Vl),⟨#[]⟩⟩:aU)].length,e9,bX false,ae (-1),e9,bB]]) ⟨cN,vX ⟨cN,cN,eB,eB,eB,cN,cN,cN,cN,cN,cN,eB,trivial⟩,trivial⟩;rw[ER gn E _ (mem_cons_of_mem _ (mem_cons_of_mem _ mem_cons_self))] at U;unfold uo at U;dsimp only[u9,va,oH,wY,gj] at U;simp only[Bool.false_eq_true,if_false,ax,flatMap_nil,length_nil] at U
 obtain⟨c31,sP,c33,_,_,xW,c37⟩:=Bk _ (mem_cons_of_mem _ (mem_cons_of_mem _ (mem_cons_of_mem _ mem_cons_self)));have Z:=VC.zW (za hm hw ht hG gn DH (s:=(oH bD)) (E7 sP c31 c37) (by rw[sP];decide) (fun _=>xW) (by rw[sP];decide) (fun h=>by rw[sP] at h;cases h)) (args':=[.agg [ax 5 dA (l)],.agg [ae 4,bf ⟨#[116]⟩,bB,bB,bB,bX false,.list 5 ([(⟨1,bD,⟨#[]⟩⟩:aU)].flatMap cO) [(⟨1,bD,⟨#[]⟩⟩:aU)].length,e9,bX false,ae (-1),e9,bB]]) ⟨cN,vX ⟨cN,cN,eB,eB,eB,cN,cN,cN,cN,cN,cN,eB,trivial⟩,trivial⟩;rw[ER gn E _ (mem_cons_of_mem _ (mem_cons_of_mem _ (mem_cons_of_mem _ mem_cons_self)))] at Z;unfold uo at Z;dsimp only[u9,va,oH,wY,gj] at Z;simp only[Bool.false_eq_true,if_false,ax,flatMap_nil,length_nil] at Z;refine rz ?_;refine dO call10 (aaD ⟨#[116]⟩) ?_;refine OD.alloc (ds:=[_,_,_,_,_,_,_,_,_,_,_,_]) ap rfl rfl zeroValue32 rfl (fun b4=>?_);refine aK 0 [_,_,_,_,_,_,_,_,_,_,_,_] sizeOf32 ?_;refine an 103 [3,4] ?_;refine aC 1 ?_;refine aK 0 [_,_,_,_,_,_,_,_,_,_,_,_] sizeOf3 ?_;refine an 103 [3,4] ?_;refine aC 2 ?_;refine dO call11 (I) ?_;refine aE 4 ?_;refine OD.alloc (ds:=[_]) ap rfl rfl zeroValue25 rfl (fun b5=>?_);refine OD.alloc (ds:=[_,_]) ap rfl rfl zeroValue36 rfl (fun b6=>?_);refine aK 1 [_] sizeOf25 ?_;refine aK 0 [_,_] sizeOf36 ?_;refine an 103 [3,4,6,7] ?_;refine aC 1 ?_
 refine aK 2 [_,_,_,_,_,_,_,_,_,_,_,_] sizeOf4 ?_;refine an 103 [3,4,6,7] ?_;refine aC 2 ?_;refine dO call11 (O) ?_;refine aE 4 ?_;refine OD.alloc (ds:=[_]) ap rfl rfl zeroValue25 rfl (fun b8=>?_);refine OD.alloc (ds:=[_,_]) ap rfl rfl zeroValue36 rfl (fun b9=>?_);refine aK 1 [_] sizeOf25 ?_;refine aK 0 [_,_] sizeOf36 ?_;refine an 103 [3,6,7,9,10] ?_;refine aC 2 ?_;refine en (bZ 0 [_]) [.int .i64 0,.int .i64 0,.int .i64 0,.string ⟨#[]⟩,.string ⟨#[]⟩] [_,_,_,_,_] zeroValue43 runUnderlying30 sizeOf43 (fun Cp=>?_);refine fB 0 40 5 1 ?_;refine dO call10 (QR ⟨#[116]⟩ [(⟨1,(⟨1,0,⟨#[]⟩⟩:Vl),⟨#[]⟩⟩:aU)]) ?_;refine OD.alloc (ds:=[_,_,_,_,_,_,_,_,_,_,_,_]) ap rfl rfl zeroValue32 rfl (fun kx=>?_);refine aK 0 [_,_,_,_,_,_,_,_,_,_,_,_] sizeOf32 ?_;refine an 103 [3,6,7,9,10,11] ?_;refine aC 2 ?_;refine dO call11 (U) ?_;refine aE 4 ?_;refine OD.alloc (ds:=[_]) ap rfl rfl zeroValue25 rfl (fun um=>?_);refine OD.alloc (ds:=[_,_]) ap rfl rfl zeroValue36 rfl (fun mi=>?_);refine aK 1 [_] sizeOf25 ?_;refine aK 0 [_,_] sizeOf36 ?_;refine an 103 [3,6,7,9,10,13,14] ?_;refine aC 1 ?_;refine en (bZ 0 [_]) [.int .i64 0,.int .i64 0,.int .i64 0,.string ⟨#[]⟩,.string ⟨#[]⟩] [_,_,_,_,_] zeroValue43 runUnderlying30 sizeOf43 (fun Ao=>?_);refine fB 0 50 5 1 ?_;refine dO call10 (QR ⟨#[116]⟩ [(⟨1,bD,⟨#[]⟩⟩:aU)]) ?_;refine OD.alloc (ds:=[_,_,_,_,_,_,_,_,_,_,_,_]) ap rfl rfl zeroValue32 rfl (fun b15=>?_);refine aK 0 [_,_,_,_,_,_,_,_,_,_,_,_] sizeOf32 ?_
 refine an 103 [3,6,7,9,10,13,14,15] ?_;refine aC 2 ?_;refine dO call11 (Z) ?_;refine aE 4 ?_;refine OD.alloc (ds:=[_]) ap rfl rfl zeroValue25 rfl (fun b16=>?_);refine OD.alloc (ds:=[_,_]) ap rfl rfl zeroValue36 rfl (fun b17=>?_);refine aK 1 [_] sizeOf25 ?_;refine aK 0 [_,_] sizeOf36 ?_;refine an 103 [6,7,9,10,13,14,17,18] ?_;refine cR [2] ?_;refine aR 37 ?_ (h:=by exact(pW (mk:=Op.indexAddr 34) rfl ot bI (by first|exact qG runUnderlying34 sizeOf28 (j:=0) rfl hA|exact qL runUnderlying34 sizeOf28 (j:=0) rfl hA)));refine aR 1 ?_ (h:=by exact(pW (mk:=Op.indexAddr 28) rfl ot bI (by first|exact qG runUnderlying28 sizeOf41 (j:=0) rfl hB|exact qL runUnderlying28 sizeOf41 (j:=0) rfl hB)));refine cZ (aaE 0) ?_;refine aR 0 ?_ (h:=by exact(Zh rfl ot ot eqGuardType41 (Go.Proofs.YtdgichenhdikgaaGreatDoor.Vl.JY _ _)));refine bH ?_;refine aI [] ?_;refine⟨?_,rfl⟩;first|rfl|(simp[wS];done)|(simp[wS];rfl)
theorem walkLimitNone(l:List Ph)(v:Value)(ok:(∀x∈l,x.Ok)∧l.length≤maxLen)(w:World)(h1:MarksTab w)(h2:WordsTab w)(h3:TypesTab w){m:Int}(hm:Tab.my w 2 [Value.int .i64 m])(E:cm w (fun _=>False) (.list 14 (l.flatMap Ph.cs) l.length) v):Calls Tryz.prog 3 #[v] w fun e w'=>e = .returned (.bool true)∧Below w.heap.size w w' :=
 (XW (G:=Aw m) tm1 tm2 tm3 tm4 l ok.1 ok.2).ahc (ajT h1 h2 h3 hm) (vs:=[v]) (cL.cons E (cL.vs w _ []))

end Go.Proofs.YtdgichenhdikgaaGreatDoor.Ba
