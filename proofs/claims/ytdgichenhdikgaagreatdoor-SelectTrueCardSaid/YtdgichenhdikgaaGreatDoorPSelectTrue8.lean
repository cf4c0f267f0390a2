/-
  What the proof of SelectTrue leans on, part 8 of 9: walks of the program's functions at the level of values, and plain facts of what they compute.
-/
import Derived.Test.YtdgichenhdikgaaGreatDoorPSelectTrue7
set_option linter.unusedVariables false
set_option linter.unusedSimpArgs false
set_option maxRecDepth 100000
set_option maxHeartbeats 4000000
namespace Go.Proofs.YtdgichenhdikgaaGreatDoor.Ba
open List
open Go.Proofs.Tryz
open Go.RowKit V Pk Tr Vl Go.Proofs.YtdgichenhdikgaaGreatDoor.Nm Pc Cd Ex Tw
open Pa (cm bK)
variable {G:List (Nat×List Value)} {m:Int}
variable {t:aM} {L:List bZ} {ad:Option Addr} {cap i n:Nat} {E S:List ah} {o:bZ} {p:(List (List Vl)×Int)×Int}
def GA(t:aM)(L:List bZ)(ad:Option Addr)(cap:Nat)(Sr:List ah):Prop:=L.map bZ.r=t.rows∧(∀o∈L,oo o)∧sS L ad cap Sr
theorem R8(h:GA t L ad cap E)(hs:∀B∈E++L.flatMap bR,B∈S):View S (.agg (tC t ad cap)) (.agg (cY t)) :=
 TT (o:=⟨t,L.flatMap gR,ad,cap,E,L.flatMap bR⟩) (qn.w ⟨L,rfl,rfl,h.2.1,h.1,h.2.2⟩) hs
theorem R9(aQ:∀o∈L,oo o)(hi:i<L.length)(hs:∀B∈L.flatMap bR,B∈S):View S (aN L[i].ad L[i].r.length L[i].cap) (.list 3 (L[i].r.flatMap cV) L[i].r.length) :=
 lK (aQ _ (getElem_mem hi)) (cn ff _) (fun B E=>hs B (mem_flatMap.2 ⟨_,getElem_mem hi,E⟩))
theorem Ke(f:ah→Nat):∀(L:List bZ) (i:Nat) (o:bZ) (h:i<L.length),(((L.set i o).flatMap bR).map f).sum=(o.S.map f).sum+(((L.eraseIdx i).flatMap bR).map f).sum
 | [],_,_,h=>absurd h (Nat.not_lt_zero _)
 | x::L,0,o,_=>by simp[bR]
 | x::L,i+1,o,h=>by
  have:=Ke f L i o (Nat.lt_of_succ_lt_succ h);simp only[set_cons_succ,flatMap_cons,map_append,sum_append,eraseIdx_cons_succ,this];omega
theorem Se{A B C X:ah}(h:i<L.length)(hS:L[i].S=[X]):(A::B::([C]++L.flatMap bR)).Perm (X::A::B::C::(L.eraseIdx i).flatMap bR):=jE fun f=>by
 have:=Ke f L i L[i] h;rw[set_getElem_self,hS] at this;simp only[map_cons,sum_cons,map_append,sum_append,map_nil,sum_nil,this];omega
theorem T7{A B C X:ah}(h:i<L.length)(hS:o.S=[X]):(X::A::B::C::(L.eraseIdx i).flatMap bR).Perm (A::B::([C]++(L.set i o).flatMap bR)):=jE fun f=>by
 have:=Ke f L i o h;rw[hS] at this;simp only[map_cons,sum_cons,map_append,sum_append,map_nil,sum_nil,this];omega
theorem Si{t:aM}{c:Int}{e:List aJ}:∀(l:List Int) (acc:List Vl),(iO t c e acc l).2=0→(iO t c e acc l).1.length=acc.length+l.length
 | [],acc,_=>rfl
 | i::r,acc,h=>by
  rw[iO] at h ⊢;split
  ·rename_i h1;rw[if_pos h1] at h;exact absurd h h1
  rename_i h1;rw[if_neg h1] at h;split
  ·rename_i h2;rw[if_pos h2] at h;cases h
  rename_i h2;rw[if_neg h2] at h;rw[Si r _ h,length_append,length_cons,length_cons,length_nil];omega
theorem Jo{t:aM}{n:Nat}(g:eu t n){c:Int}{e:List aJ}(lg:∀o∈e,o.nm.size≤maxLen)(fQ:∀o∈e,o.v.Ok)(hk:(dr bf e).2=0):∀(l:List Int) (acc:List Vl),(∀i∈l,fX t i)→(iO t c e acc l).2=0 →
  (∀v∈acc,v.Ok∧jy (dr bf e).1 v∧(c=0→v.k≠0))→∀v∈(iO t c e acc l).1,v.Ok∧jy (dr bf e).1 v∧(c=0→v.k≠0)
 | [],acc,_,_,ha=>ha
 | i::r,acc,hl,h,ha=>by
  rw[iO] at h ⊢;have hi:=hl i mem_cons_self;obtain⟨h0,h1,h2⟩:=id hi;obtain⟨p1,p2,_⟩:=g.row _ h1 h2;rw[←iz h1] at p1 p2;split
  ·rename_i h1;rw[if_pos h1] at h;exact absurd h h1
  rename_i hne;rw[if_neg hne] at h;split
  ·rename_i h2;rw[if_pos h2] at h;cases h
  rename_i h3;rw[if_neg h3] at h;refine Jo g lg fQ hk r _ (fun j hj=>hl j (mem_cons_of_mem _ hj)) h fun v E=>?_;rcases mem_append.1 E with E|E
  ·exact ha v E
  rw[mem_singleton] at E;subst E;rw[g.ay] at hne h3 ⊢;exact⟨afz p2 fQ,adX lg fQ p1 hk (Classical.not_not.1 hne),fun hc hz=>h3 ⟨hc,hz⟩⟩
theorem Kf{g:bZ→List D}:∀(M:List bZ) (i:Nat) (h:i<M.length) (o:bZ),g o=g M[i]→(M.set i o).flatMap g=M.flatMap g
 | [],_,h,_,_=>absurd h (Nat.not_lt_zero _)
 | x::M,0,_,o,e=>by
  rw[set_cons_zero,flatMap_cons,flatMap_cons,e];rfl
 | x::M,i+1,h,o,e=>by
  rw[set_cons_succ,flatMap_cons,flatMap_cons,Kf M i (Nat.lt_of_succ_lt_succ h) o e]
theorem Qv{x:aD}{M:List bZ}{i:Int}(h:i.toNat<M.length):rowAt {t with rows:=M.map bZ.r,ix:=x} i=M[i.toNat].r:=by
 rw[iz (by show _<(M.map bZ.r).length;rw[length_map];exact h)];exact getElem_map ..
theorem T8{x:aD}{M:List bZ}{i:Int}(h:i.toNat<M.length){c:Nat}{v:Vl}(ho:o.r=M[i.toNat].r.set c v):rM {t with rows:=M.map bZ.r,ix:=x} i c v={t with rows:=(M.set i.toNat o).map bZ.r,ix:=x}:=by
 unfold rM;rw[Qv h,map_set,ho]
theorem adY{c:Nat}{l:List Vl}:mW c t [] l=t:=by unfold mW;rfl
theorem ab4{l:List Vl}:kG t [] l=(t,0):=by unfold kG;rfl
theorem GB{l:List (List Vl)}(h:L.map bZ.r=l)(h1:i<L.length)(h2:i<l.length):L[i].r=l[i]:=by subst h;rw[getElem_map]
theorem aaD:(Tryz.prog.info? 41).map (fun i=>(i.zero,i.size,i.bytes))=some (some (.agg #[.int .i64 0,.int .i64 0,.string ⟨#[]⟩]),3,32):=by kernel_rfl
theorem ab5(hm:(3,marksC)∈G)(hw:(1,wordsC)∈G)(ht:(0,typesC)∈G)(hG:(2,[Value.int .i64 m])∈G)(t:aM)(g:eu t n)(s:cm)(ho:∀o∈s.aj,o.nm.size≤maxLen)(fQ:∀o∈s.aj,o.v.Ok)(qZ:∀o∈s.bL,o.nm.size≤maxLen)(GC:∀o∈s.bL,o.v.Ok)(hn:n≤260)(bt off qp:Nat)(pre post:List D)(hp:pre.length=off)(L:List bZ)(ad:Option Addr)(cap:Nat)(Sr:List ah)(hL:L.map bZ.r=t.rows)(aQ:∀o∈L,oo o)(kI:sS L ad cap Sr):VC Tryz.prog G 45 [.v (.pointer (some ⟨bt,off,none⟩)),.agg (bK s)] (⟨bt,53,qp,pre++(tC t ad cap++post)⟩::(Sr++L.flatMap bR)) (fun r S=>r = .di [ae (gW t s).2.1,ae (gW t s).2.2]∧((gW t s).2.2=0→∃L' oh kJ oW,GA (gW t s).1 L' oh kJ oW∧S=⟨bt,53,qp,pre++(tC (gW t s).1 oh kJ++post)⟩::(oW++L'.flatMap bR))):=by
 refine VC.body func45 rfl ntmps45 aO fun X0 w0 bg=>?_;have c8:=dR;have HI:GA t L ad cap Sr:=⟨hL,aQ,kI⟩
 have rW:L.length=t.rows.length:=(by rw[←hL,length_map])
 have mU:=g.eE;have DR:=Fj g s.aj;have mG:=sC g s.aj;have hnd:=Eu g s.aj;have alj:t.ay.length=4:=(by rw[g.ay];rfl)
 have aiu:=IP (G:=G) t w4 s.set;have vY:=JS (G:=G) hm hw ht t.ay xN xM s.bL qZ;unfold pZ at vY;have YV:=wE (fun c:cj=>c.n.toList==s.set.toList) t.ay;rw[show cU (fun c:cj=>c.n.toList==s.set.toList) t.ay=(bD t.ay s.set) from rfl] at YV;unfold tC;unfold bK;refine bU ?_;refine OD.box (ds:=[_,_,_,_,_,_,_,_,_,_,_,_]) ap rfl rfl ot rfl rfl (fun b3=>?_);refine an 205 [0,3] ?_;refine cL [0,3,6] ?_;refine aS 2 ?_ (h:=by exact(Me 1));refine mg 2 ?_;refine zP (aiu) (ha:=by exact⟨⟨_,ot,(R8 HI (fun B U=>by repeat (first|exact U|apply mem_append_right|apply mem_cons_of_mem)):View _ (.agg (tC t ad cap)) _)⟩,⟨_,ot,eM⟩,trivial⟩) (K:=?_);refine bI ?_;refine af [0,3,6,30] ?_;refine aq ?_ ?_<;>intro aP bC
 ·have hA:(bD t.ay s.set)<0:=(by simpa using aP)
  have aW:gW t s=(t,0,8):=(by unfold gW;rw[if_pos hA])
  exact z141
 have hA:¬(bD t.ay s.set)<0:=(by simpa using aP)
 have lp:(bD t.ay s.set).toNat<t.ay.length:=(by omega)
 refine cL [0,3,6,7,8] ?_;refine aS 3 ?_ (h:=by exact(oV 1));refine cH (vY) ?_;refine bI ?_;refine af [0,3,6,7,8,42] ?_;refine aq ?_ ?_<;>intro aZ cr
 ·have U:(dr t.ay s.bL).2≠0:=(by simpa using aZ)
  have aW:gW t s=(t,0,(dr t.ay s.bL).2):=(by unfold gW;rw[if_neg hA,if_pos U])
  exact z141
 have U:¬(dr t.ay s.bL).2≠0:=(by simpa using aZ)
 have ke:t.ay.getD (bD t.ay s.set).toNat ⟨⟨#[]⟩,0⟩=t.ay[(bD t.ay s.set).toNat]:=(by rw[getD_eq_getElem?_getD,getElem?_eq_getElem lp];rfl)
 refine CD.skip ?_;refine jV [0,3,6] (fun aX uQ aG=>(¬((dr t.ay s.bL).1≠(t.ay.getD (bD t.ay s.set).toNat ⟨⟨#[]⟩,0⟩).k∧(dr t.ay s.bL).1≠0))∧aG=(⟨205,aX,uQ⟩:St)) ?_ ?_
 ·refine aB 4 ?_;refine bN (oV 1) ?_;refine aF 1 ?_;refine bN (dw 2 (h:=by first|exact .l (j:=(bD t.ay s.set).toNat) (Int.toNat_of_nonneg w4).symm lp|exact .r (j:=(bD t.ay s.set).toNat) (Int.toNat_of_nonneg w4).symm lp)) ?_;refine aF 4 ?_;refine bP 54 (fun zM zn=>?_) (fun zM zn=>?_)
  ·refine an 205 [0,3,6,57] ?_;refine aq ?_ ?_<;>intro bX cA
   ·have hC:(dr t.ay s.bL).1≠(t.ay.getD (bD t.ay s.set).toNat ⟨⟨#[]⟩,0⟩).k∧(dr t.ay s.bL).1≠0:=(by rw[ke];exact⟨by simpa using zM,by simpa using bX⟩)
    have aW:gW t s=(t,0,4):=(by unfold gW;rw[if_neg hA,if_neg U,if_pos hC])
    exact z141
   exact XD
  refine an 205 [0,3,6,57] ?_;refine fJ ?_;exact XD
 rintro _ ⟨hC,rfl⟩;refine cL [0,3,6,8,9] ?_;refine aS 2 ?_ (h:=by exact(Me 1));refine mg 2 ?_;refine zO (KH hm hw ht hG t g s.aj ho fQ) (fun r S h=>h.flat) (fun r S h=>h.view) (ha:=by exact⟨⟨_,ot,(R8 HI (fun B U=>by repeat (first|exact U|apply mem_append_right|apply mem_cons_of_mem)):View _ (.agg (tC t ad cap)) _)⟩,⟨_,ot,eM⟩,trivial⟩) (K:=?_);refine bI ?_;refine af [0,3,6,8,9,68] ?_;refine aq ?_ ?_<;>intro cN dW
 ·have hD:(ax t s.aj).2≠0:=(by simpa using cN)
  have aW:gW t s=(t,0,(ax t s.aj).2):=(by unfold gW;rw[if_neg hA,if_neg U,if_neg hC,if_pos hD])
  exact z141
 have hD:¬(ax t s.aj).2≠0:=(by simpa using cN)
 refine bU ?_;refine bq [0,3,6,9,10] ?_;refine af [0,3,6,9,10,70,71,72] ?_;refine eA [0,3,6,9,70,71] (fun aX _ (E:Nat×List Vl×Option Addr×Nat×List ah) aG=>match E with|(k,acc,c9,cM,Sx)=>(k≤(ax t s.aj).1.length)∧((acc).length=k)∧((iO t (bD t.ay s.set) s.bL [] (ax t s.aj).1)=iO t (bD t.ay s.set) s.bL acc ((ax t s.aj).1.drop k))∧(bp 41 3 ((acc).flatMap cV) (acc).length c9 cM Sx)∧aG=(⟨205,(10,aN c9 (acc).length cM)::(72,ae (k:Nat))::aX,(⟨b3,32,12,bK s⟩::⟨bt,53,qp,pre++([bj t.nm,av 2 cC t.ay,aN ad t.rows.length cap,av 5 cP t.ix.ag,ae t.ix.root]++post)⟩::(Sr++(Sx++L.flatMap bR)))⟩:St)) (fun (E:Nat×List Vl×Option Addr×Nat×List ah)=>match E with|(k,acc,c9,cM,Sx)=>(ax t s.aj).1.length-k) (0,([]:List Vl),none,0,[]) ⟨(Nat.zero_le _),rfl,rfl,iy,rfl⟩ ?_;rintro⟨k,acc,c9,cM,Sx⟩ _ ⟨hk,nB,An,dN,rfl⟩;refine af [0,3,6,9,10,70,71,72,73] ?_;refine aq ?_ ?_<;>intro ec fh
 ·have aa:k<(ax t s.aj).1.length:=(by omega)
  have jo:(ax t s.aj).1.drop k=((ax t s.aj).1[k]'aa)::(ax t s.aj).1.drop (k+1):=drop_eq_getElem_cons aa;have r8:fX t ((ax t s.aj).1[k]'aa):=mG _ (getElem_mem aa);obtain⟨fq,O,oq⟩:=id r8;have fZ:((ax t s.aj).1[k]'aa).toNat<L.length:=(by rw[rW];exact O)
  obtain⟨br,rfl,uJ,oS,rfl⟩:=kI.pos w4;have vZ:L[((ax t s.aj).1[k]'aa).toNat].r=rowAt t ((ax t s.aj).1[k]'aa):=(by rw[iz O];exact(GB hL fZ O))
  obtain⟨YU,DS⟩:=fX.ok g r8;have Mf:=JU (G:=G) hm hw ht t.ay xN xM L[((ax t s.aj).1[k]'aa).toNat].r (by rw[vZ];omega) (by rw[vZ];exact fun v hv=>(DS v hv).1) s.bL qZ GC;rw[show dD t.ay L[((ax t s.aj).1[k]'aa).toNat].r s.bL=(dD t.ay (rowAt t ((ax t s.aj).1[k]'aa)) s.bL) from by rw[vZ]] at Mf;unfold mE at Mf;refine af [0,3,6,9,10,12,70,71,72] ?_;refine CD.seq ?_;refine td 18 17 [0,3,6,9,10,13,70,71,72,91,92] ?_;refine aS 3 ?_ (h:=by exact(oV 1));refine aS 3 ?_ (h:=by exact(oV 1));refine aS 1 ?_ (h:=by exact(dw 1 (h:=by first|exact .l (j:=((ax t s.aj).1[k]'aa).toNat) (Int.toNat_of_nonneg fq).symm O|exact .r (j:=((ax t s.aj).1[k]'aa).toNat) (Int.toNat_of_nonneg fq).symm O)));refine aS 0 ?_ (h:=by exact(cR (mk:=Op.load 28) rfl ot (iT (k:=2) (i:=((ax t s.aj).1[k]'aa).toNat) (ls:=L) ve rfl rfl rfl isAgg28 fZ rfl)));refine mg 2 ?_;refine zP (Mf) (ha:=by exact⟨⟨_,ot,eM⟩,⟨_,ot,(R9 aQ fZ (fun B U=>by repeat (first|exact U|apply mem_append_right|apply mem_cons_of_mem)))⟩,⟨_,ot,eM⟩,trivial⟩) (K:=?_);refine mg 3 ?_;refine og ?_;refine jb ?_;refine⟨rfl,fun lJ=>?_⟩;refine aR 0 [_,_,_] sizeOf41 ?_;refine an 205 [0,3,6,9,10,13,14,70,71,72] ?_;refine af [0,3,6,9,10,13,14,70,71,72,94] ?_;refine aq ?_ ?_<;>intro fj gA
  ·have hE:(dD t.ay (rowAt t ((ax t s.aj).1[k]'aa)) s.bL).2≠0:=(by simpa using fj)
   have iR:(iO t (bD t.ay s.set) s.bL [] (ax t s.aj).1)=([],(dD t.ay (rowAt t ((ax t s.aj).1[k]'aa)) s.bL).2):=(by rw[An,jo,iO,if_pos hE])
   have aW:gW t s=(t,0,(dD t.ay (rowAt t ((ax t s.aj).1[k]'aa)) s.bL).2):=(by unfold gW;rw[if_neg hA,if_neg U,if_neg hC,if_neg hD,iR,if_pos hE])
   exact z141
  have hE:¬(dD t.ay (rowAt t ((ax t s.aj).1[k]'aa)) s.bL).2≠0:=(by simpa using fj)
  refine CD.skip ?_;refine jV [0,3,6,9,10,13,70,71,72] (fun aX uQ aG=>((iO t (bD t.ay s.set) s.bL [] (ax t s.aj).1)=iO t (bD t.ay s.set) s.bL (acc++[(dD t.ay (rowAt t ((ax t s.aj).1[k]'aa)) s.bL).1]) ((ax t s.aj).1.drop (k+1)))∧aG=(⟨205,aX,uQ⟩:St)) ?_ ?_
  ·refine aB 3 ?_;refine bP 98 (fun zG F0=>?_) (fun zG F0=>?_)
   ·refine bq [0,3,6,9,10,13,70,71,72,102] ?_;refine aq ?_ ?_<;>intro gL kU
    ·have hF:(bD t.ay s.set)=0∧(dD t.ay (rowAt t ((ax t s.aj).1[k]'aa)) s.bL).1.k=0:=⟨F0,by simpa using gL⟩
     have iR:(iO t (bD t.ay s.set) s.bL [] (ax t s.aj).1)=([],4):=(by rw[An,jo,iO,if_neg hE,if_pos hF])
     have aW:gW t s=(t,0,4):=(by unfold gW;rw[if_neg hA,if_neg U,if_neg hC,if_neg hD,iR,if_pos w8])
     exact z141
    exact Xu
   refine bq [0,3,6,9,10,13,70,71,72,102] ?_;refine fJ ?_;exact Xu
  rintro _ ⟨oe,rfl⟩;refine dK 2 ?_;refine en (cf 0 [_]) [.int .i64 0,.int .i64 0,.string ⟨#[]⟩] [_,_,_] zeroValue41 runUnderlying28 sizeOf41 (fun Gb=>?_);refine fA 0 105 3 1 ?_;refine OD.ey (ls:=acc) (new:=[(dD t.ay (rowAt t ((ax t s.aj).1[k]'aa)) s.bL).1]) (Sq:=Sx) ff Fl ap rfl rfl underlying28 aaD rfl w8 ot dN (tJ (A:=[_,_,_]) (S1:=[⟨br,28,cap*1,L.flatMap gR⟩]) (S2:=Sx) (S3:=L.flatMap bR)) ot bn mY mZ (fun Mg Lb aiv aiw=>?_);refine OD.perm (wu (S2:=[⟨Mg,41,Lb*3,flatMap cV (acc++[(dD t.ay (rowAt t ((ax t s.aj).1[k]'aa)) s.bL).1])⟩]) (A:=[_,_,_])) ?_;refine an 205 [0,3,6,9,10,70,71,72] ?_;refine cc [0,3,6,9,10,70,71,72] ?_;refine⟨((k+1),(acc++[(dD t.ay (rowAt t ((ax t s.aj).1[k]'aa)) s.bL).1]),(some ⟨Mg,0,none⟩),Lb,[⟨Mg,41,Lb*3,flatMap cV (acc++[(dD t.ay (rowAt t ((ax t s.aj).1[k]'aa)) s.bL).1])⟩]),_,cq,aK,w4,CF,oe,(bM aiv aiw),rfl⟩
 have DT:(iO t (bD t.ay s.set) s.bL [] (ax t s.aj).1)=(acc,0):=(by rw[An,drop_of_length_le w4];rfl)
 have hN:¬(iO t (bD t.ay s.set) s.bL [] (ax t s.aj).1).2≠0:=(by rw[DT];exact fun h=>h rfl)
 have qh:acc.length=(ax t s.aj).1.length:=(by omega)
 have WL:=Jo g qZ GC (c:=(bD t.ay s.set)) (by rw[←g.ay];exact Classical.not_not.1 U) (ax t s.aj).1 [] mG (Classical.not_not.1 hN) (fun v hv=>by cases hv);rw[DT] at WL;have hl4:∀i∈(ax t s.aj).1,∃h:i.toNat<L.length,L[i.toNat].r.length=4:=fun i hi=>by obtain⟨h0,h1,h2⟩:=mG i hi;have:=(fX.ok g (mG i hi)).1;rw[iz h1] at this;exact⟨by omega,by rw[GB hL w4 h1];exact this⟩
 have hl5:∀i∈(ax t s.aj).1,∃h:i.toNat<L.length,Pc.dB bf L[i.toNat].r=0∧∀v∈L[i.toNat].r,v.Ok:=fun i hi=>by obtain⟨h0,h1,h2⟩:=mG i hi;obtain⟨p1,p2,_⟩:=g.row _ h1 h2;exact⟨by omega,by rw[GB hL w4 h1];exact⟨p1,p2⟩⟩
 refine CD.exit ?_;refine CD.seq ?_;refine CD.seq ?_;refine CD.gP (t:=10) (Sq:=Sx) lk dN (cn ff _) (tJ (A:=[_,_])) ?_;refine tu ?_;refine bq [0,6,9,10,109] ?_;refine aq ?_ ?_<;>intro gj lB
 ·have hP:0<(bD t.ay s.set):=(by simpa using gj)
  refine af [0,6,9,10,110,111,112] ?_;refine eA [0,6,9,10,110,111] (fun aX _ (E:Nat×List bZ) aG=>match E with|(k,M)=>(k≤(ax t s.aj).1.length)∧(mW (bD t.ay s.set).toNat {t with rows:=M.map bZ.r} ((ax t s.aj).1.drop k) (acc.drop k)=mW (bD t.ay s.set).toNat t (ax t s.aj).1 acc)∧(∀o∈M,oo o)∧(sS M ad cap Sr)∧(M.length=t.rows.length)∧(∀i∈(ax t s.aj).1,∃h:i.toNat<M.length,M[i.toNat].r.length=4)∧aG=(⟨205,(112,ae (k:Nat))::aX,(⟨b3,32,12,bK s⟩::⟨bt,53,qp,pre++([bj t.nm,av 2 cC t.ay,aN ad t.rows.length cap,av 5 cP t.ix.ag,ae t.ix.root]++post)⟩::(Sr++M.flatMap bR))⟩:St)) (fun (E:Nat×List bZ)=>match E with|(k,M)=>(ax t s.aj).1.length-k) (0,L) ⟨(Nat.zero_le _),(by rw[hL];rfl),aQ,kI,rW,hl4,rfl⟩ ?_;rintro⟨k,M⟩ _ ⟨de,WM,Z,vX,xL,YW,rfl⟩;refine af [0,6,9,10,110,111,112,113] ?_;refine aq ?_ ?_<;>intro qd Gm
  ·have aa:k<(ax t s.aj).1.length:=(by omega)
   have dg:k<acc.length:=(by omega)
   have jo:(ax t s.aj).1.drop k=((ax t s.aj).1[k]'aa)::(ax t s.aj).1.drop (k+1):=drop_eq_getElem_cons aa;have lH:acc.drop k=(acc[k]'dg)::acc.drop (k+1):=drop_eq_getElem_cons dg;obtain⟨fq,O,oq⟩:=mG _ (getElem_mem aa);obtain⟨fZ,r9⟩:=YW _ (getElem_mem aa);obtain⟨br,rfl,uJ,oS,rfl⟩:=vX.pos w4;obtain⟨I,yz,CH,DU,Of⟩:=(Z _ (getElem_mem fZ)).pos w4;have jN:∀o∈(M.set ((ax t s.aj).1[k]'aa).toNat (⟨M[((ax t s.aj).1[k]'aa).toNat].r.set (bD t.ay s.set).toNat (acc[k]'dg),some ⟨I,0,none⟩,M[((ax t s.aj).1[k]'aa).toNat].cap,[⟨I,41,M[((ax t s.aj).1[k]'aa).toNat].cap*3,(M[((ax t s.aj).1[k]'aa).toNat].r.set (bD t.ay s.set).toNat (acc[k]'dg)).flatMap cV⟩]⟩:bZ)),oo o:=fun o ho=>by rcases mem_or_eq_of_mem_set ho with h|h;exact Z o h;rw[h];exact bM (g:=cV) GP DU
   have Og:(M.set ((ax t s.aj).1[k]'aa).toNat (⟨M[((ax t s.aj).1[k]'aa).toNat].r.set (bD t.ay s.set).toNat (acc[k]'dg),some ⟨I,0,none⟩,M[((ax t s.aj).1[k]'aa).toNat].cap,[⟨I,41,M[((ax t s.aj).1[k]'aa).toNat].cap*3,(M[((ax t s.aj).1[k]'aa).toNat].r.set (bD t.ay s.set).toNat (acc[k]'dg)).flatMap cV⟩]⟩:bZ)).flatMap gR=M.flatMap gR:=Kf M _ fZ _ (by show[D.v (.slice _ (M[((ax t s.aj).1[k]'aa).toNat].r.set (bD t.ay s.set).toNat (acc[k]'dg)).length _)]=[D.v (.slice _ _ _)];rw[length_set,yz]);have CA:sS (M.set ((ax t s.aj).1[k]'aa).toNat (⟨M[((ax t s.aj).1[k]'aa).toNat].r.set (bD t.ay s.set).toNat (acc[k]'dg),some ⟨I,0,none⟩,M[((ax t s.aj).1[k]'aa).toNat].cap,[⟨I,41,M[((ax t s.aj).1[k]'aa).toNat].cap*3,(M[((ax t s.aj).1[k]'aa).toNat].r.set (bD t.ay s.set).toNat (acc[k]'dg)).flatMap cV⟩]⟩:bZ)) (some ⟨br,0,none⟩) cap [⟨br,28,cap*1,M.flatMap gR⟩]:=(by rw[←Og];exact bM (by rw[length_set];exact uJ) oS)
   have alk:∀i∈(ax t s.aj).1,∃h:i.toNat<(M.set ((ax t s.aj).1[k]'aa).toNat (⟨M[((ax t s.aj).1[k]'aa).toNat].r.set (bD t.ay s.set).toNat (acc[k]'dg),some ⟨I,0,none⟩,M[((ax t s.aj).1[k]'aa).toNat].cap,[⟨I,41,M[((ax t s.aj).1[k]'aa).toNat].cap*3,(M[((ax t s.aj).1[k]'aa).toNat].r.set (bD t.ay s.set).toNat (acc[k]'dg)).flatMap cV⟩]⟩:bZ)).length,(M.set ((ax t s.aj).1[k]'aa).toNat (⟨M[((ax t s.aj).1[k]'aa).toNat].r.set (bD t.ay s.set).toNat (acc[k]'dg),some ⟨I,0,none⟩,M[((ax t s.aj).1[k]'aa).toNat].cap,[⟨I,41,M[((ax t s.aj).1[k]'aa).toNat].cap*3,(M[((ax t s.aj).1[k]'aa).toNat].r.set (bD t.ay s.set).toNat (acc[k]'dg)).flatMap cV⟩]⟩:bZ))[i.toNat].r.length=4:=fun i hi=>by obtain⟨h1,h2⟩:=YW i hi;refine⟨by rw[length_set];exact h1,?_⟩;rw[getElem_set];split;(show(M[((ax t s.aj).1[k]'aa).toNat].r.set (bD t.ay s.set).toNat (acc[k]'dg)).length=4;rw[length_set];exact r9);exact h2
   have aix:mW (bD t.ay s.set).toNat {t with rows:=(M.set ((ax t s.aj).1[k]'aa).toNat (⟨M[((ax t s.aj).1[k]'aa).toNat].r.set (bD t.ay s.set).toNat (acc[k]'dg),some ⟨I,0,none⟩,M[((ax t s.aj).1[k]'aa).toNat].cap,[⟨I,41,M[((ax t s.aj).1[k]'aa).toNat].cap*3,(M[((ax t s.aj).1[k]'aa).toNat].r.set (bD t.ay s.set).toNat (acc[k]'dg)).flatMap cV⟩]⟩:bZ)).map bZ.r} ((ax t s.aj).1.drop (k+1)) (acc.drop (k+1))=mW (bD t.ay s.set).toNat t (ax t s.aj).1 acc:=(by rw[←WM,jo,lH,mW];congr 1;exact(T8 (x:=t.ix) fZ rfl).symm)
   refine CD.perm (Se fZ Of) ?_;refine af [0,6,9,10,15,16,110,111,112] ?_;refine nH 12 [0,6,9,10,110,111,112,123,124,128] ?_;refine aS 3 ?_ (h:=by exact(oV 2));refine aS 1 ?_ (h:=by exact(dw 1 (h:=by first|exact .l (j:=((ax t s.aj).1[k]'aa).toNat) (Int.toNat_of_nonneg fq).symm vJ|exact .r (j:=((ax t s.aj).1[k]'aa).toNat) (Int.toNat_of_nonneg fq).symm vJ)));refine aS 0 ?_ (h:=by exact(cR (mk:=Op.load 28) rfl ot (iT (k:=3) (i:=((ax t s.aj).1[k]'aa).toNat) (ls:=M) (d:=aN (some ⟨I,0,none⟩) M[((ax t s.aj).1[k]'aa).toNat].r.length M[((ax t s.aj).1[k]'aa).toNat].cap) ve rfl rfl rfl isAgg28 fZ (by rw[←yz];rfl))));refine bI ?_;refine bN (dw 3 (h:=by first|exact .l (j:=(bD t.ay s.set).toNat) (Int.toNat_of_nonneg w4).symm (by rw[r9];omega)|exact .r (j:=(bD t.ay s.set).toNat) (Int.toNat_of_nonneg w4).symm (by rw[r9];omega))) ?_;refine OD.storeAt (k:=0) (cs':=(M[((ax t s.aj).1[k]'aa).toNat].r.set (bD t.ay s.set).toNat (acc[k]'dg)).flatMap cV) ap rfl rfl ot rfl rfl ot rfl rfl sizeOf41 rfl (by show 0+(bD t.ay s.set).toNat*3+3≤(M[((ax t s.aj).1[k]'aa).toNat].r.flatMap cV).length;rw[cn ff,r9];omega) (by show da (M[((ax t s.aj).1[k]'aa).toNat].r.flatMap cV) (0+(bD t.ay s.set).toNat*3) (cV (acc[k]'dg))=_;rw[Nat.zero_add];exact o8 ff _ _ (by rw[r9];omega)) ?_;refine an 205 [0,6,9,10,110,111,112] ?_;refine dK 1 ?_
   refine OD.perm (T7 fZ (o:=(⟨M[((ax t s.aj).1[k]'aa).toNat].r.set (bD t.ay s.set).toNat (acc[k]'dg),some ⟨I,0,none⟩,M[((ax t s.aj).1[k]'aa).toNat].cap,[⟨I,41,M[((ax t s.aj).1[k]'aa).toNat].cap*3,(M[((ax t s.aj).1[k]'aa).toNat].r.set (bD t.ay s.set).toNat (acc[k]'dg)).flatMap cV⟩]⟩:bZ)) rfl) ?_;refine an 205 [0,6,9,10,110,111,112] ?_;refine⟨((k+1),(M.set ((ax t s.aj).1[k]'aa).toNat (⟨M[((ax t s.aj).1[k]'aa).toNat].r.set (bD t.ay s.set).toNat (acc[k]'dg),some ⟨I,0,none⟩,M[((ax t s.aj).1[k]'aa).toNat].cap,[⟨I,41,M[((ax t s.aj).1[k]'aa).toNat].cap*3,(M[((ax t s.aj).1[k]'aa).toNat].r.set (bD t.ay s.set).toNat (acc[k]'dg)).flatMap cV⟩]⟩:bZ))),_,cq,aK,w4,aix,jN,CA,(by rw[length_set];exact xL),alk,rfl⟩
  have aiy:mW (bD t.ay s.set).toNat t (ax t s.aj).1 acc={t with rows:=M.map bZ.r}:=(by rw[←WM,drop_of_length_le (l:=(ax t s.aj).1) w4,adY])
  have aW:gW t s=({t with rows:=M.map bZ.r},((ax t s.aj).1.length:Int),0):=(by unfold gW;rw[if_neg hA,if_neg U,if_neg hC,if_neg hD,if_neg hN,if_pos hP,DT,aiy])
  refine af [4,5] ?_;refine aI (⟨bt,53,qp,pre++(_++post)⟩::(Sr++M.flatMap bR)) ?_;rw[aW];exact⟨rfl,fun _=>⟨M,ad,cap,Sr,⟨rfl,Z,vX⟩,by simp only[tC,length_map,xL]⟩⟩
 have hP:¬0<(bD t.ay s.set):=(by simpa using gj)
 have yA:(bD t.ay s.set)=0:=(by omega)
 refine af [0,9,10,133,134,135] ?_;refine eA [0,9,10,133,134] (fun aX _ (E:Nat×aD) aG=>match E with|(k,x)=>(k≤(ax t s.aj).1.length)∧(oJ t x ((ax t s.aj).1.drop k)=oJ t t.ix (ax t s.aj).1)∧(ic x n)∧(∀i∈(ax t s.aj).1.drop k,(cJ (rowAt t i),i)∈dQ x)∧aG=(⟨205,(135,ae (k:Nat))::aX,(⟨b3,32,12,bK s⟩::⟨bt,53,qp,pre++([bj t.nm,av 2 cC t.ay,aN ad t.rows.length cap,av 5 cP x.ag,ae x.root]++post)⟩::(Sr++L.flatMap bR))⟩:St)) (fun (E:Nat×aD)=>match E with|(k,x)=>(ax t s.aj).1.length-k) (0,t.ix) ⟨(Nat.zero_le _),rfl,g.ix,(fun i hi=>(mG i hi).iI g),rfl⟩ ?_;rintro⟨k,x⟩ _ ⟨fb,Mh,gx,yn,rfl⟩;refine af [0,9,10,133,134,135,136] ?_;refine aq ?_ ?_<;>intro Dh LU
 ·have aa:k<(ax t s.aj).1.length:=(by omega)
  have jo:(ax t s.aj).1.drop k=((ax t s.aj).1[k]'aa)::(ax t s.aj).1.drop (k+1):=drop_eq_getElem_cons aa;have r8:fX t ((ax t s.aj).1[k]'aa):=mG _ (getElem_mem aa);obtain⟨fq,O,oq⟩:=id r8;have fZ:((ax t s.aj).1[k]'aa).toNat<L.length:=(by rw[rW];exact O)
  obtain⟨br,rfl,uJ,oS,rfl⟩:=kI.pos w4;have vZ:L[((ax t s.aj).1[k]'aa).toNat].r=rowAt t ((ax t s.aj).1[k]'aa):=(by rw[iz O];exact(GB hL fZ O))
  obtain⟨YU,DS⟩:=fX.ok g r8;have WN:=KF (G:=G) hG L[((ax t s.aj).1[k]'aa).toNat].r (by rw[vZ];omega) (by rw[vZ];omega) (by rw[vZ];exact fun v hv=>(DS v hv).1);rw[show cJ L[((ax t s.aj).1[k]'aa).toNat].r=cJ (rowAt t ((ax t s.aj).1[k]'aa)) from by rw[vZ]] at WN;have iQ:=yn _ (by rw[jo];exact mem_cons_self);have YX:=Jk gx ((A5 gx.val _).2 ⟨_,iQ⟩);have yy:=RX (G:=G) gx (cJ (rowAt t ((ax t s.aj).1[k]'aa)));rw[TR gx (wH (by rw[iz O];exact(g.row _ O oq).1)) ((A6 gx _).2 ⟨_,iQ⟩)] at yy;unfold Tw.cT at yy;have aiz:oJ t (gC x (dm x) (cJ (rowAt t ((ax t s.aj).1[k]'aa)))) ((ax t s.aj).1.drop (k+1))=oJ t t.ix (ax t s.aj).1:=(by rw[←Mh,jo];rfl)
  have alm:∀i∈(ax t s.aj).1.drop (k+1),(cJ (rowAt t i),i)∈dQ (gC x (dm x) (cJ (rowAt t ((ax t s.aj).1[k]'aa)))):=fun i hi=>by refine(YX.2 _).2 ⟨yn i (by rw[jo];exact mem_cons_of_mem _ hi),fun e=>?_⟩;have h9:=hnd.sublist (drop_sublist k _);rw[jo,nodup_cons] at h9;have h8:=Kb g.ix ((mG i (mem_of_mem_drop hi)).iI g) (r8.iI g) e;simp only[Prod.mk.injEq] at h8;exact h9.1 (h8.2 ▸ hi)
  refine af [0,9,10,18,133,134,135] ?_;refine nH 17 [0,9,10,133,134,135,140,154] ?_;refine aS 4 ?_ (h:=by exact(xH 1));refine aS 3 ?_ (h:=by exact(oV 1));refine aS 1 ?_ (h:=by exact(dw 1 (h:=by first|exact .l (j:=((ax t s.aj).1[k]'aa).toNat) (Int.toNat_of_nonneg fq).symm O|exact .r (j:=((ax t s.aj).1[k]'aa).toNat) (Int.toNat_of_nonneg fq).symm O)));refine aS 0 ?_ (h:=by exact(cR (mk:=Op.load 28) rfl ot (iT (k:=2) (i:=((ax t s.aj).1[k]'aa).toNat) (ls:=L) ve rfl rfl rfl isAgg28 fZ rfl)));refine zO (WN) (fun r S h=>h.flat) (fun r S h=>h.view) (ha:=by exact⟨⟨_,ot,(R9 aQ fZ (fun B U=>by repeat (first|exact U|apply mem_append_right|apply mem_cons_of_mem)))⟩,trivial⟩) (K:=?_);refine cH (yy) ?_;refine bI ?_;refine aF 2 ?_;refine OD.storeAt (k:=1) (cs':=pre++([bj t.nm,av 2 cC t.ay,aN (some ⟨br,0,none⟩) t.rows.length cap,.list 5 ((gC x (dm x) (cJ (rowAt t ((ax t s.aj).1[k]'aa)))).ag.flatMap cP) (gC x (dm x) (cJ (rowAt t ((ax t s.aj).1[k]'aa)))).ag.length,ae (gC x (dm x) (cJ (rowAt t ((ax t s.aj).1[k]'aa)))).root]++post)) ap rfl rfl ot rfl rfl ot rfl rfl sizeOf51 rfl (by show off+3+2≤(pre++(([bj t.nm,av 2 cC t.ay,aN (some ⟨br,0,none⟩) t.rows.length cap,av 5 cP x.ag,ae x.root]:List D)++post)).length;simp only[length_append,length_cons,length_nil];omega) (by exact By (j:=3) hp aO rfl) ?_;refine an 205 [0,9,10,133,134,135] ?_
  refine cc [0,9,10,133,134,135] ?_;refine⟨((k+1),(gC x (dm x) (cJ (rowAt t ((ax t s.aj).1[k]'aa))))),_,cq,aK,w4,aiz,YX.1,alm,rfl⟩
 have yq:oJ t t.ix (ax t s.aj).1=x:=(by rw[←Mh,drop_of_length_le w4];rfl)
 clear Mh yn;skip;refine af [0,9,10,159,160,161] ?_;refine eA [0,9,10,159,160] (fun aX _ (E:Nat×List bZ×aD) aG=>match E with|(k,M,y)=>(k≤(ax t s.aj).1.length)∧(kG {t with rows:=M.map bZ.r,ix:=y} ((ax t s.aj).1.drop k) (acc.drop k)=kG {t with ix:=oJ t t.ix (ax t s.aj).1} (ax t s.aj).1 acc)∧(∀o∈M,oo o)∧(sS M ad cap Sr)∧(M.length=t.rows.length)∧(∀i∈(ax t s.aj).1,∃h:i.toNat<M.length,Pc.dB bf M[i.toNat].r=0∧∀v∈M[i.toNat].r,v.Ok)∧(ic y (n+k))∧aG=(⟨205,(161,ae (k:Nat))::aX,(⟨b3,32,12,bK s⟩::⟨bt,53,qp,pre++([bj t.nm,av 2 cC t.ay,aN ad t.rows.length cap,av 5 cP y.ag,ae y.root]++post)⟩::(Sr++M.flatMap bR))⟩:St)) (fun (E:Nat×List bZ×aD)=>match E with|(k,M,y)=>(ax t s.aj).1.length-k) (0,L,x) ⟨(Nat.zero_le _),(by rw[hL,yq];rfl),aQ,kI,rW,hl5,gx,rfl⟩ ?_;rintro⟨k,M,y⟩ _ ⟨de,AK,Z,vX,xL,YY,gy,rfl⟩;refine af [0,9,10,159,160,161,162] ?_;refine aq ?_ ?_<;>intro F8 BH
 ·have aa:k<(ax t s.aj).1.length:=(by omega)
  have dg:k<acc.length:=(by omega)
  have jo:(ax t s.aj).1.drop k=((ax t s.aj).1[k]'aa)::(ax t s.aj).1.drop (k+1):=drop_eq_getElem_cons aa;have lH:acc.drop k=(acc[k]'dg)::acc.drop (k+1):=drop_eq_getElem_cons dg;obtain⟨fq,O,oq⟩:=mG _ (getElem_mem aa);obtain⟨fZ,YZ,hx6⟩:=YY _ (getElem_mem aa);have r9:=oI YZ;obtain⟨aln,WO,alo⟩:=WL _ (getElem_mem dg);have yx:(acc[k]'dg).k≠0∧jy (bf[0]'w8).k (acc[k]'dg):=(by have h1:=alo yA;refine⟨h1,WO.1,?_⟩;have h2:=WO.2;have alp:bD bf s.set=0:=(by rw[←g.ay];exact yA);have Y0:=hC;simp only[g.ay,alp] at Y0;have h3:(dr bf s.bL).1=(bf[0]'w8).k∨(dr bf s.bL).1=0:=(Classical.em ((dr bf s.bL).1=(bf[0]'w8).k)).imp id fun h=>Classical.not_not.1 fun h'=>Y0 ⟨h,h'⟩;omega)
  obtain⟨br,rfl,uJ,oS,rfl⟩:=vX.pos w4;obtain⟨I,yz,CH,DU,Of⟩:=(Z _ (getElem_mem fZ)).pos w4;have jN:∀o∈(M.set ((ax t s.aj).1[k]'aa).toNat (⟨M[((ax t s.aj).1[k]'aa).toNat].r.set 0 (acc[k]'dg),some ⟨I,0,none⟩,M[((ax t s.aj).1[k]'aa).toNat].cap,[⟨I,41,M[((ax t s.aj).1[k]'aa).toNat].cap*3,(M[((ax t s.aj).1[k]'aa).toNat].r.set 0 (acc[k]'dg)).flatMap cV⟩]⟩:bZ)),oo o:=fun o ho=>by rcases mem_or_eq_of_mem_set ho with h|h;exact Z o h;rw[h];exact bM (g:=cV) GP DU
  have Og:(M.set ((ax t s.aj).1[k]'aa).toNat (⟨M[((ax t s.aj).1[k]'aa).toNat].r.set 0 (acc[k]'dg),some ⟨I,0,none⟩,M[((ax t s.aj).1[k]'aa).toNat].cap,[⟨I,41,M[((ax t s.aj).1[k]'aa).toNat].cap*3,(M[((ax t s.aj).1[k]'aa).toNat].r.set 0 (acc[k]'dg)).flatMap cV⟩]⟩:bZ)).flatMap gR=M.flatMap gR:=Kf M _ fZ _ (by show[D.v (.slice _ (M[((ax t s.aj).1[k]'aa).toNat].r.set 0 (acc[k]'dg)).length _)]=[D.v (.slice _ _ _)];rw[length_set,yz]);have CA:sS (M.set ((ax t s.aj).1[k]'aa).toNat (⟨M[((ax t s.aj).1[k]'aa).toNat].r.set 0 (acc[k]'dg),some ⟨I,0,none⟩,M[((ax t s.aj).1[k]'aa).toNat].cap,[⟨I,41,M[((ax t s.aj).1[k]'aa).toNat].cap*3,(M[((ax t s.aj).1[k]'aa).toNat].r.set 0 (acc[k]'dg)).flatMap cV⟩]⟩:bZ)) (some ⟨br,0,none⟩) cap [⟨br,28,cap*1,M.flatMap gR⟩]:=(by rw[←Og];exact bM (by rw[length_set];exact uJ) oS)
  have Vu:Pc.dB bf (M[((ax t s.aj).1[k]'aa).toNat].r.set 0 (acc[k]'dg))=0:=T6 YZ w8 yx.2 (fun _=>yx.1);have xE:∀v∈M[((ax t s.aj).1[k]'aa).toNat].r.set 0 (acc[k]'dg),v.Ok:=fun v hv=>by rcases mem_or_eq_of_mem_set hv with h|h;exact hx6 v h;rw[h];exact aln
  have alq:∀i∈(ax t s.aj).1,∃h:i.toNat<(M.set ((ax t s.aj).1[k]'aa).toNat (⟨M[((ax t s.aj).1[k]'aa).toNat].r.set 0 (acc[k]'dg),some ⟨I,0,none⟩,M[((ax t s.aj).1[k]'aa).toNat].cap,[⟨I,41,M[((ax t s.aj).1[k]'aa).toNat].cap*3,(M[((ax t s.aj).1[k]'aa).toNat].r.set 0 (acc[k]'dg)).flatMap cV⟩]⟩:bZ)).length,Pc.dB bf (M.set ((ax t s.aj).1[k]'aa).toNat (⟨M[((ax t s.aj).1[k]'aa).toNat].r.set 0 (acc[k]'dg),some ⟨I,0,none⟩,M[((ax t s.aj).1[k]'aa).toNat].cap,[⟨I,41,M[((ax t s.aj).1[k]'aa).toNat].cap*3,(M[((ax t s.aj).1[k]'aa).toNat].r.set 0 (acc[k]'dg)).flatMap cV⟩]⟩:bZ))[i.toNat].r=0∧∀v∈(M.set ((ax t s.aj).1[k]'aa).toNat (⟨M[((ax t s.aj).1[k]'aa).toNat].r.set 0 (acc[k]'dg),some ⟨I,0,none⟩,M[((ax t s.aj).1[k]'aa).toNat].cap,[⟨I,41,M[((ax t s.aj).1[k]'aa).toNat].cap*3,(M[((ax t s.aj).1[k]'aa).toNat].r.set 0 (acc[k]'dg)).flatMap cV⟩]⟩:bZ))[i.toNat].r,v.Ok:=fun i hi=>by obtain⟨h1,h2⟩:=YY i hi;refine⟨by rw[length_set];exact h1,?_⟩;rw[getElem_set];split;exact⟨Vu,xE⟩;exact h2
  have dU:=wH Vu;have WQ:=KF (G:=G) hG (M[((ax t s.aj).1[k]'aa).toNat].r.set 0 (acc[k]'dg)) vI vI xE;have DV:=RW (G:=G) gy (cJ (M[((ax t s.aj).1[k]'aa).toNat].r.set 0 (acc[k]'dg))) ((ax t s.aj).1[k]'aa);unfold Tw.cT at DV
  have WR:kG {t with ix:=oJ t t.ix (ax t s.aj).1} (ax t s.aj).1 acc=if iA y (cJ (M[((ax t s.aj).1[k]'aa).toNat].r.set 0 (acc[k]'dg))) (dm y)=true then ({t with rows:=M.map bZ.r,ix:=y},9) else kG {t with rows:=(M.set ((ax t s.aj).1[k]'aa).toNat (⟨M[((ax t s.aj).1[k]'aa).toNat].r.set 0 (acc[k]'dg),some ⟨I,0,none⟩,M[((ax t s.aj).1[k]'aa).toNat].cap,[⟨I,41,M[((ax t s.aj).1[k]'aa).toNat].cap*3,(M[((ax t s.aj).1[k]'aa).toNat].r.set 0 (acc[k]'dg)).flatMap cV⟩]⟩:bZ)).map bZ.r,ix:=(gB y (dm y) (cJ (M[((ax t s.aj).1[k]'aa).toNat].r.set 0 (acc[k]'dg))) ((ax t s.aj).1[k]'aa))} ((ax t s.aj).1.drop (k+1)) (acc.drop (k+1)):=by rw[←AK,jo,lH,kG,T8 (o:=(⟨M[((ax t s.aj).1[k]'aa).toNat].r.set 0 (acc[k]'dg),some ⟨I,0,none⟩,M[((ax t s.aj).1[k]'aa).toNat].cap,[⟨I,41,M[((ax t s.aj).1[k]'aa).toNat].cap*3,(M[((ax t s.aj).1[k]'aa).toNat].r.set 0 (acc[k]'dg)).flatMap cV⟩]⟩:bZ)) fZ rfl,Qv xJ,show((M.set ((ax t s.aj).1[k]'aa).toNat (⟨M[((ax t s.aj).1[k]'aa).toNat].r.set 0 (acc[k]'dg),some ⟨I,0,none⟩,M[((ax t s.aj).1[k]'aa).toNat].cap,[⟨I,41,M[((ax t s.aj).1[k]'aa).toNat].cap*3,(M[((ax t s.aj).1[k]'aa).toNat].r.set 0 (acc[k]'dg)).flatMap cV⟩]⟩:bZ))[((ax t s.aj).1[k]'aa).toNat]'xJ)=(⟨M[((ax t s.aj).1[k]'aa).toNat].r.set 0 (acc[k]'dg),some ⟨I,0,none⟩,M[((ax t s.aj).1[k]'aa).toNat].cap,[⟨I,41,M[((ax t s.aj).1[k]'aa).toNat].cap*3,(M[((ax t s.aj).1[k]'aa).toNat].r.set 0 (acc[k]'dg)).flatMap cV⟩]⟩:bZ) from getElem_set_self _]
  refine CD.perm (Se fZ Of) ?_;refine af [0,9,10,19,20,159,160,161] ?_;refine CD.seq ?_;refine nH 11 [0,9,10,20,159,160,161,172,176] ?_;refine aS 3 ?_ (h:=by exact(oV 2));refine aS 1 ?_ (h:=by exact(dw 1 (h:=by first|exact .l (j:=((ax t s.aj).1[k]'aa).toNat) (Int.toNat_of_nonneg fq).symm vJ|exact .r (j:=((ax t s.aj).1[k]'aa).toNat) (Int.toNat_of_nonneg fq).symm vJ)));refine aS 0 ?_ (h:=by exact(cR (mk:=Op.load 28) rfl ot (iT (k:=3) (i:=((ax t s.aj).1[k]'aa).toNat) (ls:=M) (d:=aN (some ⟨I,0,none⟩) M[((ax t s.aj).1[k]'aa).toNat].r.length M[((ax t s.aj).1[k]'aa).toNat].cap) ve rfl rfl rfl isAgg28 fZ (by rw[←yz];rfl))));refine bI ?_;refine bN (su (mk:=Op.indexAddr 28) rfl ot bV (by first|exact tX runUnderlying28 sizeOf41 (j:=0) rfl (by rw[r9];decide)|exact uf runUnderlying28 sizeOf41 (j:=0) rfl (by rw[r9];decide))) ?_;refine OD.storeAt (k:=0) (cs':=(M[((ax t s.aj).1[k]'aa).toNat].r.set 0 (acc[k]'dg)).flatMap cV) ap rfl rfl ot rfl rfl ot rfl rfl sizeOf41 rfl (by show 0+0*3+3≤(M[((ax t s.aj).1[k]'aa).toNat].r.flatMap cV).length;rw[cn ff,r9];omega) (by show da (M[((ax t s.aj).1[k]'aa).toNat].r.flatMap cV) (0+0*3) (cV (acc[k]'dg))=_;rw[Nat.zero_add];exact o8 ff _ _ (by rw[r9];omega)) ?_;refine an 205 [0,9,10,20,159,160,161] ?_;refine CD.seq ?_;rcases iQ:iA y (cJ (M[((ax t s.aj).1[k]'aa).toNat].r.set 0 (acc[k]'dg))) (dm y) with _|_
  ·rw[UM gy w4 dU fq iQ] at DV;have gy2:ic (gB y (dm y) (cJ (M[((ax t s.aj).1[k]'aa).toNat].r.set 0 (acc[k]'dg))) ((ax t s.aj).1[k]'aa)) (n+(k+1)):=(EQ gy w4 ((ER gy).1 iQ) dU fq).1;have alr:kG {t with rows:=(M.set ((ax t s.aj).1[k]'aa).toNat (⟨M[((ax t s.aj).1[k]'aa).toNat].r.set 0 (acc[k]'dg),some ⟨I,0,none⟩,M[((ax t s.aj).1[k]'aa).toNat].cap,[⟨I,41,M[((ax t s.aj).1[k]'aa).toNat].cap*3,(M[((ax t s.aj).1[k]'aa).toNat].r.set 0 (acc[k]'dg)).flatMap cV⟩]⟩:bZ)).map bZ.r,ix:=(gB y (dm y) (cJ (M[((ax t s.aj).1[k]'aa).toNat].r.set 0 (acc[k]'dg))) ((ax t s.aj).1[k]'aa))} ((ax t s.aj).1.drop (k+1)) (acc.drop (k+1))=kG {t with ix:=oJ t t.ix (ax t s.aj).1} (ax t s.aj).1 acc:=(by rw[WR,if_neg xO])
   refine td 18 17 [0,9,10,21,159,160,161,193,194] ?_;refine aS 3 ?_ (h:=by exact(xH 2));refine aS 3 ?_ (h:=by exact(oV 2));refine aS 1 ?_ (h:=by exact(dw 1 (h:=by first|exact .l (j:=((ax t s.aj).1[k]'aa).toNat) (Int.toNat_of_nonneg fq).symm vJ|exact .r (j:=((ax t s.aj).1[k]'aa).toNat) (Int.toNat_of_nonneg fq).symm vJ)));refine aS 0 ?_ (h:=by exact(cR (mk:=Op.load 28) rfl ot (iT (k:=3) (i:=((ax t s.aj).1[k]'aa).toNat) (ls:=M) (d:=aN (some ⟨I,0,none⟩) (M[((ax t s.aj).1[k]'aa).toNat].r.set 0 (acc[k]'dg)).length M[((ax t s.aj).1[k]'aa).toNat].cap) ve rfl rfl rfl isAgg28 fZ (by rw[←yz,length_set];rfl))));refine zO (WQ) (fun r S h=>h.flat) (fun r S h=>h.view) (ha:=by exact⟨⟨_,ot,(lK (bM (g:=cV) GP DU) (cn ff _) (fun B U=>by rw[mem_singleton] at U;rw[U];exact mem_cons_self))⟩,trivial⟩) (K:=?_);refine cH (DV) ?_;refine mg 3 ?_;refine og ?_;refine jb ?_;refine⟨rfl,fun C8=>?_⟩;refine aR 0 [_,_] sizeOf51 ?_;refine an 205 [0,9,10,21,22,159,160,161] ?_;refine af [0,9,10,21,22,159,160,161,196] ?_;refine aq ?_ ?_<;>intro vq FK
   ·exact absurd vq (by simp at vq)
   refine dK 4 ?_;refine OD.storeAt (k:=3) (cs':=pre++([bj t.nm,av 2 cC t.ay,aN (some ⟨br,0,none⟩) t.rows.length cap,.list 5 ((gB y (dm y) (cJ (M[((ax t s.aj).1[k]'aa).toNat].r.set 0 (acc[k]'dg))) ((ax t s.aj).1[k]'aa)).ag.flatMap cP) (gB y (dm y) (cJ (M[((ax t s.aj).1[k]'aa).toNat].r.set 0 (acc[k]'dg))) ((ax t s.aj).1[k]'aa)).ag.length,ae (gB y (dm y) (cJ (M[((ax t s.aj).1[k]'aa).toNat].r.set 0 (acc[k]'dg))) ((ax t s.aj).1[k]'aa)).root]++post)) ap rfl rfl ot rfl rfl ot rfl rfl sizeOf51 rfl (by show off+3+2≤(pre++(([bj t.nm,av 2 cC t.ay,aN (some ⟨br,0,none⟩) t.rows.length cap,av 5 cP y.ag,ae y.root]:List D)++post)).length;simp only[length_append,length_cons,length_nil];omega) (by exact By (j:=3) hp aO rfl) ?_;refine an 205 [0,9,10,159,160,161] ?_;refine dK 1 ?_;refine OD.perm ((T7 fZ (o:=(⟨M[((ax t s.aj).1[k]'aa).toNat].r.set 0 (acc[k]'dg),some ⟨I,0,none⟩,M[((ax t s.aj).1[k]'aa).toNat].cap,[⟨I,41,M[((ax t s.aj).1[k]'aa).toNat].cap*3,(M[((ax t s.aj).1[k]'aa).toNat].r.set 0 (acc[k]'dg)).flatMap cV⟩]⟩:bZ)) rfl).cons _) ?_;refine an 205 [0,9,10,159,160,161] ?_
   refine⟨((k+1),(M.set ((ax t s.aj).1[k]'aa).toNat (⟨M[((ax t s.aj).1[k]'aa).toNat].r.set 0 (acc[k]'dg),some ⟨I,0,none⟩,M[((ax t s.aj).1[k]'aa).toNat].cap,[⟨I,41,M[((ax t s.aj).1[k]'aa).toNat].cap*3,(M[((ax t s.aj).1[k]'aa).toNat].r.set 0 (acc[k]'dg)).flatMap cV⟩]⟩:bZ)),(gB y (dm y) (cJ (M[((ax t s.aj).1[k]'aa).toNat].r.set 0 (acc[k]'dg))) ((ax t s.aj).1[k]'aa))),_,cq,aK,w4,alr,jN,CA,(by rw[length_set];exact xL),alq,gy2,rfl⟩
  rw[afk gy dU fq iQ] at DV;have aW:gW t s=(t,0,9):=(by unfold gW;rw[if_neg hA,if_neg U,if_neg hC,if_neg hD,if_neg hN,if_neg hP,DT,WR,if_pos iQ];exact if_pos (show(9:Int)≠0 by decide))
  refine td 18 17 [0,9,10,21,159,160,161,193,194] ?_;refine aS 3 ?_ (h:=by exact(xH 2));refine aS 3 ?_ (h:=by exact(oV 2));refine aS 1 ?_ (h:=by exact(dw 1 (h:=by first|exact .l (j:=((ax t s.aj).1[k]'aa).toNat) (Int.toNat_of_nonneg fq).symm vJ|exact .r (j:=((ax t s.aj).1[k]'aa).toNat) (Int.toNat_of_nonneg fq).symm vJ)));refine aS 0 ?_ (h:=by exact(cR (mk:=Op.load 28) rfl ot (iT (k:=3) (i:=((ax t s.aj).1[k]'aa).toNat) (ls:=M) (d:=aN (some ⟨I,0,none⟩) (M[((ax t s.aj).1[k]'aa).toNat].r.set 0 (acc[k]'dg)).length M[((ax t s.aj).1[k]'aa).toNat].cap) ve rfl rfl rfl isAgg28 fZ (by rw[←yz,length_set];rfl))));refine zO (WQ) (fun r S h=>h.flat) (fun r S h=>h.view) (ha:=by exact⟨⟨_,ot,(lK (bM (g:=cV) GP DU) (cn ff _) (fun B U=>by rw[mem_singleton] at U;rw[U];exact mem_cons_self))⟩,trivial⟩) (K:=?_);refine cH (DV) ?_;refine mg 3 ?_;refine og ?_;refine jb ?_;refine⟨rfl,fun C8=>?_⟩;refine aR 0 [_,_] sizeOf51 ?_;refine an 205 [0,9,10,21,22,159,160,161] ?_;refine af [0,9,10,21,22,159,160,161,196] ?_;refine aq ?_ ?_<;>intro vq FK
  ·exact z141
  exact absurd vq (by simp at vq)
 have aiA:kG {t with ix:=oJ t t.ix (ax t s.aj).1} (ax t s.aj).1 acc=({t with rows:=M.map bZ.r,ix:=y},0):=(by rw[←AK,drop_of_length_le (l:=(ax t s.aj).1) w4,ab4])
 have aW:gW t s=({t with rows:=M.map bZ.r,ix:=y},((ax t s.aj).1.length:Int),0):=(by unfold gW;rw[if_neg hA,if_neg U,if_neg hC,if_neg hD,if_neg hN,if_neg hP,DT,aiA];exact if_neg (fun h=>h rfl))
 refine af [4,5] ?_;refine aI (⟨bt,53,qp,pre++(_++post)⟩::(Sr++M.flatMap bR)) ?_;rw[aW];exact⟨rfl,fun _=>⟨M,ad,cap,Sr,⟨rfl,Z,vX⟩,by simp only[tC,length_map,xL]⟩⟩

open Go.Proofs.YtdgichenhdikgaaGreatDoor.So
def BZ(p:(List (List Vl)×Int)×Int)(r:D)(S:List ah):Prop:=∃(L:List bZ) (ad:Option Addr) (cap:Nat) (Sx:List ah),r = .di [.agg [aN ad L.length cap,ae p.1.2],ae p.2]∧sS L ad cap Sx∧(∀o∈L,oo o)∧L.map bZ.r=p.1.1∧S=Sx++L.flatMap bR
theorem BZ.view{r:D}(h:BZ p r S):View S r (AJ p):=by
 obtain⟨L,ad,cap,Sx,rfl,ho,aQ,hL,rfl⟩:=h;unfold AJ;rw[←hL];unfold av;rw[length_map];exact EH ⟨uY ⟨AX ho (Fe aQ fun B E=>mem_append_right _ E) (by rw[cn jJ,length_map]) (fun B E=>mem_append_left _ E),eM,trivial⟩,eM,trivial⟩
theorem ag7(l:List Vl):∀d∈l.flatMap cV,kS d=true:=fun d hd=>by
 obtain⟨v,_,hv⟩:=mem_flatMap.1 hd;unfold cV at hv;simp only[mem_cons,not_mem_nil,or_false] at hv;rcases hv with rfl|rfl|rfl<;>rfl
theorem ag8(l:List bZ):∀d∈l.flatMap gR,kS d=true:=fun d hd=>by
 obtain⟨v,_,hv⟩:=mem_flatMap.1 hd;unfold gR at hv;rw[mem_singleton] at hv;subst hv;rfl
theorem BZ.flat{r:D}(h:BZ p r S):kS r=true∧∀B∈S,∀d∈B.cs,kS d=true:=by
 obtain⟨L,ad,cap,Sx,rfl,ho,aQ,hL,rfl⟩:=h;refine⟨rfl,fun B E=>?_⟩;rcases mem_append.1 E with E|E
 ·rcases ho with ⟨_,_,_,_,rfl⟩|⟨b,_,_,_,rfl⟩
  ·cases E
  rw[mem_singleton] at E;subst E;exact ag8 L
 obtain⟨o,I,E⟩:=mem_flatMap.1 E;have h1:=aQ o I;unfold bR at E;rcases h1 with ⟨_,_,_,_,h2⟩|⟨b,_,_,_,h2⟩
 ·rw[h2] at E;cases E
 rw[h2,mem_singleton] at E;subst E;exact ag7 o.r
theorem ag9(g:eu t n)(s:cm):rK t s<4:=by
 unfold rK;split
 ·decide
 have:=(KI (l:=t.ay) (nm:=s.order)).2;rw[g.ay] at this ⊢;exact this
theorem aiB(g:eu t n){names:List ByteArray}(h:∀n∈names,0≤bD t.ay n):∀c∈rZ t names,0≤c∧c.toNat<4:=fun c hc=>by
 have h4:t.ay.length=4:=(by rw[g.ay];rfl)
 unfold rZ at hc;split at hc
 ·obtain⟨i,hi,rfl⟩:=mem_map.1 hc;have:=mem_range.1 hi;constructor
  ·exact Int.natCast_nonneg i
  show i<4;omega
 obtain⟨x,hx,rfl⟩:=mem_map.1 hc;have:=(KI (l:=t.ay) (nm:=x)).2;have:=h x hx;omega
theorem aiC(f:ah→Nat):(((L++[o]).flatMap bR).map f).sum=((L.flatMap bR).map f).sum+(o.S.map f).sum:=by
 rw[TV];simp only[bR,map_append,sum_append]
theorem Qw:(Tryz.prog.info? 3).map (fun i=>(i.zero,i.size,i.bytes))=some (some (.int .i64 0),1,8):=by kernel_rfl
theorem aaE:(Tryz.prog.info? 28).map (fun i=>(i.zero,i.size,i.bytes))=some (some (.slice none 0 0),1,24):=by kernel_rfl
theorem aaF:(Tryz.prog.info? 41).map (fun i=>(i.zero,i.size,i.bytes))=some (some (.agg #[.int .i64 0,.int .i64 0,.string ⟨#[]⟩]),3,32):=by kernel_rfl
theorem afA(hm:(3,marksC)∈G)(hw:(1,wordsC)∈G)(ht:(0,typesC)∈G)(hG:(2,[Value.int .i64 m])∈G)(t:aM)(g:eu t n)(s:cm)(s7:s.names.length≤1000)(ho:∀o∈s.aj,o.nm.size≤maxLen)(fQ:∀o∈s.aj,o.v.Ok):VC Tryz.prog G 44 [.agg (cY t),.agg (bK s)] [] (BZ (mP t s)):=by
 refine VC.body func44 rfl ntmps44 aO fun X0 w0 bg=>?_;have c8:=dR;have AK:=KH (G:=G) hm hw ht hG t g s.aj ho fQ;have DR:=Fj g s.aj;have mG:=sC g s.aj;have Oh:=EW g s.aj;obtain⟨M,hM⟩:∃M,M=ax t s.aj:=⟨_,rfl⟩
 rw[←hM] at AK DR mG Oh;obtain⟨sl,em⟩:=M;dsimp only at DR mG Oh;have mU:=g.eE;have alj:t.ay.length=4:=(by rw[g.ay];rfl)
 unfold cY at AK;unfold cY bK;refine bU ?_;refine OD.box (ds:=[_,_,_,_,_]) ap rfl rfl ot rfl rfl (fun b2=>?_);refine OD.box (ds:=[_,_,_,_,_,_,_,_,_,_,_,_]) ap rfl rfl ot rfl rfl (fun b3=>?_);refine OD.alloc (ds:=[_,_]) ap rfl rfl zeroValue36 rfl (fun b4=>?_);refine an 135 [2,3,4] ?_;refine bU ?_;refine bq [2,3,4,6] ?_;refine af [2,3,4,6,21,22,23] ?_;refine eA [2,3,4,21,22] (fun aX _ (O:Nat×List Int×Option Addr×Nat×List ah) aG=>match O with|(i,acc,Z,ou,Sa)=>(i≤s.names.length)∧(acc=(s.names.take i).map (bD t.ay))∧(∀x∈s.names.take i,0≤bD t.ay x)∧(bp 3 1 ((acc).flatMap Tw.cI) (acc).length Z ou Sa)∧aG=(⟨135,(6,aN Z (acc).length ou)::(23,ae (i:Nat))::aX,(⟨b4,36,2,[bH,ae 0]⟩::⟨b3,32,12,bK s⟩::⟨b2,53,5,cY t⟩::Sa)⟩:St)) (fun (O:Nat×List Int×Option Addr×Nat×List ah)=>match O with|(i,acc,Z,ou,Sa)=>s.names.length-i) (0,([]:List Int),none,0,[]) ⟨(Nat.zero_le _),rfl,(fun x h=>by cases h),(bp.cast iy jS),rfl⟩ ?_;rintro⟨i,acc,Z,ou,Sa⟩ _ ⟨hi,nB,j6,oT,rfl⟩;refine af [2,3,4,6,21,22,23,24] ?_;refine aq ?_ ?_<;>intro aP bC
 ·have aa:i<s.names.length:=(by omega)
  have eT:=IP (G:=G) t w4 s.names[i];unfold cY at eT;have qh:acc.length=i:=(by rw[nB,length_map,length_take];omega)
  refine af [2,3,4,6,8,21,22,23] ?_;refine cz [2,3,4,6,9,21,22,23] (eT) ?_;refine af [2,3,4,6,9,21,22,23,31] ?_;refine aq ?_ ?_<;>intro aZ cr
  ·have CB:bD t.ay s.names[i]<0:=(by simpa using aZ)
   have aW:mP t s=(([],0),8):=if_pos (any_eq_true.2 ⟨s.names[i],getElem_mem _,decide_eq_true CB⟩);refine aB 1 ?_;refine aR 0 [_,_] sizeOf36 ?_;exact M2
  have CB:¬bD t.ay s.names[i]<0:=(by simpa using aZ)
  have als:∀x∈s.names.take (i+1),0≤bD t.ay x:=fun x hx=>by rw[take_succ_eq_append_getElem aa] at hx;rcases mem_append.1 hx with hx|hx;exact j6 x hx;rw[mem_singleton] at hx;subst hx;omega
  refine dK 2 ?_;refine en (cf 0 [_]) [.int .i64 0] [_] zeroValue3 runUnderlying67 sizeOf3 (fun b35=>?_);refine fA 0 35 1 1 ?_;refine OD.ey (ls:=(acc)) (new:=[bD t.ay s.names[i]]) (Sq:=Sa) Tw.ez Tw.nR ap rfl rfl underlying67 Qw rfl w8 ot oT (cZ (A:=[_,_,_])) ot bn mY mZ (fun Hu Mi alu alv=>?_);refine OD.perm (dV (S1:=[⟨Hu,3,Mi*1,flatMap Tw.cI ((acc)++[bD t.ay s.names[i]])⟩]) (A:=[_,_,_])) ?_;refine an 135 [2,3,4,6,21,22,23] ?_;refine cc [2,3,4,6,21,22,23] ?_;refine⟨((i+1),(acc++[bD t.ay s.names[i]]),(some ⟨Hu,0,none⟩),Mi,[⟨Hu,3,Mi*1,flatMap Tw.cI ((acc)++[bD t.ay s.names[i]])⟩]),_,cq,aK,w4,(by rw[nB,←pI aa,map_append];rfl),als,(bp.cast (bM alu alv) jS),rfl⟩
 have vT:s.names.take i=s.names:=take_of_length_le w4;rw[vT] at nB j6;have GD:¬(s.names.any fun n=>decide (bD t.ay n<0))=true:=fun h=>by obtain⟨x,h1,h2⟩:=any_eq_true.1 h;have:=j6 x h1;have:=of_decide_eq_true h2;omega
 refine CD.exit ?_;refine jV [2,3,4] (fun aX _ aG=>∃(acc:List Int),∃(Z:Option Addr),∃(ou:Nat),∃(Sa:List ah),(acc=rZ t s.names)∧(bp 3 1 (acc.flatMap Tw.cI) acc.length Z ou Sa)∧aG=(⟨135,(6,aN Z acc.length ou)::aX,(⟨b4,36,2,[bH,ae 0]⟩::⟨b3,32,12,bK s⟩::⟨b2,53,5,cY t⟩::Sa)⟩:St)) ?_ ?_
 ·refine af [2,3,4,6,41] ?_;refine aq ?_ ?_<;>intro bX cA
  ·have gE:s.names.length=0:=(by simpa using bX)
   have alw:acc=[]:=(by rw[nB,length_eq_zero_iff.1 gE];rfl)
   refine af [2,3,4,6,44,45] ?_;refine eA [2,3,4,44] (fun aX _ (O:Nat×List Int×Option Addr×Nat×List ah) aG=>match O with|(j,U,Z,ou,Sa)=>(j≤t.ay.length)∧(U=(range j).map Int.ofNat)∧(bp 3 1 ((U).flatMap Tw.cI) (U).length Z ou Sa)∧aG=(⟨135,(6,aN Z (U).length ou)::(45,ae (j:Nat))::aX,(⟨b4,36,2,[bH,ae 0]⟩::⟨b3,32,12,bK s⟩::⟨b2,53,5,cY t⟩::Sa)⟩:St)) (fun (O:Nat×List Int×Option Addr×Nat×List ah)=>match O with|(j,U,Z,ou,Sa)=>t.ay.length-j) (0,acc,Z,ou,Sa) ⟨(Nat.zero_le _),alw,(bp.cast oT jS),rfl⟩ ?_;rintro⟨j,U,Z,ou,Sa⟩ _ ⟨hj,Lc,oT,rfl⟩;refine af [2,3,4,6,44,45,46] ?_;refine aq ?_ ?_<;>intro cN dW
   ·have aqG:j<t.ay.length:=(by omega)
    have aqH:U.length=j:=(by rw[Lc,length_map,length_range])
    refine af [2,3,4,6,10,44,45] ?_;refine dK 2 ?_;refine en (cf 0 [_]) [.int .i64 0] [_] zeroValue3 runUnderlying67 sizeOf3 (fun AB=>?_);refine fA 0 50 1 1 ?_;refine OD.ey (ls:=(U)) (new:=[(j:Int)]) (Sq:=Sa) Tw.ez Tw.nR ap rfl rfl underlying67 Qw rfl w8 ot oT (cZ (A:=[_,_,_])) ot bn mY mZ (fun yB Mj Mk Ml=>?_);refine OD.perm (dV (S1:=[⟨yB,3,Mj*1,flatMap Tw.cI ((U)++[(j:Int)])⟩]) (A:=[_,_,_])) ?_;refine an 135 [2,3,4,6,44,45] ?_;refine cc [2,3,4,6,44,45] ?_;refine⟨((j+1),(U++[(j:Int)]),(some ⟨yB,0,none⟩),Mj,[⟨yB,3,Mj*1,flatMap Tw.cI ((U)++[(j:Int)])⟩]),_,cq,aK,w4,(by rw[Lc,range_succ,map_append];rfl),(bp.cast (bM Mk Ml) jS),rfl⟩
   have hjf:U=rZ t s.names:=(by unfold rZ;rw[if_pos gE,Lc,show j=t.ay.length by omega])
   refine CD.exit ?_;refine⟨_,aK,(U),Z,ou,Sa,hjf,oT,rfl⟩
  have gE:¬s.names.length=0:=(by simpa using bX)
  refine CD.skip ?_;refine⟨_,aK,(acc),Z,ou,Sa,(by unfold rZ;rw[if_neg gE];exact nB),oT,rfl⟩
 rintro _ ⟨acc,Z,ou,Sa,uP,oT,rfl⟩;refine CD.seq ?_;refine CD.gP (t:=6) (Sq:=Sa) lk oT (cn Tw.ez _) (cZ (A:=[_,_,_])) ?_;refine tu ?_;refine OD.alloc (ds:=[_]) ap rfl rfl zeroValue3 rfl (fun lf=>?_);refine aR 0 [_] sizeOf3 ?_;refine an 135 [2,3,4,6,11] ?_;refine jV [2,3,4,6,11] (fun aX _ aG=>∃(ov:Int),(0≤ov)∧(ov=rK t s)∧aG=(⟨135,aX,[⟨lf,3,1,[ae ov]⟩,⟨b4,36,2,[bH,ae 0]⟩,⟨b3,32,12,bK s⟩,⟨b2,53,5,cY t⟩]⟩:St)) ?_ ?_
 ·refine af [2,3,4,6,11,55] ?_;refine aq ?_ ?_<;>intro ec fh
  ·have AL:¬(s.order.toList==(⟨#[]⟩:ByteArray).toList)=true:=(by rw[fh];decide)
   have WS:=IP (G:=G) t w4 s.order;unfold cY at WS;have DW:rK t s=bD t.ay s.order:=if_neg AL;refine aB 3 ?_;refine dP call85 (WS) ?_;refine aR 0 [_] sizeOf3 ?_;refine an 135 [2,3,4,6,11] ?_;refine af [2,3,4,6,11,61] ?_;refine aq ?_ ?_<;>intro fj gA
   ·have CB:rK t s<0:=(by rw[DW];simpa using fj)
    have aW:mP t s=(([],0),8):=(by unfold mP;rw[if_neg GD,if_pos CB])
    refine aB 1 ?_;refine aR 1 [_,_] sizeOf36 ?_;exact M2
   have CB:¬rK t s<0:=(by rw[DW];simpa using fj)
   refine CD.skip ?_;refine⟨_,aK,(bD t.ay s.order),w4,DW.symm,rfl⟩
  have AL:(s.order.toList==(⟨#[]⟩:ByteArray).toList)=true:=fh;have DW:rK t s=0:=if_pos AL;refine CD.skip ?_;refine⟨_,aK,0,(Int.le_refl 0),DW.symm,rfl⟩
 rintro _ ⟨ov,alx,ni,rfl⟩;refine aB 3 ?_;refine OD.call ap rfl rfl rfl call86 AK ⟨ot,ot,trivial⟩ (eV _) ?_;rintro _ Sx ⟨c9,cM,rfl,dN⟩;refine OD.perm (dV (A:=[_,_,_,_])) ?_;refine an 135 [2,3,4,6,11,12,13] ?_;refine af [2,3,4,6,11,12,13,71] ?_;refine aq ?_ ?_<;>intro gL kU
 ·have HL:em≠0:=(by simpa using gL)
  have aW:mP t s=(([],0),em):=(by unfold mP;rw[if_neg GD,if_neg w4,←hM];exact if_pos HL)
  refine aB 2 ?_;refine aR 1 [_,_] sizeOf36 ?_;exact M2
 have HL:¬em≠0:=(by simpa using gL)
 refine CD.skip ?_;refine jV [2,3,4,6] (fun aX _ aG=>∃(on:Nat),∃(lz:List Int),((on:Int)=rK t s)∧(lz=BY t s.down on sl)∧(lz.length=sl.length)∧(∀x∈lz,fX t x)∧aG=(⟨135,(12,av 1 Tw.cI lz)::aX,[⟨lf,3,1,[ae (on:Nat)]⟩,⟨b4,36,2,[bH,ae 0]⟩,⟨b3,32,12,bK s⟩,⟨b2,53,5,cY t⟩]⟩:St)) ?_ ?_
 ·obtain⟨on,rfl⟩:=Int.eq_ofNat_of_zero_le alx;have jF:on<4:=(by have:=ag9 g s;omega)
  rcases dN with ⟨hn,dh,rfl,rfl,rfl⟩|⟨bx,rfl,qq,oq,rfl⟩
  ·obtain rfl:=length_eq_zero_iff.1 hn;refine dK 1 ?_;refine bN (pK (ds:=[_,_,_]) rfl ⟨ot,ot,ot,trivial⟩) ?_;refine dP call87 (adW _) ?_;refine OD.wk (Wk.tU (t:=12) (sz:=1) lk) ?_;refine an 135 [2,3,4,6,12] ?_;refine⟨_,aK,on,[],ni,(Ka ⟨Perm.refl _,Pairwise.nil⟩),rfl,(fun x h=>by cases h),rfl⟩
  refine dK 1 ?_;refine bN (pK (ds:=[_,_,_]) rfl ⟨ot,ot,ot,trivial⟩) ?_;refine OD.call (Sf:=⟨bx,3,cM*1,sl.flatMap Tw.cI⟩::[⟨b2,53,5,cY t⟩,⟨lf,3,1,[ae (on:Nat)]⟩,⟨b3,32,12,bK s⟩]) (R:=[⟨b4,36,2,[bH,ae 0]⟩]) ap rfl rfl rfl call87 (aft sl.length cM bx 88 [cQ b2,cQ lf,cQ b3] [⟨b2,53,5,cY t⟩,⟨lf,3,1,[ae (on:Nat)]⟩,⟨b3,32,12,bK s⟩] (k8 t s.down on) (fX t) (DQ t) (fun x y hx hy=>afw t g s on jF b2 lf b3 x y hx hy) call88 (fun h1 h2=>ag4 t s.down on h1 h2) (fun x y h=>by have:=Qs t s.down on x y;omega) qq oq DR sl Oh rfl mG) ⟨ot,ot,trivial⟩ (show([⟨lf,3,1,[ae (on:Nat)]⟩,⟨b4,36,2,[bH,ae 0]⟩,⟨b3,32,12,bK s⟩,⟨b2,53,5,cY t⟩]++[⟨bx,3,cM*1,sl.flatMap Tw.cI⟩]:List ah).Perm ((⟨bx,3,cM*1,sl.flatMap Tw.cI⟩::[⟨b2,53,5,cY t⟩,⟨lf,3,1,[ae (on:Nat)]⟩,⟨b3,32,12,bK s⟩])++[⟨b4,36,2,[bH,ae 0]⟩]) from(jE fun mz=>by simp only[map_append,map_cons,map_nil,sum_append,sum_cons,sum_nil];omega)) ?_;rintro _ _ ⟨rfl,lz,yo,rfl⟩;have mc:=yo.1.length_eq;refine OD.perm (S':=⟨lf,3,1,[ae (on:Nat)]⟩::⟨b4,36,2,[bH,ae 0]⟩::⟨b3,32,12,bK s⟩::⟨b2,53,5,cY t⟩::[⟨bx,3,cM*1,lz.flatMap Tw.cI⟩]) (show((⟨bx,3,cM*1,lz.flatMap Tw.cI⟩::[⟨b2,53,5,cY t⟩,⟨lf,3,1,[ae (on:Nat)]⟩,⟨b3,32,12,bK s⟩])++[⟨b4,36,2,[bH,ae 0]⟩]:List ah).Perm _ from(jE fun mz=>by simp only[map_append,map_cons,map_nil,sum_append,sum_cons,sum_nil];omega)) ?_;rw[←mc]
  refine OD.gP (t:=12) (Sq:=[⟨bx,3,cM*1,lz.flatMap Tw.cI⟩]) lk (bM (by rw[mc];exact qq) oq) (cn Tw.ez _) (cZ (A:=[_,_,_,_])) ?_;refine an 135 [2,3,4,6,12] ?_;refine⟨_,aK,on,lz,ni,(Ka yo),(by first|exact mc|rfl),(fun x hx=>mG x (yo.1.subset hx)),rfl⟩
 rintro _ ⟨on,lz,ni,VG,mc,VH,rfl⟩;refine jV [2,3,4,6] (fun aX uQ aG=>∃(E:List Int),(E=ud t s)∧(∀x∈E,fX t x)∧(E.length≤40)∧aG=(⟨135,(12,av 1 Tw.cI E)::aX,uQ⟩:St)) ?_ ?_
 ·refine aB 4 ?_;refine bP 80 (fun Lh FJ=>?_) (fun Lh FJ=>?_)
  ·refine bq [2,3,4,6,12,86] ?_;refine aq ?_ ?_<;>intro gj lB
   ·have nh:0≤s.hU∧s.hU<lz.length:=⟨FJ,lB⟩
    refine ik [2,3,4,6,12] ?_;refine aS 3 ?_ (h:=by exact(eB (l:=0) (h:=s.hU.toNat) rfl ot trivial ⟨_,by rw[Int.toNat_of_nonneg nh.1];exact ot⟩ (by exact nQ Tw.ez (fun h=>by cases h) runUnderlying67 sizeOf3 w4)));refine bI ?_;refine⟨_,aK,(lz.take s.hU.toNat),(by unfold ud sJ;rw[←ni,Int.toNat_natCast,←hM,←VG,if_pos nh]),(fun x hx=>VH x (mem_of_mem_take hx)),oO,rfl⟩
   exact z80
  refine bq [2,3,4,6,12,86] ?_;refine fJ ?_;exact z80
 rintro _ ⟨E,WT,yj,aqI,rfl⟩;refine aB 3 ?_;refine OD.alloc (ds:=[_,_]) ap rfl rfl zeroValue36 rfl (fun Ap=>?_);refine aR 0 [_,_] sizeOf36 ?_;refine an 135 [2,3,4,6,12,14] ?_;refine af [2,4,6,12,14,95] ?_;refine aq ?_ ?_<;>intro qd Gm
 ·have Cj:s.count=true:=qd;have aW:mP t s=(([[⟨2,((E.length:Nat):Int),⟨#[]⟩⟩]],((E.length:Nat):Int)),0):=(by unfold mP;rw[if_neg GD,if_neg w4,←hM,if_neg HL,if_pos Cj,←WT])
  refine aB 3 ?_;refine en (cf 0 [_]) [.int .i64 0,.int .i64 0,.string ⟨#[]⟩] [_,_,_] zeroValue41 runUnderlying28 sizeOf41 (fun Oi=>?_);refine en (cf 0 [_]) [.slice none 0 0] [_] zeroValue28 runUnderlying34 sizeOf28 (fun WU=>?_);refine aF 1 ?_;refine aR 2 [_,_] sizeOf34 ?_;refine an 135 [4,14] ?_;refine aB 1 ?_;refine aR 4 [_,_] sizeOf36 ?_;refine an 135 [4,5] ?_;refine aI [_,_] ?_;rw[aW];exact⟨[⟨[⟨2,(E.length:Nat),⟨#[]⟩⟩],some ⟨Oi,0,none⟩,1,[⟨Oi,41,1*3,[⟨2,(E.length:Nat),⟨#[]⟩⟩].flatMap cV⟩]⟩],some ⟨WU,0,none⟩,1,[_],rfl,.inr ⟨WU,rfl,Nat.le_refl _,(show 1≤maxLen by decide),rfl⟩,(fun o ho=>by rw[mem_singleton] at ho;subst ho;exact .inr ⟨Oi,rfl,Nat.le_refl _,(show 1≤maxLen by decide),rfl⟩),rfl,rfl⟩
 have Cj:¬s.count=true:=(by rw[qd];decide)
 have aW:mP t s=((E.map (xG t acc),((E.length:Nat):Int)),0):=(by unfold mP;rw[if_neg GD,if_neg w4,←hM,if_neg HL,if_neg Cj,←WT,←uP])
 have WV:=aiB g j6;rw[←uP] at WV;have aqJ:acc.length≤1000:=(by rw[uP];unfold rZ;split;(rw[length_map,length_range];omega);(rw[length_map];omega))
 refine af [2,4,6,14,103,104,105] ?_;refine eA [2,4,6,14,103,104] (fun aX _ (O:Nat×List bZ×Option Addr×Nat×List ah) aG=>match O with|(i,L,c9,cM,Sx)=>(i≤E.length)∧(L.map bZ.r=(E.take i).map (xG t acc))∧(∀o∈L,oo o)∧(sS L c9 cM Sx)∧aG=(⟨135,(105,ae (i:Nat))::aX,(⟨Ap,36,2,[aN c9 L.length cM,ae (E.length:Nat)]⟩::⟨lf,3,1,[ae (on:Nat)]⟩::⟨b4,36,2,[bH,ae 0]⟩::⟨b3,32,12,bK s⟩::⟨b2,53,5,cY t⟩::(Sx++L.flatMap bR))⟩:St)) (fun (O:Nat×List bZ×Option Addr×Nat×List ah)=>match O with|(i,L,c9,cM,Sx)=>E.length-i) (0,([]:List bZ),none,0,[]) ⟨(Nat.zero_le _),rfl,(fun o h=>by cases h),iy,rfl⟩ ?_;rintro⟨i,L,c9,cM,Sx⟩ _ ⟨hi,hL,aQ,dN,rfl⟩;refine af [2,4,6,14,103,104,105,106] ?_;refine aq ?_ ?_<;>intro Dh LU
 ·have aa:i<E.length:=(by omega)
  obtain⟨fq,qq,oq⟩:=yj _ (getElem_mem aa);have r9:=oI (g.row _ qq oq).1;have rW:L.length=i:=(by have:=congrArg length hL;rw[length_map,length_map,length_take] at this;omega)
  refine af [2,4,6,14,16,103,104,105] ?_;refine bU ?_;refine bq [2,4,6,14,16,17,103,104,105] ?_;refine af [2,4,6,14,16,17,103,104,105,109,110,111] ?_;refine eA [2,4,6,14,16,103,104,105,109,110] (fun aX _ (O:Nat×List Vl×Option Addr×Nat×List ah) aG=>match O with|(j,I,iE,iF,Sy)=>(j≤acc.length)∧(I=(acc.take j).map fun c=>(rowAt t (E[i]'aa)).getD c.toNat aV)∧(bp 41 3 (I.flatMap cV) I.length iE iF Sy)∧aG=(⟨135,(17,aN iE I.length iF)::(111,ae (j:Nat))::aX,(⟨Ap,36,2,[aN c9 L.length cM,ae (E.length:Nat)]⟩::⟨lf,3,1,[ae (on:Nat)]⟩::⟨b4,36,2,[bH,ae 0]⟩::⟨b3,32,12,bK s⟩::⟨b2,53,5,cY t⟩::(Sy++(Sx++L.flatMap bR)))⟩:St)) (fun (O:Nat×List Vl×Option Addr×Nat×List ah)=>match O with|(j,I,iE,iF,Sy)=>acc.length-j) (0,([]:List Vl),none,0,[]) ⟨(Nat.zero_le _),rfl,iy,rfl⟩ ?_;rintro⟨j,I,iE,iF,Sy⟩ _ ⟨hj,Ld,DM,rfl⟩;refine af [2,4,6,14,16,17,103,104,105,109,110,111,112] ?_;refine aq ?_ ?_<;>intro F8 BH
  ·have l8:j<acc.length:=(by omega)
   obtain⟨WW,aqK⟩:=WV _ (getElem_mem l8);have Oj:(acc[j]'l8).toNat<(t.rows[(E[i]'aa).toNat]'qq).length:=(by omega)
   have aiD:(rowAt t (E[i]'aa)).getD (acc[j]'l8).toNat aV=(t.rows[(E[i]'aa).toNat]'qq)[(acc[j]'l8).toNat]:=(by rw[iz qq,getD_eq_getElem?_getD,getElem?_eq_getElem Oj];rfl)
   have aqL:I.length=j:=(by rw[Ld,length_map,length_take];omega)
   refine af [2,4,6,14,16,17,19,103,104,105,109,110,111] ?_;refine dK 4 ?_;refine bN (dw 1 (h:=by first|exact .l (j:=(E[i]'aa).toNat) (Int.toNat_of_nonneg fq).symm qq|exact .r (j:=(E[i]'aa).toNat) (Int.toNat_of_nonneg fq).symm qq)) ?_;refine aF 2 ?_;refine bN (dw 3 (h:=by first|exact .l (j:=(acc[j]'l8).toNat) (Int.toNat_of_nonneg WW).symm Oj|exact .r (j:=(acc[j]'l8).toNat) (Int.toNat_of_nonneg WW).symm Oj)) ?_;refine aF 1 ?_;refine en (cf 0 [_]) [.int .i64 0,.int .i64 0,.string ⟨#[]⟩] [_,_,_] zeroValue41 runUnderlying28 sizeOf41 (fun aqM=>?_);refine fA 0 124 3 1 ?_;refine OD.ey (ls:=I) (new:=[(t.rows[(E[i]'aa).toNat]'qq)[(acc[j]'l8).toNat]]) (Sq:=Sy) ff Fl ap rfl rfl underlying28 aaF rfl w8 ot DM (I2 (A:=[_,_,_,_,_])) ot bn mY mZ (fun Mm Le aiE aiF=>?_);refine OD.perm (QV (S1:=[⟨Mm,41,Le*3,flatMap cV (I++[(t.rows[(E[i]'aa).toNat]'qq)[(acc[j]'l8).toNat]])⟩]) (A:=[_,_,_,_,_])) ?_;refine an 135 [2,4,6,14,16,17,103,104,105,109,110,111] ?_;refine cc [2,4,6,14,16,17,103,104,105,109,110,111] ?_;refine⟨((j+1),(I++[(t.rows[(E[i]'aa).toNat]'qq)[(acc[j]'l8).toNat]]),(some ⟨Mm,0,none⟩),Le,[⟨Mm,41,Le*3,flatMap cV (I++[(t.rows[(E[i]'aa).toNat]'qq)[(acc[j]'l8).toNat]])⟩]),_,cq,aK,w4,(by rw[Ld,←aiD,←pI l8,map_append];rfl),(bM aiE aiF),rfl⟩
  have vN:(L++[(⟨I,iE,iF,Sy⟩:bZ)]).map bZ.r=(E.take (i+1)).map (xG t acc):=(by rw[map_append,hL,←pI aa,map_append];congr 1;show[I]=[xG t acc (E[i]'aa)];rw[Ld,take_of_length_le w4];rfl)
  have jN:∀o∈L++[(⟨I,iE,iF,Sy⟩:bZ)],oo o:=fun o ho=>by rcases mem_append.1 ho with ho|ho;exact aQ o ho;rw[mem_singleton] at ho;subst ho;exact DM
  refine dK 3 ?_;refine en (cf 0 [_]) [.slice none 0 0] [_] zeroValue28 runUnderlying34 sizeOf28 (fun aqN=>?_);refine fA 0 130 1 1 ?_;refine OD.ey (ls:=L) (new:=[(⟨I,iE,iF,Sy⟩:bZ)]) (Sq:=Sx) ve UO ap rfl rfl underlying34 aaE rfl w8 ot dN (tJ (A:=[_,_,_,_,_])) ot bn mY mZ (fun GF F4 aiG aiH=>?_);refine OD.perm (wu (S2:=[⟨GF,28,F4*1,flatMap gR (L++[(⟨I,iE,iF,Sy⟩:bZ)])⟩]) (A:=[_,_,_,_,_])) ?_;refine OD.perm (S':=⟨Ap,36,2,[aN c9 L.length cM,ae (E.length:Nat)]⟩::⟨lf,3,1,[ae (on:Nat)]⟩::⟨b4,36,2,[bH,ae 0]⟩::⟨b3,32,12,bK s⟩::⟨b2,53,5,cY t⟩::([⟨GF,28,F4*1,flatMap gR (L++[(⟨I,iE,iF,Sy⟩:bZ)])⟩]++(L++[(⟨I,iE,iF,Sy⟩:bZ)]).flatMap bR)) (jE fun mz=>by simp only[map_append,map_cons,map_nil,sum_append,sum_cons,sum_nil,aiC];omega) ?_;refine aF 1 ?_;refine aR 0 [_,_] sizeOf34 ?_;refine an 135 [2,4,6,14,103,104,105] ?_;refine cc [2,4,6,14,103,104,105] ?_;refine⟨((i+1),(L++[(⟨I,iE,iF,Sy⟩:bZ)]),(some ⟨GF,0,none⟩),F4,[⟨GF,28,F4*1,flatMap gR (L++[(⟨I,iE,iF,Sy⟩:bZ)])⟩]),_,cq,aK,w4,vN,jN,(bM aiG aiH),rfl⟩
 have pH:L.map bZ.r=E.map (xG t acc):=(by rw[hL,take_of_length_le w4])
 refine aB 1 ?_;refine aR 2 [_,_] sizeOf36 ?_;refine an 135 [4,5] ?_;refine aI (Sx++L.flatMap bR) ?_;rw[aW];exact⟨L,c9,cM,Sx,rfl,dN,aQ,pH,rfl⟩

abbrev gU(bo:Nat)(ad:Option Addr)(n cap:Nat):ah:=⟨bo,25,1,[aN ad n cap]⟩
def gI(s:cm):aM:=⟨s.table,s.ay,[],p8⟩
def xI(s:cm):aU:=⟨gI s,[],none,0,[],[]⟩
theorem afB(s:cm):qn (xI s):=⟨[],rfl,rfl,(fun o h=>by cases h),rfl,iy⟩
def qs(l:List aM)(s:cm):List aM×Int:=if 0≤aT l s.table then (l,9) else if l.length=4 then (l,10) else (l++[gI s],0)
def F5(l:List aM)(bo:Nat)(S:List ah):Prop:=∃(L:List aU) (ad:Option Addr) (cap:Nat) (Sx:List ah),xF L ad cap Sx∧(∀o∈L,okW o)∧L.map aU.t=l∧S.Perm (gU bo ad L.length cap::(Sx++L.flatMap bT))
theorem aaG:(Tryz.prog.info? 53).map (fun i=>(i.zero,i.size,i.bytes))=some (some (.agg #[.string ⟨#[]⟩,.slice none 0 0,.slice none 0 0,.slice none 0 0,.int .i64 0]),5,96):=by kernel_rfl
theorem ab6(L:List aU)(aQ:∀o∈L,qn o)(hL:L.length≤4)(s:cm)(lp:s.ay.length≤1000)(bo:Nat)(ad:Option Addr)(cap:Nat)(Sx:List ah)(O:xF L ad cap Sx):VC Tryz.prog G 41 [cQ bo,.agg (bK s)] (gU bo ad L.length cap::(Sx++L.flatMap bT)) (fun r S=>r=ae (qs (L.map aU.t) s).2∧((qs (L.map aU.t) s).2=0→F5 (qs (L.map aU.t) s).1 bo S)):=by
 refine VC.body func41 rfl ntmps41 aO fun X0 w0 bg=>?_;have c8:=dR;have U:=fun o ho=>(aQ o ho).w;have fL:=qA (G:=G) (L.map aU.t) GQ s.table;unfold av at fL;rw[length_map] at fL;unfold bK;refine bU ?_;refine OD.box (ds:=[_,_,_,_,_,_,_,_,_,_,_,_]) ap rfl rfl ot rfl rfl (fun b3=>?_);refine an 37 [0,3] ?_;refine cL [0,3,5] ?_;refine mg 6 ?_;refine zP (fL) (ha:=by exact⟨⟨_,ot,(FD O U (fun B hB=>by repeat (first|exact hB|apply mem_append_right|apply mem_cons_of_mem)))⟩,⟨_,ot,eM⟩,trivial⟩) (K:=?_);refine bI ?_;refine aq ?_ ?_<;>intro aP bC
 ·have h0:0≤aT (L.map aU.t) s.table:=(by simpa using aP)
  have aW:qs (L.map aU.t) s=(L.map aU.t,9):=if_pos h0;refine af [4] ?_;exact G3
 have h0:¬0≤aT (L.map aU.t) s.table:=(by simpa using aP)
 refine af [0,3,14] ?_;refine aq ?_ ?_<;>intro aZ cr
 ·have h4:L.length=4:=(by have:=aZ;simp at this;omega)
  have aW:qs (L.map aU.t) s=(L.map aU.t,10):=(by unfold qs;rw[if_neg h0,if_pos (by rw[length_map];exact h4)])
  refine af [4] ?_;exact G3
 have h4:¬L.length=4:=(by have:=aZ;simp at this;omega)
 have aW:qs (L.map aU.t) s=(L.map aU.t++[gI s],0):=(by unfold qs;rw[if_neg h0,if_neg (by rw[length_map];exact h4)])
 have nG:=agN (G:=G);refine CD.skip ?_;refine CD.seq ?_;refine nH 13 [21,25,33] ?_;refine cH (Qn s.ay w4) ?_;refine cH (nG) ?_;refine bI ?_;refine OD.ey (ls:=L) (new:=[xI s]) (Sq:=Sx) u7 UP ap rfl rfl underlying23 aaG rfl w8 ot O (oZ (A:=[_,_])) ot bn mY mZ (fun I E Z aly=>?_);refine OD.perm (jX (S1:=[⟨I,53,E*5,flatMap gT (L++[xI s])⟩]) (A:=[_,_])) ?_;refine aF 2 ?_;refine aR 1 [_] sizeOf23 ?_;refine an 37 [] ?_;refine af [4] ?_;refine aI (⟨bo,25,1,[_]⟩::([⟨I,53,E*5,flatMap gT (L++[xI s])⟩]++L.flatMap bT)) ?_;rw[aW];exact⟨rfl,fun _=>⟨L++[xI s],some ⟨I,0,none⟩,E,[⟨I,53,E*5,flatMap gT (L++[xI s])⟩],bM Z aly,(fun o ho=>by rcases mem_append.1 ho with ho|ho;exact U o ho;rw[mem_singleton] at ho;subst ho;exact(afB s).w),by rw[map_append];rfl,by rw[TW,show bT (xI s)=[] from rfl,append_nil]⟩⟩

noncomputable def gD(l:List aM)(s:cm):List aM×((List (List Vl)×Int)×Int) :=
 if s.kind=1 then ((qs l s).1,(([],0),(qs l s).2))
 else if aT l s.table<0 then (l,(([],0),8))
 else if s.kind=3 then (l.set (aT l s.table).toNat (gq (l.getD (aT l s.table).toNat (gI s)) s.row).1,(([],1),(gq (l.getD (aT l s.table).toNat (gI s)) s.row).2))
 else if s.kind=4 then (l,mP (l.getD (aT l s.table).toNat (gI s)) s)
 else if s.kind=5 then (l.set (aT l s.table).toNat (gW (l.getD (aT l s.table).toNat (gI s)) s).1,(([],(gW (l.getD (aT l s.table).toNat (gI s)) s).2.1),(gW (l.getD (aT l s.table).toNat (gI s)) s).2.2))
 else (l.set (aT l s.table).toNat (mJ (l.getD (aT l s.table).toNat (gI s)) s.aj).1,(([],(mJ (l.getD (aT l s.table).toNat (gI s)) s.aj).2.1),(mJ (l.getD (aT l s.table).toNat (gI s)) s.aj).2.2))
theorem Pg:∀(c:List D) {S:List ah},gw S c c
 | [],_=>trivial
 | _::c,_=>⟨eM,Pg c⟩
theorem adZ(L:List aU)(h:i<L.length):L.flatMap gT=(L.take i).flatMap gT++(gT L[i]++(L.drop (i+1)).flatMap gT):=by
 conv=>lhs;rw[←take_append_drop i L,drop_eq_getElem_cons h]
 rw[flatMap_append,flatMap_cons]
theorem aha(L:List aU)(h:i<L.length)(o:aU):(L.set i o).flatMap gT=(L.take i).flatMap gT++(gT o++(L.drop (i+1)).flatMap gT):=by
 rw[set_eq_take_append_cons_drop,if_pos h,flatMap_append,flatMap_cons]
theorem KJ(f:ah→Nat):∀(L:List aU) (i:Nat) (o:aU) (h:i<L.length),(((L.set i o).flatMap bT).map f).sum=((bT o).map f).sum+(((L.eraseIdx i).flatMap bT).map f).sum
 | [],_,_,h=>absurd h (Nat.not_lt_zero _)
 | x::L,0,o,_=>by simp
 | x::L,i+1,o,h=>by
  have:=KJ f L i o (Nat.lt_of_succ_lt_succ h);simp only[set_cons_succ,flatMap_cons,map_append,sum_append,eraseIdx_cons_succ,this];omega
theorem IT{A:List ah}{L:List aU}{bx z:Nat}(h:i<L.length):(A++([(⟨bx,53,z,L.flatMap gT⟩:ah)]++L.flatMap bT)).Perm (A++((⟨bx,53,z,(L.take i).flatMap gT++(gT L[i]++(L.drop (i+1)).flatMap gT)⟩:ah)::(bT L[i]++(L.eraseIdx i).flatMap bT))):=by
 rw[←adZ L h];exact jE fun f=>by
  have:=KJ f L i L[i] h;rw[set_getElem_self] at this;simp only[map_cons,sum_cons,map_append,sum_append,map_nil,sum_nil,this];omega
theorem Kg{L:List aU}{bx E:Nat}(h:i<L.length)(h1:L.length≤cap)(h2:cap≤maxLen)(aQ:∀o∈L,okW o){o:aU}(ho:okW o)(hS:S.Perm (gU E (some ⟨bx,0,none⟩) L.length cap::((⟨bx,53,cap*5,(L.take i).flatMap gT++(gT o++(L.drop (i+1)).flatMap gT)⟩::bT o)++(L.eraseIdx i).flatMap bT))):F5 ((L.map aU.t).set i o.t) E S:=by
 refine⟨L.set i o,some ⟨bx,0,none⟩,cap,[⟨bx,53,cap*5,(L.set i o).flatMap gT⟩],bM (by rw[length_set];exact h1) h2,fun x hx=>?_,by rw[map_set],?_⟩
 ·rcases mem_or_eq_of_mem_set hx with hx|hx
  ·exact aQ x hx
  rw[hx];exact ho
 rw[length_set,aha L h];refine hS.trans (jE fun f=>?_);have:=KJ f L i o h;simp only[map_cons,sum_cons,map_append,sum_append,map_nil,sum_nil,this];omega
theorem T9(h:vA t ad cap E):okW ⟨t,t.rows.flatMap fG,ad,cap,E,[]⟩:=⟨h,fun S _=>Pg _⟩
theorem ad0(h:GA t L ad cap E):okW ⟨t,L.flatMap gR,ad,cap,E,L.flatMap bR⟩:=qn.w ⟨L,rfl,rfl,h.2.1,h.1,h.2.2⟩
theorem Pj{o:aU}(h:qn o):∃U,vA o.t o.ad o.cap U∧∀(n:Nat) (env:List (Nat×D)) (A R:List ah),Wk ⟨n,env,A++(bT o++R)⟩ ⟨n,env,A++(U++R)⟩:=by
 obtain⟨L,h1,h2,h3,h4,h5⟩:=h;have Z:=Fe (S:=L.flatMap bR) h3 (fun B h=>h);have E:L.length=o.t.rows.length:=(by rw[←h4,length_map])
 rcases h5 with ⟨e1,e2,I,O,e5⟩|⟨b,e1,e2,I,O⟩
 ·have hL:L=[]:=length_eq_zero_iff.1 e1;subst hL;have hr:o.t.rows=[]:=(by rw[←h4];rfl)
  refine⟨[],.inl ⟨by rw[hr];rfl,by rw[hr];rfl,I,O,rfl⟩,fun n env A R=>?_⟩;have hb:bT o=[]:=(by unfold bT;rw[e5,h2];rfl)
  rw[hb];exact Wk.refl _
 refine⟨[⟨b,28,o.cap*1,o.t.rows.flatMap fG⟩],.inr ⟨b,e1,by rw[←E];exact e2,I,rfl⟩,fun n env A R=>?_⟩;have hb:bT o=⟨b,28,o.cap*1,L.flatMap gR⟩::L.flatMap bR:=(by unfold bT;rw[O,h2];rfl)
 rw[hb,←h4];have hc:=Wk.cover (n:=n) (l:=env) (S:=A++((⟨b,28,o.cap*1,L.flatMap gR⟩::L.flatMap bR)++R)) (A:=⟨b,28,o.cap*1,L.flatMap gR⟩) (R:=A++R) (Sd:=L.flatMap bR) (cs':=(L.map bZ.r).flatMap fG) (jE fun f=>by simp only[map_cons,sum_cons,map_append,sum_append,map_nil,sum_nil];omega) Z;refine hc.trans (Wk.perm (jE fun f=>by simp only[map_cons,sum_cons,map_append,sum_append,map_nil,sum_nil];omega))
theorem ahb(hm:(3,marksC)∈G)(hw:(1,wordsC)∈G)(ht:(0,typesC)∈G)(hG:(2,[Value.int .i64 m])∈G)(L:List aU)(aQ:∀o∈L,qn o)(hL:L.length≤4)(hg:∀o∈L,∃n,n≤260∧eu o.t n)(s:cm)(fb:¬s.kind=2)(lp:s.ay.length≤1000)(rV:s.row.length≤1000)(L0:∀v∈s.row,v.Ok)(s7:s.names.length≤1000)(ho:∀o∈s.aj,o.nm.size≤maxLen)(fQ:∀o∈s.aj,o.v.Ok)(qZ:∀o∈s.bL,o.nm.size≤maxLen)(GC:∀o∈s.bL,o.v.Ok)(I:Nat)(ad:Option Addr)(cap:Nat)(Sx:List ah)(Z:xF L ad cap Sx):VC Tryz.prog G 27 [cQ I,.agg (bK s)] (gU I ad L.length cap::(Sx++L.flatMap bT)) (fun r S=>r=AJ (gD (L.map aU.t) s).2∧((gD (L.map aU.t) s).2.2=0→F5 (gD (L.map aU.t) s).1 I S)):=by
 refine VC.body func27 rfl ntmps27 aO fun X0 w0 bg=>?_;have c8:=dR;have O:=fun o ho=>(aQ o ho).w;have fL:=qA (G:=G) (L.map aU.t) GQ s.table;unfold av at fL;rw[length_map] at fL;have sZ:=wE (fun t:aM=>t.nm.toList==s.table.toList) (L.map aU.t);rw[show cU (fun t:aM=>t.nm.toList==s.table.toList) (L.map aU.t)=(aT (L.map aU.t) s.table) from rfl,length_map] at sZ;refine bU ?_;refine OD.box (ds:=[_,_,_,_,_,_,_,_,_,_,_,_]) ap rfl rfl ot rfl rfl (fun b3=>?_);refine OD.alloc (ds:=[_,_]) ap rfl rfl zeroValue36 rfl (fun b4=>?_);refine aF 1 ?_;first|refine OD.cells (k:=0) (cs':=[.list 1 [] 0,_]) rfl ⟨eZ,dJ,trivial⟩ rfl ?_|skip
 refine an 87 [0,3,4] ?_;refine af [0,3,4,14] ?_;refine aq ?_ ?_<;>intro aP bC
 ·have de:s.kind=1:=(by simpa using aP)
  have aW:gD (L.map aU.t) s=((qs (L.map aU.t) s).1,(([],0),(qs (L.map aU.t) s).2)):=(by unfold gD;rw[if_pos de])
  refine aB 3 ?_;refine OD.call (Sf:=gU I ad L.length cap::(Sx++L.flatMap bT)) (R:=[⟨b4,36,2,[.list 1 [] 0,ae 0]⟩,⟨b3,32,12,bK s⟩]) ap rfl rfl rfl call41 (ab6 L aQ hL s lp I ad cap Sx Z) ⟨ot,ot,trivial⟩ (show(⟨b4,36,2,[.list 1 [] 0,ae 0]⟩::⟨b3,32,12,bK s⟩::gU I ad L.length cap::(Sx++L.flatMap bT):List ah).Perm (gU I ad L.length cap::(Sx++L.flatMap bT)++[⟨b4,36,2,[.list 1 [] 0,ae 0]⟩,⟨b3,32,12,bK s⟩]) from(jE fun mz=>by simp only[map_append,map_cons,map_nil,sum_append,sum_cons,sum_nil];omega)) ?_;rintro _ U ⟨rfl,h9⟩;refine OD.perm (S':=⟨b4,36,2,[.list 1 [] 0,ae 0]⟩::⟨b3,32,12,bK s⟩::U) (show(U++[⟨b4,36,2,[.list 1 [] 0,ae 0]⟩,⟨b3,32,12,bK s⟩]:List ah).Perm _ from(jE fun mz=>by simp only[map_append,map_cons,map_nil,sum_append,sum_cons,sum_nil];omega)) ?_;refine aR 0 [_,_] sizeOf36 ?_;refine aF 1 ?_;first|refine OD.cells (k:=0) (cs':=[.list 1 [] 0,_]) rfl ⟨eZ,dJ,trivial⟩ rfl ?_|skip
  refine an 87 [4,5] ?_;refine aI U ?_;rw[aW];exact⟨rfl,fun h=>h9 h⟩
 have de:¬s.kind=1:=(by simpa using aP)
 refine cL [0,3,4,6] ?_;refine mg 6 ?_;refine zP (fL) (ha:=by exact⟨⟨_,ot,(FD Z O (fun B hB=>by repeat (first|exact hB|apply mem_append_right|apply mem_cons_of_mem)))⟩,⟨_,ot,eM⟩,trivial⟩) (K:=?_);refine bI ?_;refine af [0,3,4,6,27] ?_;refine aq ?_ ?_<;>intro aZ cr
 ·have h0:(aT (L.map aU.t) s.table)<0:=(by simpa using aZ)
  have aW:gD (L.map aU.t) s=(L.map aU.t,(([],0),8)):=(by unfold gD;rw[if_neg de,if_pos h0])
  refine aB 1 ?_;refine aR 0 [_,_] sizeOf36 ?_;refine aF 1 ?_;first|refine OD.cells (k:=0) (cs':=[.list 1 [] 0,_]) rfl ⟨eZ,dJ,trivial⟩ rfl ?_|skip
  refine an 87 [4,5] ?_;exact G3
 have h0:¬(aT (L.map aU.t) s.table)<0:=(by simpa using aZ)
 have E:(aT (L.map aU.t) s.table).toNat<L.length:=(by omega)
 obtain⟨bx,rfl,iZ,pD,rfl⟩:=Z.pos w4;have ke:(L.map aU.t).getD (aT (L.map aU.t) s.table).toNat (gI s)=(L[(aT (L.map aU.t) s.table).toNat]'E).t:=(by rw[getD_eq_getElem?_getD,getElem?_map,getElem?_eq_getElem E];rfl)
 refine cL [0,3,4,6,7] ?_;refine aS 5 ?_ (h:=by exact(dw 5 (h:=by first|exact .l (j:=(aT (L.map aU.t) s.table).toNat) (Int.toNat_of_nonneg w4).symm E|exact .r (j:=(aT (L.map aU.t) s.table).toNat) (Int.toNat_of_nonneg w4).symm E)));refine bI ?_;refine af [0,3,4,6,7,36] ?_;refine af [0,3,4,6,7,36,37] ?_;refine aq ?_ ?_<;>intro bX cA
 ·exact absurd bX (by exact absurd (by simpa using bX) fb)
 refine af [3,4,7,36,51] ?_;refine aq ?_ ?_<;>intro cN dW
 ·have j9:s.kind=3:=(by simpa using cN)
  have aW:gD (L.map aU.t) s=((L.map aU.t).set (aT (L.map aU.t) s.table).toNat (gq (L[(aT (L.map aU.t) s.table).toNat]'E).t s.row).1,(([],1),(gq (L[(aT (L.map aU.t) s.table).toNat]'E).t s.row).2)):=(by unfold gD;rw[ke,if_neg de,if_neg h0,if_pos j9])
  obtain⟨n,hn,g⟩:=hg (L[(aT (L.map aU.t) s.table).toNat]'E) (getElem_mem E);obtain⟨Sg,Ol,jC⟩:=Pj (aQ (L[(aT (L.map aU.t) s.table).toNat]'E) (getElem_mem E));refine CD.perm (IT (A:=[_,_,_]) E) ?_;refine CD.wk (jC _ _ [_,_,_,_] _) ?_;refine aB 4 ?_
  refine OD.call (Sf:=(⟨bx,53,cap*5,(L.take (aT (L.map aU.t) s.table).toNat).flatMap gT++(gT (L[(aT (L.map aU.t) s.table).toNat]'E)++(L.drop ((aT (L.map aU.t) s.table).toNat+1)).flatMap gT)⟩:ah)::Sg) (R:=⟨b4,36,2,[.list 1 [] 0,ae 0]⟩::⟨b3,32,12,bK s⟩::gU I (some ⟨bx,0,none⟩) L.length cap::((L.eraseIdx (aT (L.map aU.t) s.table).toNat).flatMap bT)) ap rfl rfl rfl call43 (IN hm hw ht hG (L[(aT (L.map aU.t) s.table).toNat]'E).t g w4 s.row rV L0 bx (0+(aT (L.map aU.t) s.table).toNat*5) (cap*5) ((L.take (aT (L.map aU.t) s.table).toNat).flatMap gT) ((L.drop ((aT (L.map aU.t) s.table).toNat+1)).flatMap gT) MN (L[(aT (L.map aU.t) s.table).toNat]'E).ad (L[(aT (L.map aU.t) s.table).toNat]'E).cap Sg Ol) ⟨ot,ot,trivial⟩ (show(⟨b4,36,2,[.list 1 [] 0,ae 0]⟩::⟨b3,32,12,bK s⟩::gU I (some ⟨bx,0,none⟩) L.length cap::(⟨bx,53,cap*5,(L.take (aT (L.map aU.t) s.table).toNat).flatMap gT++(gT (L[(aT (L.map aU.t) s.table).toNat]'E)++(L.drop ((aT (L.map aU.t) s.table).toNat+1)).flatMap gT)⟩:ah)::(Sg++(L.eraseIdx (aT (L.map aU.t) s.table).toNat).flatMap bT):List ah).Perm (((⟨bx,53,cap*5,(L.take (aT (L.map aU.t) s.table).toNat).flatMap gT++(gT (L[(aT (L.map aU.t) s.table).toNat]'E)++(L.drop ((aT (L.map aU.t) s.table).toNat+1)).flatMap gT)⟩:ah)::Sg)++(⟨b4,36,2,[.list 1 [] 0,ae 0]⟩::⟨b3,32,12,bK s⟩::gU I (some ⟨bx,0,none⟩) L.length cap::((L.eraseIdx (aT (L.map aU.t) s.table).toNat).flatMap bT))) from(jE fun mz=>by simp only[map_append,map_cons,map_nil,sum_append,sum_cons,sum_nil];omega)) ?_
  rintro _ U ⟨rfl,h9⟩;refine OD.perm (S':=⟨b4,36,2,[.list 1 [] 0,ae 0]⟩::⟨b3,32,12,bK s⟩::gU I (some ⟨bx,0,none⟩) L.length cap::(U++(L.eraseIdx (aT (L.map aU.t) s.table).toNat).flatMap bT)) (show(U++(⟨b4,36,2,[.list 1 [] 0,ae 0]⟩::⟨b3,32,12,bK s⟩::gU I (some ⟨bx,0,none⟩) L.length cap::((L.eraseIdx (aT (L.map aU.t) s.table).toNat).flatMap bT)):List ah).Perm _ from(jE fun mz=>by simp only[map_append,map_cons,map_nil,sum_append,sum_cons,sum_nil];omega)) ?_;refine aR 0 [_,_] sizeOf36 ?_;refine aF 1 ?_;first|refine OD.cells (k:=0) (cs':=[.list 1 [] 0,_]) rfl ⟨eZ,dJ,trivial⟩ rfl ?_|skip
  refine an 87 [4,5] ?_;refine aI (gU I (some ⟨bx,0,none⟩) L.length cap::(U++(L.eraseIdx (aT (L.map aU.t) s.table).toNat).flatMap bT)) ?_;rw[aW];refine⟨rfl,fun h=>?_⟩;obtain⟨oh,kJ,oW,Mn,rfl⟩:=h9 h;exact Kg E iZ pD O (T9 Mn) (by rw[show bT (⟨_,_,oh,kJ,oW,[]⟩:aU)=oW from append_nil _];exact Perm.refl _)
 have j9:¬s.kind=3:=(by simpa using cN)
 refine af [3,4,7,36,58] ?_;refine aq ?_ ?_<;>intro ec fh
 ·have x4:s.kind=4:=(by simpa using ec)
  have aW:gD (L.map aU.t) s=(L.map aU.t,(mP (L[(aT (L.map aU.t) s.table).toNat]'E).t s)):=(by unfold gD;rw[ke,if_neg de,if_neg h0,if_neg j9,if_pos x4])
  obtain⟨n,hn,g⟩:=hg (L[(aT (L.map aU.t) s.table).toNat]'E) (getElem_mem E);refine CD.seq ?_;refine nH 7 [4,65,66] ?_;refine aS 2 ?_ (h:=by exact(cR (mk:=Op.load 53) rfl ot (dA (k:=3) (i:=(aT (L.map aU.t) s.table).toNat) (ls:=L) u7 rfl rfl rfl isAgg53 sizeOf53 E)));refine mg 1 ?_;refine zO (afA hm hw ht hG (L[(aT (L.map aU.t) s.table).toNat]'E).t g s s7 ho fQ) (fun r S h=>h.flat) (fun r S h=>(by have h9:=h.view;unfold AJ at h9;exact h9)) (ha:=by exact⟨⟨_,ot,(TT (O _ (getElem_mem E)) (fun B hB=>by have h9:=mem_flatMap.2 ⟨_,getElem_mem E,hB⟩;repeat (first|exact h9|apply mem_append_right|apply mem_cons_of_mem)):View _ (.agg (gT (L[(aT (L.map aU.t) s.table).toNat]'E))) _)⟩,⟨_,ot,eM⟩,trivial⟩) (K:=?_);refine bI ?_;refine aR 0 [_,_] sizeOf36 ?_;refine aF 1 ?_;first|refine OD.cells (k:=0) (cs':=[.list 1 [] 0,_]) rfl ⟨eZ,dJ,trivial⟩ rfl ?_|skip
  refine an 87 [4,5] ?_;refine aI (gU I (some ⟨bx,0,none⟩) L.length cap::([⟨bx,53,cap*5,L.flatMap gT⟩]++L.flatMap bT)) ?_;rw[aW];exact⟨rfl,fun _=>⟨L,_,cap,_,Z,O,rfl,Perm.refl _⟩⟩
 have x4:¬s.kind=4:=(by simpa using ec)
 refine af [3,4,7,67] ?_;refine aq ?_ ?_<;>intro fj gA
 ·have De:s.kind=5:=(by simpa using fj)
  have aW:gD (L.map aU.t) s=((L.map aU.t).set (aT (L.map aU.t) s.table).toNat (gW (L[(aT (L.map aU.t) s.table).toNat]'E).t s).1,(([],(gW (L[(aT (L.map aU.t) s.table).toNat]'E).t s).2.1),(gW (L[(aT (L.map aU.t) s.table).toNat]'E).t s).2.2)):=(by unfold gD;rw[ke,if_neg de,if_neg h0,if_neg j9,if_neg x4,if_pos De])
  obtain⟨n,hn,g⟩:=hg (L[(aT (L.map aU.t) s.table).toNat]'E) (getElem_mem E);obtain⟨LR,q1,q2,q3,q4,q5⟩:=aQ (L[(aT (L.map aU.t) s.table).toNat]'E) (getElem_mem E);refine CD.perm (IT (A:=[_,_,_]) E) ?_;refine aB 2 ?_
  refine OD.call (Sf:=(⟨bx,53,cap*5,(L.take (aT (L.map aU.t) s.table).toNat).flatMap gT++(gT (L[(aT (L.map aU.t) s.table).toNat]'E)++(L.drop ((aT (L.map aU.t) s.table).toNat+1)).flatMap gT)⟩:ah)::((L[(aT (L.map aU.t) s.table).toNat]'E).sr++LR.flatMap bR)) (R:=⟨b4,36,2,[.list 1 [] 0,ae 0]⟩::⟨b3,32,12,bK s⟩::gU I (some ⟨bx,0,none⟩) L.length cap::((L.eraseIdx (aT (L.map aU.t) s.table).toNat).flatMap bT)) ap rfl rfl rfl call45 (ab5 hm hw ht hG (L[(aT (L.map aU.t) s.table).toNat]'E).t g s ho fQ qZ GC hn bx (0+(aT (L.map aU.t) s.table).toNat*5) (cap*5) ((L.take (aT (L.map aU.t) s.table).toNat).flatMap gT) ((L.drop ((aT (L.map aU.t) s.table).toNat+1)).flatMap gT) MN LR (L[(aT (L.map aU.t) s.table).toNat]'E).ad (L[(aT (L.map aU.t) s.table).toNat]'E).cap (L[(aT (L.map aU.t) s.table).toNat]'E).sr q4 q3 q5) ⟨ot,ot,trivial⟩ (show(⟨b4,36,2,[.list 1 [] 0,ae 0]⟩::⟨b3,32,12,bK s⟩::gU I (some ⟨bx,0,none⟩) L.length cap::(⟨bx,53,cap*5,(L.take (aT (L.map aU.t) s.table).toNat).flatMap gT++(gT (L[(aT (L.map aU.t) s.table).toNat]'E)++(L.drop ((aT (L.map aU.t) s.table).toNat+1)).flatMap gT)⟩:ah)::((bT (L[(aT (L.map aU.t) s.table).toNat]'E))++(L.eraseIdx (aT (L.map aU.t) s.table).toNat).flatMap bT):List ah).Perm (((⟨bx,53,cap*5,(L.take (aT (L.map aU.t) s.table).toNat).flatMap gT++(gT (L[(aT (L.map aU.t) s.table).toNat]'E)++(L.drop ((aT (L.map aU.t) s.table).toNat+1)).flatMap gT)⟩:ah)::((L[(aT (L.map aU.t) s.table).toNat]'E).sr++LR.flatMap bR))++(⟨b4,36,2,[.list 1 [] 0,ae 0]⟩::⟨b3,32,12,bK s⟩::gU I (some ⟨bx,0,none⟩) L.length cap::((L.eraseIdx (aT (L.map aU.t) s.table).toNat).flatMap bT))) from by rw[show bT (L[(aT (L.map aU.t) s.table).toNat]'E)=((L[(aT (L.map aU.t) s.table).toNat]'E).sr++LR.flatMap bR) from by unfold bT;rw[q2]];exact(jE fun mz=>by simp only[map_append,map_cons,map_nil,sum_append,sum_cons,sum_nil];omega)) ?_
  rintro _ U ⟨rfl,h9⟩;refine OD.perm (S':=⟨b4,36,2,[.list 1 [] 0,ae 0]⟩::⟨b3,32,12,bK s⟩::gU I (some ⟨bx,0,none⟩) L.length cap::(U++(L.eraseIdx (aT (L.map aU.t) s.table).toNat).flatMap bT)) (show(U++(⟨b4,36,2,[.list 1 [] 0,ae 0]⟩::⟨b3,32,12,bK s⟩::gU I (some ⟨bx,0,none⟩) L.length cap::((L.eraseIdx (aT (L.map aU.t) s.table).toNat).flatMap bT)):List ah).Perm _ from(jE fun mz=>by simp only[map_append,map_cons,map_nil,sum_append,sum_cons,sum_nil];omega)) ?_;refine an 87 [4,8,9] ?_;refine aB 3 ?_;refine aR 0 [_,_] sizeOf36 ?_;refine aF 1 ?_;first|refine OD.cells (k:=0) (cs':=[.list 1 [] 0,_]) rfl ⟨eZ,dJ,trivial⟩ rfl ?_|skip
  refine an 87 [4,5] ?_;refine aI (gU I (some ⟨bx,0,none⟩) L.length cap::(U++(L.eraseIdx (aT (L.map aU.t) s.table).toNat).flatMap bT)) ?_;rw[aW];refine⟨rfl,fun h=>?_⟩;obtain⟨L',oh,kJ,oW,alz,rfl⟩:=h9 h;exact Kg E iZ pD O (ad0 alz) (Perm.refl _)
 have De:¬s.kind=5:=(by simpa using fj)
 have aW:gD (L.map aU.t) s=((L.map aU.t).set (aT (L.map aU.t) s.table).toNat (mJ (L[(aT (L.map aU.t) s.table).toNat]'E).t s.aj).1,(([],(mJ (L[(aT (L.map aU.t) s.table).toNat]'E).t s.aj).2.1),(mJ (L[(aT (L.map aU.t) s.table).toNat]'E).t s.aj).2.2)):=(by unfold gD;rw[ke,if_neg de,if_neg h0,if_neg j9,if_neg x4,if_neg De])
 obtain⟨n,hn,g⟩:=hg (L[(aT (L.map aU.t) s.table).toNat]'E) (getElem_mem E);obtain⟨Sg,Ol,jC⟩:=Pj (aQ (L[(aT (L.map aU.t) s.table).toNat]'E) (getElem_mem E));refine CD.perm (IT (A:=[_,_,_]) E) ?_;refine CD.wk (jC _ _ [_,_,_,_] _) ?_;refine aB 2 ?_
 refine OD.call (Sf:=(⟨bx,53,cap*5,(L.take (aT (L.map aU.t) s.table).toNat).flatMap gT++(gT (L[(aT (L.map aU.t) s.table).toNat]'E)++(L.drop ((aT (L.map aU.t) s.table).toNat+1)).flatMap gT)⟩:ah)::Sg) (R:=⟨b4,36,2,[.list 1 [] 0,ae 0]⟩::⟨b3,32,12,bK s⟩::gU I (some ⟨bx,0,none⟩) L.length cap::((L.eraseIdx (aT (L.map aU.t) s.table).toNat).flatMap bT)) ap rfl rfl rfl call46 (ab2 hm hw ht hG (L[(aT (L.map aU.t) s.table).toNat]'E).t g s ho fQ bx (0+(aT (L.map aU.t) s.table).toNat*5) (cap*5) ((L.take (aT (L.map aU.t) s.table).toNat).flatMap gT) ((L.drop ((aT (L.map aU.t) s.table).toNat+1)).flatMap gT) MN (L[(aT (L.map aU.t) s.table).toNat]'E).ad (L[(aT (L.map aU.t) s.table).toNat]'E).cap Sg Ol) ⟨ot,ot,trivial⟩ (show(⟨b4,36,2,[.list 1 [] 0,ae 0]⟩::⟨b3,32,12,bK s⟩::gU I (some ⟨bx,0,none⟩) L.length cap::(⟨bx,53,cap*5,(L.take (aT (L.map aU.t) s.table).toNat).flatMap gT++(gT (L[(aT (L.map aU.t) s.table).toNat]'E)++(L.drop ((aT (L.map aU.t) s.table).toNat+1)).flatMap gT)⟩:ah)::(Sg++(L.eraseIdx (aT (L.map aU.t) s.table).toNat).flatMap bT):List ah).Perm (((⟨bx,53,cap*5,(L.take (aT (L.map aU.t) s.table).toNat).flatMap gT++(gT (L[(aT (L.map aU.t) s.table).toNat]'E)++(L.drop ((aT (L.map aU.t) s.table).toNat+1)).flatMap gT)⟩:ah)::Sg)++(⟨b4,36,2,[.list 1 [] 0,ae 0]⟩::⟨b3,32,12,bK s⟩::gU I (some ⟨bx,0,none⟩) L.length cap::((L.eraseIdx (aT (L.map aU.t) s.table).toNat).flatMap bT))) from(jE fun mz=>by simp only[map_append,map_cons,map_nil,sum_append,sum_cons,sum_nil];omega)) ?_
 rintro _ U ⟨rfl,h9⟩;refine OD.perm (S':=⟨b4,36,2,[.list 1 [] 0,ae 0]⟩::⟨b3,32,12,bK s⟩::gU I (some ⟨bx,0,none⟩) L.length cap::(U++(L.eraseIdx (aT (L.map aU.t) s.table).toNat).flatMap bT)) (show(U++(⟨b4,36,2,[.list 1 [] 0,ae 0]⟩::⟨b3,32,12,bK s⟩::gU I (some ⟨bx,0,none⟩) L.length cap::((L.eraseIdx (aT (L.map aU.t) s.table).toNat).flatMap bT)):List ah).Perm _ from(jE fun mz=>by simp only[map_append,map_cons,map_nil,sum_append,sum_cons,sum_nil];omega)) ?_;refine an 87 [4,10,11] ?_;refine aB 3 ?_;refine aR 0 [_,_] sizeOf36 ?_;refine aF 1 ?_;first|refine OD.cells (k:=0) (cs':=[.list 1 [] 0,_]) rfl ⟨eZ,dJ,trivial⟩ rfl ?_|skip
 refine an 87 [4,5] ?_;refine aI (gU I (some ⟨bx,0,none⟩) L.length cap::(U++(L.eraseIdx (aT (L.map aU.t) s.table).toNat).flatMap bT)) ?_;rw[aW];refine⟨rfl,fun h=>?_⟩;obtain⟨oh,kJ,oW,Mn,rfl⟩:=h9 h;exact Kg E iZ pD O (T9 Mn) (by rw[show bT (⟨_,_,oh,kJ,oW,[]⟩:aU)=oW from append_nil _];exact Perm.refl _)

end Go.Proofs.YtdgichenhdikgaaGreatDoor.Ba
namespace Go.Proofs.YtdgichenhdikgaaGreatDoor.Ba
open List
open Go.Proofs.Tryz
open Go.RowKit V Pk Tr Vl Go.Proofs.YtdgichenhdikgaaGreatDoor.Nm Pc Cd Ex Tw
open Pa (cm bK)
variable {G:List (Nat×List Value)} {m:Int}
variable {n:Nat}
def vB(t:aM)(i:Nat):Nat:=((range i).filter fun j=>decide ((t.rows.getD j []).length≠0)).length
theorem EB(t:aM)(i:Nat):vB t (i+1)=vB t i+if (t.rows.getD i []).length≠0 then 1 else 0:=by
 unfold vB;rw[range_succ,filter_append,length_append];congr 1;by_cases h:(t.rows.getD i []).length≠0
 ·rw[if_pos h,filter_cons_of_pos nf];rfl
 rw[if_neg h,filter_cons_of_neg nf];rfl
theorem US(t:aM)(i:Nat):vB t i≤i:=by
 unfold vB;exact Nat.le_trans (length_filter_le _ _) (by rw[length_range];exact Nat.le_refl _)
theorem Jp{t:aM}{i:Nat}(h:i<t.rows.length):t.rows.getD i []=t.rows[i]:=by rw[getD_eq_getElem?_getD,getElem?_eq_getElem h];rfl
theorem Ua{t:aM}(g:eu t n):vB t t.rows.length=(dQ t.ix).length:=by
 unfold vB;have hA:((dQ t.ix).map fun x=>x.2.toNat).Nodup:=by
  have hr:(dQ t.ix).Pairwise (fun a b=>bA a.1 b.1):=IL g.ix.val;rw[Nodup,pairwise_map];refine hr.imp_of_mem fun {a b} ha hb h e=>?_;obtain⟨a0,a1,a2,a3⟩:=g.iI a ha;obtain⟨b0,b1,b2,b3⟩:=g.iI b hb;refine jK a.1 ?_;have:a.1=b.1:=(by rw[a3,b3];simp only[e])
  rw[←this] at h;exact h
 have Z:((range t.rows.length).filter fun j=>decide ((t.rows.getD j []).length≠0)).Nodup:=List.nodup_range.filter _;have h1:=hA.length_le_of_subset (l₂:=(range t.rows.length).filter fun j=>decide ((t.rows.getD j []).length≠0)) fun i hi=>by
  obtain⟨x,hx,rfl⟩:=mem_map.1 hi;obtain⟨x0,x1,x2,x3⟩:=g.iI x hx;refine mem_filter.2 ⟨mem_range.2 x1,decide_eq_true ?_⟩;rw[Jp x1];exact fun h=>x2 (length_eq_zero_iff.1 h)
 have h2:=Z.length_le_of_subset (l₂:=(dQ t.ix).map fun x=>x.2.toNat) fun i hi=>by
  obtain⟨O,U⟩:=mem_filter.1 hi;have E:=mem_range.1 O;have I:=of_decide_eq_true U;rw[Jp E] at I;exact mem_map.2 ⟨_,(g.row i E (fun h=>I (by rw[h];rfl))).2.2,by simp⟩
 rw[length_map] at h1 h2;omega
theorem ad4(hm:(3,marksC)∈G)(hw:(1,wordsC)∈G)(ht:(0,typesC)∈G)(hG:(2,[Value.int .i64 m])∈G)(t:aM)(g:eu t n)(s7:t.nm.size≤maxLen):VP Tryz.prog G 37 [.agg (cY t)] (bJ true):=by
 refine VC.body func37 rfl ntmps37 aO fun X0 w0 bg=>?_;have c8:=dR;have mU:=g.eE;have nG:=tT (G:=G) hm hw t.nm s7;rw[g.nm] at nG;have eT:=Pc.E8 (G:=G) hm hw ht t.ay xN xM;have hco:Pc.fD t.ay=0:=(by rw[g.ay];exact Bj)
 rw[hco] at eT;have vY:=afm (G:=G) g.ix;have Z:=TS (G:=G) g.ix;rw[ES] at Z;unfold Tw.cT at vY Z;have Y1:=Ua g;unfold cY;refine bU ?_;refine OD.box (ds:=[_,_,_,_,_]) ap rfl rfl ot rfl rfl (fun b1=>?_);refine an 76 [1] ?_;refine aB 2 ?_;refine dP call64 (nG) ?_;refine aF 2 ?_;refine bP 14 (fun E aiI=>?_) (fun E aiI=>?_)
 ·exact absurd E (by simp at E)
 refine aF 2 ?_;refine OD.gZ iq rfl rfl rfl call54 (eT) ⟨ot,trivial⟩ ?_;refine aF 3 ?_;refine bP 20 (fun I aiJ=>?_) (fun I aiJ=>?_)
 ·exact absurd I (by simp at I)
 refine aF 6 ?_;refine bP 26 (fun O K5=>?_) (fun O K5=>?_)
 ·exact absurd O (by (simp at O;omega))
 refine aF 2 ?_;refine OD.gZ iq rfl rfl rfl call49 (vY) ⟨ot,trivial⟩ ?_;refine an 76 [1,31] ?_;refine aq ?_ ?_<;>intro aP bC
 ·exact zL
 refine af [1,3] ?_;refine af [1,3,33,34,35] ?_;refine CD.block ?_;refine nl (fun (i:Nat) aG=>(i≤t.rows.length)∧aG=(⟨76,[(1,cQ b1),(3,ae (vB t i:Nat)),(33,av 1 fG t.rows),(34,ae (t.rows.length:Nat)),(35,ae (i:Nat))],[⟨b1,53,5,cY t⟩]⟩:St)) (fun (i:Nat)=>t.rows.length-i) 0 ⟨(Nat.zero_le _),rfl⟩ (aK (h:=by repeat (first|exact trivial|refine⟨(by (repeat (first|exact fu|(apply fT;focus (first|rfl|(rw[EB,if_neg zK];rfl)|(rw[EB,if_pos zK];rfl)|(simp;done)|(congr 2;omega)))|(apply fC;focus rfl)));done),?_⟩))) ?_;rintro i _ ⟨hi,rfl⟩;refine af [1,3,33,34,35,36] ?_;refine aq ?_ ?_<;>intro aZ cr
 ·have aa:i<t.rows.length:=(by omega)
  have ke:t.rows.getD i []=(t.rows[i]'aa):=Jp aa;have lp:=US t i;refine af [1,3,4,5,33,34,35] ?_;refine af [1,3,4,5,33,34,35,42] ?_;refine aq ?_ ?_<;>intro bX cA
  ·have zK:¬(t.rows.getD i []).length≠0:=(by rw[ke];simpa using bX)
   exact XC
  have zK:(t.rows.getD i []).length≠0:=(by rw[ke];simpa using bX)
  have hne:(t.rows[i]'aa)≠[]:=fun h=>zK (by rw[ke,h];rfl);obtain⟨p1,p2,p3⟩:=g.row i aa hne;have p4:=oI p1;have yx:=Kv (G:=G) hm hw ht t.ay xN xM (t.rows[i]'aa) w4;have YT:Pc.dB t.ay (t.rows[i]'aa)=0:=(by rw[g.ay];exact p1)
  rw[YT] at yx;have hyv:=zi (G:=G) hG (t.rows[i]'aa) w4 w4 p2;have fL:=KE (G:=G) g.ix (cJ (t.rows[i]'aa));rw[RV g.ix (wH p1) p3] at fL;unfold Tw.cT at fL;refine af [1,3,4,5,33,34,35] ?_;refine cz [1,3,4,5,33,34,35,49] (yx) ?_;refine aq ?_ ?_<;>intro cN dW
  ·exact absurd cN (by simp at cN)
  refine cL [1,3,4,6,7,33,34,35] ?_;refine cH (hyv) ?_;refine cH (fL) ?_;refine bI ?_;refine aB 3 ?_;refine bP 60 (fun U KZ=>?_) (fun U KZ=>?_)
  ·exact absurd U (by simp at U)
  refine bq [1,3,33,34,35,64] ?_;refine aq ?_ ?_<;>intro ec fh
  ·exact absurd ec (by simp at ec)
  exact XC
 have sX:i=t.rows.length:=(by omega)
 subst sX;refine cz [3,8] (Z) ?_;refine af [2] ?_;refine aI [] ?_;refine⟨?_,rfl⟩;first|rfl|(rw[Y1];simp)

structure pT (l:List aM) (n:Nat):Prop where
 eE:l.length≤4
 tb:∀t∈l,eu t n
 sz:∀t∈l,t.nm.size≤maxLen
 HM:l.Pairwise fun a b=>a.nm.toList≠b.nm.toList
theorem pT.no{l:List aM}(g:pT l n){i:Nat}(h:i<l.length):aT (l.take i) l[i].nm<0:=by
 unfold aT;rw[wc (k:=(l.take i).length) w4 (fun x hx=>?_)]
 ·decide
 rw[take_of_length_le (Nat.le_refl _)] at hx;obtain⟨j,hj,rfl⟩:=mem_iff_getElem.1 hx;rw[length_take] at hj;rw[getElem_take];have:=pairwise_iff_getElem.1 g.HM j i w4 h w4;simpa using this
noncomputable def vo(l:List aM)(nm:ByteArray):List (List Vl)×Int:=if aT l nm<0 then ([],8) else ((dQ (l.getD (aT l nm).toNat ⟨nm,[],[],p8⟩).ix).map fun x=>rowAt (l.getD (aT l nm).toNat ⟨nm,[],[],p8⟩) x.2,0)
theorem Qx(hm:(3,marksC)∈G)(hw:(1,wordsC)∈G)(ht:(0,typesC)∈G)(hG:(2,[Value.int .i64 m])∈G)(l:List aM)(g:pT l n):VP Tryz.prog G 24 [.agg [av 5 cY (l)]] (ae 0):=by
 refine VC.body func24 rfl ntmps24 aO fun X0 w0 bg=>?_;have c8:=dR;have U:=g.eE;refine bU ?_;refine OD.box (ds:=[_]) ap rfl rfl ot rfl rfl (fun b1=>?_);refine an 31 [1] ?_;refine af [1,8] ?_;refine aq ?_ ?_<;>intro aP bC
 ·exact absurd aP (by (simp at aP;omega))
 refine af [1,10,11,12] ?_;refine eA [1,10,11] (fun aX _ (i:Nat) aG=>(i≤l.length)∧aG=(⟨31,(12,ae (i:Nat))::aX,[⟨b1,25,1,[av 5 cY (l)]⟩]⟩:St)) (fun (i:Nat)=>l.length-i) 0 ⟨(Nat.zero_le _),rfl⟩ ?_;rintro i _ ⟨hi,rfl⟩;refine af [1,10,11,12,13] ?_;refine aq ?_ ?_<;>intro aZ cr
 ·have aa:i<l.length:=(by omega)
  have O:=ad4 hm hw ht hG (l[i]'aa) (g.tb _ (getElem_mem aa)) (g.sz _ (getElem_mem aa));have fL:=qA (G:=G) (l.take i) oO (l[i]'aa).nm;have lg:=g.no aa;unfold cY at O;refine aB 3 ?_;refine OD.alloc (ds:=[_,_,_,_,_]) ap rfl rfl zeroValue53 rfl (fun b4=>?_);refine aF 1 ?_;refine aR 0 [_,_,_,_,_] sizeOf53 ?_;refine an 31 [1,3,4,10,11,12] ?_;refine CD.seq ?_;refine gJ 10 (au _) ?_ (fun _ h=>h);refine aC 0 rfl (cR (mk:=Op.load 53) rfl ot (by first|exact qy (k:=0) (ds:=[_,_,_,_,_]) rfl rfl isAgg53 sizeOf53 rfl rfl|exact jZ jY isAgg53 sizeOf53 w5|exact dA (k:=0) jY rfl rfl rfl isAgg53 sizeOf53 w5|exact dA (k:=1) jY rfl rfl rfl isAgg53 sizeOf53 w5|exact qE (ds:=[_,_,_,_,_]) isAgg53 sizeOf53 rfl rfl)) ?_;refine dH.later rfl ?_;refine AD.one (i:=1) az ?_;refine lj call37 (O) ?_;refine cy 2 rfl lm ?_;refine cy 3 rfl bF ?_;refine AD.split (t:=20) lk (fun E=>?_) (fun E=>?_)
  ·exact absurd E (by simp at E)
  have I:=E;(try simp only[V.nJ,ne_eq] at I)
  refine cy 4 rfl (dF 0) ?_;refine cy 6 rfl bF ?_;refine cy 8 rfl (dF 0) ?_;refine AD.two (i:=5) (j:=9) az ?_ ?_
  ·refine at_ rfl (dI 1) ?_;refine cy 7 rfl (eB (l:=0) (h:=i) rfl ot trivial ⟨_,ot⟩ (by exact nQ jY (fun h=>by cases h) runUnderlying23 sizeOf53 w4)) ?_;refine AD.one (i:=9) az ?_;refine at_ rfl (dI 0) ?_;exact z75
  refine at_ rfl (dI 0) ?_;refine AD.one (i:=5) az ?_;refine at_ rfl (dI 1) ?_;refine cy 7 rfl (eB (l:=0) (h:=i) rfl ot trivial ⟨_,ot⟩ (by exact nQ jY (fun h=>by cases h) runUnderlying23 sizeOf53 w4)) ?_;exact z75
 refine af [2] ?_;exact z51
theorem aaH:(Tryz.prog.info? 28).map (fun i=>(i.zero,i.size,i.bytes))=some (some (.slice none 0 0),1,24):=by kernel_rfl
theorem afC(hm:(3,marksC)∈G)(hw:(1,wordsC)∈G)(ht:(0,typesC)∈G)(hG:(2,[Value.int .i64 m])∈G)(l:List aM)(g:pT l n)(nm:ByteArray):VP Tryz.prog G 14 [.agg [av 5 cY (l)],bj nm] (.di [.list 1 ((vo l nm).1.flatMap fG) (vo l nm).1.length,ae (vo l nm).2]):=by
 refine VC.body func14 rfl ntmps14 aO fun X0 w0 bg=>?_;have c8:=dR;have mU:=g.eE;have oP:=Qx hm hw ht hG l g;have fL:=qA (G:=G) l w4 nm;have sZ:=wE (fun t:aM=>t.nm.toList==nm.toList) l;rw[show cU (fun t:aM=>t.nm.toList==nm.toList) l=aT l nm from rfl] at sZ;refine bU ?_;refine OD.box (ds:=[_]) ap rfl rfl ot rfl rfl (fun b2=>?_);refine an 54 [1,2] ?_;refine cz [1,2,6] (oP) ?_;refine af [1,2,6,17] ?_;refine aq ?_ ?_<;>intro aP bC
 ·exact zL
 refine cz [2,7] (fL) ?_;refine af [2,7,24] ?_;refine aq ?_ ?_<;>intro aZ cr
 ·have h0:aT l nm<0:=(by simpa using aZ)
  have aW:vo l nm=([],8):=if_pos h0;refine af [4,5] ?_;refine CD.wk (Wk.tU (t:=4) (sz:=1) lk) ?_;exact oQ
 have h0:¬aT l nm<0:=(by simpa using aZ)
 have E:(aT l nm).toNat<l.length:=(by omega)
 have O:=g.tb (l[(aT l nm).toNat]'E) (getElem_mem E);have ke:l.getD (aT l nm).toNat ⟨nm,[],[],p8⟩=(l[(aT l nm).toNat]'E):=(by rw[getD_eq_getElem?_getD,getElem?_eq_getElem E];rfl)
 have aW:vo l nm=((dQ (l[(aT l nm).toNat]'E).ix).map fun x=>rowAt (l[(aT l nm).toNat]'E) x.2,0):=(by unfold vo;rw[if_neg h0,ke])
 have AH:=TS (G:=G) O.ix;rw[ES] at AH;unfold Tw.cT at AH;have Y1:=Ua O;have lp:=US (l[(aT l nm).toNat]'E) (l[(aT l nm).toNat]'E).rows.length;have N1:=O.eE;refine aB 3 ?_;refine bN (dw 5 (h:=by first|exact .l (j:=(aT l nm).toNat) (Int.toNat_of_nonneg w4).symm E|exact .r (j:=(aT l nm).toNat) (Int.toNat_of_nonneg w4).symm E)) ?_;refine aF 1 ?_;refine OD.alloc (ds:=[_,_,_,_,_]) ap rfl rfl zeroValue53 rfl (fun b8=>?_);refine aR 0 [_,_,_,_,_] sizeOf53 ?_;refine an 54 [8] ?_;refine cz [8,9] (AH) ?_;refine bU ?_;refine bq [8,9,11] ?_;refine af [8,11,36,37,38] ?_;refine eA [8,36,37] (fun aX _ (U:Nat×List (List Vl)×Option Addr×Nat×List ah) aG=>match U with|(i,acc,c9,cM,Sx)=>(i≤(dQ (l[(aT l nm).toNat]'E).ix).length)∧(acc=((dQ (l[(aT l nm).toNat]'E).ix).take i).map fun x=>rowAt (l[(aT l nm).toNat]'E) x.2)∧(bp 28 1 ((acc).flatMap fG) (acc).length c9 cM Sx)∧aG=(⟨54,(11,aN c9 (acc).length cM)::(38,ae (i:Nat))::aX,(⟨b8,53,5,cY (l[(aT l nm).toNat]'E)⟩::⟨b2,25,1,[av 5 cY (l)]⟩::Sx)⟩:St)) (fun (U:Nat×List (List Vl)×Option Addr×Nat×List ah)=>match U with|(i,acc,c9,cM,Sx)=>(dQ (l[(aT l nm).toNat]'E).ix).length-i) (0,([]:List (List Vl)),none,0,[]) ⟨(Nat.zero_le _),rfl,(bp.cast iy jS),rfl⟩ ?_;rintro⟨i,acc,c9,cM,Sx⟩ _ ⟨hi,nB,dN,rfl⟩;refine af [8,11,36,37,38,39] ?_;refine aq ?_ ?_<;>intro bX cA
 ·have aa:i<(dQ (l[(aT l nm).toNat]'E).ix).length:=(by omega)
  obtain⟨fq,I,oq,Nb⟩:=O.iI _ (getElem_mem aa);have hra:rowAt (l[(aT l nm).toNat]'E) ((dQ (l[(aT l nm).toNat]'E).ix)[i]'aa).2=((l[(aT l nm).toNat]'E).rows[((dQ (l[(aT l nm).toNat]'E).ix)[i]'aa).2.toNat]'I):=iz I;have h4:=oI (O.row _ I oq).1;have eT:=Qm (G:=G) ((l[(aT l nm).toNat]'E).rows[((dQ (l[(aT l nm).toNat]'E).ix)[i]'aa).2.toNat]'I) w4;have qh:acc.length=i:=(by rw[nB,length_map,length_take];omega)
  refine aB 2 ?_;refine OD.alloc (ds:=[_,_]) ap rfl rfl zeroValue90 rfl (fun lJ=>?_);refine aR 0 [_,_] sizeOf90 ?_;refine an 54 [8,11,13,36,37,38] ?_;refine dK 5 ?_;refine bN (dw 1 (h:=by first|exact .l (j:=((dQ (l[(aT l nm).toNat]'E).ix)[i]'aa).2.toNat) (Int.toNat_of_nonneg fq).symm I|exact .r (j:=((dQ (l[(aT l nm).toNat]'E).ix)[i]'aa).2.toNat) (Int.toNat_of_nonneg fq).symm I)) ?_;refine aF 1 ?_;refine dP call31 (eT) ?_;refine en (cf 0 [_]) [.slice none 0 0] [_] zeroValue28 runUnderlying34 sizeOf28 (fun AB=>?_);refine fA 0 50 1 1 ?_;refine OD.ey (ls:=(acc)) (new:=[((l[(aT l nm).toNat]'E).rows[((dQ (l[(aT l nm).toNat]'E).ix)[i]'aa).2.toNat]'I)]) (Sq:=Sx) jJ IW ap rfl rfl underlying34 aaH rfl w8 ot dN (cZ (A:=[_,_,_])) ot bn mY mZ (fun yB Z Mk Ml=>?_);refine OD.perm (dV (S1:=[⟨yB,28,Z*1,flatMap fG ((acc)++[((l[(aT l nm).toNat]'E).rows[((dQ (l[(aT l nm).toNat]'E).ix)[i]'aa).2.toNat]'I)])⟩]) (A:=[_,_,_])) ?_;refine an 54 [8,11,36,37,38] ?_;refine cc [8,11,36,37,38] ?_
  refine⟨((i+1),(acc++[((l[(aT l nm).toNat]'E).rows[((dQ (l[(aT l nm).toNat]'E).ix)[i]'aa).2.toNat]'I)]),(some ⟨yB,0,none⟩),Z,[⟨yB,28,Z*1,flatMap fG ((acc)++[((l[(aT l nm).toNat]'E).rows[((dQ (l[(aT l nm).toNat]'E).ix)[i]'aa).2.toNat]'I)])⟩]),_,cq,aK,w4,(by rw[nB,←hra,←pI aa,map_append];rfl),(bp.cast (bM Mk Ml) jS),rfl⟩
 have nF:acc=(dQ (l[(aT l nm).toNat]'E).ix).map fun x=>rowAt (l[(aT l nm).toNat]'E) x.2:=(by rw[nB,take_of_length_le w4])
 refine af [4,5] ?_;refine CD.gP (t:=4) (Sq:=Sx) lk dN (cn jJ _) (cZ (A:=[_,_])) ?_;refine aI [] ?_;rw[aW,←nF];exact⟨rfl,rfl⟩

end Go.Proofs.YtdgichenhdikgaaGreatDoor.Ba
namespace Go.Proofs.YtdgichenhdikgaaGreatDoor.Ba
open List
open Go.Proofs.Tryz
open Go.RowKit V Pk Tr Vl Go.Proofs.YtdgichenhdikgaaGreatDoor.Nm Pc Cd Ex Tw
open Pa (cm bK jA gg)
variable {G:List (Nat×List Value)} {m:Int}
noncomputable def mX(l:List aM)(s:cm):List aM×((List (List Vl)×Int)×Int) :=
 if gg s≠0 then ([],(([],0),gg s)) else if 7≤s.kind then ([],(([],0),2)) else if (gD l s).2.2≠0 then ([],(([],0),(gD l s).2.2)) else ((gD l s).1,((gD l s).2.1,0))
noncomputable def vC(rr:List aM×((List (List Vl)×Int)×Int))(s:cm):List aM×((List (List Vl)×Int)×Int) :=
 if gg s≠0 then ([],(([],0),gg s)) else if 7≤s.kind then ([],(([],0),2)) else if rr.2.2≠0 then ([],(([],0),rr.2.2)) else (rr.1,(rr.2.1,0))
def AM(p:List aM×((List (List Vl)×Int)×Int)):D:=.di [.agg [av 5 cY p.1],.agg [av 1 fG p.2.1.1,ae p.2.1.2],ae p.2.2]
theorem afD(hm:(3,marksC)∈G)(hw:(1,wordsC)∈G)(ht:(0,typesC)∈G)(hG:(2,[Value.int .i64 m])∈G)(l:List aM){n:Nat}(g:pT l n)(s:cm)(hf:jA s)(E:List aM×((List (List Vl)×Int)×Int))(nW:∀(L:List aU),L.map aU.t=l→(∀o∈L,qn o)→∀(bo:Nat) (ad:Option Addr) (cap:Nat) (Sx:List ah),xF L ad cap Sx→VC Tryz.prog G 27 [cQ bo,.agg (bK s)] (gU bo ad L.length cap::(Sx++L.flatMap bT)) (fun r S=>r=AJ E.2∧(E.2.2=0→F5 E.1 bo S)))(AG:E.2.2=0→E.1.length≤1000∧∀t∈E.1,zl t):VP Tryz.prog G 11 [.agg [av 5 cY (l)],.agg (bK s)] (AM (vC E s)):=by
 refine VC.body func11 rfl ntmps11 aO fun X0 w0 bg=>?_;have c8:=dR;have mU:=g.eE;have oP:=Qx hm hw ht hG l g;have eT:=Pa.Rg (G:=G) hm hw ht s hf;refine bU ?_;refine OD.box (ds:=[_]) ap rfl rfl ot rfl rfl (fun b2=>?_);refine OD.box (ds:=[_,_,_,_,_,_,_,_,_,_,_,_]) ap rfl rfl ot rfl rfl (fun b3=>?_);refine OD.alloc (ds:=[_]) ap rfl rfl zeroValue25 rfl (fun b4=>?_);refine OD.alloc (ds:=[_,_]) ap rfl rfl zeroValue36 rfl (fun b5=>?_);refine aF 1 ?_;first|refine OD.cells (k:=0) (cs':=[.list 1 [] 0,_]) rfl ⟨eZ,dJ,trivial⟩ rfl ?_|skip
 first|refine OD.cells (k:=1) (cs':=[.list 1 [] 0,_]) rfl ⟨eZ,dJ,trivial⟩ rfl ?_|skip
 first|refine OD.cells (k:=1) (cs':=[.list 5 [] 0]) rfl ⟨eZ,trivial⟩ rfl ?_|skip
 first|refine OD.cells (k:=2) (cs':=[.list 5 [] 0]) rfl ⟨eZ,trivial⟩ rfl ?_|skip
 refine an 46 [2,3,4,5] ?_;refine cz [2,3,4,5,7] (oP) ?_;refine af [2,3,4,5,7,15] ?_;refine aq ?_ ?_<;>intro aP bC
 ·exact zL
 refine cz [2,3,4,5,8] (eT) ?_;refine af [2,3,4,5,8,22] ?_;refine aq ?_ ?_<;>intro aZ cr
 ·have h1:gg s≠0:=(by simpa using aZ)
  have aW:vC E s=([],(([],0),gg s)):=if_pos h1;refine aB 3 ?_;refine aR 1 [_] sizeOf25 ?_;refine aR 0 [_,_] sizeOf36 ?_;exact MW
 have h1:¬gg s≠0:=(by simpa using aZ)
 refine af [2,3,4,5,28] ?_;refine aq ?_ ?_<;>intro bX cA
 ·have h2:7≤s.kind:=(by simpa using bX)
  have aW:vC E s=([],(([],0),2)):=(by unfold vC;rw[if_neg h1,if_pos h2])
  refine aB 2 ?_;refine aR 1 [_] sizeOf25 ?_;refine aR 0 [_,_] sizeOf36 ?_;exact MW
 have h2:¬7≤s.kind:=(by simpa using bX)
 refine aB 1 ?_;refine OD.call ap rfl rfl rfl call26 (Qp l w4 (fun t h=>(g.tb t h).small)) ⟨ot,trivial⟩ (eV _) ?_;rintro _ _ ⟨L,ad,cap,Sx,rfl,kI,aQ,pH,rfl⟩;refine OD.perm (S':=⟨b5,36,2,[.list 1 [] 0,ae 0]⟩::⟨b4,25,1,[.list 5 [] 0]⟩::⟨b3,32,12,bK s⟩::⟨b2,25,1,[av 5 cY (l)]⟩::(Sx++L.flatMap bT)) (show((Sx++L.flatMap bT)++(⟨b5,36,2,[.list 1 [] 0,ae 0]⟩::⟨b4,25,1,[.list 5 [] 0]⟩::⟨b3,32,12,bK s⟩::[⟨b2,25,1,[av 5 cY (l)]⟩]):List ah).Perm _ from(jE fun mz=>by simp only[map_append,map_cons,map_nil,sum_append,sum_cons,sum_nil];omega)) ?_;refine OD.alloc (ds:=[_]) ap rfl rfl zeroValue25 rfl (fun b9=>?_);refine aR 0 [_] sizeOf25 ?_;refine an 46 [3,4,5,9] ?_;refine aB 1 ?_;have rW:L.length=l.length:=(by rw[←pH,length_map])
 refine OD.call (Sf:=gU b9 ad L.length cap::(Sx++L.flatMap bT)) (R:=⟨b5,36,2,[.list 1 [] 0,ae 0]⟩::⟨b4,25,1,[.list 5 [] 0]⟩::⟨b3,32,12,bK s⟩::[⟨b2,25,1,[av 5 cY (l)]⟩]) ap rfl rfl rfl call27 (nW L pH aQ b9 ad cap Sx kI) ⟨ot,ot,trivial⟩ (show(gU b9 ad L.length cap::⟨b5,36,2,[.list 1 [] 0,ae 0]⟩::⟨b4,25,1,[.list 5 [] 0]⟩::⟨b3,32,12,bK s⟩::⟨b2,25,1,[av 5 cY (l)]⟩::(Sx++L.flatMap bT):List ah).Perm ((gU b9 ad L.length cap::(Sx++L.flatMap bT))++(⟨b5,36,2,[.list 1 [] 0,ae 0]⟩::⟨b4,25,1,[.list 5 [] 0]⟩::⟨b3,32,12,bK s⟩::[⟨b2,25,1,[av 5 cY (l)]⟩])) from(jE fun mz=>by simp only[map_append,map_cons,map_nil,sum_append,sum_cons,sum_nil];omega)) ?_;rintro _ S9 ⟨rfl,h9⟩;refine OD.perm (S':=⟨b5,36,2,[.list 1 [] 0,ae 0]⟩::⟨b4,25,1,[.list 5 [] 0]⟩::⟨b3,32,12,bK s⟩::⟨b2,25,1,[av 5 cY (l)]⟩::S9) (show(S9++(⟨b5,36,2,[.list 1 [] 0,ae 0]⟩::⟨b4,25,1,[.list 5 [] 0]⟩::⟨b3,32,12,bK s⟩::[⟨b2,25,1,[av 5 cY (l)]⟩]):List ah).Perm _ from(jE fun mz=>by simp only[map_append,map_cons,map_nil,sum_append,sum_cons,sum_nil];omega)) ?_;unfold AJ;refine aF 3 ?_;refine OD.alloc (ds:=[_,_]) ap rfl rfl zeroValue36 rfl (fun j8=>?_);refine aR 0 [_,_] sizeOf36 ?_;refine an 46 [4,5,9,10,11] ?_;refine af [4,5,9,10,11,39] ?_;refine aq ?_ ?_<;>intro cN dW
 ·have h3:E.2.2≠0:=(by simpa using cN)
  have aW:vC E s=([],(([],0),E.2.2)):=(by unfold vC;rw[if_neg h1,if_neg h2,if_pos h3])
  refine aB 3 ?_;refine aR 2 [_] sizeOf25 ?_;refine aR 1 [_,_] sizeOf36 ?_;exact MW
 have h3:¬E.2.2≠0:=(by simpa using cN)
 have aW:vC E s=(E.1,(E.2.1,0)):=(by unfold vC;rw[if_neg h1,if_neg h2,if_neg h3])
 obtain⟨L',I,kJ,O,U,Z,alA,hS⟩:=h9 (Classical.not_not.1 h3);obtain⟨HG,uK⟩:=AG (Classical.not_not.1 h3);have xW:=abX (G:=G) E.1 HG uK;refine CD.perm (S':=⟨j8,36,2,[av 1 fG E.2.1.1,ae E.2.1.2]⟩::⟨b5,36,2,[.list 1 [] 0,ae 0]⟩::⟨b4,25,1,[.list 5 [] 0]⟩::⟨b3,32,12,bK s⟩::⟨b2,25,1,[av 5 cY (l)]⟩::(gU b9 I L'.length kJ::(O++L'.flatMap bT))) (show((⟨j8,36,2,[av 1 fG E.2.1.1,ae E.2.1.2]⟩::⟨b5,36,2,[.list 1 [] 0,ae 0]⟩::⟨b4,25,1,[.list 5 [] 0]⟩::⟨b3,32,12,bK s⟩::[⟨b2,25,1,[av 5 cY (l)]⟩])++S9:List ah).Perm ((⟨j8,36,2,[av 1 fG E.2.1.1,ae E.2.1.2]⟩::⟨b5,36,2,[.list 1 [] 0,ae 0]⟩::⟨b4,25,1,[.list 5 [] 0]⟩::⟨b3,32,12,bK s⟩::[⟨b2,25,1,[av 5 cY (l)]⟩])++(gU b9 I L'.length kJ::(O++L'.flatMap bT))) from Perm.append_left ((⟨j8,36,2,[av 1 fG E.2.1.1,ae E.2.1.2]⟩::⟨b5,36,2,[.list 1 [] 0,ae 0]⟩::⟨b4,25,1,[.list 5 [] 0]⟩::⟨b3,32,12,bK s⟩::[⟨b2,25,1,[av 5 cY (l)]⟩]):List ah) hS) ?_
 refine CD.wk (Wk.cover (A:=gU b9 I L'.length kJ) (R:=⟨j8,36,2,[av 1 fG E.2.1.1,ae E.2.1.2]⟩::⟨b5,36,2,[.list 1 [] 0,ae 0]⟩::⟨b4,25,1,[.list 5 [] 0]⟩::⟨b3,32,12,bK s⟩::[⟨b2,25,1,[av 5 cY (l)]⟩]) (Sd:=O++L'.flatMap bT) (cs':=[av 5 cY (E.1)]) (show(⟨j8,36,2,[av 1 fG E.2.1.1,ae E.2.1.2]⟩::⟨b5,36,2,[.list 1 [] 0,ae 0]⟩::⟨b4,25,1,[.list 5 [] 0]⟩::⟨b3,32,12,bK s⟩::⟨b2,25,1,[av 5 cY (l)]⟩::(gU b9 I L'.length kJ::(O++L'.flatMap bT)):List ah).Perm _ from(jE fun mz=>by simp only[map_append,map_cons,map_nil,sum_append,sum_cons,sum_nil];omega)) ⟨by rw[←alA];unfold av;rw[length_map];exact FD U Z (fun B h=>h),trivial⟩) ?_;refine CD.skip ?_;refine CD.seq ?_;refine gJ 4 (au (eraseIdx _ 3)) ?_ (fun _ h=>(Sublist.map _ (eraseIdx_sublist _ 3)).subset h)
 refine aC 0 rfl (cR (mk:=Op.load 25) rfl ot (by first|exact qy (k:=0) (ds:=[_]) rfl rfl isAgg25 sizeOf25 rfl rfl|exact jZ jY isAgg25 sizeOf25 w5|exact jZ jJ isAgg25 sizeOf25 w5|exact dA (k:=0) jY rfl rfl rfl isAgg25 sizeOf25 w5|exact dA (k:=1) jY rfl rfl rfl isAgg25 sizeOf25 w5|exact dA (k:=2) jY rfl rfl rfl isAgg25 sizeOf25 w5|exact dA (k:=3) jY rfl rfl rfl isAgg25 sizeOf25 w5|exact dA (k:=4) jY rfl rfl rfl isAgg25 sizeOf25 w5|exact dA (k:=5) jY rfl rfl rfl isAgg25 sizeOf25 w5|exact dA (k:=0) jJ rfl rfl rfl isAgg25 sizeOf25 w5|exact dA (k:=1) jJ rfl rfl rfl isAgg25 sizeOf25 w5|exact dA (k:=2) jJ rfl rfl rfl isAgg25 sizeOf25 w5|exact dA (k:=3) jJ rfl rfl rfl isAgg25 sizeOf25 w5|exact dA (k:=4) jJ rfl rfl rfl isAgg25 sizeOf25 w5|exact dA (k:=5) jJ rfl rfl rfl isAgg25 sizeOf25 w5|exact qE (ds:=[_]) isAgg25 sizeOf25 rfl rfl)) ?_
 refine aC 2 rfl (cR (mk:=Op.load 36) rfl ot (by first|exact qy (k:=1) (ds:=[_,_]) rfl rfl isAgg36 sizeOf36 rfl rfl|exact jZ jY isAgg36 sizeOf36 w5|exact jZ jJ isAgg36 sizeOf36 w5|exact dA (k:=0) jY rfl rfl rfl isAgg36 sizeOf36 w5|exact dA (k:=1) jY rfl rfl rfl isAgg36 sizeOf36 w5|exact dA (k:=2) jY rfl rfl rfl isAgg36 sizeOf36 w5|exact dA (k:=3) jY rfl rfl rfl isAgg36 sizeOf36 w5|exact dA (k:=4) jY rfl rfl rfl isAgg36 sizeOf36 w5|exact dA (k:=5) jY rfl rfl rfl isAgg36 sizeOf36 w5|exact dA (k:=0) jJ rfl rfl rfl isAgg36 sizeOf36 w5|exact dA (k:=1) jJ rfl rfl rfl isAgg36 sizeOf36 w5|exact dA (k:=2) jJ rfl rfl rfl isAgg36 sizeOf36 w5|exact dA (k:=3) jJ rfl rfl rfl isAgg36 sizeOf36 w5|exact dA (k:=4) jJ rfl rfl rfl isAgg36 sizeOf36 w5|exact dA (k:=5) jJ rfl rfl rfl isAgg36 sizeOf36 w5|exact qE (ds:=[_,_]) isAgg36 sizeOf36 rfl rfl)) ?_;refine dH.later rfl ?_;refine AD.one (i:=1) az ?_;refine lj call26 (xW) ?_;refine AD.one (i:=3) az ?_;refine dG 3 [_] sizeOf25 ?_;refine e9 ?_;refine aR 2 [_,_] sizeOf36 ?_;refine aF 1 ?_;first|refine OD.cells (k:=0) (cs':=[.list 1 [] 0,_]) rfl ⟨eZ,dJ,trivial⟩ rfl ?_|skip
 first|refine OD.cells (k:=1) (cs':=[.list 1 [] 0,_]) rfl ⟨eZ,dJ,trivial⟩ rfl ?_|skip
 first|refine OD.cells (k:=1) (cs':=[.list 5 [] 0]) rfl ⟨eZ,trivial⟩ rfl ?_|skip
 first|refine OD.cells (k:=2) (cs':=[.list 5 [] 0]) rfl ⟨eZ,trivial⟩ rfl ?_|skip
 refine an 46 [4,5,6] ?_;exact uE
theorem ahc(hm:(3,marksC)∈G)(hw:(1,wordsC)∈G)(ht:(0,typesC)∈G)(hG:(2,[Value.int .i64 m])∈G)(l:List aM){n:Nat}(hn:n≤260)(g:pT l n)(s:cm)(hf:jA s)(fb:¬s.kind=2)(E:∀v∈s.row,v.Ok)(ho:∀o∈s.aj,o.nm.size≤maxLen)(fQ:∀o∈s.aj,o.v.Ok)(Z:∀o∈s.bL,o.nm.size≤maxLen)(I:∀o∈s.bL,o.v.Ok)(AG:(gD l s).2.2=0→(gD l s).1.length≤1000∧∀t∈(gD l s).1,zl t):VP Tryz.prog G 11 [.agg [av 5 cY (l)],.agg (bK s)] (AM (mX l s)) :=
 afD hm hw ht hG l g s hf (gD l s) (fun L pH aQ bo ad cap Sx O=>by
  subst pH;have U:=g.eE;rw[length_map] at U;exact ahb hm hw ht hG L aQ w4 (fun o ho=>⟨n,hn,g.tb _ (mem_map_of_mem ho)⟩) s fb (by have:=hf.ok.1;omega) (by have:=hf.ok.2.1;omega) E (by have:=hf.ok.2.2.1;omega) ho fQ Z I bo ad cap Sx O) AG

end Go.Proofs.YtdgichenhdikgaaGreatDoor.Ba
namespace Go.Proofs.YtdgichenhdikgaaGreatDoor.Ba
open List
open Go.Proofs.Tryz
open Go.RowKit V Pk Tr Vl Go.Proofs.YtdgichenhdikgaaGreatDoor.Nm Pc Cd Ex Tw
open Pa (cm bK)
variable {t:aM} {n:Nat} {i:Int}
theorem eu.mono{t:aM}{a b:Nat}(g:eu t a)(h:a≤b):eu t b:=⟨g.nm,g.ay,g.eE,g.ix.mono h,g.row,g.iI⟩
structure nV (t:aM) (n:Nat) (D:List Int):Prop where
 nm:cG t.nm=0
 ay:t.ay=bf
 eE:t.rows.length≤40
 ix:ic t.ix n
 row:∀i (h:i<t.rows.length),t.rows[i]≠[]→Pc.dB bf t.rows[i]=0∧(∀v∈t.rows[i],v.Ok)∧((i:Int)∉D→(cJ t.rows[i],(i:Int))∈dQ t.ix)
 iI:∀x∈dQ t.ix,0≤x.2∧x.2∉D∧∃h:x.2.toNat<t.rows.length,t.rows[x.2.toNat]≠[]∧x.1=cJ t.rows[x.2.toNat]
theorem eu.d(g:eu t n):nV t n []:=⟨g.nm,g.ay,g.eE,g.ix,fun i h hn=>⟨(g.row i h hn).1,(g.row i h hn).2.1,fun _=>(g.row i h hn).2.2⟩,fun x hx=>⟨(g.iI x hx).1,not_mem_nil,(g.iI x hx).2⟩⟩
theorem nV.tb(g:nV t n []):eu t n:=⟨g.nm,g.ay,g.eE,g.ix,fun i h hn=>⟨(g.row i h hn).1,(g.row i h hn).2.1,(g.row i h hn).2.2 not_mem_nil⟩,fun x hx=>⟨(g.iI x hx).1,(g.iI x hx).2.2⟩⟩
theorem ab7(g:eu t n)(hn:n≤300){row:List Vl}(aQ:∀v∈row,v.Ok)(h:(gq t row).2=0):eu (gq t row).1 (n+1)∧(gq t row).1.rows.length=t.rows.length+1:=by
 unfold gq at h ⊢;by_cases h1:Pc.dB t.ay row=0
 ·rw[if_neg (fun e=>e h1)] at h ⊢;cases h2:iA t.ix (cJ row) (dm t.ix) with
  | true=>rw[h2,if_pos rfl] at h;cases h
  | false =>
   rw[h2,if_neg w8] at h;rw[if_neg w8];by_cases h3:t.rows.length=40
   ·rw[if_pos h3] at h;cases h
   rw[if_neg h3];have h4:Pc.dB bf row=0:=(by rw[←g.ay];exact h1)
   obtain⟨g1,g2,g3⟩:=EQ g.ix hn ((ER g.ix).1 h2) (wH h4) (Int.natCast_nonneg t.rows.length);have I:=g.eE;refine⟨⟨g.nm,g.ay,by show(t.rows++[row]).length≤40;rw[length_append,length_singleton];omega,g1,fun i hi hne=>?_,fun x hx=>?_⟩,by show(t.rows++[row]).length=_;rw[length_append,length_singleton]⟩
   ·simp only at hi hne ⊢;rw[length_append,length_singleton] at hi;by_cases hl:i<t.rows.length
    ·have e:(t.rows++[row])[i]'CF=t.rows[i]:=getElem_append_left hl;rw[e] at hne ⊢;obtain⟨p1,p2,p3⟩:=g.row i hl hne;exact⟨p1,p2,(g3 _).2 (.inr p3)⟩
    have E:i=t.rows.length:=(by omega)
    subst E;have e:(t.rows++[row])[t.rows.length]'CF=row:=(by rw[getElem_append_right (Nat.le_refl _)];simp)
    rw[e] at hne ⊢;exact⟨h4,aQ,(g3 _).2 (.inl rfl)⟩
   rcases(g3 x).1 hx with rfl|hx
   ·refine⟨Int.natCast_nonneg _,by show t.rows.length<(t.rows++[row]).length;rw[length_append,length_singleton];omega,?_⟩;have e:(t.rows++[row])[t.rows.length]'CF=row:=(by rw[getElem_append_right (Nat.le_refl _)];simp)
    show(t.rows++[row])[t.rows.length]'_≠[]∧cJ row=cJ ((t.rows++[row])[t.rows.length]'_);rw[e];exact⟨fun e=>(by have:=oI h4;rw[e] at this;cases this),rfl⟩
   obtain⟨x0,x1,O,U⟩:=g.iI x hx;have e:(t.rows++[row])[x.2.toNat]'CF=t.rows[x.2.toNat]:=getElem_append_left x1;refine⟨x0,by show _<(t.rows++[row]).length;rw[length_append,length_singleton];omega,?_⟩;show(t.rows++[row])[x.2.toNat]'_≠[]∧x.1=cJ ((t.rows++[row])[x.2.toNat]'_);rw[e];exact⟨O,U⟩
 rw[if_pos h1] at h;exact absurd h h1
theorem Qy{n:Nat}:∀{l:List Int} {t:aM},eu t n→l.Nodup→(∀i∈l,fX t i)→eu (rL t l) n∧(rL t l).rows.length=t.rows.length
 | [],_,g,_,_=>⟨g,rfl⟩
 | i::r,t,g,hn,hi=>by
  rw[nodup_cons] at hn;have h1:=Qy (Qu g (hi i mem_cons_self)) hn.2 fun j hj=>T4 (hi j (mem_cons_of_mem _ hj)) (fun e=>hn.1 (e ▸ hj)) (hi i mem_cons_self).1;refine⟨h1.1,h1.2.trans ?_⟩;show(t.rows.set _ _).length=_;rw[length_set]
theorem Zz(g:eu t n)(w:List aJ):eu (mJ t w).1 n∧(mJ t w).1.rows.length=t.rows.length:=by
 unfold mJ;split
 ·exact⟨g,rfl⟩
 exact Qy g (Eu g w) (sC g w)
theorem Ub{r:List Vl}{c:Nat}(hc:c≠0)(v:Vl):cJ (r.set c v)=cJ r:=by
 unfold cJ;cases r with
 | nil=>rfl
 | cons a r=>cases c with
  | zero=>exact absurd rfl hc
  | succ c=>rfl
theorem Vv{D:List Int}(g:nV t n D)(hi:fX t i){c:Nat}(hc:c<bf.length){v:Vl}(hv:jy (bf[c]'hc).k v)(fQ:v.Ok)(h0:c=0→v.k≠0∧i∈D):nV (rM t i c v) n D∧(∀j,fX t j→fX (rM t i c v) j):=by
 obtain⟨q0,q1,q2⟩:=hi;obtain⟨p1,p2,p3⟩:=g.row _ q1 q2;have U:=iz (t:=t) q1;have Z:Pc.dB bf ((rowAt t i).set c v)=0:=(by rw[U];exact T6 p1 hc hv fun h=>(h0 h).1)
 have jO:(rowAt t i).set c v≠[]:=fun e=>by have:=oI Z;rw[e] at this;cases this
 have hlen:(rM t i c v).rows.length=t.rows.length:=length_set;have I:∀j (h:j<t.rows.length),(rM t i c v).rows[j]'(by rw[hlen];exact h)=if i.toNat=j then (rowAt t i).set c v else t.rows[j]:=fun j h=>getElem_set ..
 refine⟨⟨g.nm,g.ay,by rw[hlen];exact g.eE,g.ix,fun j hj hne=>?_,fun x hx=>?_⟩,fun j ⟨j0,j1,j2⟩=>⟨j0,by rw[hlen];exact j1,?_⟩⟩
 ·rw[hlen] at hj;rw[I j hj] at hne ⊢;by_cases E:i.toNat=j
  ·rw[if_pos E];refine⟨Z,fun w hw=>?_,fun hd=>?_⟩
   ·rcases mem_or_eq_of_mem_set hw with hw|hw
    ·rw[U] at hw;exact p2 w hw
    rw[hw];exact fQ
   have rT:(j:Int)=i:=(by omega)
   by_cases O:c=0
   ·exact absurd (rT ▸ (h0 O).2) hd
   rw[Ub O,U];subst E;exact p3 hd
  rw[if_neg E] at hne ⊢;exact g.row j hj hne
 ·obtain⟨x0,xd,x1,x2,x3⟩:=g.iI x hx;refine⟨x0,xd,by rw[hlen];exact x1,?_⟩;rw[I _ x1];by_cases E:i.toNat=x.2.toNat
  ·rw[if_pos E];refine⟨jO,?_⟩;have rT:x.2=i:=(by omega)
   by_cases O:c=0
   ·exact absurd (rT ▸ (h0 O).2) xd
   rw[Ub O,U,x3];simp only[E]
  rw[if_neg E];exact⟨x2,x3⟩
 rw[I _ j1];split
 ·exact jO
 exact j2
theorem aiK{x:aD}{D:List Int}(g:nV {t with ix:=x} n D)(hi:fX t i)(hd:i∉D):nV {t with ix:=gC x (dm x) (cJ (rowAt t i))} n (i::D):=by
 obtain⟨q0,q1,q2⟩:=hi;obtain⟨p1,p2,p3⟩:=g.row _ q1 q2;have E:=iz (t:=t) q1;have I:(cJ (rowAt t i),i)∈dQ x:=by
  have:=p3 (by rw[Int.toNat_of_nonneg q0];exact hd);rw[Int.toNat_of_nonneg q0] at this;rw[E];exact this
 obtain⟨d1,d2⟩:=Jk g.ix ((A5 g.ix.val _).2 ⟨i,I⟩);refine⟨g.nm,g.ay,g.eE,d1,fun j hj hne=>?_,fun y hy=>?_⟩
 ·obtain⟨r1,r2,U⟩:=g.row j hj hne;refine⟨r1,r2,fun hd2=>?_⟩;have O:(j:Int)≠i:=fun e=>hd2 (e ▸ mem_cons_self);refine(d2 _).2 ⟨U fun e=>hd2 (mem_cons_of_mem _ e),fun e=>O ?_⟩;have:=Kb g.ix (U fun e=>hd2 (mem_cons_of_mem _ e)) I e;simp only[Prod.mk.injEq] at this;exact this.2
 obtain⟨y1,y2⟩:=(d2 y).1 hy;obtain⟨z0,zd,z1,z2,z3⟩:=g.iI y y1;refine⟨z0,fun hm=>?_,z1,z2,z3⟩;rcases mem_cons.1 hm with e|hm
 ·refine y2 ?_;rw[z3,E];simp only[e]
 exact zd hm
theorem Uc{t:aM}{n:Nat}:∀(l:List Int) (x:aD) (D:List Int),nV {t with ix:=x} n D→l.Nodup→(∀i∈l,fX t i∧i∉D)→∃D',nV {t with ix:=oJ t x l} n D'∧∀i,i∈D'↔i∈l∨i∈D
 | [],x,D,g,_,_=>⟨D,g,fun i=>by simp⟩
 | i::r,x,D,g,hn,hi=>by
  rw[nodup_cons] at hn;obtain⟨D',h1,h2⟩:=Uc r _ (i::D) (aiK g (hi i mem_cons_self).1 (hi i mem_cons_self).2) hn.2 fun j hj=>⟨(hi j (mem_cons_of_mem _ hj)).1,fun e=>by
   rcases mem_cons.1 e with e|e
   ·exact hn.1 (e ▸ hj)
   exact(hi j (mem_cons_of_mem _ hj)).2 e⟩
  refine⟨D',h1,fun j=>(h2 j).trans ?_⟩;simp only[mem_cons];constructor
  ·rintro(h|h|h)
   ·exact .inl (.inr h)
   ·exact .inl (.inl h)
   exact .inr h
  rintro((h|h)|h)
  ·exact .inr (.inl h)
  ·exact .inl h
  exact .inr (.inr h)
theorem nV.alB{D D':List Int}(g:nV t n D)(h:∀i,i∈D↔i∈D'):nV t n D':=⟨g.nm,g.ay,g.eE,g.ix,fun i hi hne=>⟨(g.row i hi hne).1,(g.row i hi hne).2.1,fun hd=>(g.row i hi hne).2.2 fun e=>hd ((h _).1 e)⟩,fun x hx=>⟨(g.iI x hx).1,fun e=>(g.iI x hx).2.1 ((h _).2 e),(g.iI x hx).2.2⟩⟩
theorem alC{D:List Int}(g:nV t n D)(hn:n≤300)(hi:fX t i)(hd:i∈D)(lg:iA t.ix (cJ (rowAt t i)) (dm t.ix)=false):nV {t with ix:=gB t.ix (dm t.ix) (cJ (rowAt t i)) i} (n+1) (D.filter (·≠i)):=by
 obtain⟨q0,q1,q2⟩:=hi;obtain⟨p1,p2,p3⟩:=g.row _ q1 q2;have E:=iz (t:=t) q1;obtain⟨g1,_,g3⟩:=EQ g.ix hn ((ER g.ix).1 lg) (by rw[E];exact wH p1) q0;have hf:∀j,j∈D.filter (·≠i)↔j∈D∧j≠i:=fun j=>by rw[mem_filter];simp
 refine⟨g.nm,g.ay,g.eE,g1,fun j hj hne=>?_,fun y hy=>?_⟩
 ·obtain⟨r1,r2,O⟩:=g.row j hj hne;refine⟨r1,r2,fun hd2=>(g3 _).2 ?_⟩;by_cases e:(j:Int)=i
  ·left;have I:i.toNat=j:=(by omega)
   subst I;rw[E,Int.toNat_of_nonneg q0]
  right;exact O fun hm=>hd2 ((hf _).2 ⟨hm,e⟩)
 rcases(g3 y).1 hy with rfl|hy
 ·exact⟨q0,fun hm=>((hf _).1 hm).2 rfl,q1,q2,by rw[E]⟩
 obtain⟨z0,zd,z1,z2,z3⟩:=g.iI y hy;exact⟨z0,fun hm=>zd ((hf _).1 hm).1,z1,z2,z3⟩
theorem UT:∀(l:List Int) (vs:List Vl) (t:aM) (n:Nat) (D:List Int),nV t n D→n+l.length≤300→l.Nodup→vs.length=l.length→(∀i∈l,fX t i∧i∈D)→(∀v∈vs,v.Ok∧jy (bf[0]'w8).k v∧v.k≠0)→(kG t l vs).2=0 →
  ∃D',nV (kG t l vs).1 (n+l.length) D'∧(kG t l vs).1.rows.length=t.rows.length∧∀i,i∈D'↔i∈D∧i∉l
 | [],[],t,n,D,g,_,_,_,_,_,_=>⟨D,g,rfl,fun i=>by simp⟩
 | [],_::_,_,_,_,_,_,_,h,_,_,_=>by cases h
 | _::_,[],_,_,_,_,_,_,h,_,_,_=>by cases h
 | i::r,v::s,t,n,D,g,hn,hnd,hl,hi,hv,h=>by
  rw[nodup_cons] at hnd;rw[length_cons] at hn hl;rw[length_cons] at hl;obtain⟨E,hid⟩:=hi i mem_cons_self;obtain⟨v1,v2,v3⟩:=hv v mem_cons_self;obtain⟨g1,ko⟩:=Vv g E (c:=0) w8 v2 v1 fun _=>⟨v3,hid⟩
  rw[kG] at h ⊢;cases iQ:iA t.ix (cJ (rowAt (rM t i 0 v) i)) (dm t.ix) with
  | true=>rw[iQ,if_pos rfl] at h;cases h
  | false =>
   rw[iQ,if_neg w8] at h;rw[if_neg w8];have g2:=alC g1 w4 (ko i E) hid iQ;obtain⟨D',h1,h2,h3⟩:=UT r s _ (n+1) _ g2 w4 hnd.2 w4 (fun j hj=>⟨ko j (hi j (mem_cons_of_mem _ hj)).1,by rw[mem_filter];exact⟨(hi j (mem_cons_of_mem _ hj)).2,by simp;exact fun e=>hnd.1 (e ▸ hj)⟩⟩) (fun w hw=>hv w (mem_cons_of_mem _ hw)) h;refine⟨D',by rw[length_cons,show n+(r.length+1)=n+1+r.length by omega];exact h1,h2.trans (by show(t.rows.set _ _).length=_;rw[length_set]),fun j=>(h3 j).trans ?_⟩;rw[mem_filter,mem_cons];simp only[decide_eq_true_eq,ne_eq,not_or,and_assoc]
theorem Ud{n:Nat}{c:Nat}(hc:c<bf.length)(aP:c≠0):∀(l:List Int) (vs:List Vl) (t:aM),eu t n→(∀i∈l,fX t i)→(∀v∈vs,v.Ok∧jy (bf[c]'hc).k v)→eu (mW c t l vs) n∧(mW c t l vs).rows.length=t.rows.length
 | [],_,t,g,_,_=>by unfold mW;exact⟨g,rfl⟩
 | _::_,[],t,g,_,_=>by unfold mW;exact⟨g,rfl⟩
 | i::r,v::s,t,g,hi,hv=>by
  rw[mW];obtain⟨v1,v2⟩:=hv v mem_cons_self;obtain⟨g1,ko⟩:=Vv g.d (hi i mem_cons_self) hc v2 v1 fun e=>absurd e aP;have h1:=Ud hc aP r s _ g1.tb (fun j hj=>ko j (hi j (mem_cons_of_mem _ hj))) fun w hw=>hv w (mem_cons_of_mem _ hw);exact⟨h1.1,h1.2.trans (by show(t.rows.set _ _).length=_;rw[length_set])⟩
theorem afE{k:Int}{c:Int}{v:Vl}(h:jy k v)(hk:¬(k≠c∧k≠0)):jy c v:=by
 refine⟨h.1,?_⟩;have:=h.2;omega
theorem ab8(g:eu t n)(s:cm)(lg:∀o∈s.bL,o.nm.size≤maxLen)(fQ:∀o∈s.bL,o.v.Ok)(hn:n≤260):eu (gW t s).1 (n+t.rows.length)∧(gW t s).1.rows.length=t.rows.length:=by
 have hz:eu t (n+t.rows.length)∧t.rows.length=t.rows.length:=⟨g.mono w4,rfl⟩
 unfold gW;by_cases hA:bD t.ay s.set<0
 ·rw[if_pos hA];exact hz
 rw[if_neg hA];by_cases hB:(dr t.ay s.bL).2≠0
 ·rw[if_pos hB];exact hz
 rw[if_neg hB];by_cases hC:(dr t.ay s.bL).1≠(t.ay.getD (bD t.ay s.set).toNat ⟨⟨#[]⟩,0⟩).k∧(dr t.ay s.bL).1≠0
 ·rw[if_pos hC];exact hz
 rw[if_neg hC];by_cases hD:(ax t s.aj).2≠0
 ·rw[if_pos hD];exact hz
 rw[if_neg hD];by_cases hN:(iO t (bD t.ay s.set) s.bL [] (ax t s.aj).1).2≠0
 ·rw[if_pos hN];exact hz
 rw[if_neg hN];have Z:=Classical.not_not.1 hN;have hkz:(dr bf s.bL).2=0:=(by rw[←g.ay];exact Classical.not_not.1 hB)
 have E:=Jo g lg fQ hkz (ax t s.aj).1 [] (sC g s.aj) Z (fun v O=>by cases O);have hlen:=Si (t:=t) (c:=bD t.ay s.set) (e:=s.bL) (ax t s.aj).1 [] Z;have YV:=(KI (l:=t.ay) (nm:=s.set)).2;have hcc:t.ay.length=bf.length:=(by rw[g.ay])
 have U:(bD t.ay s.set).toNat<bf.length:=(by omega)
 have HK:∀v,jy (dr bf s.bL).1 v→jy (bf[(bD t.ay s.set).toNat]'U).k v:=fun v O=>by
  refine afE O ?_;rw[g.ay] at hC;have e:bf.getD (bD bf s.set).toNat ⟨⟨#[]⟩,0⟩=bf[(bD t.ay s.set).toNat]'U:=by
   rw[getD_eq_getElem?_getD];rw[show(bD bf s.set).toNat=(bD t.ay s.set).toNat by rw[g.ay]];rw[getElem?_eq_getElem U];rfl
  rw[e] at hC;exact hC
 by_cases hP:0<bD t.ay s.set
 ·rw[if_pos hP];have h1:=Ud (c:=(bD t.ay s.set).toNat) U w4 (ax t s.aj).1 (iO t (bD t.ay s.set) s.bL [] (ax t s.aj).1).1 t g (sC g s.aj) fun v O=>⟨(E v O).1,HK v (E v O).2.1⟩
  exact⟨h1.1.mono w4,h1.2⟩
 rw[if_neg hP];have yA:bD t.ay s.set=0:=(by omega)
 by_cases hM:(kG {t with ix:=oJ t t.ix (ax t s.aj).1} (ax t s.aj).1 (iO t (bD t.ay s.set) s.bL [] (ax t s.aj).1).1).2≠0
 ·rw[if_pos hM];exact hz
 rw[if_neg hM];have hnd:=Eu g s.aj;have I:=sC g s.aj;have mU:=Fj g s.aj;obtain⟨D,d1,d2⟩:=Uc (ax t s.aj).1 t.ix [] g.d hnd fun i hi=>⟨I i hi,not_mem_nil⟩
 obtain⟨D',e1,e2,e3⟩:=UT (ax t s.aj).1 (iO t (bD t.ay s.set) s.bL [] (ax t s.aj).1).1 _ n D d1 w4 hnd (by rw[hlen];simp) (fun i hi=>⟨I i hi,(d2 i).2 (.inl hi)⟩) (fun v O=>⟨(E v O).1,by have:=HK v (E v O).2.1;simp only[yA] at this;exact this,(E v O).2.2 yA⟩) (Classical.not_not.1 hM);have hD':eu _ _:=(e1.alB (D':=[]) fun i=>by rw[e3,d2];simp).tb;have hle:(ax t s.aj).1.length≤t.rows.length:=by
  have h1:((ax t s.aj).1.map Int.toNat).Nodup:=by
   rw[Nodup,pairwise_map];refine(Pairwise.and_mem.1 hnd).imp fun {a b} h e=>h.2.2 ?_;have:=(I a h.1).1;have:=(I b h.2.1).1;omega
  have h2:=h1.length_le_of_subset (l₂:=range t.rows.length) fun x hx=>by
   obtain⟨y,hy,rfl⟩:=mem_map.1 hx;exact mem_range.2 (I y hy).2.1
  rwa [length_map,length_range] at h2
 exact⟨hD'.mono w4,e2⟩

end Go.Proofs.YtdgichenhdikgaaGreatDoor.Ba
namespace Go.Proofs.YtdgichenhdikgaaGreatDoor.Pa
open List
open Go.Proofs.Tryz
open Go.RowKit V Pk Vl Go.Proofs.YtdgichenhdikgaaGreatDoor.Nm Pc
variable {t:ByteArray}
theorem afF{s:ByteArray}(h:cG s=0):oC s=true∧s.size≤8:=by
 unfold cG at h;split at h
 ·cases h
 split at h
 ·cases h
 rename_i h1 h2;rw[Bool.or_eq_true,Bool.not_eq_true'] at h2;refine⟨?_,by omega⟩;cases hw:oC s with
 | true=>rfl
 | false=>exact absurd (.inl hw) h2
variable {G:List (Nat×List Value)}
def tZ:List Vl→ByteArray
 | []=>⟨#[120]⟩
 | v::_=>v.s
def jk(s:cm):Prop:=jA s∧1≤s.kind∧s.kind≤6∧s.hU≤9223372036854775807∧fY s=0
structure DX (w:List aJ):Prop where
 l:w.length≤40
 f:nS w=0
 b:∀o∈w,o.nm.size≤maxLen∧-9223372036854775808≤o.v.n∧o.v.n≤9223372036854775807
theorem Kh:DX []:=⟨Nat.zero_le _,rfl,fun _ h=>by cases h⟩
theorem ab9(t:Tw):∀o∈gQ 3 t,-20≤o.v.n∧o.v.n≤40:=by
 have hz:∀j nm,-20≤(⟨j,aV,nm⟩:aJ).v.n∧(⟨j,aV,nm⟩:aJ).v.n≤40:=fun _ _=>⟨by show(-20:Int)≤0;decide,by show(0:Int)≤40;decide⟩
 have vp:∀n s,-20≤(rm n s).v.n∧(rm n s).v.n≤40:=fun n s=>by
  show -20≤(oD ⟨n,dY n 40-20,s⟩).n∧(oD ⟨n,dY n 40-20,s⟩).n≤40;have O:=jD n (show(1:Int)≤40 by decide);have h2:=jD (dY n 40-20) (show(1:Int)≤2 by decide);unfold oD;split
  ·dsimp only;omega
  split
  ·dsimp only;omega
  split
  ·dsimp only;omega
  exact⟨by show(-20:Int)≤0;decide,by show(0:Int)≤40;decide⟩
 have E:∀k n s,∀o∈lM k n s,-20≤o.v.n∧o.v.n≤40:=fun k n s o ho=>by
  unfold lM at ho;split at ho<;>(simp only[mem_singleton] at ho;subst ho)
  ·exact hz _ _
  exact vp _ _
 have key:∀(r:Nat) (t:Tw),∀o∈gQ r t,-20≤o.v.n∧o.v.n≤40:=by
  intro r;induction r with
  | zero=>intro t;obtain⟨k,n,s,ts⟩:=t;exact E k n s
  | succ r ih =>
   intro t o ho;obtain⟨k,n,s,ts⟩:=t;have I:∀i:Nat,∀o∈gi r ts n s i,-20≤o.v.n∧o.v.n≤40:=fun i o ho=>by
    unfold gi at ho;split at ho
    ·exact ih _ o ho
    exact E _ _ _ o ho
   rw[uX] at ho;split at ho
   ·simp only[mem_singleton] at ho;subst ho;exact vp _ _
   split at ho
   ·simp only[mem_singleton] at ho;subst ho;exact hz _ _
   split at ho
   ·rcases mem_append.1 ho with ho|ho
    ·exact I 0 o ho
    simp only[mem_singleton] at ho;subst ho;exact hz _ _
   rcases mem_append.1 ho with ho|ho
   ·rcases mem_append.1 ho with ho|ho
    ·exact I 0 o ho
    exact I 1 o ho
   simp only[mem_singleton] at ho;subst ho;exact hz _ _
 exact key 3 t
theorem Ki(t:Tw):DX (gQ 3 t):=by
 have h:=Iy t;refine⟨by omega,?_,fun o ho=>⟨acY (acX t) o ho,?_⟩⟩
 ·unfold nS;rw[if_neg w4];exact Iz t
 have:=ab9 t o ho;omega
theorem acd(s:cm):ji s s=true:=by
 unfold ji;simp only[Bool.and_eq_true,beq_iff_eq,wD,and_self]
theorem yT{s:cm}(ht:cG s.table=0)(he:iC s=0)(hb:gp s=s):fY s=0:=by
 unfold fY;rw[if_neg (fun h=>h.2 ht),hb,if_neg (fun h=>by rw[acd] at h;cases h.2),he]
theorem small{x:ByteArray}(h:cG x=0):x.size≤maxLen:=Nat.le_trans (afF h).2 w8
def sV(s:cm):Prop:=s.aj=[]∧∀w,DX w→(4≤s.kind∨w=[])→jk {s with aj:=w}
theorem sV.xw{s:cm}(h:sV s):jk s:=by
 have:=h.2 [] Kh (.inr rfl);rw[←h.1] at this;exact this
theorem Pm(ht:cG t=0):sV {fW with kind:=1,table:=t,ay:=bf}:=⟨rfl,fun w hw h=>by
 have E:w=[]:=h.resolve_left (by show ¬(4:Int)≤1;decide);subst E;exact⟨⟨⟨by show 4≤6;decide,Nat.zero_le _,Nat.zero_le _,Nat.zero_le _,Nat.zero_le _⟩,small ht,by show ∀c∈bf,c.n.size≤maxLen;decide,(fun _ h=>by cases h),Nat.zero_le _,Nat.zero_le _,(fun _ h=>by cases h),(fun _ h=>by cases h),(fun _ h=>by cases h)⟩,by show(1:Int)≤1;decide,by show(1:Int)≤6;decide,CG,
  yT ht (show fD bf=0 by decide +kernel) az⟩⟩
theorem ad5(ht:cG t=0):sV {fW with kind:=2,table:=t}:=⟨rfl,fun w hw h=>by
 have E:w=[]:=h.resolve_left (by show ¬(4:Int)≤2;decide);subst E;exact⟨⟨⟨Nat.zero_le _,Nat.zero_le _,Nat.zero_le _,Nat.zero_le _,Nat.zero_le _⟩,small ht,(fun _ h=>by cases h),(fun _ h=>by cases h),Nat.zero_le _,Nat.zero_le _,(fun _ h=>by cases h),(fun _ h=>by cases h),(fun _ h=>by cases h)⟩,by show(1:Int)≤2;decide,by show(2:Int)≤6;decide,CG,
  yT ht az az⟩⟩
theorem Ue{x:Int}(h0:0≤x):iP ⟨2,x,⟨#[]⟩⟩=0:=by
 unfold iP;rw[if_neg (by intro h;have:=h.2;dsimp only at this;omega)];kernel_rfl
theorem afG{s:ByteArray}(h:s.size≤20):iP ⟨3,0,s⟩=0:=by
 unfold iP;rw[if_neg (by intro h;exact absurd h.1 (by show ¬(3:Int)=2;decide))];unfold bW;rw[if_neg (by show ¬(3:Int)=0;decide),if_neg (by show ¬(3:Int)=1;decide),if_neg (by show ¬(3:Int)=2;decide),if_pos rfl,if_neg (fun h=>h rfl),if_neg (by show ¬s.size>20;omega)]
theorem ace(n:Int):iP (qC n)=0∧-9223372036854775808≤(qC n).n∧(qC n).n≤9223372036854775807:=by
 have h:=jD n (show(1:Int)≤3 by decide);unfold qC;split
 ·exact⟨by decide,by decide,by decide⟩
 have h2:dY n 3=0∨dY n 3=1:=(by omega)
 rcases h2 with h2|h2<;>rw[h2]<;>exact⟨by decide,by decide,by decide⟩
theorem aaI(ht:cG t=0){x y b:Int}(hx:0≤x∧x<12)(hy:0≤y∧y<9){u:ByteArray}(Z:u.size≤6):sV {fW with kind:=3,table:=t,row:=[⟨2,x,⟨#[]⟩⟩,⟨2,y,⟨#[]⟩⟩,⟨3,0,u⟩,qC b]}:=⟨rfl,fun w hw h=>by
 have E:w=[]:=h.resolve_left (by show ¬(4:Int)≤3;decide);subst E;have l1:=Ue hx.1;have l2:=Ue hy.1;have l3:iP ⟨3,0,u⟩=0:=afG w4;obtain⟨l4,O,U⟩:=ace b;refine⟨⟨⟨Nat.zero_le _,by show 4≤6;decide,Nat.zero_le _,Nat.zero_le _,Nat.zero_le _⟩,small ht,(fun _ h=>by cases h),(fun _ h=>by cases h),Nat.zero_le _,Nat.zero_le _,fun v I=>?_,(fun _ h=>by cases h),(fun _ h=>by cases h)⟩,by show(1:Int)≤3;decide,by show(3:Int)≤6;decide,CG,yT ht ?_ az⟩
 ·simp only[mem_cons,not_mem_nil,or_false] at I;rcases I with rfl|rfl|rfl|rfl
  ·dsimp only;omega
  ·dsimp only;omega
  ·dsimp only;omega
  exact⟨O,U⟩
 show dB [⟨2,x,⟨#[]⟩⟩,⟨2,y,⟨#[]⟩⟩,⟨3,0,u⟩,qC b]=0;unfold dB;rw[if_neg bn];simp[jL,l1,l2,l3,l4]⟩
theorem Pn(ht:cG t=0){N:List ByteArray}(E:N.length≤6∧∀x∈N,cG x=0){c:Bool}(hc:c=true→N=[]){o:ByteArray}(ho:o=⟨#[]⟩∨cG o=0){d:Bool}(hd:o=⟨#[]⟩→d=false){m:Int}(hm:-1≤m∧m≤7):sV {fW with kind:=4,table:=t,names:=N,count:=c,order:=o,down:=d,hU:=m}:=⟨rfl,fun w hw h=>by
 have I:o.size≤maxLen:=(by rcases ho with rfl|h;exact Nat.zero_le _;exact small h)
 refine⟨⟨⟨Nat.zero_le _,Nat.zero_le _,E.1,hw.l,Nat.zero_le _⟩,small ht,(fun _ h=>by cases h),fun x hx=>small (E.2 x hx),I,Nat.zero_le _,(fun _ h=>by cases h),hw.b,(fun _ h=>by cases h)⟩,by show(1:Int)≤4;decide,by show(4:Int)≤6;decide,(by show _≤(9223372036854775807:Int);dsimp only;omega),yT ht ?_ az⟩;show pc {fW with kind:=4,table:=t,names:=N,count:=c,aj:=w,order:=o,down:=d,hU:=m}=0;have gE:jL cG N=0:=by
  have key:∀l:List ByteArray,(∀x∈l,cG x=0)→jL cG l=0:=by
   intro l;induction l with
   | nil=>intro _;rfl
   | cons a r ih=>intro h;rw[jL,if_neg (by rw[h a mem_cons_self];decide)];exact ih fun x hx=>h x (mem_cons_of_mem _ hx)
  exact key N E.2
 unfold pc;dsimp only;rw[if_neg w4,if_neg w4,if_neg (by
  rintro(⟨h1,h2⟩|⟨h1,h2⟩)
  ·rw[hc h1] at h2;simp at h2
  rw[hd (wD.1 h2)] at h1;cases h1),if_neg (by rw[gE];decide),if_neg (by rw[hw.f];decide)]
 split
 ·rfl
 rename_i h2;exact ho.resolve_left fun h=>h2 (wD.2 h)⟩
theorem aaJ(ht:cG t=0){c:ByteArray}(hc:cG c=0)(E:Tw):sV {fW with kind:=5,table:=t,set:=c,bL:=gQ 3 E}:=⟨rfl,fun w hw h=>by
 have ho:=Ki E;refine⟨⟨⟨Nat.zero_le _,Nat.zero_le _,Nat.zero_le _,hw.l,ho.l⟩,small ht,(fun _ h=>by cases h),(fun _ h=>by cases h),Nat.zero_le _,small hc,(fun _ h=>by cases h),hw.b,ho.b⟩,by show(1:Int)≤5;decide,by show(5:Int)≤6;decide,CG,yT ht ?_ az⟩;show(if cG c=0 then (if gz (gQ 3 E)=0 then nS w else gz (gQ 3 E)) else cG c)=0;rw[if_pos hc,if_pos (Iz E),hw.f]⟩
theorem aaK(ht:cG t=0):sV {fW with kind:=6,table:=t}:=⟨rfl,fun w hw h=>by
 refine⟨⟨⟨Nat.zero_le _,Nat.zero_le _,Nat.zero_le _,hw.l,Nat.zero_le _⟩,small ht,(fun _ h=>by cases h),(fun _ h=>by cases h),Nat.zero_le _,Nat.zero_le _,(fun _ h=>by cases h),hw.b,(fun _ h=>by cases h)⟩,by show(1:Int)≤6;decide,by show(6:Int)≤6;decide,CG,yT ht hw.f az⟩⟩
def dZ:List ByteArray:=[⟨#[116]⟩,⟨#[117]⟩]
def fM:List ByteArray:=[⟨#[]⟩,⟨#[110]⟩,⟨#[115]⟩,⟨#[105,100]⟩]
def AN:List ByteArray:=[⟨#[110]⟩,⟨#[110]⟩,⟨#[115]⟩,⟨#[98]⟩,⟨#[105,100]⟩]
theorem F6:∀x∈dZ,cG x=0:=by decide +kernel
theorem aiL:∀x∈fM,x.size=0∨cG x=0:=by decide +kernel
theorem Lf:∀x∈AN,cG x=0:=by decide +kernel
theorem tH(n:Int)(h1:-9223372036854775808≤n)(h2:n≤9223372036854775807):VP Tryz.prog G 28 [ae n] (.agg [ae (qC n).k,ae (qC n).n,bj (qC n).s]):=by
 refine VC.body func28 rfl ntmps28 aO fun X0 w0 bg=>?_;refine bU ?_;refine OD.alloc (ds:=[_,_,_]) ap rfl rfl zeroValue41 rfl (fun b2=>?_);refine an 10 [0,2] ?_;refine cz [0,2,5] (lu G n 3 h1 h2 w8) ?_;refine aq ?_ ?_<;>intro aP bC
 ·refine aB 1 ?_;refine aR 0 [_,_,_] sizeOf41 ?_;refine an 10 [2] ?_;refine aI [] ?_;refine⟨?_,rfl⟩;unfold qC aV;simp_all
 refine aB 1 ?_;refine dP call21 (lu G n 3 h1 h2 w8) ?_;refine aF 1 ?_;refine aR 0 [_,_,_] sizeOf41 ?_;refine an 10 [2] ?_;refine aI [] ?_;refine⟨?_,rfl⟩;unfold qC aV;simp_all

theorem ahd{s:ByteArray}(h:s.size=0):s=⟨#[]⟩:=by
 obtain⟨d⟩:=s;have:d = #[]:=Array.eq_empty_of_size_eq_zero h;rw[this]
theorem acf(k t a b:Int)(row:List Vl)(O U:Int)(Z:ByteArray)(E:List Tw)(y1 y2:Int)(y3:ByteArray)(I:List Tw)(bare:Bool):VP Tryz.prog G 36 [.agg [ae k,ae t,ae a,ae b,av 3 cV row,ae O,ae U,bj Z,.list 4 (Tw.mi E) E.length,ae y1,ae y2,bj y3,.list 4 (Tw.mi I) I.length,bJ bare]] (bj (tZ row)):=by
 refine VC.body func36 rfl ntmps36 aO fun X0 w0 bg=>?_;refine bU ?_;refine OD.box (ds:=[_,_,_,_,_,_,_,_,_,_,_,_,_,_]) ap rfl rfl ot rfl rfl (fun b1=>?_);refine an 12 [1] ?_;refine af [1,6] ?_;refine aq ?_ ?_<;>intro aP bC
 ·obtain⟨v,r,rfl⟩:∃v r,row=v::r:=(by (cases row;simp at aP;exact⟨_,_,rfl⟩))
  refine cL [2] ?_;refine aS 2 ?_ (h:=by exact(su (mk:=Op.indexAddr 75) rfl ot bV (by first|exact tX runUnderlying75 sizeOf114 (j:=0) rfl bn|exact uf runUnderlying75 sizeOf114 (j:=0) rfl bn)));refine aS 1 ?_ (h:=by exact(cR (mk:=Op.load 9) rfl ot (by exact vg (i:=0) (j:=2) ff isAgg9 bn rfl)));refine bI ?_;refine aI [] ?_;exact⟨rfl,rfl⟩
 obtain rfl:row=[]:=eq_nil_of_length_eq_zero (by simp at aP;simp[aP]);refine af [2] ?_;exact z51
theorem OH : ∀ w, ((#[{ name := "Kind", type := 3, offset := 0, embedded := false, tag := "", pkgPath := "", byteOffset := 0 }, { name := "Table", type := 9, offset := 1, embedded := false, tag := "", pkgPath := "", byteOffset := 8 }, { name := "Cols", type := 27, offset := 2, embedded := false, tag := "", pkgPath := "", byteOffset := 24 }, { name := "Row", type := 28, offset := 3, embedded := false, tag := "", pkgPath := "", byteOffset := 48 }, { name := "Names", type := 29, offset := 4, embedded := false, tag := "", pkgPath := "", byteOffset := 72 }, { name := "Count", type := 4, offset := 5, embedded := false, tag := "", pkgPath := "", byteOffset := 96 }, { name := "Where", type := 30, offset := 6, embedded := false, tag := "", pkgPath := "", byteOffset := 104 }, { name := "Order", type := 9, offset := 7, embedded := false, tag := "", pkgPath := "", byteOffset := 128 }, { name := "Down", type := 4, offset := 8, embedded := false, tag := "", pkgPath := "", byteOffset := 144 }, { name := "Limit", type := 3, offset := 9, embedded := false, tag := "", pkgPath := "", byteOffset := 152 }, { name := "Set", type := 9, offset := 10, embedded := false, tag := "", pkgPath := "", byteOffset := 160 }, { name := "To", type := 30, offset := 11, embedded := false, tag := "", pkgPath := "", byteOffset := 176 }] : Array Field).mapM fun f => do pure (f.offset, ← sizeOf f.type) : Sem (Array (Nat × Nat))).run Tryz.prog w = .ok #[(0, 1), (1, 1), (2, 1), (3, 1), (4, 1), (5, 1), (6, 1), (7, 1), (8, 1), (9, 1), (10, 1), (11, 1)] w := fun w => by simp [sizeOf27, sizeOf28, sizeOf29, sizeOf3, sizeOf30, sizeOf4, sizeOf9]
theorem ZA(k t a b:Int)(row:List Vl)(x1 x2:Int)(x3:ByteArray)(E:List Tw)(y1 y2:Int)(y3:ByteArray)(I:List Tw)(bare:Bool)(de:-9223372036854775808≤k)(fb:k≤9223372036854775807)(ht1:-9223372036854775808≤t)(ht2:t≤9223372036854775807)(U:-9223372036854775808≤a)(qa:a≤9223372036854775807)(iZ:-9223372036854775808≤b)(pD:b≤9223372036854775807)(vy:∀v∈row,v.s.size≤maxLen)(hto:(Tw.mk x1 x2 x3 E).Ok)(NI:(Tw.mk y1 y2 y3 I).Ok):VC Tryz.prog G 23 [.agg [ae k,ae t,ae a,ae b,av 3 cV row,ae x1,ae x2,bj x3,.list 4 (Tw.mi E) E.length,ae y1,ae y2,bj y3,.list 4 (Tw.mi I) I.length,bJ bare]] [] (fun r S'=>∃s,r = .agg (bK s)∧S'=[]∧jk s∧s.kind=1+dY k 6):=by
 refine VC.body func23 rfl ntmps23 aO fun X0 w0 bg=>?_;have aqO:=jD k (show(1:Int)≤6 by decide);have O:=lu G k 6 de fb w8;generalize dY k 6=ki at *;have alD:=jD t (show(1:Int)≤2 by decide);have Gg:=lu G t 2 ht1 ht2 w8;generalize dY t 2=ti at *;obtain⟨tj,rfl⟩:=Int.eq_ofNat_of_zero_le alD.1;have rO:tj<dZ.length:=(by show tj<2;omega)
 have Z:=F6 dZ[tj] (getElem_mem rO);generalize VB:dZ[tj]=tn at *;refine bU ?_;refine OD.box (ds:=[_,_,_,_,_,_,_,_,_,_,_,_,_,_]) ap rfl rfl ot rfl rfl (fun b1=>?_);refine OD.alloc (ds:=[_,_,_,_,_,_,_,_,_,_,_,_]) ap rfl rfl zeroValue32 rfl (fun b2=>?_);refine an 111 [1,2] ?_;refine CD.seq ?_;refine CD.mono (Q:=fun aX aG=>aX=Exit.normal∧∃(b3:Nat),(True)∧Wk aG (⟨111,[(1,cQ b1),(2,cQ b2),(3,cQ b3)],[⟨b3,32,12,[ae (1+ki),bj tn,bH,bH,bH,bJ false,bH,fk,bJ false,ae (-1),fk,bH]⟩,⟨b2,32,12,[ae 0,fk,bH,bH,bH,bJ false,bH,fk,bJ false,ae 0,fk,bH]⟩,⟨b1,77,14,[ae k,ae t,ae a,ae b,av 3 cV row,ae x1,ae x2,bj x3,.list 4 (Tw.mi E) E.length,ae y1,ae y2,bj y3,.list 4 (Tw.mi I) I.length,bJ bare]⟩]⟩:St)) ?_ ?_
 ·refine CD.draw (au _) az (fun _ h=>h) ?_;refine aC 0 rfl (dF 0) ?_;refine aC 1 rfl (dI 1) ?_;refine aC 5 rfl (dF 1) ?_;refine aC 6 rfl (dI 1) ?_;refine dH.later rfl ?_;refine AD.three (i:=2) (j:=4) (k:=11) az ?_ ?_ ?_
  ·refine lj call21 (O) ?_;refine cy 3 rfl nj ?_;refine AD.three (i:=4) (j:=7) (k:=11) az ?_ ?_ ?_
   ·refine j3 (cf 0 [_,_]) [.string ⟨#[]⟩,.string ⟨#[]⟩] [_,_] zeroValue9 runUnderlying29 sizeOf9 (fun b8=>?_);refine j4 0 8 1 2 ?_;exact V8
   ·refine lj call21 (Gg) ?_;refine AD.two (i:=4) (j:=11) az ?_ ?_
    ·refine j3 (cf 0 [_,_]) [.string ⟨#[]⟩,.string ⟨#[]⟩] [_,_] zeroValue9 runUnderlying29 sizeOf9 (fun b8=>?_);refine j4 0 8 1 2 ?_;exact VU
    refine bz.alloc (ds:=[_,_,_,_,_,_,_,_,_,_,_,_]) rfl ap rfl rfl zeroValue32 rfl (fun b3=>?_);refine AD.one (i:=4) az ?_;refine j3 (cf 0 [_,_]) [.string ⟨#[]⟩,.string ⟨#[]⟩] [_,_] zeroValue9 runUnderlying29 sizeOf9 (fun b8=>?_);refine j4 0 8 1 2 ?_;exact VV
   refine bz.alloc (ds:=[_,_,_,_,_,_,_,_,_,_,_,_]) rfl ap rfl rfl zeroValue32 rfl (fun b3=>?_);exact z146
  ·refine j3 (cf 0 [_,_]) [.string ⟨#[]⟩,.string ⟨#[]⟩] [_,_] zeroValue9 runUnderlying29 sizeOf9 (fun b8=>?_);refine j4 0 8 1 2 ?_;refine AD.two (i:=2) (j:=11) az ?_ ?_
   ·refine lj call21 (O) ?_;refine cy 3 rfl nj ?_;exact V8
   refine bz.alloc (ds:=[_,_,_,_,_,_,_,_,_,_,_,_]) rfl ap rfl rfl zeroValue32 rfl (fun b3=>?_);refine AD.one (i:=2) az ?_;refine lj call21 (O) ?_;refine cy 3 rfl nj ?_;exact z116
  refine bz.alloc (ds:=[_,_,_,_,_,_,_,_,_,_,_,_]) rfl ap rfl rfl zeroValue32 rfl (fun b3=>?_);refine AD.two (i:=2) (j:=4) az ?_ ?_
  ·refine lj call21 (O) ?_;refine cy 3 rfl nj ?_;exact z146
  refine j3 (cf 0 [_,_]) [.string ⟨#[]⟩,.string ⟨#[]⟩] [_,_] zeroValue9 runUnderlying29 sizeOf9 (fun b8=>?_);refine j4 0 8 1 2 ?_;refine AD.one (i:=2) az ?_;refine lj call21 (O) ?_;refine cy 3 rfl nj ?_;exact z116
 rintro _ _ ⟨rfl,b3,_,K4⟩;refine CD.wk K4 ?_;refine jV [1,2,3] (fun aX _ aG=>∃(s:cm),(sV s)∧(s.kind=1+ki)∧aG=(⟨111,aX,[⟨b3,32,12,[ae s.kind,bj s.table,av 2 cC s.ay,av 3 cV s.row,av 1 cS s.names,bJ s.count,av 5 cO s.aj,bj s.order,bJ s.down,ae s.hU,bj s.set,av 5 cO s.bL]⟩,⟨b2,32,12,[ae 0,fk,bH,bH,bH,bJ false,bH,fk,bJ false,ae 0,fk,bH]⟩,⟨b1,77,14,[ae k,ae t,ae a,ae b,av 3 cV row,ae x1,ae x2,bj x3,.list 4 (Tw.mi E) E.length,ae y1,ae y2,bj y3,.list 4 (Tw.mi I) I.length,bJ bare]⟩]⟩:St)) ?_ ?_
 ·refine CD.seq ?_;refine CD.cells (k:=0) (cs':=[_,_,.list 2 [] 0,.list 3 [] 0,.list 1 [] 0,_,.list 5 [] 0,_,_,_,_,.list 5 [] 0]) (S':=[_,_,_]) rfl (by repeat (first|exact trivial|exact⟨dJ,trivial⟩|exact⟨eZ,trivial⟩|refine⟨dJ,?_⟩|refine⟨eZ,?_⟩)) rfl ?_;refine cc [1,2,3,16] ?_;refine af [1,2,3,16,17] ?_;refine aq ?_ ?_<;>intro aP bC
  ·obtain rfl:ki=0:=(by simp at aP;omega)
   refine tu ?_;refine OD.gZ ap rfl rfl rfl call18 (IB) trivial ?_;refine aF 1 ?_;refine aR 0 [_,_,_,_,_,_,_,_,_,_,_,_] sizeOf27 ?_;refine an 111 [1,2,3] ?_;refine⟨_,aK,{fW with kind:=1+0,table:=tn,ay:=bf},(Pm Z),CE,rfl⟩
  refine af [1,2,3,16,21] ?_;refine aq ?_ ?_<;>intro aZ cr
  ·obtain rfl:ki=2:=(by simp at aZ;omega)
   have alE:=jD a (show(1:Int)≤12 by decide);have alF:=lu G a 12 U qa w8;generalize dY a 12=xa at *;have alG:=jD b (show(1:Int)≤9 by decide);have alH:=lu G b 9 iZ pD w8;generalize dY b 9=xb at *;have Ht:(tZ row).size≤maxLen:=(by (cases row;decide;exact vy _ mem_cons_self))
   have yA:(mT (tZ row) 2).size≤maxLen:=(by rw[Ek];exact Nat.le_trans (Nat.min_le_left _ _) Ht)
   have dh:((⟨#[]⟩:ByteArray)++mT (tZ row) 2).size≤maxLen:=(by rw[ByteArray.size_append];show 0+_≤_;omega)
   have s8:(⟨#[]⟩:ByteArray).size+(mT (tZ row) 2).size≤9223372036854775807:=(by (have:=yA;unfold maxLen at this;show 0+_≤_;omega))
   have hu6:=(aac ((⟨#[]⟩:ByteArray)++mT (tZ row) 2)).2;refine nH 18 [1,2,3,40] ?_;refine cH (alF) ?_;refine cH (alH) ?_;refine cH (acf k t a b row x1 x2 x3 E y1 y2 y3 I bare) ?_;refine cH (Fq (tZ row) 2 Ht) ?_;refine aS 0 ?_ (h:=by exact(dz rfl bV ot (JE s8)));refine cH (Nm.ri ((⟨#[]⟩:ByteArray)++mT (tZ row) 2) dh) ?_;refine cH (tH b iZ pD) ?_;refine bI ?_;refine aF 1 ?_;refine aR 0 [_,_,_,_,_,_,_,_,_,_,_,_] sizeOf28 ?_;refine an 111 [1,2,3] ?_;refine⟨_,aK,{fW with kind:=1+2,table:=tn,row:=[⟨2,xa,⟨#[]⟩⟩,⟨2,xb,⟨#[]⟩⟩,⟨3,0,wR ((⟨#[]⟩:ByteArray)++mT (tZ row) 2)⟩,qC b]},(aaI Z alE alG hu6),CE,rfl⟩
  refine af [1,2,3,16,42] ?_;refine aq ?_ ?_<;>intro bX cA
  ·obtain rfl:ki=3:=(by simp at bX;omega)
   refine jV [1,2,3] (fun aX _ aG=>∃(N:List ByteArray),((N.length≤6∧∀x∈N,cG x=0))∧aG=(⟨111,aX,[⟨b3,32,12,[ae (1+3),bj tn,.list 2 [] 0,.list 3 [] 0,av 1 cS N,bJ false,.list 5 [] 0,fk,bJ false,ae (-1),fk,.list 5 [] 0]⟩,⟨b2,32,12,[ae 0,fk,bH,bH,bH,bJ false,bH,fk,bJ false,ae 0,fk,bH]⟩,⟨b1,77,14,[ae k,ae t,ae a,ae b,av 3 cV row,ae x1,ae x2,bj x3,.list 4 (Tw.mi E) E.length,ae y1,ae y2,bj y3,.list 4 (Tw.mi I) I.length,bJ bare]⟩]⟩:St)) ?_ ?_
   ·refine CD.seq ?_;have aqP:=jD a (show(1:Int)≤3 by decide);have alI:=lu G a 3 U qa w8;generalize dY a 3=xc at *;refine ik [1,2,3,47] ?_;refine cH (alI) ?_;refine bI ?_;refine aq ?_ ?_<;>intro cN dW
    ·have pyb:=jD b (show(1:Int)≤3 by decide);have Om:=lu G b 3 iZ pD w8;generalize dY b 3=yb at *;have hyb:yb=0∨yb=1∨yb=2:=(by omega)
     rcases hyb with rfl|rfl|rfl
     ·refine tu ?_;refine en (cf 0 [_,_,_]) [.string ⟨#[]⟩,.string ⟨#[]⟩,.string ⟨#[]⟩] [_,_,_] zeroValue9 runUnderlying29 sizeOf9 (fun Od=>?_);refine fA 0 48 1 3 ?_;refine aF 2 ?_;refine dP call21 (Om) ?_;refine aF 1 ?_;refine bN (eB (l:=0) (h:=1) rfl ot trivial ⟨_,ot⟩ Mw) ?_;refine aF 1 ?_;refine aR 0 [_,_,_,_,_,_,_,_,_,_,_,_] sizeOf29 ?_;refine an 111 [1,2,3] ?_;refine⟨_,aK,[⟨#[115]⟩],⟨by decide,by decide +kernel⟩,rfl⟩
     ·refine tu ?_;refine en (cf 0 [_,_,_]) [.string ⟨#[]⟩,.string ⟨#[]⟩,.string ⟨#[]⟩] [_,_,_] zeroValue9 runUnderlying29 sizeOf9 (fun Od=>?_);refine fA 0 48 1 3 ?_;refine aF 2 ?_;refine dP call21 (Om) ?_;refine aF 1 ?_;refine bN (eB (l:=0) (h:=2) rfl ot trivial ⟨_,ot⟩ Mw) ?_;refine aF 1 ?_;refine aR 0 [_,_,_,_,_,_,_,_,_,_,_,_] sizeOf29 ?_;refine an 111 [1,2,3] ?_;refine⟨_,aK,[⟨#[115]⟩,⟨#[105,100]⟩],⟨by decide,by decide +kernel⟩,rfl⟩
     refine tu ?_;refine en (cf 0 [_,_,_]) [.string ⟨#[]⟩,.string ⟨#[]⟩,.string ⟨#[]⟩] [_,_,_] zeroValue9 runUnderlying29 sizeOf9 (fun Od=>?_);refine fA 0 48 1 3 ?_;refine aF 2 ?_;refine dP call21 (Om) ?_;refine aF 1 ?_;refine bN (eB (l:=0) (h:=3) rfl ot trivial ⟨_,ot⟩ Mw) ?_;refine aF 1 ?_;refine aR 0 [_,_,_,_,_,_,_,_,_,_,_,_] sizeOf29 ?_;refine an 111 [1,2,3] ?_;refine⟨_,aK,[⟨#[115]⟩,⟨#[105,100]⟩,⟨#[110]⟩],⟨by decide,by decide +kernel⟩,rfl⟩
    refine CD.skip ?_;refine⟨_,aK,[],⟨by simp,fun _ h=>by cases h⟩,rfl⟩
   rintro _ ⟨N,hN,rfl⟩;refine CD.seq ?_;have aqQ:=jD a (show(1:Int)≤5 by decide);have alJ:=lu G a 5 U qa w8;generalize dY a 5=xd at *;refine dK 2 ?_;refine dP call21 (alJ) ?_;refine aF 2 ?_;refine aR 0 [_,_,_,_,_,_,_,_,_,_,_,_] sizeOf4 ?_;refine an 111 [1,2,3] ?_;refine jV [1,2,3] (fun aX _ aG=>∃(N:List ByteArray),∃(ct:Bool),((N.length≤6∧∀x∈N,cG x=0))∧(ct=true→N=[])∧aG=(⟨111,aX,[⟨b3,32,12,[ae (1+3),bj tn,.list 2 [] 0,.list 3 [] 0,av 1 cS N,bJ ct,.list 5 [] 0,fk,bJ false,ae (-1),fk,.list 5 [] 0]⟩,⟨b2,32,12,[ae 0,fk,bH,bH,bH,bJ false,bH,fk,bJ false,ae 0,fk,bH]⟩,⟨b1,77,14,[ae k,ae t,ae a,ae b,av 3 cV row,ae x1,ae x2,bj x3,.list 4 (Tw.mi E) E.length,ae y1,ae y2,bj y3,.list 4 (Tw.mi I) I.length,bJ bare]⟩]⟩:St)) ?_ ?_
   ·refine af [1,2,3,61] ?_;refine aq ?_ ?_<;>intro ec fh
    ·refine dK 1 ?_;refine aR 0 [_,_,_,_,_,_,_,_,_,_,_,_] sizeOf29 ?_;refine an 111 [1,2,3] ?_;refine⟨_,(Wk.cells (k:=0) (cs':=[_,_,_,_,.list 1 [] 0,_,_,_,_,_,_,_]) rfl (by repeat (first|exact trivial|exact⟨dJ,trivial⟩|exact⟨eZ,trivial⟩|refine⟨dJ,?_⟩|refine⟨eZ,?_⟩)) rfl).trans (aK),[],(xd==3),⟨Nat.zero_le _,fun _ h=>by cases h⟩,(fun _=>rfl),rfl⟩
    refine CD.skip ?_;refine⟨_,aK,N,(xd==3),hN,(fun h=>absurd h (by rw[ec];decide)),rfl⟩
   rintro _ ⟨N,ct,hN,hcn,rfl⟩;refine CD.seq ?_;have alK:=jD b (show(1:Int)≤4 by decide);have alL:=lu G b 4 iZ pD w8;generalize dY b 4=xe at *;obtain⟨ej,rfl⟩:=Int.eq_ofNat_of_zero_le alK.1;have On:ej<fM.length:=(by show ej<4;omega)
   have jF:=aiL fM[ej] (getElem_mem On);generalize alM:fM[ej]=od at *;refine tu ?_;refine en (cf 0 [_,_,_,_]) [.string ⟨#[]⟩,.string ⟨#[]⟩,.string ⟨#[]⟩,.string ⟨#[]⟩] [_,_,_,_] zeroValue9 runUnderlying29 sizeOf9 (fun DL=>?_);refine fA 0 63 1 4 ?_;refine aF 2 ?_;refine dP call21 (alL) ?_;refine aF 1 ?_;refine bN (cR (mk:=Op.load 9) rfl ot (by exact qB (g:=cS) (ls:=fM) (i:=ej) (d:=bj od) jf isAgg9 On (by show some (D.v (.string (fM[ej]'On)))=some (D.v (.string od));rw[alM]))) ?_;refine aF 1 ?_;refine aR 0 [_,_,_,_,_,_,_,_,_,_,_,_] sizeOf9 ?_;refine an 111 [1,2,3] ?_;refine jV [1,2,3] (fun aX _ aG=>∃(dn:Bool),(od=⟨#[]⟩→dn=false)∧aG=(⟨111,aX,[⟨b3,32,12,[ae (1+3),bj tn,.list 2 [] 0,.list 3 [] 0,av 1 cS N,bJ ct,.list 5 [] 0,bj od,bJ dn,ae (-1),fk,.list 5 [] 0]⟩,⟨b2,32,12,[ae 0,fk,bH,bH,bH,bJ false,bH,fk,bJ false,ae 0,fk,bH]⟩,⟨b1,77,14,[ae k,ae t,ae a,ae b,av 3 cV row,ae x1,ae x2,bj x3,.list 4 (Tw.mi E) E.length,ae y1,ae y2,bj y3,.list 4 (Tw.mi I) I.length,bJ bare]⟩]⟩:St)) ?_ ?_
   ·have aqR:=jD a (show(1:Int)≤2 by decide);have alN:=lu G a 2 U qa w8;generalize dY a 2=xf at *;refine dK 4 ?_;refine bP 73 (fun Mo aiM=>?_) (fun Mo aiM=>?_)
    ·refine aF 2 ?_;refine OD.gZ iq rfl rfl rfl call21 (alN) ⟨ot,bV,trivial⟩ ?_;refine aF 3 ?_;refine aR 0 [_,_,_,_,_,_,_,_,_,_,_,_] sizeOf4 ?_;refine an 111 [1,2,3] ?_;refine⟨_,aK,(xf==1),(fun h=>by rw[h] at Mo;exact absurd Mo (by decide +kernel)),rfl⟩
    refine x5 4 ?_;refine aF 2 ?_;refine aR 0 [_,_,_,_,_,_,_,_,_,_,_,_] sizeOf4 ?_;refine an 111 [1,2,3] ?_;refine⟨_,aK,false,(fun _=>rfl),rfl⟩
   rintro _ ⟨dn,Ao,rfl⟩;have aqS:=jD a (show(1:Int)≤9 by decide);have alO:=lu G a 9 U qa w8;generalize dY a 9=xg at *;refine dK 2 ?_;refine dP call21 (alO) ?_;refine aF 2 ?_;refine aR 0 [_,_,_,_,_,_,_,_,_,_,_,_] sizeOf3 ?_;refine an 111 [1,2,3] ?_;refine⟨_,aK,{fW with kind:=1+3,table:=tn,names:=N,count:=ct,order:=od,down:=dn,hU:=xg-1},(Pn Z hN hcn (jF.imp (fun h=>ahd h) id) Ao w4),CE,rfl⟩
  refine af [1,2,3,85] ?_;refine aq ?_ ?_<;>intro fj gA
  ·obtain rfl:ki=4:=(by simp at fj;omega)
   refine CD.seq ?_;have alP:=jD a (show(1:Int)≤5 by decide);have alQ:=lu G a 5 U qa w8;generalize dY a 5=xh at *;obtain⟨hj,rfl⟩:=Int.eq_ofNat_of_zero_le alP.1;have Oo:hj<AN.length:=(by show hj<5;omega)
   have hsn:=Lf AN[hj] (getElem_mem Oo);generalize alR:AN[hj]=sn at *;refine tu ?_;refine en (cf 0 [_,_,_,_,_]) [.string ⟨#[]⟩,.string ⟨#[]⟩,.string ⟨#[]⟩,.string ⟨#[]⟩,.string ⟨#[]⟩] [_,_,_,_,_] zeroValue9 runUnderlying29 sizeOf9 (fun pG=>?_);refine fA 0 87 1 5 ?_;refine aF 2 ?_;refine dP call21 (alQ) ?_;refine aF 1 ?_;refine bN (cR (mk:=Op.load 9) rfl ot (by exact qB (g:=cS) (ls:=AN) (i:=hj) (d:=bj sn) jf isAgg9 Oo (by show some (D.v (.string (AN[hj]'Oo)))=some (D.v (.string sn));rw[alR]))) ?_;refine aF 1 ?_;refine aR 0 [_,_,_,_,_,_,_,_,_,_,_,_] sizeOf9 ?_;refine an 111 [1,2,3] ?_;refine dK 2 ?_;refine dP call19 (Kx (.mk x1 x2 x3 E) hto) ?_;refine aF 1 ?_;refine aR 0 [_,_,_,_,_,_,_,_,_,_,_,_] sizeOf30 ?_;refine an 111 [1,2,3] ?_;refine⟨_,aK,{fW with kind:=1+4,table:=tn,set:=sn,bL:=gQ 3 (.mk x1 x2 x3 E)},(aaJ Z hsn (.mk x1 x2 x3 E)),CE,rfl⟩
  have alS:ki=1∨ki=5:=(by simp at aP aZ bX fj;omega)
  refine CD.skip ?_;refine⟨_,aK,{fW with kind:=1+ki,table:=tn},(by (rcases alS with rfl|rfl;exact ad5 Z;exact aaK Z)),CE,rfl⟩
 rintro _ ⟨s,Mp,Mq,rfl⟩;refine aB 4 ?_;refine bP 101 (fun Vw ahe=>?_) (fun Vw ahe=>?_)
 ·refine bq [1,2,3,105] ?_;refine aq ?_ ?_<;>intro gL kU
  ·have hg4:4≤s.kind∧bare=false:=(by (have q1:=gL;simp at q1;first|exact⟨by simpa using Vw,by simpa using q1⟩|simp_all))
   have oG:=Mp.2 (gQ 3 (.mk y1 y2 y3 I)) (Ki _) (.inl hg4.1);refine dK 2 ?_;refine dP call19 (Kx (.mk y1 y2 y3 I) NI) ?_;refine aF 1 ?_;refine aR 0 [_,_,_,_,_,_,_,_,_,_,_,_] sizeOf30 ?_;refine an 111 [2,3] ?_;refine aB 1 ?_;refine aR 1 [_,_,_,_,_,_,_,_,_,_,_,_] sizeOf32 ?_;refine an 111 [2] ?_;refine aI [] ?_;exact⟨{s with aj:=gQ 3 (.mk y1 y2 y3 I)},rfl,rfl,oG,Mq⟩
  have oG:=Mp.xw;refine aB 1 ?_;refine aR 1 [_,_,_,_,_,_,_,_,_,_,_,_] sizeOf32 ?_;refine an 111 [2] ?_;refine aI [] ?_;exact⟨s,rfl,rfl,oG,Mq⟩
 refine bq [1,2,3,105] ?_;refine fJ ?_;have oG:=Mp.xw;refine aB 1 ?_;refine aR 1 [_,_,_,_,_,_,_,_,_,_,_,_] sizeOf32 ?_;refine an 111 [2] ?_;refine aI [] ?_;exact⟨s,rfl,rfl,oG,Mq⟩

end Go.Proofs.YtdgichenhdikgaaGreatDoor.Pa
namespace Go.Proofs.YtdgichenhdikgaaGreatDoor.Ba
open List
open Go.Proofs.Tryz
open Go.RowKit V Pk Tr Vl Go.Proofs.YtdgichenhdikgaaGreatDoor.Nm Pc Cd Ex Tw
open Pa (cm bK jA gg jk fY iC ji gp)
variable {l:List aM} {a c:Nat}
theorem Lg{v:Vl}(h:bW v=0)(h1:-9223372036854775808≤v.n)(h2:v.n≤9223372036854775807):v.Ok:=by
 unfold bW at h;have hk:(0≤v.k∧v.k≤3)∧v.s.size≤20:=by
  repeat' split at h
  all_goals first|(cases h;done)|omega
 exact⟨by omega,by omega,h1,h2,Nat.le_trans hk.2 w8⟩
theorem Qz{α:Type}{f:α→Int}:∀{l:List α},Pa.jL f l=0→∀a∈l,f a=0
 | [],_,a,ha=>by cases ha
 | x::r,h,a,ha=>by
  rw[Pa.jL] at h;split at h
  ·rename_i hx;exact absurd h hx
  rename_i hx;rcases mem_cons.1 ha with rfl|ha
  ·exact Classical.not_not.1 hx
  exact Qz h a ha
theorem Jq{w:List aJ}(h:Pa.nS w=0):∀o∈w,bW o.v=0:=fun o ho=>by
 unfold Pa.nS at h;split at h
 ·rename_i h0;rw[length_eq_zero_iff.1 h0] at ho;cases ho
 obtain⟨h',h1⟩:=EX w 0 (wF h).2 o ho;exact AZ (tN h1).2.2.1
theorem afH{w:List aJ}(h:gz w=0):∀o∈w,bW o.v=0:=fun o ho=>by
 obtain⟨h',h1⟩:=EX w 0 (wF h).2 o ho;exact AZ (tN h1).2.2.1
structure CC (s:cm):Prop where
 fin:jA s
 row:∀v∈s.row,v.Ok
 wnm:∀o∈s.aj,o.nm.size≤maxLen
 wok:∀o∈s.aj,o.v.Ok
 Y2:∀o∈s.bL,o.nm.size≤maxLen
 Y3:∀o∈s.bL,o.v.Ok
theorem Lf{s:cm}(hf:jA s)(de:1≤s.kind)(Am:s.kind≤6)(hc:fY s=0):CC s:=by
 unfold fY at hc;split at hc
 ·rename_i h1;exact absurd hc h1.2
 split at hc
 ·cases hc
 rename_i h1 h2;have hb:ji s (gp s)=true:=by
  cases h:ji s (gp s) with
  | true=>rfl
  | false=>exact absurd ⟨hc,h⟩ h2
 unfold ji at hb;simp only[Bool.and_eq_true,beq_iff_eq] at hb;have hr:∀v∈s.row,bW v=0:=by
  by_cases h3:s.kind=3
  ·unfold iC at hc;rw[if_neg w4,if_pos h3] at hc;unfold Pa.dB at hc;split at hc
   ·cases hc
   exact fun v O=>AZ (Qz hc v O)
  have E:(s.row.length:Int)=((gp s).row.length:Int):=hb.2.2.1;have h0:(gp s).row=[]:=(by unfold gp;split;rfl;split;rfl;split;rfl;split;rfl;rfl)
  rw[h0] at E;have:s.row=[]:=length_eq_zero_iff.1 (by simpa using E);rw[this];intro v O;cases O
 have hw:∀o∈s.aj,bW o.v=0:=by
  by_cases h3:4≤s.kind
  ·unfold iC at hc;rw[if_neg w4,if_neg w4] at hc;by_cases h4:s.kind=4
   ·rw[if_pos h4] at hc;unfold Pa.pc at hc;split at hc
    ·cases hc
    split at hc
    ·cases hc
    split at hc
    ·cases hc
    split at hc
    ·rename_i I;exact absurd hc I
    split at hc
    ·rename_i I;exact absurd hc I
    rename_i I;exact Jq (Classical.not_not.1 I)
   rw[if_neg h4] at hc;by_cases h5:s.kind=5
   ·rw[if_pos h5] at hc;split at hc
    ·split at hc
     ·exact Jq hc
     rename_i I;exact absurd hc I
    rename_i I;exact absurd hc I
   rw[if_neg h5,if_pos w4] at hc;exact Jq hc
  have E:(s.aj.length:Int)=((gp s).aj.length:Int):=hb.2.2.2.2.2.1;have h0:(gp s).aj=[]:=(by unfold gp;split;rfl;split;rfl;rw[if_neg w4,if_neg w4,if_neg w4];rfl)
  rw[h0] at E;have:s.aj=[]:=length_eq_zero_iff.1 (by simpa using E);rw[this];intro v O;cases O
 have hx:∀o∈s.bL,bW o.v=0:=by
  by_cases h5:s.kind=5
  ·unfold iC at hc;rw[if_neg w4,if_neg w4,if_neg w4,if_pos h5] at hc;split at hc
   ·split at hc
    ·rename_i I;exact afH I
    rename_i I;exact absurd hc I
   rename_i I;exact absurd hc I
  have E:(s.bL.length:Int)=((gp s).bL.length:Int):=(by simpa using hb.2.2.2.2.2.2.2.2.2.2)
  have h0:(gp s).bL=[]:=(by unfold gp;split;rfl;split;rfl;split;rfl;split;rfl;rfl)
  rw[h0] at E;have:s.bL=[]:=length_eq_zero_iff.1 (by simpa using E);rw[this];intro v O;cases O
 exact⟨hf,fun v O=>Lg (hr v O) (hf.r v O).1 (hf.r v O).2,fun o ho=>(hf.w o ho).1,fun o ho=>Lg (hw o ho) (hf.w o ho).2.1 (hf.w o ho).2.2,fun o ho=>(hf.x o ho).1,fun o ho=>Lg (hx o ho) (hf.x o ho).2.1 (hf.x o ho).2.2⟩
theorem jk.st{s:cm}(h:jk s):CC s:=Lf h.1 h.2.1 h.2.2.1 h.2.2.2.2
structure pU (l:List aM) (a c:Nat):Prop where
 g:pT l (a*(1+c))
 r:∀t∈l,t.rows.length≤a
theorem ad6(s:cm)(h:cG s.table=0)(hc:s.ay=bf):eu (gI s) 0:=⟨h,hc,Nat.zero_le _,adF,fun i h=>absurd h (Nat.not_lt_zero _),fun x hx=>by
 have:dQ p8=[]:=adG;rw[show(gI s).ix=p8 from rfl,this] at hx;cases hx⟩
theorem pT.mono{l:List aM}{n m:Nat}(g:pT l n)(h:n≤m):pT l m:=⟨g.eE,fun t ht=>(g.tb t ht).mono h,g.sz,g.HM⟩
theorem pT.put{n:Nat}(g:pT l n){i:Nat}(hi:i<l.length){t:aM}(ht:eu t n)(hn:t.nm=l[i].nm):pT (l.set i t) n:=by
 refine⟨by rw[length_set];exact g.eE,fun x hx=>?_,fun x hx=>?_,?_⟩
 ·rcases mem_or_eq_of_mem_set hx with h|h
  ·exact g.tb x h
  rw[h];exact ht
 ·rcases mem_or_eq_of_mem_set hx with h|h
  ·exact g.sz x h
  rw[h,hn];exact g.sz _ (getElem_mem hi)
 have hm:(l.set i t).map aM.nm=l.map aM.nm:=by
  exact VJ
 have h1:∀l:List aM,(l.Pairwise fun a b=>a.nm.toList≠b.nm.toList)↔(l.map aM.nm).Pairwise fun a b=>a.toList≠b.toList:=fun l=>by rw[pairwise_map]
 rw[h1,hm,←h1];exact g.HM

theorem UU(t:aM)(row:List Vl):(gq t row).1.nm=t.nm:=by
 unfold gq;by_cases h1:Pc.dB t.ay row≠0
 ·rw[if_pos h1]
 rw[if_neg h1];cases iA t.ix (cJ row) (dm t.ix) with
 | true=>rw[if_pos rfl]
 | false =>
  rw[if_neg w8];by_cases h3:t.rows.length=40
  ·rw[if_pos h3]
  rw[if_neg h3]
theorem Uf:∀(l:List Int) (t:aM),(rL t l).nm=t.nm
 | [],_=>rfl
 | _::l,t=>(Uf l _).trans rfl
theorem UW(t:aM)(w:List aJ):(mJ t w).1.nm=t.nm:=by unfold mJ;split;rfl;exact Uf _ _
theorem Ug{c:Nat}:∀(l:List Int) (vs:List Vl) (t:aM),(mW c t l vs).nm=t.nm
 | [],_,t=>by unfold mW;rfl
 | _::_,[],t=>by unfold mW;rfl
 | _::l,_::vs,t=>(Ug l vs _).trans rfl
theorem Sj:∀(l:List Int) (vs:List Vl) (t:aM),(kG t l vs).1.nm=t.nm
 | [],_,t=>by unfold kG;rfl
 | _::_,[],t=>by unfold kG;rfl
 | _::l,_::vs,t=>by
  rw[kG];split
  ·rfl
  exact(Sj l vs _).trans rfl
theorem UX(t:aM)(s:cm):(gW t s).1.nm=t.nm:=by
 unfold gW;repeat' split
 all_goals first|rfl|exact Ug _ _ _|exact(Sj _ _ _).trans rfl
theorem ahf{nm:ByteArray}(h:aT l nm<0):∀t∈l,t.nm.toList≠nm.toList:=fun t ht e=>by
 unfold aT cU at h;split at h
 ·omega
 rename_i h1;have:=findIdx?_eq_none_iff.1 h1 t ht;rw[e] at this;simp at this
theorem Sk(h:a+c≤30):a*(1+c)≤260:=by
 have key:∀a<31,∀c<31,a+c≤30→a*(1+c)≤260:=(by decide +kernel)
 exact key a w4 c w4 h
theorem Vx:a*(1+c)+1≤(a+1)*(1+c):=by rw[Nat.add_mul];omega
theorem Vy:a*(1+c)+a=a*(1+(c+1)):=by rw[←Nat.add_assoc,Nat.mul_add a (1+c) 1,Nat.mul_one]
theorem pU.put{l:List aM}{a c a' E:Nat}(g:pU l a c)(h:a*(1+c)≤a'*(1+E))(ha:a≤a'){i:Nat}(hi:i<l.length){t:aM}(ht:eu t (a'*(1+E)))(hr:t.rows.length≤a')(hn:t.nm=l[i].nm):pU (l.set i t) a' E:=by
 refine⟨(g.g.mono h).put hi ht hn,fun x hx=>?_⟩;rcases mem_or_eq_of_mem_set hx with hx|hx
 ·exact Nat.le_trans (g.r x hx) ha
 rw[hx];exact hr
theorem KK{i:Nat}(hi:i<l.length){t:aM}(hn:t.nm=l[i].nm):(l.set i t).map aM.nm=l.map aM.nm:=by
 exact VJ
theorem Jr(g:pU l a c)(O:a+c≤30){s:cm}(hs:CC s)(fb:¬s.kind=2)(qS:cG s.table=0)(I:s.kind=1→s.ay=bf)(h0:(gD l s).2.2=0) :
  ∃a' U,a'+U≤a+c+1∧pU (gD l s).1 a' U∧(s.kind=1→(gD l s).1=l++[gI s]∧a'=a∧U=c)∧(¬s.kind=1→(gD l s).1.map aM.nm=l.map aM.nm):=by
 have hb:=Sk O;have iZ:=wE (fun t:aM=>t.nm.toList==s.table.toList) l;rw[show cU (fun t:aM=>t.nm.toList==s.table.toList) l=aT l s.table from rfl] at iZ;unfold gD at h0 ⊢;by_cases de:s.kind=1
 ·rw[if_pos de] at h0 ⊢;dsimp only at h0;unfold qs at h0 ⊢;by_cases h1:0≤aT l s.table
  ·rw[if_pos h1] at h0;cases h0
  rw[if_neg h1] at h0 ⊢;by_cases h2:l.length=4
  ·rw[if_pos h2] at h0;cases h0
  rw[if_neg h2] at h0 ⊢;have Z:=ad6 s qS (I de);have hf:=g.g.eE;refine⟨a,c,by omega,⟨⟨by rw[length_append,length_singleton];omega,fun t ht=>?_,fun t ht=>?_,?_⟩,fun t ht=>?_⟩,fun _=>⟨rfl,rfl,rfl⟩,fun h=>absurd de h⟩
  ·rcases mem_append.1 ht with ht|ht
   ·exact g.g.tb t ht
   rw[mem_singleton] at ht;rw[ht];exact Z.mono (Nat.zero_le _)
  ·rcases mem_append.1 ht with ht|ht
   ·exact g.g.sz t ht
   rw[mem_singleton] at ht;rw[ht];exact hs.fin.t
  ·refine pairwise_append.2 ⟨g.g.HM,pairwise_singleton _ _,fun x hx y hy=>?_⟩;rw[mem_singleton] at hy;subst hy;exact ahf (show aT l s.table<0 by omega) x hx
  rcases mem_append.1 ht with ht|ht
  ·exact g.r t ht
  rw[mem_singleton] at ht;rw[ht];exact Nat.zero_le _
 rw[if_neg de] at h0 ⊢;by_cases h1:aT l s.table<0
 ·rw[if_pos h1] at h0;cases h0
 rw[if_neg h1] at h0 ⊢;have E:(aT l s.table).toNat<l.length:=(by omega)
 have ke:l.getD (aT l s.table).toNat (gI s)=l[(aT l s.table).toNat]:=(by rw[getD_eq_getElem?_getD,getElem?_eq_getElem E];rfl)
 rw[ke] at h0 ⊢;have gt:=g.g.tb _ (getElem_mem E);have gr:=g.r _ (getElem_mem E);by_cases h3:s.kind=3
 ·rw[if_pos h3] at h0 ⊢;obtain⟨q1,q2⟩:=ab7 gt w4 hs.row h0;exact⟨a+1,c,by omega,g.put (Nat.le_trans (Nat.le_succ _) Vx) (Nat.le_succ _) E (q1.mono Vx) w4 (UU _ _),fun h=>absurd h de,fun _=>KK E (UU _ _)⟩
 rw[if_neg h3] at h0 ⊢;by_cases h4:s.kind=4
 ·rw[if_pos h4];exact⟨a,c,by omega,g,fun h=>absurd h de,fun _=>rfl⟩
 rw[if_neg h4] at h0 ⊢;by_cases h5:s.kind=5
 ·rw[if_pos h5];obtain⟨q1,q2⟩:=ab8 gt s hs.Y2 hs.Y3 hb;exact⟨a,c+1,by omega,g.put (by rw[←Vy];omega) (Nat.le_refl _) E (q1.mono (by rw[←Vy];omega)) w4 (UX _ _),fun h=>absurd h de,fun _=>KK E (UX _ _)⟩
 rw[if_neg h5];obtain⟨q1,q2⟩:=Zz gt s.aj;exact⟨a,c,by omega,g.put (Nat.le_refl _) (Nat.le_refl _) E q1 w4 (UW _ _),fun h=>absurd h de,fun _=>KK E (UW _ _)⟩

end Go.Proofs.YtdgichenhdikgaaGreatDoor.Ba

namespace Go.Proofs.YtdgichenhdikgaaGreatDoor.Pa
open List
open Go.Proofs.Tryz
open Go.RowKit V Pk Go.Proofs.YtdgichenhdikgaaGreatDoor.Vl Go.Proofs.YtdgichenhdikgaaGreatDoor.Nm Go.Proofs.YtdgichenhdikgaaGreatDoor.Pc
section
variable {H:Type} {enc:TypeId×Value→H} {P:Program} {w:World} {base:Nat} {sp:Nat→Bool} {held:Bool}
theorem aaL {fuel:Nat} {t:TypeId} {f0 f1 f2 f3 f4 f5 f6 f7:Field} {E I O U Z α5 α6 α7:Type} {g0:E→List D} {k0:E→Prop} {g1:I→List D} {k1:I→Prop} {g2:O→List D} {k2:O→Prop} {g3:U→List D} {k3:U→Prop} {g4:Z→List D} {k4:Z→Prop} {g5:α5→List D} {k5:α5→Prop} {g6:α6→List D} {k6:α6→Prop} {g7:α7→List D} {k7:α7→Prop} {n0 n1 n2 n3 n4 n5 n6 n7:Nat}
  (ht:P.underlying t=some (.struct #[f0,f1,f2,f3,f4,f5,f6,f7])) (hc:P.cellsOf t=n0+n1+n2+n3+n4+n5+n6+n7) (o0:f0.offset=0) (c0:P.cellsOf f0.type=n0) (o1:f1.offset=n0) (c1:P.cellsOf f1.type=n1) (o2:f2.offset=n0+n1) (c2:P.cellsOf f2.type=n2) (o3:f3.offset=n0+n1+n2) (c3:P.cellsOf f3.type=n3) (o4:f4.offset=n0+n1+n2+n3) (c4:P.cellsOf f4.type=n4) (o5:f5.offset=n0+n1+n2+n3+n4) (c5:P.cellsOf f5.type=n5) (o6:f6.offset=n0+n1+n2+n3+n4+n5) (c6:P.cellsOf f6.type=n6) (o7:f7.offset=n0+n1+n2+n3+n4+n5+n6) (c7:P.cellsOf f7.type=n7)
  (r0:∀n,n+1=fuel→lY n enc P w base sp held f0.type g0 k0) (r1:∀n,n+1=fuel→lY n enc P w base sp held f1.type g1 k1) (r2:∀n,n+1=fuel→lY n enc P w base sp held f2.type g2 k2) (r3:∀n,n+1=fuel→lY n enc P w base sp held f3.type g3 k3) (r4:∀n,n+1=fuel→lY n enc P w base sp held f4.type g4 k4) (r5:∀n,n+1=fuel→lY n enc P w base sp held f5.type g5 k5) (r6:∀n,n+1=fuel→lY n enc P w base sp held f6.type g6 k6) (r7:∀n,n+1=fuel→lY n enc P w base sp held f7.type g7 k7) :
  lY fuel enc P w base sp held t (fun a:E × I × O × U × Z × α5 × α6 × α7=>(g0 (a.1)++(g1 (a.2.1)++(g2 (a.2.2.1)++(g3 (a.2.2.2.1)++(g4 (a.2.2.2.2.1)++(g5 (a.2.2.2.2.2.1)++(g6 (a.2.2.2.2.2.2.1)++g7 (a.2.2.2.2.2.2.2))))))))) (fun a=>k0 (a.1)∧k1 (a.2.1)∧k2 (a.2.2.1)∧k3 (a.2.2.2.1)∧k4 (a.2.2.2.2.1)∧k5 (a.2.2.2.2.2.1)∧k6 (a.2.2.2.2.2.2.1)∧k7 (a.2.2.2.2.2.2.2)):=fun cs x h=>by
 obtain⟨xs,n,hn,_,hl,fZ,hf⟩:=DataW.trod_struct ht h;have e0:=hf 0 f0 rfl;have e1:=hf 1 f1 rfl;have e2:=hf 2 f2 rfl;have e3:=hf 3 f3 rfl;have e4:=hf 4 f4 rfl;have e5:=hf 5 f5 rfl;have e6:=hf 6 f6 rfl;have e7:=hf 7 f7 rfl;rw[o0,c0,drop_zero] at e0;rw[o1,c1] at e1;rw[o2,c2] at e2;rw[o3,c3] at e3;rw[o4,c4] at e4;rw[o5,c5] at e5;rw[o6,c6] at e6;rw[o7,c7] at e7;have hx8:xs.length=8:=fZ;rw[getElem?_eq_getElem w4] at e0 e1 e2 e3 e4 e5 e6 e7;obtain⟨a0,p0,q0⟩:=r0 n hn.symm _ _ e0;obtain⟨a1,p1,q1⟩:=r1 n hn.symm _ _ e1;obtain⟨a2,p2,q2⟩:=r2 n hn.symm _ _ e2;obtain⟨a3,p3,q3⟩:=r3 n hn.symm _ _ e3;obtain⟨a4,p4,q4⟩:=r4 n hn.symm _ _ e4;obtain⟨a5,p5,q5⟩:=r5 n hn.symm _ _ e5;obtain⟨a6,p6,q6⟩:=r6 n hn.symm _ _ e6;obtain⟨a7,p7,q7⟩:=r7 n hn.symm _ _ e7;refine⟨(a0,a1,a2,a3,a4,a5,a6,a7),?_,q0,q1,q2,q3,q4,q5,q6,q7⟩;have dh:cs=(cs.take n0++((cs.drop (n0)).take n1++((cs.drop (n0+n1)).take n2++((cs.drop (n0+n1+n2)).take n3++((cs.drop (n0+n1+n2+n3)).take n4++((cs.drop (n0+n1+n2+n3+n4)).take n5++((cs.drop (n0+n1+n2+n3+n4+n5)).take n6++((cs.drop (n0+n1+n2+n3+n4+n5+n6)).take n7)))))))):=by
  rw[take_of_length_le (l:=drop (n0+n1+n2+n3+n4+n5+n6) cs) (by rw[length_drop];omega)];have d2:cs.drop (n0+n1)=(cs.drop (n0)).drop n1:=(by rw[drop_drop])
  have d3:cs.drop (n0+n1+n2)=(cs.drop (n0+n1)).drop n2:=(by rw[drop_drop])
  have d4:cs.drop (n0+n1+n2+n3)=(cs.drop (n0+n1+n2)).drop n3:=(by rw[drop_drop])
  have d5:cs.drop (n0+n1+n2+n3+n4)=(cs.drop (n0+n1+n2+n3)).drop n4:=(by rw[drop_drop])
  have d6:cs.drop (n0+n1+n2+n3+n4+n5)=(cs.drop (n0+n1+n2+n3+n4)).drop n5:=(by rw[drop_drop])
  have d7:cs.drop (n0+n1+n2+n3+n4+n5+n6)=(cs.drop (n0+n1+n2+n3+n4+n5)).drop n6:=(by rw[drop_drop])
  rw[d7,take_append_drop,d6,take_append_drop,d5,take_append_drop,d4,take_append_drop,d3,take_append_drop,d2,take_append_drop,take_append_drop]
 rw[dh];exact(p0.append (p1.append (p2.append (p3.append (p4.append (p5.append (p6.append p7)))))))
end


structure Ph where
 k:Int
 t:Int
 a:Int
 b:Int
 row:List Vl
 bL:Tw
 wh:Tw
 bare:Bool
def Ph.cs(p:Ph):List D:=[ae p.k]++([ae p.t]++([ae p.a]++([ae p.b]++([av 3 cV p.row]++(p.bL.cs++(p.wh.cs++[bJ p.bare]))))))
structure Ph.Ok (p:Ph):Prop where
 k:-9223372036854775808≤p.k∧p.k≤9223372036854775807
 t:-9223372036854775808≤p.t∧p.t≤9223372036854775807
 a:-9223372036854775808≤p.a∧p.a≤9223372036854775807
 b:-9223372036854775808≤p.b∧p.b≤9223372036854775807
 row:∀v∈p.row,v.s.size≤maxLen
 bL:p.bL.Ok
 wh:p.wh.Ok
theorem afI{H:Type}{enc:TypeId×Value→H}{w:World}{base:Nat}{sp:Nat→Bool}{held:Bool}:pz enc Tryz.prog w base sp held 114 cV (fun v:Vl=>v.s.size≤maxLen) :=
 (Z4 (n0:=1) (n1:=1) (n2:=1) underlying114 az rfl rfl rfl az az az (va underlying3) (va underlying3) (Py underlying9)).map (fun a=>(⟨a.1,a.2.1,a.2.2⟩:Vl)) (fun _=>rfl) (fun _ h=>h.2.2)
theorem aaM{H:Type}{enc:TypeId×Value→H}{w:World}{base:Nat}{sp:Nat→Bool}{held:Bool}(n:Nat):lY n enc Tryz.prog w base sp held 77 Ph.cs Ph.Ok:=fun cs x h=>by
 obtain⟨⟨a0,a1,a2,a3,a4,a5,a6,a7⟩,h1,q0,q1,q2,E,I,O,U,_⟩:=aaL (fuel:=n) (n0:=1) (n1:=1) (n2:=1) (n3:=1) (n4:=1) (n5:=4) (n6:=4) (n7:=1) underlying77 az rfl az rfl az rfl az rfl az rfl az rfl az rfl az rfl az
  (fun q _=>(va underlying3).at q) (fun q _=>(va underlying3).at q) (fun q _=>(va underlying3).at q) (fun q _=>(va underlying3).at q) (fun q _=>PC (sz:=3) underlying75 az w8 (fun z _=>afI.at z) ff) (fun q _=>I7 q) (fun q _=>I7 q) (fun q _=>(aep underlying4).at q) cs x h
 exact⟨⟨a0,a1,a2,a3,a4,a5,a6,a7⟩,h1,⟨q0,q1,q2,E,I.1,O,U⟩⟩
end Go.Proofs.YtdgichenhdikgaaGreatDoor.Pa

namespace Go.Proofs.YtdgichenhdikgaaGreatDoor.Ba
open List
open Go.Proofs.Tryz
open Go.RowKit V Pk Tr Vl Go.Proofs.YtdgichenhdikgaaGreatDoor.Nm Pc Cd Ex Tw
open Pa (cm bK jA gg jk fY iC ji gp fW dZ Ph)
variable {G:List (Nat×List Value)} {m:Int}
variable {l:List aM}
theorem VC.GY{P:Program}{f:FuncId}{args args':List D}{S:List ah}{post:D→List ah→Prop}(h:VC P G f args S post)(k:qj args' args):VC P G f args' S post:=by
 obtain⟨h1,h2⟩:=k.spec;exact h.args h1.symm fun w L i q1 q2 v hr=>h2 i q2 q1 _ _ _ hr
theorem Um(hm:(3,marksC)∈G)(hw:(1,wordsC)∈G)(ht:(0,typesC)∈G)(hG:(2,[Value.int .i64 m])∈G)(p:Ph)(h:p.Ok):VC Tryz.prog G 23 [.agg p.cs] [] (fun r S'=>∃s,r = .agg (bK s)∧S'=[]∧jk s∧s.kind=1+dY p.k 6):=by
 obtain⟨k,t,a,b,row,⟨x1,O,U,E⟩,⟨y1,y2,y3,I⟩,bare⟩:=p;exact Pa.ZA k t a b row x1 O U E y1 y2 y3 I bare h.k.1 h.k.2 h.t.1 h.t.2 h.a.1 h.a.2 h.b.1 h.b.2 h.row h.bL h.wh
theorem F7(hm:(3,marksC)∈G)(hw:(1,wordsC)∈G)(ht:(0,typesC)∈G)(hG:(2,[Value.int .i64 m])∈G){a c:Nat}(g:pU l a c)(E:a+c≤30){s:cm}(hs:CC s)(fb:¬s.kind=2)(qS:s.kind≤6→cG s.table=0)(Am:s.kind≤6)(I:s.kind=1→s.ay=bf):VP Tryz.prog G 11 [.agg [av 5 cY (l)],.agg (bK s)] (AM (mX l s)):=by
 refine ahc hm hw ht hG l (Sk E) g.g s hs.fin fb hs.row hs.wnm hs.wok hs.Y2 hs.Y3 fun h0=>?_;obtain⟨a',c',_,g',_⟩:=Jr g E hs fb (qS Am) I h0;exact⟨Nat.le_trans g'.g.eE w8,fun t ht=>(g'.g.tb t ht).small⟩
theorem Uh{s:cm}(h:(mX l s).2.2=0):(gD l s).2.2=0∧(mX l s).1=(gD l s).1:=by
 unfold mX at h ⊢;by_cases h1:gg s≠0
 ·rw[if_pos h1] at h;exact absurd h h1
 rw[if_neg h1] at h ⊢;by_cases h2:7≤s.kind
 ·rw[if_pos h2] at h;cases h
 rw[if_neg h2] at h ⊢;by_cases h3:(gD l s).2.2≠0
 ·rw[if_pos h3] at h;exact absurd h h3
 rw[if_neg h3];exact⟨Classical.not_not.1 h3,rfl⟩
def jW(x:ByteArray):cm:={fW with kind:=1,table:=x,ay:=bf}
theorem ad8:∀x∈dZ,gg (jW x)=0:=by decide +kernel
theorem Ui{x:ByteArray}(hx:x∈dZ):CC (jW x):=jk.st (Pa.sV.xw (Pa.Pm (Pa.F6 x hx)))
def WX:List aM:=dZ.map fun x=>gI (jW x)
theorem UY:∀i (h:i<dZ.length),mX ((dZ.take i).map fun x=>gI (jW x)) (jW dZ[i])=((dZ.take (i+1)).map (fun x=>gI (jW x)),(([],0),0)):=by
 intro i h;have hx:dZ[i]∈dZ:=getElem_mem h;unfold mX;rw[if_neg (by rw[ad8 _ hx];decide),if_neg (by show ¬(7:Int)≤1;decide)];have h1:gD ((dZ.take i).map fun x=>gI (jW x)) (jW dZ[i])=((dZ.take (i+1)).map (fun x=>gI (jW x)),(([],0),0)):=by
  have h2:i=0∨i=1:=(by have:dZ.length=2:=rfl;omega)
  rcases h2 with rfl|rfl
  ·exact(show gD ((dZ.take 0).map fun x=>gI (jW x)) (jW (dZ[0]'w8))=((dZ.take 1).map (fun x=>gI (jW x)),(([],0),0)) by kernel_rfl)
  exact(show gD ((dZ.take 1).map fun x=>gI (jW x)) (jW (dZ[1]'w8))=((dZ.take 2).map (fun x=>gI (jW x)),(([],0),0)) by kernel_rfl)
 rw[h1];rfl
theorem za(p:Ph):p.cs.length=14:=by
 obtain⟨k,t,a,b,row,⟨x1,O,U,E⟩,⟨y1,y2,y3,I⟩,bare⟩:=p;rfl
theorem acg:pU [] 0 0:=⟨⟨by decide,(fun t h=>by cases h),(fun t h=>by cases h),Pairwise.nil⟩,(fun t h=>by cases h)⟩
theorem Un:(Nm.Tw.mk 0 0 ⟨#[]⟩ []).Ok:=by constructor<;>first|decide|(simp;done)|trivial
theorem afJ{s:cm}(h:jk s):cG s.table=0:=by
 have hc:=h.2.2.2.2;have h6:=h.2.2.1;unfold fY at hc;split at hc
 ·rename_i h1;exact absurd hc h1.2
 rename_i h1;exact Classical.not_not.1 fun e=>h1 ⟨by omega,e⟩
theorem WY:∀i,i≤2→pU ((dZ.take i).map fun x=>gI (jW x)) 0 0:=by
 intro i;induction i with
 | zero=>intro _;exact acg
 | succ i ih =>
  intro hi;have aa:i<dZ.length:=(by have:dZ.length=2:=rfl;omega)
  have hr:=UY i aa;have h0:(mX ((dZ.take i).map fun x=>gI (jW x)) (jW dZ[i])).2.2=0:=(by rw[hr])
  obtain⟨h1,h2⟩:=Uh h0;obtain⟨a',c',_,g',h4,_⟩:=Jr (ih w4) w8 (Ui (getElem_mem aa)) (show ¬(1:Int)=2 by decide) (Pa.F6 _ (getElem_mem aa)) (fun _=>rfl) h1;obtain⟨_,rfl,rfl⟩:=h4 rfl;rw[←h2,hr] at g';exact g'
theorem afK(hm:(3,marksC)∈G)(hw:(1,wordsC)∈G)(ht:(0,typesC)∈G)(hG:(2,[Value.int .i64 m])∈G)(ps:List Ph)(gX:∀p∈ps,p.Ok)(fK:ps.length≤maxLen):VC Tryz.prog G 9 [.list 14 (ps.flatMap Ph.cs) ps.length] [] (fun r S=>∃l a c,r = .agg [av 5 cY (l)]∧S=[]∧pU l a c∧a+c≤30∧l.map aM.nm=dZ):=by
 refine VC.body func9 rfl ntmps9 aO fun X0 w0 bg=>?_;have c8:=dR;have uG:dZ.length=2:=rfl;skip;refine bU ?_;refine OD.alloc (ds:=[_]) ap rfl rfl zeroValue25 rfl (fun b2=>?_);refine an 88 [0,2] ?_;refine bU ?_;refine OD.alloc (ds:=[_]) ap rfl rfl zeroValue25 rfl (fun b3=>?_);refine OD.cells (k:=0) (cs':=[.list 5 [] 0]) rfl ⟨eZ,trivial⟩ rfl ?_;refine an 88 [0,2,3] ?_;refine af [0,2,3,4] ?_;refine eA [0,2,3] (fun aX _ (i:Nat) aG=>(i≤2)∧aG=(⟨88,(4,ae (i:Nat))::aX,[⟨b3,25,1,[.list 5 ((((dZ.take i).map fun x=>gI (jW x))).flatMap cY) (((dZ.take i).map fun x=>gI (jW x))).length]⟩,⟨b2,25,1,[bH]⟩]⟩:St)) (fun (i:Nat)=>2-i) 0 ⟨(Nat.zero_le _),rfl⟩ ?_;rintro i _ ⟨hi,rfl⟩;refine af [0,2,3,4,14] ?_;refine aq ?_ ?_<;>intro aP bC
 ·have aa:i<dZ.length:=(by omega)
  have O:=VC.GY (F7 hm hw ht hG (l:=((dZ.take i).map fun x=>gI (jW x))) (a:=0) (c:=0) (s:=jW (dZ[i]'aa)) (WY i w4) w8 (Ui (getElem_mem aa)) (show ¬(1:Int)=2 by decide) (fun _=>Pa.F6 _ (getElem_mem aa)) (show(1:Int)≤6 by decide) (fun _=>rfl)) (args':=[.agg [.list 5 ((((dZ.take i).map fun x=>gI (jW x))).flatMap cY) (((dZ.take i).map fun x=>gI (jW x))).length],.agg [ae 1,bj (dZ[i]'aa),av 2 cC bf,bH,bH,bJ false,bH,fk,bJ false,ae (-1),fk,bH]]) ⟨dJ,BA ⟨dJ,dJ,dJ,eZ,eZ,dJ,eZ,dJ,dJ,dJ,dJ,eZ,trivial⟩,trivial⟩;rw[UY i aa] at O;unfold AM at O;refine CD.skip ?_;refine CD.seq ?_;refine CD.block ?_;refine CD.seq ?_;refine NA 14 13 12 [0,2,3,4,5,6,26,27,28] ?_;refine mg 1 ?_;refine Ns (g:=cS) (dZ) ?_;refine cH (IB) ?_;refine cH (O) ?_;refine mg 4 ?_;refine og ?_;refine og ?_;refine jb ?_;refine⟨rfl,rfl,fun b6 b5=>?_⟩;refine aR 1 [_] sizeOf25 ?_;refine aR 0 [_,_] sizeOf36 ?_;refine an 88 [0,2,3,4,5,7] ?_;refine af [0,2,3,4,5,30] ?_;refine aq ?_ ?_<;>intro aZ cr
  ·refine dK 1 ?_;refine aR 2 [_] sizeOf25 ?_;refine an 88 [0,2,3,4] ?_;refine cc [0,2,3,4] ?_;refine⟨(i+1),_,cq,aK,w4,rfl⟩
  exact absurd aZ (by simp at aZ)
 have l9:i=2:=(by omega)
 subst l9;have htw:((dZ.take 2).map fun x=>gI (jW x))=WX:=rfl;refine af [0,2,3,8] ?_;refine eA [0,2,3] (fun aX _ (U:Nat×List aM×Nat×Nat) aG=>match U with|(k,l,a,c)=>(k≤30)∧(k≤ps.length)∧(a+c≤k)∧(pU l a c)∧((l).map aM.nm=dZ)∧aG=(⟨88,(8,ae (k:Nat))::aX,[⟨b3,25,1,[av 5 cY (l)]⟩,⟨b2,25,1,[bH]⟩]⟩:St)) (fun (U:Nat×List aM×Nat×Nat)=>match U with|(k,l,a,c)=>30-k) (0,WX,0,0) ⟨(Nat.zero_le _),(Nat.zero_le _),(Nat.le_refl _),(WY 2 (Nat.le_refl _)),rfl,rfl⟩ ?_;rintro⟨k,l,a,c⟩ _ ⟨j9,hkp,Oq,gn,I,rfl⟩;refine aB 5 ?_;refine bP 36 (fun alT aiN=>?_) (fun alT aiN=>?_)
 ·refine bq [0,2,3,8,39] ?_;refine aq ?_ ?_<;>intro bX cA
  ·have aa:k<ps.length:=(by first|omega|(simp at *;omega))
   have aqT:k<30:=(by first|omega|(simp at *;omega))
   have rQ:=gX (ps[k]'aa) (getElem_mem aa);refine aB 3 ?_;refine bN (cR (mk:=Op.load 77) rfl ot (jZ (g:=Ph.cs) (ls:=ps) (i:=k) za isAgg77 sizeOf77 aa)) ?_;refine OD.call ap rfl rfl rfl call23 (Um hm hw ht hG (ps[k]'aa) rQ) ⟨ot,trivial⟩ (eV _) ?_;rintro _ _ ⟨s,rfl,rfl,Z,HH⟩;refine OD.alloc (ds:=[_,_,_,_,_,_,_,_,_,_,_,_]) ap rfl rfl zeroValue32 rfl (fun b9=>?_);refine aR 0 [_,_,_,_,_,_,_,_,_,_,_,_] sizeOf32 ?_;refine an 88 [0,2,3,8,9] ?_;refine jV [0,2,3,8,9] (fun aX _ aG=>∃(s:cm),(jk s)∧(¬s.kind=1∧¬s.kind=2)∧aG=(⟨88,aX,[⟨b9,32,12,bK s⟩,⟨b3,25,1,[av 5 cY (l)]⟩,⟨b2,25,1,[bH]⟩]⟩:St)) ?_ ?_
   ·refine aB 4 ?_;refine bP 50 (fun WZ aiO=>?_) (fun WZ aiO=>?_)
    ·refine bq [0,2,3,8,9,54] ?_;refine eD ?_;exact Xb
    refine bq [0,2,3,8,9,54] ?_;refine aq ?_ ?_<;>intro cN dW
    ·exact Xb
    have E:¬s.kind=1∧¬s.kind=2:=(by first|exact⟨by simpa using WZ,by simpa using cN⟩|(simp at *;omega))
    refine CD.skip ?_;refine⟨_,aK,s,Z,E,rfl⟩
   rintro _ ⟨s,Z,E,rfl⟩;refine CD.seq ?_;have AL:=jk.st Z;have qS:=afJ Z;have O:=F7 hm hw ht hG gn w4 AL E.2 (fun _=>qS) Z.2.2.1 (fun h=>absurd h E.1);unfold AM at O;refine dK 2 ?_;refine dP call11 (O) ?_;refine aF 4 ?_;refine OD.alloc (ds:=[_]) ap rfl rfl zeroValue25 rfl (fun j8=>?_);refine OD.alloc (ds:=[_,_]) ap rfl rfl zeroValue36 rfl (fun lf=>?_);refine aR 1 [_] sizeOf25 ?_;refine aR 0 [_,_] sizeOf36 ?_;refine an 88 [0,2,3,8,10,12] ?_;refine af [0,2,3,8,10,85] ?_;refine aq ?_ ?_<;>intro ec fh
   ·have h0:(mX l s).2.2=0:=(by simpa using ec)
    obtain⟨h1,h2⟩:=Uh h0;obtain⟨a',c',aqU,gn1,_,gk⟩:=Jr gn w4 AL E.2 qS (fun h=>absurd h E.1) h1;have gn2:pU (mX l s).1 a' c':=(by rw[h2];exact gn1)
    have aiP:(mX l s).1.map aM.nm=dZ:=(by rw[h2,gk E.1];exact I)
    refine dK 1 ?_;refine aR 3 [_] sizeOf25 ?_;refine an 88 [0,2,3,8] ?_;refine cc [0,2,3,8] ?_;refine⟨((k+1),(mX l s).1,a',c'),_,cq,aK,w4,w4,w4,gn2,aiP,rfl⟩
   refine cc [0,2,3,8] ?_;refine⟨((k+1),l,a,c),_,cq,aK,w4,w4,w4,gn,I,rfl⟩
  refine aB 1 ?_;refine aR 1 [_] sizeOf25 ?_;refine an 88 [2] ?_;refine aI [] ?_;exact⟨l,a,c,rfl,rfl,gn,by omega,I⟩
 refine bq [0,2,3,8,39] ?_;refine fJ ?_;refine aB 1 ?_;refine aR 1 [_] sizeOf25 ?_;refine an 88 [2] ?_;refine aI [] ?_;exact⟨l,a,c,rfl,rfl,gn,by omega,I⟩

theorem W0(h:l.map aM.nm=dZ):aT l ⟨#[116]⟩=0:=by
 match l,h with
 | a::r,h =>
  rw[map_cons] at h;have ha:a.nm=⟨#[116]⟩:=(by injection h)
  unfold aT;rw[wo (ls:=a::r) (k:=0) bn (fun x hx=>by cases hx) (by show(a.nm.toList==_)=true;rw[ha];exact BEq.rfl)];rfl

end Go.Proofs.YtdgichenhdikgaaGreatDoor.Ba
namespace Go.Proofs.YtdgichenhdikgaaGreatDoor.Ba
open List
open Go.Proofs.Tryz
open Go.RowKit V Pk Tr Vl Go.Proofs.YtdgichenhdikgaaGreatDoor.Nm Pc Cd Ex Tw
open Pa (Ph)
variable {m:Int}
def AO(m:Int):List (Nat×List Value):=[(3,marksC),(1,wordsC),(0,typesC),(2,[Value.int .i64 m])]
theorem tm1:(3,marksC)∈AO m:=mem_cons_self
theorem tm2:(1,wordsC)∈AO m:=mem_cons_of_mem _ mem_cons_self
theorem tm3:(0,typesC)∈AO m:=mem_cons_of_mem _ (mem_cons_of_mem _ mem_cons_self)
theorem tm4:(2,[Value.int .i64 m])∈AO m:=mem_cons_of_mem _ (mem_cons_of_mem _ (mem_cons_of_mem _ mem_cons_self))
theorem alU{w:World}(h1:MarksTab w)(h2:WordsTab w)(h3:TypesTab w)(h4:Tab.mM w 2 [Value.int .i64 m]):∀g∈AO m,g.2≠[]∧Ca w g.1 g.2:=fun g hg=>by
 rcases mem_cons.1 hg with rfl|hg
 ·exact⟨by decide,.of h1 rfl⟩
 rcases mem_cons.1 hg with rfl|hg
 ·exact⟨by decide,.of h2 rfl⟩
 rcases mem_cons.1 hg with rfl|hg
 ·exact⟨by decide,.of h3 rfl⟩
 rw[mem_singleton] at hg;subst hg;exact⟨by simp,.of h4 rfl⟩
theorem rd_phrases{H:Type}{enc:TypeId×Value→H}{w:World}{base E:Nat}{sp:Nat→Bool}{held:Bool}{v:Value}{d:DataW H}{p:List MemPlace}(hval:Value.okWide Tryz.prog w .any E 22 v)(h:DataW.Trod enc Tryz.prog w base sp held 22 v d p) :
  ∃l:List Ph,cg w (fun _=>False) (.list 14 (l.flatMap Ph.cs) l.length) v∧((∀x∈l,x.Ok)∧l.length≤maxLen)∧True:=by
 obtain⟨l,h1,h2,h3⟩:=acA (g:=Ph.cs) (ok:=Ph.Ok) (sz:=14) underlying22 az w8 (fun n cs x hn=>Pa.aaM n cs x hn) za hval h;exact⟨l,h1,⟨h2,h3⟩,trivial⟩

end Go.Proofs.YtdgichenhdikgaaGreatDoor.Ba
namespace Go.Proofs.YtdgichenhdikgaaGreatDoor.Ba
open List
open Go.Proofs.Tryz
open Go.RowKit V Pk Tr Vl Go.Proofs.YtdgichenhdikgaaGreatDoor.Nm Pc Cd Ex Tw
open Pa (cm bK jA gg jk fY iC ji gp fW dZ Ph)
variable {G:List (Nat×List Value)} {m:Int}
variable {t:aM} {n i:Nat} {l:List aM}
theorem Bz{v:Vl}(h:bW v=0)(hk:v.k=2):fP [v]=(dx [v],0):=by
 unfold fP;rw[if_neg bn,Bo (fun x hx=>by rw[mem_singleton] at hx;rw[hx];exact h),if_neg bn,if_neg];show ¬(dx [v]).length>100;unfold dx Cd.pi rF;simp[hk,lE]
theorem ach(g:eu t n){i:Int}(h:fX t i):∃(v:Vl) (r:List Vl),rowAt t i=v::r∧r.length=3∧v.k=2∧v.s.size=0∧v.Ok∧bW v=0∧cJ (rowAt t i)=dx [v]:=by
 obtain⟨h4,aQ⟩:=fX.ok g h;obtain⟨h0,h1,h2⟩:=h;have hf:=(g.row _ h1 h2).1;rw[←iz h1] at hf;match hr:rowAt t i,h4 with
 | v::r,h4 =>
  rw[hr] at hf aQ;obtain⟨hv,hc⟩:=aQ v mem_cons_self;have hk:v.k=2:=by
   unfold Pc.dB at hf;rw[if_neg Ag,if_neg xQ] at hf;unfold bf Pc.pn at hf;split at hf
   ·rename_i h1;exact absurd hf h1
   rename_i h1;have h1:=Decidable.not_not.1 h1;unfold Pc.lW at h1;rw[if_neg (by rw[hc];decide)] at h1;split at h1
   ·cases h1
   rename_i h3;exact Decidable.not_not.1 fun e=>h3 ⟨e,.inl rfl⟩
  refine⟨v,r,rfl,by simpa using h4,hk,?_,hv,hc,?_⟩
  ·unfold bW at hc;rw[if_neg w4,if_neg w4,if_pos hk] at hc;split at hc
   ·cases hc
   rename_i h3;exact Decidable.not_not.1 h3
  unfold cJ;rw[show(v::r).take 1=[v] from rfl,Bz hc hk]
theorem int_lt{v w:Vl}(E:bW v=0)(I:v.Ok)(kv:v.k=2)(O:v.s.size=0)(hw:bW w=0)(U:w.Ok)(kw:w.k=2)(sw:w.s.size=0)(h:bA (dx [v]) (dx [w])):v.n<w.n:=by
 rcases Int.lt_trichotomy v.n w.n with q|q|q
 ·exact q
 ·have hs:v.s=w.s:=by
   have Z:v.s.data.size=0:=O;have a2:w.s.data.size=0:=sw;have e1:v.s=⟨v.s.data⟩:=rfl;have e2:w.s=⟨w.s.data⟩:=rfl;rw[e1,e2,Array.eq_empty_of_size_eq_zero Z,Array.eq_empty_of_size_eq_zero a2]
  have:v=w:=(by cases v;cases w;simp_all)
  rw[this] at h;exact absurd h (jK _)
 have hl:dX w v<0:=(Fi w v).2 (.inr ⟨by omega,.inl q⟩);have h3:=JM hw U E I [] [] w4;rw[append_nil,append_nil] at h3;have h4:bA (dx [w]) (dx [v]):=by
  unfold bA dx;rw[flatMap_singleton,flatMap_singleton,h3];exact hl
 exact absurd (lQ h h4) (jK _)
noncomputable def mw(t:aM):List (List Vl):=(dQ t.ix).map fun x=>rowAt t x.2
theorem ahg{nm:ByteArray}(h:aT l nm=(i:Int))(hi:i<l.length):vo l nm=(mw l[i],0):=by
 unfold vo;rw[h,if_neg w4,Int.toNat_natCast,getD_eq_getElem?_getD,getElem?_eq_getElem hi];rfl
theorem Uj(g:eu t n)(h:i<(mw t).length):∃h':i<(dQ t.ix).length,(mw t)[i]=rowAt t (dQ t.ix)[i].2∧fX t (dQ t.ix)[i].2∧(dQ t.ix)[i].1=cJ (rowAt t (dQ t.ix)[i].2):=by
 have h':i<(dQ t.ix).length:=(by unfold mw at h;rwa [length_map] at h)
 obtain⟨h0,h1,h2,h3⟩:=g.iI _ (getElem_mem h');exact⟨h',by show((dQ t.ix).map fun x=>rowAt t x.2)[i]=_;exact getElem_map _,⟨h0,h1,h2⟩,by rw[iz h1];exact h3⟩
theorem aaN(g:eu t n)(h:i<(mw t).length):∃(v:Vl) (r:List Vl),(mw t)[i]=v::r∧r.length=3∧v.k=2∧v.s.size=0∧v.Ok∧bW v=0:=by
 obtain⟨h',e,ko,_⟩:=Uj g h;obtain⟨v,r,h1,h2,h3,h4,h5,h6,_⟩:=ach g ko;exact⟨v,r,e.trans h1,h2,h3,h4,h5,h6⟩
theorem ad9(g:eu t n):(mw t).length≤16000:=by
 have:=RY g.ix [] [];rw[ES] at this;unfold mw;rwa [length_map]
theorem alV(h:l.map aM.nm=dZ):l.length=2:=by have:=congrArg length h;rw[length_map] at this;rw[this];decide

def n9(w:List aJ):cm:={fW with kind:=4,table:=⟨#[116]⟩,aj:=w}
theorem Uk(h:l.map aM.nm=dZ){s:cm}(hk:s.kind=4)(ht:s.table=⟨#[116]⟩)(hc:gg s=0)(h0:0<l.length):mX l s=(if (mP l[0] s).2≠0 then ([],(([],0),(mP l[0] s).2)) else (l,((mP l[0] s).1,0)):List aM×((List (List Vl)×Int)×Int)):=by
 have hr:gD l s=(l,mP l[0] s):=by
  unfold gD;have ha:aT l s.table=0:=(by rw[ht];exact W0 h)
  have ke:l.getD (0:Int).toNat (gI s)=l[0]:=(by show l.getD 0 _=_;rw[getD_eq_getElem?_getD,getElem?_eq_getElem h0];rfl)
  rw[ha,if_neg w4,if_neg w8,if_neg w4,if_pos hk,ke]
 unfold mX;rw[if_neg (fun e=>e hc),if_neg w4,hr]
theorem Sn{t:aM}:∀(l:List (K×Int)) (acc:List Int),jR t [] acc l=(acc++l.map Prod.snd,0)
 | [],acc=>by simp[jR]
 | x::l,acc=>by rw[jR,if_neg w8,Sn l];simp
theorem Bv(g:eu t n):ax t []=((dQ t.ix).map Prod.snd,0):=by
 unfold ax;have hb:fw t.ay []=(([],[]),0):=(by rw[g.ay];decide +kernel)
 rw[hb,if_neg w8,Sn];show([]++(lV t.ix [] []).map Prod.snd,0)=_;rw[ES];rfl
theorem afL(g:eu t n):∀x∈dQ t.ix,Pc.dB bf (rowAt t x.2)=0:=fun x hx=>by
 obtain⟨h0,h1,h2,h3⟩:=g.iI x hx;rw[iz h1];exact(g.row _ h1 h2).1
theorem aci(x:ByteArray):VP Tryz.prog G 10 [bj x,bH] (.agg [ae 4,bj x,bH,bH,bH,bJ false,bH,fk,bJ false,ae (-1),fk,bH]):=by
 exact V0
theorem aea(x:ByteArray)(w:List aJ):VP Tryz.prog G 10 [bj x,av 5 cO w] (.agg [ae 4,bj x,bH,bH,bH,bJ false,av 5 cO w,fk,bJ false,ae (-1),fk,bH]):=by
 exact V0

end Go.Proofs.YtdgichenhdikgaaGreatDoor.Ba
namespace Go.Proofs.YtdgichenhdikgaaGreatDoor.Ba

open List
open Go.Proofs.Tryz
open Go.RowKit V Pk Tr Vl Go.Proofs.YtdgichenhdikgaaGreatDoor.Nm Pc Cd Ex Tw
open Pa (cm bK jA gg jk fY iC ji gp fW dZ Ph)
variable {t:aM} {n:Nat}
def fst(r:List Vl):Vl:=r.getD 0 aV
theorem afM{v w:Vl}(E:bW v=0)(I:v.Ok)(U:v.k=2)(Z:v.s.size=0)(hw:bW w=0)(O:w.Ok)(kw:w.k=2)(sw:w.s.size=0):bA (dx [v]) (dx [w])↔v.n<w.n:=by
 refine⟨int_lt E I U Z hw O kw sw,fun h=>?_⟩;have hl:dX v w<0:=(Fi v w).2 (.inr ⟨by omega,.inl h⟩);have h3:=JM E I hw O [] [] w4;rw[append_nil,append_nil] at h3;unfold bA dx;rw[flatMap_singleton,flatMap_singleton,h3];exact hl
theorem Js{r:List Vl}(hf:Pc.dB bf r=0)(aQ:∀v∈r,v.Ok):(fst r).k=2∧(fst r).s.size=0∧(fst r).Ok∧bW (fst r)=0∧cJ r=dx [fst r]∧r.length=4:=by
 have h4:=oI hf;have hz:=Jm hf;match r,h4 with
 | v::r,h4 =>
  have E:=aQ v mem_cons_self;have hc:=hz v mem_cons_self;have hk:v.k=2:=by
   unfold Pc.dB at hf;rw[if_neg Ag,if_neg xQ] at hf;unfold bf Pc.pn at hf;split at hf
   ·rename_i h1;exact absurd hf h1
   rename_i h1;have h1:=Decidable.not_not.1 h1;unfold Pc.lW at h1;rw[if_neg (by rw[hc];decide)] at h1;split at h1
   ·cases h1
   rename_i h3;exact Decidable.not_not.1 fun e=>h3 ⟨e,.inl rfl⟩
  refine⟨hk,?_,E,hc,?_,h4⟩
  ·show v.s.size=0;unfold bW at hc;rw[if_neg w4,if_neg w4,if_pos hk] at hc;split at hc
   ·cases hc
   rename_i h3;exact Decidable.not_not.1 h3
  unfold cJ;rw[show(v::r).take 1=[v] from rfl,Bz hc hk];rfl

theorem Jt(g:eu t n){i:Int}(h:fX t i):Pc.dB bf (rowAt t i)=0∧∀v∈rowAt t i,v.Ok:=by
 obtain⟨h0,h1,h2⟩:=h;rw[iz h1];exact⟨(g.row _ h1 h2).1,(g.row _ h1 h2).2.1⟩
theorem aeb(g:eu t n){l:List Int}(hp:l.Pairwise (DQ t))(hi:∀i∈l,fX t i):BY t false 0 l=l:=by
 refine(Ka ⟨Perm.refl _,hp.imp_of_mem fun {a b} ha hb h=>?_⟩).symm;obtain⟨f1,o1⟩:=Jt g (hi a ha);obtain⟨f2,o2⟩:=Jt g (hi b hb);obtain⟨a1,a2,a3,a4,a5,_⟩:=Js f1 o1;obtain⟨b1,b2,b3,b4,b5,_⟩:=Js f2 o2;have hk:bA (cJ (rowAt t a)) (cJ (rowAt t b)):=h;rw[a5,b5] at hk;have aa:=(afM a4 a3 a1 a2 b4 b3 b1 b2).1 hk;have hc:dX (cellAt t 0 a) (cellAt t 0 b)<0:=(Fi _ _).2 (.inr ⟨a1.trans b1.symm,.inl aa⟩);exact .inl (by show k8 t false 0 a b<0;unfold k8;rw[if_neg w8];exact hc)
theorem afN{r:List Vl}(h:r.length=4):(([0,1,2,3]:List Int).map fun c=>r.getD c.toNat aV)=r:=by
 match r,h with
 | [a,b,c,d],_=>rfl
theorem afO(l:List Int):sJ (-1) l=l:=if_neg w4
theorem Ss(g:eu t n)(w:List aJ):mP t (n9 w)=(if (ax t w).2≠0 then (([],0),(ax t w).2) else (((ax t w).1.map (rowAt t),((ax t w).1.length:Int)),0):(List (List Vl)×Int)×Int):=by
 unfold mP;have ho:rK t (n9 w)=0:=if_pos (show((⟨#[]⟩:ByteArray).toList==(⟨#[]⟩:ByteArray).toList)=true from BEq.rfl);rw[if_neg (show ¬((n9 w).names.any fun n=>decide (bD t.ay n<0))=true from fun h=>by cases h),ho,if_neg (show ¬(0:Int)<0 by decide),show(n9 w).aj=w from rfl];have hs:ud t (n9 w)=(ax t w).1:=by
  unfold ud;rw[ho];show sJ (-1) (BY t false 0 (ax t w).1)=_;rw[afO,aeb g (EW g w) (sC g w)]
 by_cases h:(ax t w).2≠0
 ·rw[if_pos h,if_pos h]
 rw[if_neg h,if_neg h,if_neg (show ¬(n9 w).count=true from fun h=>by cases h),hs];have ha:rZ t (n9 w).names=[0,1,2,3]:=by
  unfold rZ;rw[if_pos (show(n9 w).names.length=0 from rfl),g.ay];rfl
 have hm:(ax t w).1.map (xG t (rZ t (n9 w).names))=(ax t w).1.map (rowAt t):=by
  rw[ha];exact map_congr_left fun i hi=>afN (fX.ok g (sC g w i hi)).1
 rw[hm]

end Go.Proofs.YtdgichenhdikgaaGreatDoor.Ba
namespace Go.Proofs.YtdgichenhdikgaaGreatDoor.Ex
open List
open Go.Proofs.Tryz
open Go.RowKit V Pk Vl Go.Proofs.YtdgichenhdikgaaGreatDoor.Nm Pc Cd
open Go.Lib (compareBytes)
variable {α:Type}
def yC:ByteArray:=⟨#[105,100]⟩
theorem aiQ{p:α→Bool}{a:α}{r:List α}(h:p a=true):cU p (a::r)=0:=by unfold cU;simp[findIdx?_cons,h]
theorem aiR{p:α→Bool}{a b:α}{r:List α}(h:p a=false)(h':p b=true):cU p (a::b::r)=1:=by unfold cU;simp[findIdx?_cons,h,h']
theorem afP{p:α→Bool}{a b:α}(h:p a=false)(h':p b=false):cU p [a,b] = -1:=by unfold cU;simp[findIdx?_cons,h,h']

end Go.Proofs.YtdgichenhdikgaaGreatDoor.Ex
