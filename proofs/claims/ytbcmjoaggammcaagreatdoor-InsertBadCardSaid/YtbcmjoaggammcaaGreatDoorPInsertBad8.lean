/-
  What the proof of InsertBad leans on, part 8 of 8: walks of the program's functions at the level of values, and plain facts of what they compute.
-/
import Derived.Test.YtbcmjoaggammcaaGreatDoorPInsertBad7
set_option linter.unusedVariables false
set_option linter.unusedSimpArgs false
set_option maxRecDepth 100000
set_option maxHeartbeats 4000000
namespace Go.Proofs.YtbcmjoaggammcaaGreatDoor.Ba
open List
open Go.Proofs.Tryz
open Go.RowKit V Pk Tr Vl Go.Proofs.YtbcmjoaggammcaaGreatDoor.Nm Pc Cd Ex Tw
open Pa (cN cg)
variable {G:List (Nat×List Value)} {m:Int}
variable {t:aT} {L:List cf} {ad:Option Addr} {cap i n:Nat} {E S:List ag} {o:cf} {p:(List (List Vl)×Int)×Int}
def FH(t:aT)(L:List cf)(ad:Option Addr)(cap:Nat)(Sr:List ag):Prop:=L.map cf.r=t.rows∧(∀o∈L,nA o)∧rS L ad cap Sr
theorem Qp(h:FH t L ad cap E)(hs:∀B∈E++L.flatMap bR,B∈S):View S (.agg (tC t ad cap)) (.agg (dG t)) :=
 Rz (o:=⟨t,L.flatMap gR,ad,cap,E,L.flatMap bR⟩) (qq.w ⟨L,rfl,rfl,h.2.1,h.1,h.2.2⟩) hs
theorem Qq(aR:∀o∈L,nA o)(hi:i<L.length)(hs:∀B∈L.flatMap bR,B∈S):View S (.v (.slice L[i].ad L[i].r.length L[i].cap)) (.list 3 (L[i].r.flatMap cV) L[i].r.length) :=
 kY (aR _ (getElem_mem hi)) (cl eS _) (fun B E=>hs B (mem_flatMap.2 ⟨_,getElem_mem hi,E⟩))
theorem I1(f:ag→Nat):∀(L:List cf) (i:Nat) (o:cf) (h:i<L.length),(((L.set i o).flatMap bR).map f).sum=(o.S.map f).sum+(((L.eraseIdx i).flatMap bR).map f).sum
 | [],_,_,h=>absurd h (Nat.not_lt_zero _)
 | x::L,0,o,_=>by simp[bR]
 | x::L,i+1,o,h=>by
  have:=I1 f L i o (Nat.lt_of_succ_lt_succ h);simp only[set_cons_succ,flatMap_cons,map_append,sum_append,eraseIdx_cons_succ,this];omega
theorem Qr{A B C X:ag}(h:i<L.length)(hS:L[i].S=[X]):(A::B::([C]++L.flatMap bR)).Perm (X::A::B::C::(L.eraseIdx i).flatMap bR):=ik fun f=>by
 have:=I1 f L i L[i] h;rw[set_getElem_self,hS] at this;simp only[map_cons,sum_cons,map_append,sum_append,map_nil,sum_nil,this];omega
theorem RO{A B C X:ag}(h:i<L.length)(hS:o.S=[X]):(X::A::B::C::(L.eraseIdx i).flatMap bR).Perm (A::B::([C]++(L.set i o).flatMap bR)):=ik fun f=>by
 have:=I1 f L i o h;rw[hS] at this;simp only[map_cons,sum_cons,map_append,sum_append,map_nil,sum_nil,this];omega
theorem Qs{t:aT}{c:Int}{e:List aW}:∀(l:List Int) (acc:List Vl),(iC t c e acc l).2=0→(iC t c e acc l).1.length=acc.length+l.length
 | [],acc,_=>rfl
 | i::r,acc,h=>by
  rw[iC] at h ⊢;split
  ·rename_i h1;rw[if_pos h1] at h;exact absurd h h1
  rename_i h1;rw[if_neg h1] at h;split
  ·rename_i h2;rw[if_pos h2] at h;cases h
  rename_i h2;rw[if_neg h2] at h;rw[Qs r _ h,length_append,length_cons,length_cons,length_nil];omega
theorem Ib{t:aT}{n:Nat}(g:eW t n){c:Int}{e:List aW}(kG:∀o∈e,o.nm.size≤maxLen)(fH:∀o∈e,o.v.Ok)(hk:(ec dH e).2=0):∀(l:List Int) (acc:List Vl),(∀i∈l,gD t i)→(iC t c e acc l).2=0 →
  (∀v∈acc,v.Ok∧jC (ec dH e).1 v∧(c=0→v.k≠0))→∀v∈(iC t c e acc l).1,v.Ok∧jC (ec dH e).1 v∧(c=0→v.k≠0)
 | [],acc,_,_,ha=>ha
 | i::r,acc,hl,h,ha=>by
  rw[iC] at h ⊢;have hi:=hl i mem_cons_self;obtain⟨h0,h1,h2⟩:=id hi;obtain⟨p1,p2,_⟩:=g.row _ h1 h2;rw[←jA h1] at p1 p2;split
  ·rename_i h1;rw[if_pos h1] at h;exact absurd h h1
  rename_i hne;rw[if_neg hne] at h;split
  ·rename_i h2;rw[if_pos h2] at h;cases h
  rename_i h3;rw[if_neg h3] at h;refine Ib g kG fH hk r _ (fun j hj=>hl j (mem_cons_of_mem _ hj)) h fun v E=>?_;rcases mem_append.1 E with E|E
  ·exact ha v E
  rw[mem_singleton] at E;subst E;rw[g.av] at hne h3 ⊢;exact⟨adq p2 fH,abL kG fH p1 hk (Classical.not_not.1 hne),fun hc hz=>h3 ⟨hc,hz⟩⟩
theorem I2{g:cf→List D}:∀(M:List cf) (i:Nat) (h:i<M.length) (o:cf),g o=g M[i]→(M.set i o).flatMap g=M.flatMap g
 | [],_,h,_,_=>absurd h (Nat.not_lt_zero _)
 | x::M,0,_,o,e=>by
  rw[set_cons_zero,flatMap_cons,flatMap_cons,e];rfl
 | x::M,i+1,h,o,e=>by
  rw[set_cons_succ,flatMap_cons,flatMap_cons,I2 M i (Nat.lt_of_succ_lt_succ h) o e]
theorem OS{x:aE}{M:List cf}{i:Int}(h:i.toNat<M.length):rowAt {t with rows:=M.map cf.r,ix:=x} i=M[i.toNat].r:=by
 rw[jA (by show _<(M.map cf.r).length;rw[length_map];exact h)];exact getElem_map ..
theorem RP{x:aE}{M:List cf}{i:Int}(h:i.toNat<M.length){c:Nat}{v:Vl}(ho:o.r=M[i.toNat].r.set c v):qO {t with rows:=M.map cf.r,ix:=x} i c v={t with rows:=(M.set i.toNat o).map cf.r,ix:=x}:=by
 unfold qO;rw[OS h,map_set,ho]
theorem abM{c:Nat}{l:List Vl}:mu c t [] l=t:=by unfold mu;rfl
theorem Z7{l:List Vl}:j6 t [] l=(t,0):=by unfold j6;rfl
theorem FI{l:List (List Vl)}(h:L.map cf.r=l)(h1:i<L.length)(h2:i<l.length):L[i].r=l[i]:=by subst h;rw[getElem_map]
theorem YH:(Tryz.prog.info? 30).map (fun i=>(i.zero,i.size,i.bytes))=some (some (.agg #[.int .i64 0,.int .i64 0,.string ⟨#[]⟩]),3,32):=by kernel_rfl
theorem Z8(hm:(3,marksC)∈G)(hw:(2,wordsC)∈G)(ht:(0,typesC)∈G)(hG:(1,[Value.int .i64 m])∈G)(t:aT)(g:eW t n)(s:cN)(ho:∀o∈s.ah,o.nm.size≤maxLen)(fH:∀o∈s.ah,o.v.Ok)(oL:∀o∈s.bH,o.nm.size≤maxLen)(zj:∀o∈s.bH,o.v.Ok)(hn:n≤260)(bt off pG:Nat)(pre post:List D)(hp:pre.length=off)(L:List cf)(ad:Option Addr)(cap:Nat)(Sr:List ag)(hL:L.map cf.r=t.rows)(aR:∀o∈L,nA o)(j8:rS L ad cap Sr):VC Tryz.prog G 51 [.v (.pointer (some ⟨bt,off,none⟩)),.agg (cg s)] (⟨bt,48,pG,pre++(tC t ad cap++post)⟩::(Sr++L.flatMap bR)) (fun r S=>r = .dz [.v (.int .i64 (gF t s).2.1),.v (.int .i64 (gF t s).2.2)]∧((gF t s).2.2=0→∃L' ny j9 nW,FH (gF t s).1 L' ny j9 nW∧S=⟨bt,48,pG,pre++(tC (gF t s).1 ny j9++post)⟩::(nW++L'.flatMap bR))):=by
 refine VC.body func51 rfl ntmps51 aO fun X0 w0 aX=>?_;have dr:maxLen=9223372036854775807:=rfl;have GF:FH t L ad cap Sr:=⟨hL,aR,j8⟩
 have q9:L.length=t.rows.length:=(by rw[←hL,length_map])
 have mR:=g.eL;have Dn:=ED g s.ah;have lZ:=uB g s.ah;have hnd:=DX g s.ah;have aiP:t.av.length=4:=(by rw[g.av];rfl)
 have af9:=Hy (G:=G) t w4 s.set;have vr:=IC (G:=G) hm hw ht t.av wP wO s.bH oL;unfold ph at vr;have WY:=yh (fun c:cu=>c.n.toList==s.set.toList) t.av;rw[show dO (fun c:cu=>c.n.toList==s.set.toList) t.av=(bN t.av s.set) from rfl] at WY;unfold tC;unfold cg;refine bX ?_;refine OD.box (ds:=[_,_,_,_,_,_,_,_,_,_,_,_]) an rfl rfl ot rfl rfl (fun b3=>?_);refine aj 205 [0,3] ?_;refine cM [0,3,6] ?_;refine aP 2 ?_ (h:=by exact(KP 1));refine mW 2 ?_;refine yY (af9) (ha:=by exact⟨⟨_,ot,(Qp GF (fun B U=>by repeat (first|exact U|apply mem_append_right|apply mem_cons_of_mem)):View _ (.agg (tC t ad cap)) _)⟩,⟨_,ot,eM⟩,trivial⟩) (K:=?_);refine bM ?_;refine ae [0,3,6,30] ?_;refine aq (fun az aG=>?_) (fun az aG=>?_)
 ·have hA:(bN t.av s.set)<0:=(by simpa using az)
  have aS:gF t s=(t,0,8):=(by unfold gF;rw[if_pos hA])
  exact wu
 have hA:¬(bN t.av s.set)<0:=(by simpa using az)
 have kV:(bN t.av s.set).toNat<t.av.length:=(by omega)
 refine cM [0,3,6,7,8] ?_;refine aP 3 ?_ (h:=by exact(nV 1));refine cU (vr) ?_;refine bM ?_;refine ae [0,3,6,7,8,42] ?_;refine aq (fun aH aU=>?_) (fun aH aU=>?_)
 ·have U:(ec t.av s.bH).2≠0:=(by simpa using aH)
  have aS:gF t s=(t,0,(ec t.av s.bH).2):=(by unfold gF;rw[if_neg hA,if_pos U])
  exact wu
 have U:¬(ec t.av s.bH).2≠0:=(by simpa using aH)
 have kE:t.av.getD (bN t.av s.set).toNat ⟨⟨#[]⟩,0⟩=t.av[(bN t.av s.set).toNat]:=(by rw[getD_eq_getElem?_getD,getElem?_eq_getElem kV];rfl)
 refine CD.skip ?_;refine jz [0,3,6] (fun aV tW aK=>(¬((ec t.av s.bH).1≠(t.av.getD (bN t.av s.set).toNat ⟨⟨#[]⟩,0⟩).k∧(ec t.av s.bH).1≠0))∧aK=(⟨205,aV,tW⟩:St)) ?_ ?_
 ·refine aC 4 ?_;refine bJ (nV 1) ?_;refine aD 1 ?_;refine bJ (dy 2 (h:=by first|exact .l (j:=(bN t.av s.set).toNat) (Int.toNat_of_nonneg w4).symm kV|exact .r (j:=(bN t.av s.set).toNat) (Int.toNat_of_nonneg w4).symm kV)) ?_;refine aD 4 ?_;refine bS 54 (fun yV yA=>?_) (fun yV yA=>?_)
  ·refine aj 205 [0,3,6,57] ?_;refine aq (fun aY bz=>?_) (fun aY bz=>?_)
   ·have hC:(ec t.av s.bH).1≠(t.av.getD (bN t.av s.set).toNat ⟨⟨#[]⟩,0⟩).k∧(ec t.av s.bH).1≠0:=(by rw[kE];exact⟨by simpa using yV,by simpa using aY⟩)
    have aS:gF t s=(t,0,4):=(by unfold gF;rw[if_neg hA,if_neg U,if_pos hC])
    exact wu
   exact Vx
  refine aj 205 [0,3,6,57] ?_;refine fF ?_;exact Vx
 rintro _ ⟨hC,rfl⟩;refine cM [0,3,6,8,9] ?_;refine aP 2 ?_ (h:=by exact(KP 1));refine mW 2 ?_;refine yX (Jn hm hw ht hG t g s.ah ho fH) (fun r S h=>h.flat) (fun r S h=>h.view) (ha:=by exact⟨⟨_,ot,(Qp GF (fun B U=>by repeat (first|exact U|apply mem_append_right|apply mem_cons_of_mem)):View _ (.agg (tC t ad cap)) _)⟩,⟨_,ot,eM⟩,trivial⟩) (K:=?_);refine bM ?_;refine ae [0,3,6,8,9,68] ?_;refine aq (fun bF bY=>?_) (fun bF bY=>?_)
 ·have hD:(au t s.ah).2≠0:=(by simpa using bF)
  have aS:gF t s=(t,0,(au t s.ah).2):=(by unfold gF;rw[if_neg hA,if_neg U,if_neg hC,if_pos hD])
  exact wu
 have hD:¬(au t s.ah).2≠0:=(by simpa using bF)
 refine bX ?_;refine aZ [0,3,6,9,10] ?_;refine ae [0,3,6,9,10,70,71,72] ?_;refine eI [0,3,6,9,70,71] (fun aV _ (E:Nat×List Vl×Option Addr×Nat×List ag) aK=>match E with|(k,acc,dS,dD,Sx)=>(k≤(au t s.ah).1.length)∧((acc).length=k)∧((iC t (bN t.av s.set) s.bH [] (au t s.ah).1)=iC t (bN t.av s.set) s.bH acc ((au t s.ah).1.drop k))∧(bu 30 3 ((acc).flatMap cV) (acc).length dS dD Sx)∧aK=(⟨205,(10,.v (.slice dS (acc).length dD))::(72,.v (.int .i64 (k:Nat)))::aV,(⟨b3,42,12,cg s⟩::⟨bt,48,pG,pre++([.v (.string t.nm),.list 2 (t.av.flatMap cC) t.av.length,.v (.slice ad t.rows.length cap),.list 5 (t.ix.af.flatMap cP) t.ix.af.length,.v (.int .i64 t.ix.root)]++post)⟩::(Sr++(Sx++L.flatMap bR)))⟩:St)) (fun (E:Nat×List Vl×Option Addr×Nat×List ag)=>match E with|(k,acc,dS,dD,Sx)=>(au t s.ah).1.length-k) (0,([]:List Vl),none,0,[]) ⟨(Nat.zero_le _),rfl,rfl,iA,rfl⟩ ?_;rintro⟨k,acc,dS,dD,Sx⟩ _ ⟨hk,wI,zL,ee,rfl⟩;refine ae [0,3,6,9,10,70,71,72,73] ?_;refine aq (fun cx c8=>?_) (fun cx c8=>?_)
 ·have aa:k<(au t s.ah).1.length:=(by omega)
  have jg:(au t s.ah).1.drop k=((au t s.ah).1[k]'aa)::(au t s.ah).1.drop (k+1):=drop_eq_getElem_cons aa;have ri:gD t ((au t s.ah).1[k]'aa):=lZ _ (getElem_mem aa);obtain⟨gH,O,oM⟩:=id ri;have fO:((au t s.ah).1[k]'aa).toNat<L.length:=(by rw[q9];exact O)
  obtain⟨br,rfl,tN,tO,rfl⟩:=j8.pos w4;have vt:L[((au t s.ah).1[k]'aa).toNat].r=rowAt t ((au t s.ah).1[k]'aa):=(by rw[jA O];exact(FI hL fO O))
  obtain⟨WX,Dp⟩:=gD.ok g ri;have KQ:=Rj (G:=G) hm hw ht t.av wP wO L[((au t s.ah).1[k]'aa).toNat].r (by rw[vt];omega) (by rw[vt];exact fun v hv=>(Dp v hv).1) s.bH oL zj;rw[show fh t.av L[((au t s.ah).1[k]'aa).toNat].r s.bH=(fh t.av (rowAt t ((au t s.ah).1[k]'aa)) s.bH) from by rw[vt]] at KQ;unfold mD at KQ;refine ae [0,3,6,9,10,12,70,71,72] ?_;refine CD.seq ?_;refine tJ 18 17 [0,3,6,9,10,13,70,71,72,91,92] ?_;refine aP 3 ?_ (h:=by exact(nV 1));refine aP 3 ?_ (h:=by exact(nV 1));refine aP 1 ?_ (h:=by exact(dy 1 (h:=by first|exact .l (j:=((au t s.ah).1[k]'aa).toNat) (Int.toNat_of_nonneg gH).symm O|exact .r (j:=((au t s.ah).1[k]'aa).toNat) (Int.toNat_of_nonneg gH).symm O)));refine aP 0 ?_ (h:=by exact(cH (mk:=Op.load 27) rfl ot (iK (k:=2) (i:=((au t s.ah).1[k]'aa).toNat) (ls:=L) uA rfl rfl rfl isAgg27 fO rfl)));refine mW 2 ?_;refine yY (KQ) (ha:=by exact⟨⟨_,ot,eM⟩,⟨_,ot,(Qq aR fO (fun B U=>by repeat (first|exact U|apply mem_append_right|apply mem_cons_of_mem)))⟩,⟨_,ot,eM⟩,trivial⟩) (K:=?_);refine mW 3 ?_;refine qV ?_;refine jP ?_;refine⟨rfl,fun mE=>?_⟩;refine aN 0 [_,_,_] sizeOf30 ?_;refine aj 205 [0,3,6,9,10,13,14,70,71,72] ?_;refine ae [0,3,6,9,10,13,14,70,71,72,94] ?_;refine aq (fun dP er=>?_) (fun dP er=>?_)
  ·have hE:(fh t.av (rowAt t ((au t s.ah).1[k]'aa)) s.bH).2≠0:=(by simpa using dP)
   have iH:(iC t (bN t.av s.set) s.bH [] (au t s.ah).1)=([],(fh t.av (rowAt t ((au t s.ah).1[k]'aa)) s.bH).2):=(by rw[zL,jg,iC,if_pos hE])
   have aS:gF t s=(t,0,(fh t.av (rowAt t ((au t s.ah).1[k]'aa)) s.bH).2):=(by unfold gF;rw[if_neg hA,if_neg U,if_neg hC,if_neg hD,iH,if_pos hE])
   exact wu
  have hE:¬(fh t.av (rowAt t ((au t s.ah).1[k]'aa)) s.bH).2≠0:=(by simpa using dP)
  refine CD.skip ?_;refine jz [0,3,6,9,10,13,70,71,72] (fun aV tW aK=>((iC t (bN t.av s.set) s.bH [] (au t s.ah).1)=iC t (bN t.av s.set) s.bH (acc++[(fh t.av (rowAt t ((au t s.ah).1[k]'aa)) s.bH).1]) ((au t s.ah).1.drop (k+1)))∧aK=(⟨205,aV,tW⟩:St)) ?_ ?_
  ·refine aC 3 ?_;refine bS 98 (fun yQ E6=>?_) (fun yQ E6=>?_)
   ·refine aZ [0,3,6,9,10,13,70,71,72,102] ?_;refine aq (fun eN fR=>?_) (fun eN fR=>?_)
    ·have hF:(bN t.av s.set)=0∧(fh t.av (rowAt t ((au t s.ah).1[k]'aa)) s.bH).1.k=0:=⟨E6,by simpa using eN⟩
     have iH:(iC t (bN t.av s.set) s.bH [] (au t s.ah).1)=([],4):=(by rw[zL,jg,iC,if_neg hE,if_pos hF])
     have aS:gF t s=(t,0,4):=(by unfold gF;rw[if_neg hA,if_neg U,if_neg hC,if_neg hD,iH,if_pos w7])
     exact wu
    exact Vo
   refine aZ [0,3,6,9,10,13,70,71,72,102] ?_;refine fF ?_;exact Vo
  rintro _ ⟨nx,rfl⟩;refine dw 2 ?_;refine ei (bZ 0 [_]) [.int .i64 0,.int .i64 0,.string ⟨#[]⟩] [_,_,_] zeroValue30 runUnderlying27 sizeOf30 (fun an9=>?_);refine fG 0 105 3 1 ?_;refine OD.en (ls:=acc) (new:=[(fh t.av (rowAt t ((au t s.ah).1[k]'aa)) s.bH).1]) (Sq:=Sx) eS EF an rfl rfl underlying27 YH rfl w7 ot ee (sG (A:=[_,_,_]) (S1:=[⟨br,27,cap*1,L.flatMap gR⟩]) (S2:=Sx) (S3:=L.flatMap bR)) ot bw nu nv (fun KR JX aga agb=>?_);refine OD.perm (vE (S2:=[⟨KR,30,JX*3,flatMap cV (acc++[(fh t.av (rowAt t ((au t s.ah).1[k]'aa)) s.bH).1])⟩]) (A:=[_,_,_])) ?_;refine aj 205 [0,3,6,9,10,70,71,72] ?_;refine cj [0,3,6,9,10,70,71,72] ?_;refine⟨((k+1),(acc++[(fh t.av (rowAt t ((au t s.ah).1[k]'aa)) s.bH).1]),(some ⟨KR,0,none⟩),JX,[⟨KR,30,JX*3,flatMap cV (acc++[(fh t.av (rowAt t ((au t s.ah).1[k]'aa)) s.bH).1])⟩]),_,cz,aM,w4,B3,nx,(bD aga agb),rfl⟩
 have Dq:(iC t (bN t.av s.set) s.bH [] (au t s.ah).1)=(acc,0):=(by rw[zL,drop_of_length_le w4];rfl)
 have hN:¬(iC t (bN t.av s.set) s.bH [] (au t s.ah).1).2≠0:=(by rw[Dq];exact fun h=>h rfl)
 have qX:acc.length=(au t s.ah).1.length:=(by omega)
 have UK:=Ib g oL zj (c:=(bN t.av s.set)) (by rw[←g.av];exact Classical.not_not.1 U) (au t s.ah).1 [] lZ (Classical.not_not.1 hN) (fun v hv=>by cases hv);rw[Dq] at UK;have hl4:∀i∈(au t s.ah).1,∃h:i.toNat<L.length,L[i.toNat].r.length=4:=fun i hi=>by obtain⟨h0,h1,h2⟩:=lZ i hi;have:=(gD.ok g (lZ i hi)).1;rw[jA h1] at this;exact⟨by omega,by rw[FI hL w4 h1];exact this⟩
 have hl5:∀i∈(au t s.ah).1,∃h:i.toNat<L.length,Pc.dW dH L[i.toNat].r=0∧∀v∈L[i.toNat].r,v.Ok:=fun i hi=>by obtain⟨h0,h1,h2⟩:=lZ i hi;obtain⟨p1,p2,_⟩:=g.row _ h1 h2;exact⟨by omega,by rw[FI hL w4 h1];exact⟨p1,p2⟩⟩
 refine CD.exit ?_;refine CD.seq ?_;refine CD.seq ?_;refine CD.gd (t:=10) (Sq:=Sx) lk ee (cl eS _) (sG (A:=[_,_])) ?_;refine sy ?_;refine aZ [0,6,9,10,109] ?_;refine aq (fun eG fY=>?_) (fun eG fY=>?_)
 ·have hP:0<(bN t.av s.set):=(by simpa using eG)
  refine ae [0,6,9,10,110,111,112] ?_;refine eI [0,6,9,10,110,111] (fun aV _ (E:Nat×List cf) aK=>match E with|(k,M)=>(k≤(au t s.ah).1.length)∧(mu (bN t.av s.set).toNat {t with rows:=M.map cf.r} ((au t s.ah).1.drop k) (acc.drop k)=mu (bN t.av s.set).toNat t (au t s.ah).1 acc)∧(∀o∈M,nA o)∧(rS M ad cap Sr)∧(M.length=t.rows.length)∧(∀i∈(au t s.ah).1,∃h:i.toNat<M.length,M[i.toNat].r.length=4)∧aK=(⟨205,(112,.v (.int .i64 (k:Nat)))::aV,(⟨b3,42,12,cg s⟩::⟨bt,48,pG,pre++([.v (.string t.nm),.list 2 (t.av.flatMap cC) t.av.length,.v (.slice ad t.rows.length cap),.list 5 (t.ix.af.flatMap cP) t.ix.af.length,.v (.int .i64 t.ix.root)]++post)⟩::(Sr++M.flatMap bR))⟩:St)) (fun (E:Nat×List cf)=>match E with|(k,M)=>(au t s.ah).1.length-k) (0,L) ⟨(Nat.zero_le _),(by rw[hL];rfl),aR,j8,q9,hl4,rfl⟩ ?_;rintro⟨k,M⟩ _ ⟨dI,UL,Z,vq,wN,WZ,rfl⟩;refine ae [0,6,9,10,110,111,112,113] ?_;refine aq (fun kR td=>?_) (fun kR td=>?_)
  ·have aa:k<(au t s.ah).1.length:=(by omega)
   have dh:k<acc.length:=(by omega)
   have jg:(au t s.ah).1.drop k=((au t s.ah).1[k]'aa)::(au t s.ah).1.drop (k+1):=drop_eq_getElem_cons aa;have kW:acc.drop k=(acc[k]'dh)::acc.drop (k+1):=drop_eq_getElem_cons dh;obtain⟨gH,O,oM⟩:=lZ _ (getElem_mem aa);obtain⟨fO,rj⟩:=WZ _ (getElem_mem aa);obtain⟨br,rfl,tN,tO,rfl⟩:=vq.pos w4;obtain⟨I,xL,B5,Dr,MU⟩:=(Z _ (getElem_mem fO)).pos w4;have jE:∀o∈(M.set ((au t s.ah).1[k]'aa).toNat (⟨M[((au t s.ah).1[k]'aa).toNat].r.set (bN t.av s.set).toNat (acc[k]'dh),some ⟨I,0,none⟩,M[((au t s.ah).1[k]'aa).toNat].cap,[⟨I,30,M[((au t s.ah).1[k]'aa).toNat].cap*3,(M[((au t s.ah).1[k]'aa).toNat].r.set (bN t.av s.set).toNat (acc[k]'dh)).flatMap cV⟩]⟩:cf)),nA o:=fun o ho=>by rcases mem_or_eq_of_mem_set ho with h|h;exact Z o h;rw[h];exact bD (g:=cV) FV Dr
   have MV:(M.set ((au t s.ah).1[k]'aa).toNat (⟨M[((au t s.ah).1[k]'aa).toNat].r.set (bN t.av s.set).toNat (acc[k]'dh),some ⟨I,0,none⟩,M[((au t s.ah).1[k]'aa).toNat].cap,[⟨I,30,M[((au t s.ah).1[k]'aa).toNat].cap*3,(M[((au t s.ah).1[k]'aa).toNat].r.set (bN t.av s.set).toNat (acc[k]'dh)).flatMap cV⟩]⟩:cf)).flatMap gR=M.flatMap gR:=I2 M _ fO _ (by show[D.v (.slice _ (M[((au t s.ah).1[k]'aa).toNat].r.set (bN t.av s.set).toNat (acc[k]'dh)).length _)]=[D.v (.slice _ _ _)];rw[length_set,xL]);have BY:rS (M.set ((au t s.ah).1[k]'aa).toNat (⟨M[((au t s.ah).1[k]'aa).toNat].r.set (bN t.av s.set).toNat (acc[k]'dh),some ⟨I,0,none⟩,M[((au t s.ah).1[k]'aa).toNat].cap,[⟨I,30,M[((au t s.ah).1[k]'aa).toNat].cap*3,(M[((au t s.ah).1[k]'aa).toNat].r.set (bN t.av s.set).toNat (acc[k]'dh)).flatMap cV⟩]⟩:cf)) (some ⟨br,0,none⟩) cap [⟨br,27,cap*1,M.flatMap gR⟩]:=(by rw[←MV];exact bD (by rw[length_set];exact tN) tO)
   have aiQ:∀i∈(au t s.ah).1,∃h:i.toNat<(M.set ((au t s.ah).1[k]'aa).toNat (⟨M[((au t s.ah).1[k]'aa).toNat].r.set (bN t.av s.set).toNat (acc[k]'dh),some ⟨I,0,none⟩,M[((au t s.ah).1[k]'aa).toNat].cap,[⟨I,30,M[((au t s.ah).1[k]'aa).toNat].cap*3,(M[((au t s.ah).1[k]'aa).toNat].r.set (bN t.av s.set).toNat (acc[k]'dh)).flatMap cV⟩]⟩:cf)).length,(M.set ((au t s.ah).1[k]'aa).toNat (⟨M[((au t s.ah).1[k]'aa).toNat].r.set (bN t.av s.set).toNat (acc[k]'dh),some ⟨I,0,none⟩,M[((au t s.ah).1[k]'aa).toNat].cap,[⟨I,30,M[((au t s.ah).1[k]'aa).toNat].cap*3,(M[((au t s.ah).1[k]'aa).toNat].r.set (bN t.av s.set).toNat (acc[k]'dh)).flatMap cV⟩]⟩:cf))[i.toNat].r.length=4:=fun i hi=>by obtain⟨h1,h2⟩:=WZ i hi;refine⟨by rw[length_set];exact h1,?_⟩;rw[getElem_set];split;(show(M[((au t s.ah).1[k]'aa).toNat].r.set (bN t.av s.set).toNat (acc[k]'dh)).length=4;rw[length_set];exact rj);exact h2
   have agc:mu (bN t.av s.set).toNat {t with rows:=(M.set ((au t s.ah).1[k]'aa).toNat (⟨M[((au t s.ah).1[k]'aa).toNat].r.set (bN t.av s.set).toNat (acc[k]'dh),some ⟨I,0,none⟩,M[((au t s.ah).1[k]'aa).toNat].cap,[⟨I,30,M[((au t s.ah).1[k]'aa).toNat].cap*3,(M[((au t s.ah).1[k]'aa).toNat].r.set (bN t.av s.set).toNat (acc[k]'dh)).flatMap cV⟩]⟩:cf)).map cf.r} ((au t s.ah).1.drop (k+1)) (acc.drop (k+1))=mu (bN t.av s.set).toNat t (au t s.ah).1 acc:=(by rw[←UL,jg,kW,mu];congr 1;exact(RP (x:=t.ix) fO rfl).symm)
   refine CD.perm (Qr fO MU) ?_;refine ae [0,6,9,10,15,16,110,111,112] ?_;refine lT 12 [0,6,9,10,110,111,112,123,124,128] ?_;refine aP 3 ?_ (h:=by exact(nV 2));refine aP 1 ?_ (h:=by exact(dy 1 (h:=by first|exact .l (j:=((au t s.ah).1[k]'aa).toNat) (Int.toNat_of_nonneg gH).symm u5|exact .r (j:=((au t s.ah).1[k]'aa).toNat) (Int.toNat_of_nonneg gH).symm u5)));refine aP 0 ?_ (h:=by exact(cH (mk:=Op.load 27) rfl ot (iK (k:=3) (i:=((au t s.ah).1[k]'aa).toNat) (ls:=M) (d:=.v (.slice (some ⟨I,0,none⟩) M[((au t s.ah).1[k]'aa).toNat].r.length M[((au t s.ah).1[k]'aa).toNat].cap)) uA rfl rfl rfl isAgg27 fO (by rw[←xL];rfl))));refine bM ?_;refine bJ (dy 3 (h:=by first|exact .l (j:=(bN t.av s.set).toNat) (Int.toNat_of_nonneg w4).symm (by rw[rj];omega)|exact .r (j:=(bN t.av s.set).toNat) (Int.toNat_of_nonneg w4).symm (by rw[rj];omega))) ?_;refine OD.storeAt (k:=0) (cs':=(M[((au t s.ah).1[k]'aa).toNat].r.set (bN t.av s.set).toNat (acc[k]'dh)).flatMap cV) an rfl rfl ot rfl rfl ot rfl rfl sizeOf30 rfl (by show 0+(bN t.av s.set).toNat*3+3≤(M[((au t s.ah).1[k]'aa).toNat].r.flatMap cV).length;rw[cl eS,rj];omega) (by show cY (M[((au t s.ah).1[k]'aa).toNat].r.flatMap cV) (0+(bN t.av s.set).toNat*3) (cV (acc[k]'dh))=_;rw[Nat.zero_add];exact oc eS _ _ (by rw[rj];omega)) ?_;refine aj 205 [0,6,9,10,110,111,112] ?_;refine dw 1 ?_
   refine OD.perm (RO fO (o:=(⟨M[((au t s.ah).1[k]'aa).toNat].r.set (bN t.av s.set).toNat (acc[k]'dh),some ⟨I,0,none⟩,M[((au t s.ah).1[k]'aa).toNat].cap,[⟨I,30,M[((au t s.ah).1[k]'aa).toNat].cap*3,(M[((au t s.ah).1[k]'aa).toNat].r.set (bN t.av s.set).toNat (acc[k]'dh)).flatMap cV⟩]⟩:cf)) rfl) ?_;refine aj 205 [0,6,9,10,110,111,112] ?_;refine⟨((k+1),(M.set ((au t s.ah).1[k]'aa).toNat (⟨M[((au t s.ah).1[k]'aa).toNat].r.set (bN t.av s.set).toNat (acc[k]'dh),some ⟨I,0,none⟩,M[((au t s.ah).1[k]'aa).toNat].cap,[⟨I,30,M[((au t s.ah).1[k]'aa).toNat].cap*3,(M[((au t s.ah).1[k]'aa).toNat].r.set (bN t.av s.set).toNat (acc[k]'dh)).flatMap cV⟩]⟩:cf))),_,cz,aM,w4,agc,jE,BY,(by rw[length_set];exact wN),aiQ,rfl⟩
  have agd:mu (bN t.av s.set).toNat t (au t s.ah).1 acc={t with rows:=M.map cf.r}:=(by rw[←UL,drop_of_length_le (l:=(au t s.ah).1) w4,abM])
  have aS:gF t s=({t with rows:=M.map cf.r},((au t s.ah).1.length:Int),0):=(by unfold gF;rw[if_neg hA,if_neg U,if_neg hC,if_neg hD,if_neg hN,if_pos hP,Dq,agd])
  refine ae [4,5] ?_;refine aJ (⟨bt,48,pG,pre++(_++post)⟩::(Sr++M.flatMap bR)) ?_;rw[aS];exact⟨rfl,fun _=>⟨M,ad,cap,Sr,⟨rfl,Z,vq⟩,by simp only[tC,length_map,wN]⟩⟩
 have hP:¬0<(bN t.av s.set):=(by simpa using eG)
 have xM:(bN t.av s.set)=0:=(by omega)
 refine ae [0,9,10,133,134,135] ?_;refine eI [0,9,10,133,134] (fun aV _ (E:Nat×aE) aK=>match E with|(k,x)=>(k≤(au t s.ah).1.length)∧(nL t x ((au t s.ah).1.drop k)=nL t t.ix (au t s.ah).1)∧(iv x n)∧(∀i∈(au t s.ah).1.drop k,(dj (rowAt t i),i)∈gE x)∧aK=(⟨205,(135,.v (.int .i64 (k:Nat)))::aV,(⟨b3,42,12,cg s⟩::⟨bt,48,pG,pre++([.v (.string t.nm),.list 2 (t.av.flatMap cC) t.av.length,.v (.slice ad t.rows.length cap),.list 5 (x.af.flatMap cP) x.af.length,.v (.int .i64 x.root)]++post)⟩::(Sr++L.flatMap bR))⟩:St)) (fun (E:Nat×aE)=>match E with|(k,x)=>(au t s.ah).1.length-k) (0,t.ix) ⟨(Nat.zero_le _),rfl,g.ix,(fun i hi=>(lZ i hi).jm g),rfl⟩ ?_;rintro⟨k,x⟩ _ ⟨fj,KS,gx,xB,rfl⟩;refine ae [0,9,10,133,134,135,136] ?_;refine aq (fun sC wF=>?_) (fun sC wF=>?_)
 ·have aa:k<(au t s.ah).1.length:=(by omega)
  have jg:(au t s.ah).1.drop k=((au t s.ah).1[k]'aa)::(au t s.ah).1.drop (k+1):=drop_eq_getElem_cons aa;have ri:gD t ((au t s.ah).1[k]'aa):=lZ _ (getElem_mem aa);obtain⟨gH,O,oM⟩:=id ri;have fO:((au t s.ah).1[k]'aa).toNat<L.length:=(by rw[q9];exact O)
  obtain⟨br,rfl,tN,tO,rfl⟩:=j8.pos w4;have vt:L[((au t s.ah).1[k]'aa).toNat].r=rowAt t ((au t s.ah).1[k]'aa):=(by rw[jA O];exact(FI hL fO O))
  obtain⟨WX,Dp⟩:=gD.ok g ri;have UM:=Jl (G:=G) hG L[((au t s.ah).1[k]'aa).toNat].r (by rw[vt];omega) (by rw[vt];omega) (by rw[vt];exact fun v hv=>(Dp v hv).1);rw[show dj L[((au t s.ah).1[k]'aa).toNat].r=dj (rowAt t ((au t s.ah).1[k]'aa)) from by rw[vt]] at UM;have iG:=xB _ (by rw[jg];exact mem_cons_self);have W0:=H7 gx ((Ar gx.val _).2 ⟨_,iG⟩);have xK:=Qh (G:=G) gx (dj (rowAt t ((au t s.ah).1[k]'aa)));rw[Ry gx (vL (by rw[jA O];exact(g.row _ O oM).1)) ((As gx _).2 ⟨_,iG⟩)] at xK;unfold Tw.cT at xK;have age:nL t (gp x (dA x) (dj (rowAt t ((au t s.ah).1[k]'aa)))) ((au t s.ah).1.drop (k+1))=nL t t.ix (au t s.ah).1:=(by rw[←KS,jg];rfl)
  have aiR:∀i∈(au t s.ah).1.drop (k+1),(dj (rowAt t i),i)∈gE (gp x (dA x) (dj (rowAt t ((au t s.ah).1[k]'aa)))):=fun i hi=>by refine(W0.2 _).2 ⟨xB i (by rw[jg];exact mem_cons_of_mem _ hi),fun e=>?_⟩;have h9:=hnd.sublist (drop_sublist k _);rw[jg,nodup_cons] at h9;have h8:=IZ g.ix ((lZ i (mem_of_mem_drop hi)).jm g) (ri.jm g) e;simp only[Prod.mk.injEq] at h8;exact h9.1 (h8.2 ▸ hi)
  refine ae [0,9,10,18,133,134,135] ?_;refine lT 17 [0,9,10,133,134,135,140,154] ?_;refine aP 4 ?_ (h:=by exact(wJ 1));refine aP 3 ?_ (h:=by exact(nV 1));refine aP 1 ?_ (h:=by exact(dy 1 (h:=by first|exact .l (j:=((au t s.ah).1[k]'aa).toNat) (Int.toNat_of_nonneg gH).symm O|exact .r (j:=((au t s.ah).1[k]'aa).toNat) (Int.toNat_of_nonneg gH).symm O)));refine aP 0 ?_ (h:=by exact(cH (mk:=Op.load 27) rfl ot (iK (k:=2) (i:=((au t s.ah).1[k]'aa).toNat) (ls:=L) uA rfl rfl rfl isAgg27 fO rfl)));refine yX (UM) (fun r S h=>h.flat) (fun r S h=>h.view) (ha:=by exact⟨⟨_,ot,(Qq aR fO (fun B U=>by repeat (first|exact U|apply mem_append_right|apply mem_cons_of_mem)))⟩,trivial⟩) (K:=?_);refine cU (xK) ?_;refine bM ?_;refine aD 2 ?_
  refine OD.storeAt (k:=1) (cs':=pre++([.v (.string t.nm),.list 2 (t.av.flatMap cC) t.av.length,.v (.slice (some ⟨br,0,none⟩) t.rows.length cap),.list 5 ((gp x (dA x) (dj (rowAt t ((au t s.ah).1[k]'aa)))).af.flatMap cP) (gp x (dA x) (dj (rowAt t ((au t s.ah).1[k]'aa)))).af.length,.v (.int .i64 (gp x (dA x) (dj (rowAt t ((au t s.ah).1[k]'aa)))).root)]++post)) an rfl rfl ot rfl rfl ot rfl rfl sizeOf46 rfl (by show off+3+2≤(pre++(([.v (.string t.nm),.list 2 (t.av.flatMap cC) t.av.length,.v (.slice (some ⟨br,0,none⟩) t.rows.length cap),.list 5 (x.af.flatMap cP) x.af.length,.v (.int .i64 x.root)]:List D)++post)).length;simp only[length_append,length_cons,length_nil];omega) (by exact AP (j:=3) hp aO rfl) ?_;refine aj 205 [0,9,10,133,134,135] ?_;refine cj [0,9,10,133,134,135] ?_;refine⟨((k+1),(gp x (dA x) (dj (rowAt t ((au t s.ah).1[k]'aa))))),_,cz,aM,w4,age,W0.1,aiR,rfl⟩
 have xF:nL t t.ix (au t s.ah).1=x:=(by rw[←KS,drop_of_length_le w4];rfl)
 clear KS xB;skip;refine ae [0,9,10,159,160,161] ?_;refine eI [0,9,10,159,160] (fun aV _ (E:Nat×List cf×aE) aK=>match E with|(k,M,y)=>(k≤(au t s.ah).1.length)∧(j6 {t with rows:=M.map cf.r,ix:=y} ((au t s.ah).1.drop k) (acc.drop k)=j6 {t with ix:=nL t t.ix (au t s.ah).1} (au t s.ah).1 acc)∧(∀o∈M,nA o)∧(rS M ad cap Sr)∧(M.length=t.rows.length)∧(∀i∈(au t s.ah).1,∃h:i.toNat<M.length,Pc.dW dH M[i.toNat].r=0∧∀v∈M[i.toNat].r,v.Ok)∧(iv y (n+k))∧aK=(⟨205,(161,.v (.int .i64 (k:Nat)))::aV,(⟨b3,42,12,cg s⟩::⟨bt,48,pG,pre++([.v (.string t.nm),.list 2 (t.av.flatMap cC) t.av.length,.v (.slice ad t.rows.length cap),.list 5 (y.af.flatMap cP) y.af.length,.v (.int .i64 y.root)]++post)⟩::(Sr++M.flatMap bR))⟩:St)) (fun (E:Nat×List cf×aE)=>match E with|(k,M,y)=>(au t s.ah).1.length-k) (0,L,x) ⟨(Nat.zero_le _),(by rw[hL,xF];rfl),aR,j8,q9,hl5,gx,rfl⟩ ?_;rintro⟨k,M,y⟩ _ ⟨dI,zZ,Z,vq,wN,W4,gy,rfl⟩;refine ae [0,9,10,159,160,161,162] ?_;refine aq (fun s6 rC=>?_) (fun s6 rC=>?_)
 ·have aa:k<(au t s.ah).1.length:=(by omega)
  have dh:k<acc.length:=(by omega)
  have jg:(au t s.ah).1.drop k=((au t s.ah).1[k]'aa)::(au t s.ah).1.drop (k+1):=drop_eq_getElem_cons aa;have kW:acc.drop k=(acc[k]'dh)::acc.drop (k+1):=drop_eq_getElem_cons dh;obtain⟨gH,O,oM⟩:=lZ _ (getElem_mem aa);obtain⟨fO,W5,hx6⟩:=W4 _ (getElem_mem aa);have rj:=pY W5;obtain⟨aiS,UN,aiT⟩:=UK _ (getElem_mem dh);have xJ:(acc[k]'dh).k≠0∧jC (dH[0]'w7).k (acc[k]'dh):=(by have h1:=aiT xM;refine⟨h1,UN.1,?_⟩;have h2:=UN.2;have aiU:bN dH s.set=0:=(by rw[←g.av];exact xM);have W6:=hC;simp only[g.av,aiU] at W6;have h3:(ec dH s.bH).1=(dH[0]'w7).k∨(ec dH s.bH).1=0:=(Classical.em ((ec dH s.bH).1=(dH[0]'w7).k)).imp id fun h=>Classical.not_not.1 fun h'=>W6 ⟨h,h'⟩;omega)
  obtain⟨br,rfl,tN,tO,rfl⟩:=vq.pos w4;obtain⟨I,xL,B5,Dr,MU⟩:=(Z _ (getElem_mem fO)).pos w4;have jE:∀o∈(M.set ((au t s.ah).1[k]'aa).toNat (⟨M[((au t s.ah).1[k]'aa).toNat].r.set 0 (acc[k]'dh),some ⟨I,0,none⟩,M[((au t s.ah).1[k]'aa).toNat].cap,[⟨I,30,M[((au t s.ah).1[k]'aa).toNat].cap*3,(M[((au t s.ah).1[k]'aa).toNat].r.set 0 (acc[k]'dh)).flatMap cV⟩]⟩:cf)),nA o:=fun o ho=>by rcases mem_or_eq_of_mem_set ho with h|h;exact Z o h;rw[h];exact bD (g:=cV) FV Dr
  have MV:(M.set ((au t s.ah).1[k]'aa).toNat (⟨M[((au t s.ah).1[k]'aa).toNat].r.set 0 (acc[k]'dh),some ⟨I,0,none⟩,M[((au t s.ah).1[k]'aa).toNat].cap,[⟨I,30,M[((au t s.ah).1[k]'aa).toNat].cap*3,(M[((au t s.ah).1[k]'aa).toNat].r.set 0 (acc[k]'dh)).flatMap cV⟩]⟩:cf)).flatMap gR=M.flatMap gR:=I2 M _ fO _ (by show[D.v (.slice _ (M[((au t s.ah).1[k]'aa).toNat].r.set 0 (acc[k]'dh)).length _)]=[D.v (.slice _ _ _)];rw[length_set,xL]);have BY:rS (M.set ((au t s.ah).1[k]'aa).toNat (⟨M[((au t s.ah).1[k]'aa).toNat].r.set 0 (acc[k]'dh),some ⟨I,0,none⟩,M[((au t s.ah).1[k]'aa).toNat].cap,[⟨I,30,M[((au t s.ah).1[k]'aa).toNat].cap*3,(M[((au t s.ah).1[k]'aa).toNat].r.set 0 (acc[k]'dh)).flatMap cV⟩]⟩:cf)) (some ⟨br,0,none⟩) cap [⟨br,27,cap*1,M.flatMap gR⟩]:=(by rw[←MV];exact bD (by rw[length_set];exact tN) tO)
  have TE:Pc.dW dH (M[((au t s.ah).1[k]'aa).toNat].r.set 0 (acc[k]'dh))=0:=RN W5 w7 xJ.2 (fun _=>xJ.1);have wH:∀v∈M[((au t s.ah).1[k]'aa).toNat].r.set 0 (acc[k]'dh),v.Ok:=fun v hv=>by rcases mem_or_eq_of_mem_set hv with h|h;exact hx6 v h;rw[h];exact aiS
  have aiV:∀i∈(au t s.ah).1,∃h:i.toNat<(M.set ((au t s.ah).1[k]'aa).toNat (⟨M[((au t s.ah).1[k]'aa).toNat].r.set 0 (acc[k]'dh),some ⟨I,0,none⟩,M[((au t s.ah).1[k]'aa).toNat].cap,[⟨I,30,M[((au t s.ah).1[k]'aa).toNat].cap*3,(M[((au t s.ah).1[k]'aa).toNat].r.set 0 (acc[k]'dh)).flatMap cV⟩]⟩:cf)).length,Pc.dW dH (M.set ((au t s.ah).1[k]'aa).toNat (⟨M[((au t s.ah).1[k]'aa).toNat].r.set 0 (acc[k]'dh),some ⟨I,0,none⟩,M[((au t s.ah).1[k]'aa).toNat].cap,[⟨I,30,M[((au t s.ah).1[k]'aa).toNat].cap*3,(M[((au t s.ah).1[k]'aa).toNat].r.set 0 (acc[k]'dh)).flatMap cV⟩]⟩:cf))[i.toNat].r=0∧∀v∈(M.set ((au t s.ah).1[k]'aa).toNat (⟨M[((au t s.ah).1[k]'aa).toNat].r.set 0 (acc[k]'dh),some ⟨I,0,none⟩,M[((au t s.ah).1[k]'aa).toNat].cap,[⟨I,30,M[((au t s.ah).1[k]'aa).toNat].cap*3,(M[((au t s.ah).1[k]'aa).toNat].r.set 0 (acc[k]'dh)).flatMap cV⟩]⟩:cf))[i.toNat].r,v.Ok:=fun i hi=>by obtain⟨h1,h2⟩:=W4 i hi;refine⟨by rw[length_set];exact h1,?_⟩;rw[getElem_set];split;exact⟨TE,wH⟩;exact h2
  have dU:=vL TE;have UO:=Jl (G:=G) hG (M[((au t s.ah).1[k]'aa).toNat].r.set 0 (acc[k]'dh)) u4 u4 wH;have Ds:=Qg (G:=G) gy (dj (M[((au t s.ah).1[k]'aa).toNat].r.set 0 (acc[k]'dh))) ((au t s.ah).1[k]'aa);unfold Tw.cT at Ds
  have UP:j6 {t with ix:=nL t t.ix (au t s.ah).1} (au t s.ah).1 acc=if gS y (dj (M[((au t s.ah).1[k]'aa).toNat].r.set 0 (acc[k]'dh))) (dA y)=true then ({t with rows:=M.map cf.r,ix:=y},9) else j6 {t with rows:=(M.set ((au t s.ah).1[k]'aa).toNat (⟨M[((au t s.ah).1[k]'aa).toNat].r.set 0 (acc[k]'dh),some ⟨I,0,none⟩,M[((au t s.ah).1[k]'aa).toNat].cap,[⟨I,30,M[((au t s.ah).1[k]'aa).toNat].cap*3,(M[((au t s.ah).1[k]'aa).toNat].r.set 0 (acc[k]'dh)).flatMap cV⟩]⟩:cf)).map cf.r,ix:=(gm y (dA y) (dj (M[((au t s.ah).1[k]'aa).toNat].r.set 0 (acc[k]'dh))) ((au t s.ah).1[k]'aa))} ((au t s.ah).1.drop (k+1)) (acc.drop (k+1)):=by rw[←zZ,jg,kW,j6,RP (o:=(⟨M[((au t s.ah).1[k]'aa).toNat].r.set 0 (acc[k]'dh),some ⟨I,0,none⟩,M[((au t s.ah).1[k]'aa).toNat].cap,[⟨I,30,M[((au t s.ah).1[k]'aa).toNat].cap*3,(M[((au t s.ah).1[k]'aa).toNat].r.set 0 (acc[k]'dh)).flatMap cV⟩]⟩:cf)) fO rfl,OS qP,show((M.set ((au t s.ah).1[k]'aa).toNat (⟨M[((au t s.ah).1[k]'aa).toNat].r.set 0 (acc[k]'dh),some ⟨I,0,none⟩,M[((au t s.ah).1[k]'aa).toNat].cap,[⟨I,30,M[((au t s.ah).1[k]'aa).toNat].cap*3,(M[((au t s.ah).1[k]'aa).toNat].r.set 0 (acc[k]'dh)).flatMap cV⟩]⟩:cf))[((au t s.ah).1[k]'aa).toNat]'qP)=(⟨M[((au t s.ah).1[k]'aa).toNat].r.set 0 (acc[k]'dh),some ⟨I,0,none⟩,M[((au t s.ah).1[k]'aa).toNat].cap,[⟨I,30,M[((au t s.ah).1[k]'aa).toNat].cap*3,(M[((au t s.ah).1[k]'aa).toNat].r.set 0 (acc[k]'dh)).flatMap cV⟩]⟩:cf) from getElem_set_self _]
  refine CD.perm (Qr fO MU) ?_;refine ae [0,9,10,19,20,159,160,161] ?_;refine CD.seq ?_;refine lT 11 [0,9,10,20,159,160,161,172,176] ?_;refine aP 3 ?_ (h:=by exact(nV 2));refine aP 1 ?_ (h:=by exact(dy 1 (h:=by first|exact .l (j:=((au t s.ah).1[k]'aa).toNat) (Int.toNat_of_nonneg gH).symm u5|exact .r (j:=((au t s.ah).1[k]'aa).toNat) (Int.toNat_of_nonneg gH).symm u5)));refine aP 0 ?_ (h:=by exact(cH (mk:=Op.load 27) rfl ot (iK (k:=3) (i:=((au t s.ah).1[k]'aa).toNat) (ls:=M) (d:=.v (.slice (some ⟨I,0,none⟩) M[((au t s.ah).1[k]'aa).toNat].r.length M[((au t s.ah).1[k]'aa).toNat].cap)) uA rfl rfl rfl isAgg27 fO (by rw[←xL];rfl))));refine bM ?_;refine bJ (nZ (mk:=Op.indexAddr 27) rfl ot bC (by first|exact oR runUnderlying27 sizeOf30 (j:=0) rfl (by rw[rj];decide)|exact oV runUnderlying27 sizeOf30 (j:=0) rfl (by rw[rj];decide))) ?_;refine OD.storeAt (k:=0) (cs':=(M[((au t s.ah).1[k]'aa).toNat].r.set 0 (acc[k]'dh)).flatMap cV) an rfl rfl ot rfl rfl ot rfl rfl sizeOf30 rfl (by show 0+0*3+3≤(M[((au t s.ah).1[k]'aa).toNat].r.flatMap cV).length;rw[cl eS,rj];omega) (by show cY (M[((au t s.ah).1[k]'aa).toNat].r.flatMap cV) (0+0*3) (cV (acc[k]'dh))=_;rw[Nat.zero_add];exact oc eS _ _ (by rw[rj];omega)) ?_;refine aj 205 [0,9,10,20,159,160,161] ?_;refine CD.seq ?_
  rcases iG:gS y (dj (M[((au t s.ah).1[k]'aa).toNat].r.set 0 (acc[k]'dh))) (dA y) with _|_
  ·rw[SL gy w4 dU gH iG] at Ds;have gy2:iv (gm y (dA y) (dj (M[((au t s.ah).1[k]'aa).toNat].r.set 0 (acc[k]'dh))) ((au t s.ah).1[k]'aa)) (n+(k+1)):=(Ef gy w4 ((Eg gy).1 iG) dU gH).1;have aiW:j6 {t with rows:=(M.set ((au t s.ah).1[k]'aa).toNat (⟨M[((au t s.ah).1[k]'aa).toNat].r.set 0 (acc[k]'dh),some ⟨I,0,none⟩,M[((au t s.ah).1[k]'aa).toNat].cap,[⟨I,30,M[((au t s.ah).1[k]'aa).toNat].cap*3,(M[((au t s.ah).1[k]'aa).toNat].r.set 0 (acc[k]'dh)).flatMap cV⟩]⟩:cf)).map cf.r,ix:=(gm y (dA y) (dj (M[((au t s.ah).1[k]'aa).toNat].r.set 0 (acc[k]'dh))) ((au t s.ah).1[k]'aa))} ((au t s.ah).1.drop (k+1)) (acc.drop (k+1))=j6 {t with ix:=nL t t.ix (au t s.ah).1} (au t s.ah).1 acc:=(by rw[UP,if_neg wQ])
   refine tJ 18 17 [0,9,10,21,159,160,161,193,194] ?_;refine aP 3 ?_ (h:=by exact(wJ 2));refine aP 3 ?_ (h:=by exact(nV 2));refine aP 1 ?_ (h:=by exact(dy 1 (h:=by first|exact .l (j:=((au t s.ah).1[k]'aa).toNat) (Int.toNat_of_nonneg gH).symm u5|exact .r (j:=((au t s.ah).1[k]'aa).toNat) (Int.toNat_of_nonneg gH).symm u5)));refine aP 0 ?_ (h:=by exact(cH (mk:=Op.load 27) rfl ot (iK (k:=3) (i:=((au t s.ah).1[k]'aa).toNat) (ls:=M) (d:=.v (.slice (some ⟨I,0,none⟩) (M[((au t s.ah).1[k]'aa).toNat].r.set 0 (acc[k]'dh)).length M[((au t s.ah).1[k]'aa).toNat].cap)) uA rfl rfl rfl isAgg27 fO (by rw[←xL,length_set];rfl))));refine yX (UO) (fun r S h=>h.flat) (fun r S h=>h.view) (ha:=by exact⟨⟨_,ot,(kY (bD (g:=cV) FV Dr) (cl eS _) (fun B U=>by rw[mem_singleton] at U;rw[U];exact mem_cons_self))⟩,trivial⟩) (K:=?_);refine cU (Ds) ?_;refine mW 3 ?_;refine qV ?_;refine jP ?_;refine⟨rfl,fun Cy=>?_⟩;refine aN 0 [_,_] sizeOf46 ?_;refine aj 205 [0,9,10,21,22,159,160,161] ?_;refine ae [0,9,10,21,22,159,160,161,196] ?_;refine aq (fun oZ sW=>?_) (fun oZ sW=>?_)
   ·exact absurd oZ (by simp at oZ)
   refine dw 4 ?_;refine OD.storeAt (k:=3) (cs':=pre++([.v (.string t.nm),.list 2 (t.av.flatMap cC) t.av.length,.v (.slice (some ⟨br,0,none⟩) t.rows.length cap),.list 5 ((gm y (dA y) (dj (M[((au t s.ah).1[k]'aa).toNat].r.set 0 (acc[k]'dh))) ((au t s.ah).1[k]'aa)).af.flatMap cP) (gm y (dA y) (dj (M[((au t s.ah).1[k]'aa).toNat].r.set 0 (acc[k]'dh))) ((au t s.ah).1[k]'aa)).af.length,.v (.int .i64 (gm y (dA y) (dj (M[((au t s.ah).1[k]'aa).toNat].r.set 0 (acc[k]'dh))) ((au t s.ah).1[k]'aa)).root)]++post)) an rfl rfl ot rfl rfl ot rfl rfl sizeOf46 rfl (by show off+3+2≤(pre++(([.v (.string t.nm),.list 2 (t.av.flatMap cC) t.av.length,.v (.slice (some ⟨br,0,none⟩) t.rows.length cap),.list 5 (y.af.flatMap cP) y.af.length,.v (.int .i64 y.root)]:List D)++post)).length;simp only[length_append,length_cons,length_nil];omega) (by exact AP (j:=3) hp aO rfl) ?_;refine aj 205 [0,9,10,159,160,161] ?_;refine dw 1 ?_;refine OD.perm ((RO fO (o:=(⟨M[((au t s.ah).1[k]'aa).toNat].r.set 0 (acc[k]'dh),some ⟨I,0,none⟩,M[((au t s.ah).1[k]'aa).toNat].cap,[⟨I,30,M[((au t s.ah).1[k]'aa).toNat].cap*3,(M[((au t s.ah).1[k]'aa).toNat].r.set 0 (acc[k]'dh)).flatMap cV⟩]⟩:cf)) rfl).cons _) ?_;refine aj 205 [0,9,10,159,160,161] ?_
   refine⟨((k+1),(M.set ((au t s.ah).1[k]'aa).toNat (⟨M[((au t s.ah).1[k]'aa).toNat].r.set 0 (acc[k]'dh),some ⟨I,0,none⟩,M[((au t s.ah).1[k]'aa).toNat].cap,[⟨I,30,M[((au t s.ah).1[k]'aa).toNat].cap*3,(M[((au t s.ah).1[k]'aa).toNat].r.set 0 (acc[k]'dh)).flatMap cV⟩]⟩:cf)),(gm y (dA y) (dj (M[((au t s.ah).1[k]'aa).toNat].r.set 0 (acc[k]'dh))) ((au t s.ah).1[k]'aa))),_,cz,aM,w4,aiW,jE,BY,(by rw[length_set];exact wN),aiV,gy2,rfl⟩
  rw[ac3 gy dU gH iG] at Ds;have aS:gF t s=(t,0,9):=(by unfold gF;rw[if_neg hA,if_neg U,if_neg hC,if_neg hD,if_neg hN,if_neg hP,Dq,UP,if_pos iG];exact if_pos (show(9:Int)≠0 by decide))
  refine tJ 18 17 [0,9,10,21,159,160,161,193,194] ?_;refine aP 3 ?_ (h:=by exact(wJ 2));refine aP 3 ?_ (h:=by exact(nV 2));refine aP 1 ?_ (h:=by exact(dy 1 (h:=by first|exact .l (j:=((au t s.ah).1[k]'aa).toNat) (Int.toNat_of_nonneg gH).symm u5|exact .r (j:=((au t s.ah).1[k]'aa).toNat) (Int.toNat_of_nonneg gH).symm u5)));refine aP 0 ?_ (h:=by exact(cH (mk:=Op.load 27) rfl ot (iK (k:=3) (i:=((au t s.ah).1[k]'aa).toNat) (ls:=M) (d:=.v (.slice (some ⟨I,0,none⟩) (M[((au t s.ah).1[k]'aa).toNat].r.set 0 (acc[k]'dh)).length M[((au t s.ah).1[k]'aa).toNat].cap)) uA rfl rfl rfl isAgg27 fO (by rw[←xL,length_set];rfl))));refine yX (UO) (fun r S h=>h.flat) (fun r S h=>h.view) (ha:=by exact⟨⟨_,ot,(kY (bD (g:=cV) FV Dr) (cl eS _) (fun B U=>by rw[mem_singleton] at U;rw[U];exact mem_cons_self))⟩,trivial⟩) (K:=?_);refine cU (Ds) ?_;refine mW 3 ?_;refine qV ?_;refine jP ?_;refine⟨rfl,fun Cy=>?_⟩;refine aN 0 [_,_] sizeOf46 ?_;refine aj 205 [0,9,10,21,22,159,160,161] ?_;refine ae [0,9,10,21,22,159,160,161,196] ?_;refine aq (fun oZ sW=>?_) (fun oZ sW=>?_)
  ·exact wu
  exact absurd oZ (by simp at oZ)
 have agf:j6 {t with ix:=nL t t.ix (au t s.ah).1} (au t s.ah).1 acc=({t with rows:=M.map cf.r,ix:=y},0):=(by rw[←zZ,drop_of_length_le (l:=(au t s.ah).1) w4,Z7])
 have aS:gF t s=({t with rows:=M.map cf.r,ix:=y},((au t s.ah).1.length:Int),0):=(by unfold gF;rw[if_neg hA,if_neg U,if_neg hC,if_neg hD,if_neg hN,if_neg hP,Dq,agf];exact if_neg (fun h=>h rfl))
 refine ae [4,5] ?_;refine aJ (⟨bt,48,pG,pre++(_++post)⟩::(Sr++M.flatMap bR)) ?_;rw[aS];exact⟨rfl,fun _=>⟨M,ad,cap,Sr,⟨rfl,Z,vq⟩,by simp only[tC,length_map,wN]⟩⟩

open Go.Proofs.YtbcmjoaggammcaaGreatDoor.So
def Bn(p:(List (List Vl)×Int)×Int)(r:D)(S:List ag):Prop:=∃(L:List cf) (ad:Option Addr) (cap:Nat) (Sx:List ag),r = .dz [.agg [.v (.slice ad L.length cap),.v (.int .i64 p.1.2)],.v (.int .i64 p.2)]∧rS L ad cap Sx∧(∀o∈L,nA o)∧L.map cf.r=p.1.1∧S=Sx++L.flatMap bR
theorem Bn.view{r:D}(h:Bn p r S):View S r (Dm p):=by
 obtain⟨L,ad,cap,Sx,rfl,ho,aR,hL,rfl⟩:=h;unfold Dm;rw[←hL,length_map];exact D6 ⟨uh ⟨An ho (Ez aR fun B E=>mem_append_right _ E) (by rw[cl kL,length_map]) (fun B E=>mem_append_left _ E),eM,trivial⟩,eM,trivial⟩
theorem aeX(l:List Vl):∀d∈l.flatMap cV,kr d=true:=fun d hd=>by
 obtain⟨v,_,hv⟩:=mem_flatMap.1 hd;unfold cV at hv;simp only[mem_cons,not_mem_nil,or_false] at hv;rcases hv with rfl|rfl|rfl<;>rfl
theorem aeY(l:List cf):∀d∈l.flatMap gR,kr d=true:=fun d hd=>by
 obtain⟨v,_,hv⟩:=mem_flatMap.1 hd;unfold gR at hv;rw[mem_singleton] at hv;subst hv;rfl
theorem Bn.flat{r:D}(h:Bn p r S):kr r=true∧∀B∈S,∀d∈B.cs,kr d=true:=by
 obtain⟨L,ad,cap,Sx,rfl,ho,aR,hL,rfl⟩:=h;refine⟨rfl,fun B E=>?_⟩;rcases mem_append.1 E with E|E
 ·rcases ho with ⟨_,_,_,_,rfl⟩|⟨b,_,_,_,rfl⟩
  ·cases E
  rw[mem_singleton] at E;subst E;exact aeY L
 obtain⟨o,I,E⟩:=mem_flatMap.1 E;have h1:=aR o I;unfold bR at E;rcases h1 with ⟨_,_,_,_,h2⟩|⟨b,_,_,_,h2⟩
 ·rw[h2] at E;cases E
 rw[h2,mem_singleton] at E;subst E;exact aeX o.r
theorem aeZ(g:eW t n)(s:cN):rU t s<4:=by
 unfold rU;split
 ·decide
 have:=(Jo (l:=t.av) (nm:=s.order)).2;rw[g.av] at this ⊢;exact this
theorem agh(g:eW t n){names:List ByteArray}(h:∀n∈names,0≤bN t.av n):∀c∈vp t names,0≤c∧c.toNat<4:=fun c hc=>by
 have h4:t.av.length=4:=(by rw[g.av];rfl)
 unfold vp at hc;split at hc
 ·obtain⟨i,hi,rfl⟩:=mem_map.1 hc;have:=mem_range.1 hi;constructor
  ·exact Int.natCast_nonneg i
  show i<4;omega
 obtain⟨x,hx,rfl⟩:=mem_map.1 hc;have:=(Jo (l:=t.av) (nm:=x)).2;have:=h x hx;omega
theorem agi(f:ag→Nat):(((L++[o]).flatMap bR).map f).sum=((L.flatMap bR).map f).sum+(o.S.map f).sum:=by
 rw[RB];simp only[bR,map_append,sum_append]
theorem OT:(Tryz.prog.info? 3).map (fun i=>(i.zero,i.size,i.bytes))=some (some (.int .i64 0),1,8):=by kernel_rfl
theorem YI:(Tryz.prog.info? 27).map (fun i=>(i.zero,i.size,i.bytes))=some (some (.slice none 0 0),1,24):=by kernel_rfl
theorem YJ:(Tryz.prog.info? 30).map (fun i=>(i.zero,i.size,i.bytes))=some (some (.agg #[.int .i64 0,.int .i64 0,.string ⟨#[]⟩]),3,32):=by kernel_rfl
theorem adr(hm:(3,marksC)∈G)(hw:(2,wordsC)∈G)(ht:(0,typesC)∈G)(hG:(1,[Value.int .i64 m])∈G)(t:aT)(g:eW t n)(s:cN)(r8:s.names.length≤1000)(ho:∀o∈s.ah,o.nm.size≤maxLen)(fH:∀o∈s.ah,o.v.Ok):VC Tryz.prog G 50 [.agg (dG t),.agg (cg s)] [] (Bn (pZ t s)):=by
 refine VC.body func50 rfl ntmps50 aO fun X0 w0 aX=>?_;have dr:maxLen=9223372036854775807:=rfl;have zZ:=Jn (G:=G) hm hw ht hG t g s.ah ho fH;have Dn:=ED g s.ah;have lZ:=uB g s.ah;have MW:=H9 g s.ah;obtain⟨M,hM⟩:∃M,M=au t s.ah:=⟨_,rfl⟩
 rw[←hM] at zZ Dn lZ MW;obtain⟨sl,em⟩:=M;dsimp only at Dn lZ MW;have mR:=g.eL;have aiP:t.av.length=4:=(by rw[g.av];rfl)
 unfold dG at zZ;unfold dG cg;refine bX ?_;refine OD.box (ds:=[_,_,_,_,_]) an rfl rfl ot rfl rfl (fun b2=>?_);refine OD.box (ds:=[_,_,_,_,_,_,_,_,_,_,_,_]) an rfl rfl ot rfl rfl (fun b3=>?_);refine OD.alloc (ds:=[_,_]) an rfl rfl zeroValue35 rfl (fun b4=>?_);refine aj 135 [2,3,4] ?_;refine bX ?_;refine aZ [2,3,4,6] ?_;refine ae [2,3,4,6,21,22,23] ?_;refine eI [2,3,4,21,22] (fun aV _ (O:Nat×List Int×Option Addr×Nat×List ag) aK=>match O with|(i,acc,Z,nB,Sa)=>(i≤s.names.length)∧(acc=(s.names.take i).map (bN t.av))∧(∀x∈s.names.take i,0≤bN t.av x)∧(bu 3 1 ((acc).flatMap Tw.cI) (acc).length Z nB Sa)∧aK=(⟨135,(6,.v (.slice Z (acc).length nB))::(23,.v (.int .i64 (i:Nat)))::aV,(⟨b4,35,2,[.v (.slice none 0 0),.v (.int .i64 0)]⟩::⟨b3,42,12,cg s⟩::⟨b2,48,5,dG t⟩::Sa)⟩:St)) (fun (O:Nat×List Int×Option Addr×Nat×List ag)=>match O with|(i,acc,Z,nB,Sa)=>s.names.length-i) (0,([]:List Int),none,0,[]) ⟨(Nat.zero_le _),rfl,(fun x h=>by cases h),(bu.cast iA lu),rfl⟩ ?_;rintro⟨i,acc,Z,nB,Sa⟩ _ ⟨hi,wI,jO,nT,rfl⟩;refine ae [2,3,4,6,21,22,23,24] ?_;refine aq (fun az aG=>?_) (fun az aG=>?_)
 ·have aa:i<s.names.length:=(by omega)
  have eZ:=Hy (G:=G) t w4 s.names[i];unfold dG at eZ;have qX:acc.length=i:=(by rw[wI,length_map,length_take];omega)
  refine ae [2,3,4,6,8,21,22,23] ?_;refine cL [2,3,4,6,9,21,22,23] (eZ) ?_;refine ae [2,3,4,6,9,21,22,23,31] ?_;refine aq (fun aH aU=>?_) (fun aH aU=>?_)
  ·have BZ:bN t.av s.names[i]<0:=(by simpa using aH)
   have aS:pZ t s=(([],0),8):=if_pos (any_eq_true.2 ⟨s.names[i],getElem_mem _,decide_eq_true BZ⟩);refine aC 1 ?_;refine aN 0 [_,_] sizeOf35 ?_;exact LC
  have BZ:¬bN t.av s.names[i]<0:=(by simpa using aH)
  have aiX:∀x∈s.names.take (i+1),0≤bN t.av x:=fun x hx=>by rw[take_succ_eq_append_getElem aa] at hx;rcases mem_append.1 hx with hx|hx;exact jO x hx;rw[mem_singleton] at hx;subst hx;omega
  refine dw 2 ?_;refine ei (bZ 0 [_]) [.int .i64 0] [_] zeroValue3 runUnderlying91 sizeOf3 (fun b35=>?_);refine fG 0 35 1 1 ?_;refine OD.en (ls:=(acc)) (new:=[bN t.av s.names[i]]) (Sq:=Sa) Tw.ev Tw.nf an rfl rfl underlying91 OT rfl w7 ot nT (dB (A:=[_,_,_])) ot bw nu nv (fun Gq KT aiY aiZ=>?_);refine OD.perm (dY (S1:=[⟨Gq,3,KT*1,flatMap Tw.cI ((acc)++[bN t.av s.names[i]])⟩]) (A:=[_,_,_])) ?_;refine aj 135 [2,3,4,6,21,22,23] ?_;refine cj [2,3,4,6,21,22,23] ?_;refine⟨((i+1),(acc++[bN t.av s.names[i]]),(some ⟨Gq,0,none⟩),KT,[⟨Gq,3,KT*1,flatMap Tw.cI ((acc)++[bN t.av s.names[i]])⟩]),_,cz,aM,w4,(by rw[wI,←pJ aa,map_append];rfl),aiX,(bu.cast (bD aiY aiZ) lu),rfl⟩
 have vl:s.names.take i=s.names:=take_of_length_le w4;rw[vl] at wI jO;have FJ:¬(s.names.any fun n=>decide (bN t.av n<0))=true:=fun h=>by obtain⟨x,h1,h2⟩:=any_eq_true.1 h;have:=jO x h1;have:=of_decide_eq_true h2;omega
 refine CD.exit ?_;refine jz [2,3,4] (fun aV _ aK=>∃(acc:List Int),∃(Z:Option Addr),∃(nB:Nat),∃(Sa:List ag),(acc=vp t s.names)∧(bu 3 1 (acc.flatMap Tw.cI) acc.length Z nB Sa)∧aK=(⟨135,(6,.v (.slice Z acc.length nB))::aV,(⟨b4,35,2,[.v (.slice none 0 0),.v (.int .i64 0)]⟩::⟨b3,42,12,cg s⟩::⟨b2,48,5,dG t⟩::Sa)⟩:St)) ?_ ?_
 ·refine ae [2,3,4,6,41] ?_;refine aq (fun aY bz=>?_) (fun aY bz=>?_)
  ·have gq:s.names.length=0:=(by simpa using aY)
   have ai0:acc=[]:=(by rw[wI,length_eq_zero_iff.1 gq];rfl)
   refine ae [2,3,4,6,44,45] ?_;refine eI [2,3,4,44] (fun aV _ (O:Nat×List Int×Option Addr×Nat×List ag) aK=>match O with|(j,U,Z,nB,Sa)=>(j≤t.av.length)∧(U=(range j).map Int.ofNat)∧(bu 3 1 ((U).flatMap Tw.cI) (U).length Z nB Sa)∧aK=(⟨135,(6,.v (.slice Z (U).length nB))::(45,.v (.int .i64 (j:Nat)))::aV,(⟨b4,35,2,[.v (.slice none 0 0),.v (.int .i64 0)]⟩::⟨b3,42,12,cg s⟩::⟨b2,48,5,dG t⟩::Sa)⟩:St)) (fun (O:Nat×List Int×Option Addr×Nat×List ag)=>match O with|(j,U,Z,nB,Sa)=>t.av.length-j) (0,acc,Z,nB,Sa) ⟨(Nat.zero_le _),ai0,(bu.cast nT lu),rfl⟩ ?_;rintro⟨j,U,Z,nB,Sa⟩ _ ⟨hj,JY,nT,rfl⟩;refine ae [2,3,4,6,44,45,46] ?_;refine aq (fun bF bY=>?_) (fun bF bY=>?_)
   ·have aoa:j<t.av.length:=(by omega)
    have aob:U.length=j:=(by rw[JY,length_map,length_range])
    refine ae [2,3,4,6,10,44,45] ?_;refine dw 2 ?_;refine ei (bZ 0 [_]) [.int .i64 0] [_] zeroValue3 runUnderlying91 sizeOf3 (fun CJ=>?_);refine fG 0 50 1 1 ?_;refine OD.en (ls:=(U)) (new:=[(j:Int)]) (Sq:=Sa) Tw.ev Tw.nf an rfl rfl underlying91 OT rfl w7 ot nT (dB (A:=[_,_,_])) ot bw nu nv (fun MX KU ai3 ai4=>?_);refine OD.perm (dY (S1:=[⟨MX,3,KU*1,flatMap Tw.cI ((U)++[(j:Int)])⟩]) (A:=[_,_,_])) ?_;refine aj 135 [2,3,4,6,44,45] ?_;refine cj [2,3,4,6,44,45] ?_;refine⟨((j+1),(U++[(j:Int)]),(some ⟨MX,0,none⟩),KU,[⟨MX,3,KU*1,flatMap Tw.cI ((U)++[(j:Int)])⟩]),_,cz,aM,w4,(by rw[JY,range_succ,map_append];rfl),(bu.cast (bD ai3 ai4) lu),rfl⟩
   have hjf:U=vp t s.names:=(by unfold vp;rw[if_pos gq,JY,show j=t.av.length by omega])
   refine CD.exit ?_;refine⟨_,aM,(U),Z,nB,Sa,hjf,nT,rfl⟩
  have gq:¬s.names.length=0:=(by simpa using aY)
  refine CD.skip ?_;refine⟨_,aM,(acc),Z,nB,Sa,(by unfold vp;rw[if_neg gq];exact wI),nT,rfl⟩
 rintro _ ⟨acc,Z,nB,Sa,tV,nT,rfl⟩;refine CD.seq ?_;refine CD.gd (t:=6) (Sq:=Sa) lk nT (cl Tw.ev _) (dB (A:=[_,_,_])) ?_;refine sy ?_;refine OD.alloc (ds:=[_]) an rfl rfl zeroValue3 rfl (fun kg=>?_);refine aN 0 [_] sizeOf3 ?_;refine aj 135 [2,3,4,6,11] ?_;refine jz [2,3,4,6,11] (fun aV _ aK=>∃(ov:Int),(0≤ov)∧(ov=rU t s)∧aK=(⟨135,aV,[⟨kg,3,1,[.v (.int .i64 ov)]⟩,⟨b4,35,2,[.v (.slice none 0 0),.v (.int .i64 0)]⟩,⟨b3,42,12,cg s⟩,⟨b2,48,5,dG t⟩]⟩:St)) ?_ ?_
 ·refine ae [2,3,4,6,11,55] ?_;refine aq (fun cx c8=>?_) (fun cx c8=>?_)
  ·have Aa:¬(s.order.toList==(⟨#[]⟩:ByteArray).toList)=true:=(by rw[c8];decide)
   have UQ:=Hy (G:=G) t w4 s.order;unfold dG at UQ;have Dt:rU t s=bN t.av s.order:=if_neg Aa;refine aC 3 ?_;refine dJ call86 (UQ) ?_;refine aN 0 [_] sizeOf3 ?_;refine aj 135 [2,3,4,6,11] ?_;refine ae [2,3,4,6,11,61] ?_;refine aq (fun dP er=>?_) (fun dP er=>?_)
   ·have BZ:rU t s<0:=(by rw[Dt];simpa using dP)
    have aS:pZ t s=(([],0),8):=(by unfold pZ;rw[if_neg FJ,if_pos BZ])
    refine aC 1 ?_;refine aN 1 [_,_] sizeOf35 ?_;exact LC
   have BZ:¬rU t s<0:=(by rw[Dt];simpa using dP)
   refine CD.skip ?_;refine⟨_,aM,(bN t.av s.order),w4,Dt.symm,rfl⟩
  have Aa:(s.order.toList==(⟨#[]⟩:ByteArray).toList)=true:=c8;have Dt:rU t s=0:=if_pos Aa;refine CD.skip ?_;refine⟨_,aM,0,(Int.le_refl 0),Dt.symm,rfl⟩
 rintro _ ⟨ov,ai5,my,rfl⟩;refine aC 3 ?_;refine OD.call an rfl rfl rfl call87 zZ ⟨ot,ot,trivial⟩ (eH _) ?_;rintro _ Sx ⟨dS,dD,rfl,ee⟩;refine OD.perm (dY (A:=[_,_,_,_])) ?_;refine aj 135 [2,3,4,6,11,12,13] ?_;refine ae [2,3,4,6,11,12,13,71] ?_;refine aq (fun eN fR=>?_) (fun eN fR=>?_)
 ·have GK:em≠0:=(by simpa using eN)
  have aS:pZ t s=(([],0),em):=(by unfold pZ;rw[if_neg FJ,if_neg w4,←hM];exact if_pos GK)
  refine aC 2 ?_;refine aN 1 [_,_] sizeOf35 ?_;exact LC
 have GK:¬em≠0:=(by simpa using eN)
 refine CD.skip ?_;refine jz [2,3,4,6] (fun aV _ aK=>∃(on:Nat),∃(lz:List Int),((on:Int)=rU t s)∧(lz=JW t s.down on sl)∧(lz.length=sl.length)∧(∀x∈lz,gD t x)∧aK=(⟨135,(12,.list 1 (lz.flatMap Tw.cI) lz.length)::aV,[⟨kg,3,1,[.v (.int .i64 (on:Nat))]⟩,⟨b4,35,2,[.v (.slice none 0 0),.v (.int .i64 0)]⟩,⟨b3,42,12,cg s⟩,⟨b2,48,5,dG t⟩]⟩:St)) ?_ ?_
 ·obtain⟨on,rfl⟩:=Int.eq_ofNat_of_zero_le ai5;have jx:on<4:=(by have:=aeZ g s;omega)
  rcases ee with ⟨hn,di,rfl,rfl,rfl⟩|⟨bx,rfl,pH,oM,rfl⟩
  ·obtain rfl:=length_eq_zero_iff.1 hn;refine dw 1 ?_;refine bJ (oO (ds:=[_,_,_]) rfl ⟨ot,ot,ot,trivial⟩) ?_;refine dJ call88 (abK _) ?_;refine OD.wk (Wk.um (t:=12) (sz:=1) lk) ?_;refine aj 135 [2,3,4,6,12] ?_;refine⟨_,aM,on,[],my,(RL ⟨Perm.refl _,Pairwise.nil⟩),rfl,(fun x h=>by cases h),rfl⟩
  refine dw 1 ?_;refine bJ (oO (ds:=[_,_,_]) rfl ⟨ot,ot,ot,trivial⟩) ?_;refine OD.call (Sf:=⟨bx,3,dD*1,sl.flatMap Tw.cI⟩::[⟨b2,48,5,dG t⟩,⟨kg,3,1,[.v (.int .i64 (on:Nat))]⟩,⟨b3,42,12,cg s⟩]) (R:=[⟨b4,35,2,[.v (.slice none 0 0),.v (.int .i64 0)]⟩]) an rfl rfl rfl call88 (adf sl.length dD bx 89 [.v (.pointer (some ⟨b2,0,none⟩)),.v (.pointer (some ⟨kg,0,none⟩)),.v (.pointer (some ⟨b3,0,none⟩))] [⟨b2,48,5,dG t⟩,⟨kg,3,1,[.v (.int .i64 (on:Nat))]⟩,⟨b3,42,12,cg s⟩] (lq t s.down on) (gD t) (GI t) (fun x y hx hy=>adk t g s on jx b2 kg b3 x y hx hy) call89 (fun h1 h2=>aeU t s.down on h1 h2) (fun x y h=>by have:=OP t s.down on x y;omega) pH oM Dn sl MW rfl lZ) ⟨ot,ot,trivial⟩ (show([⟨kg,3,1,[.v (.int .i64 (on:Nat))]⟩,⟨b4,35,2,[.v (.slice none 0 0),.v (.int .i64 0)]⟩,⟨b3,42,12,cg s⟩,⟨b2,48,5,dG t⟩]++[⟨bx,3,dD*1,sl.flatMap Tw.cI⟩]:List ag).Perm ((⟨bx,3,dD*1,sl.flatMap Tw.cI⟩::[⟨b2,48,5,dG t⟩,⟨kg,3,1,[.v (.int .i64 (on:Nat))]⟩,⟨b3,42,12,cg s⟩])++[⟨b4,35,2,[.v (.slice none 0 0),.v (.int .i64 0)]⟩]) from(ik fun iQ=>by simp only[map_append,map_cons,map_nil,sum_append,sum_cons,sum_nil];omega)) ?_;rintro _ _ ⟨rfl,lz,xC,rfl⟩;have lI:=xC.1.length_eq
  refine OD.perm (S':=⟨kg,3,1,[.v (.int .i64 (on:Nat))]⟩::⟨b4,35,2,[.v (.slice none 0 0),.v (.int .i64 0)]⟩::⟨b3,42,12,cg s⟩::⟨b2,48,5,dG t⟩::[⟨bx,3,dD*1,lz.flatMap Tw.cI⟩]) (show((⟨bx,3,dD*1,lz.flatMap Tw.cI⟩::[⟨b2,48,5,dG t⟩,⟨kg,3,1,[.v (.int .i64 (on:Nat))]⟩,⟨b3,42,12,cg s⟩])++[⟨b4,35,2,[.v (.slice none 0 0),.v (.int .i64 0)]⟩]:List ag).Perm _ from(ik fun iQ=>by simp only[map_append,map_cons,map_nil,sum_append,sum_cons,sum_nil];omega)) ?_;rw[←lI];refine OD.gd (t:=12) (Sq:=[⟨bx,3,dD*1,lz.flatMap Tw.cI⟩]) lk (bD (by rw[lI];exact pH) oM) (cl Tw.ev _) (dB (A:=[_,_,_,_])) ?_;refine aj 135 [2,3,4,6,12] ?_;refine⟨_,aM,on,lz,my,(RL xC),(by first|exact lI|rfl),(fun x hx=>lZ x (xC.1.subset hx)),rfl⟩
 rintro _ ⟨on,lz,my,TN,lI,TO,rfl⟩;refine jz [2,3,4,6] (fun aV tW aK=>∃(E:List Int),(E=vO t s)∧(∀x∈E,gD t x)∧(E.length≤40)∧aK=(⟨135,(12,.list 1 (E.flatMap Tw.cI) E.length)::aV,tW⟩:St)) ?_ ?_
 ·refine aC 4 ?_;refine bS 80 (fun J4 ES=>?_) (fun J4 ES=>?_)
  ·refine aZ [2,3,4,6,12,86] ?_;refine aq (fun eG fY=>?_) (fun eG fY=>?_)
   ·have mw:0≤s.gJ∧s.gJ<lz.length:=⟨ES,fY⟩
    refine ie [2,3,4,6,12] ?_;refine aP 3 ?_ (h:=by exact(ek (l:=0) (h:=s.gJ.toNat) rfl ot trivial ⟨_,by rw[Int.toNat_of_nonneg mw.1];exact ot⟩ (by exact n9 Tw.ev (fun h=>by cases h) runUnderlying91 sizeOf3 w4)));refine bM ?_;refine⟨_,aM,(lz.take s.gJ.toNat),(by unfold vO uQ;rw[←my,Int.toNat_natCast,←hM,←TN,if_pos mw]),(fun x hx=>TO x (mem_of_mem_take hx)),ox,rfl⟩
   exact Vy
  refine aZ [2,3,4,6,12,86] ?_;refine fF ?_;exact Vy
 rintro _ ⟨E,UR,xy,aoc,rfl⟩;refine aC 3 ?_;refine OD.alloc (ds:=[_,_]) an rfl rfl zeroValue35 rfl (fun zN=>?_);refine aN 0 [_,_] sizeOf35 ?_;refine aj 135 [2,3,4,6,12,14] ?_;refine ae [2,4,6,12,14,95] ?_;refine aq (fun kR td=>?_) (fun kR td=>?_)
 ·have BH:s.count=true:=kR;have aS:pZ t s=(([[⟨2,((E.length:Nat):Int),⟨#[]⟩⟩]],((E.length:Nat):Int)),0):=(by unfold pZ;rw[if_neg FJ,if_neg w4,←hM,if_neg GK,if_pos BH,←UR])
  refine aC 3 ?_;refine ei (bZ 0 [_]) [.int .i64 0,.int .i64 0,.string ⟨#[]⟩] [_,_,_] zeroValue30 runUnderlying27 sizeOf30 (fun MY=>?_);refine ei (bZ 0 [_]) [.slice none 0 0] [_] zeroValue27 runUnderlying33 sizeOf27 (fun US=>?_);refine aD 1 ?_;refine aN 2 [_,_] sizeOf33 ?_;refine aj 135 [4,14] ?_;refine aC 1 ?_;refine aN 4 [_,_] sizeOf35 ?_;refine aj 135 [4,5] ?_;refine aJ [_,_] ?_;rw[aS];exact⟨[⟨[⟨2,(E.length:Nat),⟨#[]⟩⟩],some ⟨MY,0,none⟩,1,[⟨MY,30,1*3,[⟨2,(E.length:Nat),⟨#[]⟩⟩].flatMap cV⟩]⟩],some ⟨US,0,none⟩,1,[_],rfl,.inr ⟨US,rfl,Nat.le_refl _,(show 1≤maxLen by decide),rfl⟩,(fun o ho=>by rw[mem_singleton] at ho;subst ho;exact .inr ⟨MY,rfl,Nat.le_refl _,(show 1≤maxLen by decide),rfl⟩),rfl,rfl⟩
 have BH:¬s.count=true:=(by rw[kR];decide)
 have aS:pZ t s=((E.map (zi t acc),((E.length:Nat):Int)),0):=(by unfold pZ;rw[if_neg FJ,if_neg w4,←hM,if_neg GK,if_neg BH,←UR,←tV])
 have UT:=agh g jO;rw[←tV] at UT;have aod:acc.length≤1000:=(by rw[tV];unfold vp;split;(rw[length_map,length_range];omega);(rw[length_map];omega))
 refine ae [2,4,6,14,103,104,105] ?_;refine eI [2,4,6,14,103,104] (fun aV _ (O:Nat×List cf×Option Addr×Nat×List ag) aK=>match O with|(i,L,dS,dD,Sx)=>(i≤E.length)∧(L.map cf.r=(E.take i).map (zi t acc))∧(∀o∈L,nA o)∧(rS L dS dD Sx)∧aK=(⟨135,(105,.v (.int .i64 (i:Nat)))::aV,(⟨zN,35,2,[.v (.slice dS L.length dD),.v (.int .i64 (E.length:Nat))]⟩::⟨kg,3,1,[.v (.int .i64 (on:Nat))]⟩::⟨b4,35,2,[.v (.slice none 0 0),.v (.int .i64 0)]⟩::⟨b3,42,12,cg s⟩::⟨b2,48,5,dG t⟩::(Sx++L.flatMap bR))⟩:St)) (fun (O:Nat×List cf×Option Addr×Nat×List ag)=>match O with|(i,L,dS,dD,Sx)=>E.length-i) (0,([]:List cf),none,0,[]) ⟨(Nat.zero_le _),rfl,(fun o h=>by cases h),iA,rfl⟩ ?_;rintro⟨i,L,dS,dD,Sx⟩ _ ⟨hi,hL,aR,ee,rfl⟩;refine ae [2,4,6,14,103,104,105,106] ?_;refine aq (fun sC wF=>?_) (fun sC wF=>?_)
 ·have aa:i<E.length:=(by omega)
  obtain⟨gH,pH,oM⟩:=xy _ (getElem_mem aa);have rj:=pY (g.row _ pH oM).1;have q9:L.length=i:=(by have:=congrArg length hL;rw[length_map,length_map,length_take] at this;omega)
  refine ae [2,4,6,14,16,103,104,105] ?_;refine bX ?_;refine aZ [2,4,6,14,16,17,103,104,105] ?_;refine ae [2,4,6,14,16,17,103,104,105,109,110,111] ?_;refine eI [2,4,6,14,16,103,104,105,109,110] (fun aV _ (O:Nat×List Vl×Option Addr×Nat×List ag) aK=>match O with|(j,I,hU,ic,Sy)=>(j≤acc.length)∧(I=(acc.take j).map fun c=>(rowAt t (E[i]'aa)).getD c.toNat bE)∧(bu 30 3 (I.flatMap cV) I.length hU ic Sy)∧aK=(⟨135,(17,.v (.slice hU I.length ic))::(111,.v (.int .i64 (j:Nat)))::aV,(⟨zN,35,2,[.v (.slice dS L.length dD),.v (.int .i64 (E.length:Nat))]⟩::⟨kg,3,1,[.v (.int .i64 (on:Nat))]⟩::⟨b4,35,2,[.v (.slice none 0 0),.v (.int .i64 0)]⟩::⟨b3,42,12,cg s⟩::⟨b2,48,5,dG t⟩::(Sy++(Sx++L.flatMap bR)))⟩:St)) (fun (O:Nat×List Vl×Option Addr×Nat×List ag)=>match O with|(j,I,hU,ic,Sy)=>acc.length-j) (0,([]:List Vl),none,0,[]) ⟨(Nat.zero_le _),rfl,iA,rfl⟩ ?_;rintro⟨j,I,hU,ic,Sy⟩ _ ⟨hj,JZ,Di,rfl⟩;refine ae [2,4,6,14,16,17,103,104,105,109,110,111,112] ?_;refine aq (fun s6 rC=>?_) (fun s6 rC=>?_)
  ·have lF:j<acc.length:=(by omega)
   obtain⟨UU,aoe⟩:=UT _ (getElem_mem lF);have MZ:(acc[j]'lF).toNat<(t.rows[(E[i]'aa).toNat]'pH).length:=(by omega)
   have agj:(rowAt t (E[i]'aa)).getD (acc[j]'lF).toNat bE=(t.rows[(E[i]'aa).toNat]'pH)[(acc[j]'lF).toNat]:=(by rw[jA pH,getD_eq_getElem?_getD,getElem?_eq_getElem MZ];rfl)
   have aof:I.length=j:=(by rw[JZ,length_map,length_take];omega)
   refine ae [2,4,6,14,16,17,19,103,104,105,109,110,111] ?_;refine dw 4 ?_;refine bJ (dy 1 (h:=by first|exact .l (j:=(E[i]'aa).toNat) (Int.toNat_of_nonneg gH).symm pH|exact .r (j:=(E[i]'aa).toNat) (Int.toNat_of_nonneg gH).symm pH)) ?_;refine aD 2 ?_;refine bJ (dy 3 (h:=by first|exact .l (j:=(acc[j]'lF).toNat) (Int.toNat_of_nonneg UU).symm MZ|exact .r (j:=(acc[j]'lF).toNat) (Int.toNat_of_nonneg UU).symm MZ)) ?_;refine aD 1 ?_;refine ei (bZ 0 [_]) [.int .i64 0,.int .i64 0,.string ⟨#[]⟩] [_,_,_] zeroValue30 runUnderlying27 sizeOf30 (fun aog=>?_);refine fG 0 124 3 1 ?_;refine OD.en (ls:=I) (new:=[(t.rows[(E[i]'aa).toNat]'pH)[(acc[j]'lF).toNat]]) (Sq:=Sy) eS EF an rfl rfl underlying27 YJ rfl w7 ot Di (HK (A:=[_,_,_,_,_])) ot bw nu nv (fun KV J0 agk agl=>?_);refine OD.perm (Pe (S1:=[⟨KV,30,J0*3,flatMap cV (I++[(t.rows[(E[i]'aa).toNat]'pH)[(acc[j]'lF).toNat]])⟩]) (A:=[_,_,_,_,_])) ?_;refine aj 135 [2,4,6,14,16,17,103,104,105,109,110,111] ?_;refine cj [2,4,6,14,16,17,103,104,105,109,110,111] ?_;refine⟨((j+1),(I++[(t.rows[(E[i]'aa).toNat]'pH)[(acc[j]'lF).toNat]]),(some ⟨KV,0,none⟩),J0,[⟨KV,30,J0*3,flatMap cV (I++[(t.rows[(E[i]'aa).toNat]'pH)[(acc[j]'lF).toNat]])⟩]),_,cz,aM,w4,(by rw[JZ,←agj,←pJ lF,map_append];rfl),(bD agk agl),rfl⟩
  have ve:(L++[(⟨I,hU,ic,Sy⟩:cf)]).map cf.r=(E.take (i+1)).map (zi t acc):=(by rw[map_append,hL,←pJ aa,map_append];congr 1;show[I]=[zi t acc (E[i]'aa)];rw[JZ,take_of_length_le w4];rfl)
  have jE:∀o∈L++[(⟨I,hU,ic,Sy⟩:cf)],nA o:=fun o ho=>by rcases mem_append.1 ho with ho|ho;exact aR o ho;rw[mem_singleton] at ho;subst ho;exact Di
  refine dw 3 ?_;refine ei (bZ 0 [_]) [.slice none 0 0] [_] zeroValue27 runUnderlying33 sizeOf27 (fun aoh=>?_);refine fG 0 130 1 1 ?_;refine OD.en (ls:=L) (new:=[(⟨I,hU,ic,Sy⟩:cf)]) (Sq:=Sx) uA SN an rfl rfl underlying33 YI rfl w7 ot ee (sG (A:=[_,_,_,_,_])) ot bw nu nv (fun FK Fa agm agn=>?_);refine OD.perm (vE (S2:=[⟨FK,27,Fa*1,flatMap gR (L++[(⟨I,hU,ic,Sy⟩:cf)])⟩]) (A:=[_,_,_,_,_])) ?_;refine OD.perm (S':=⟨zN,35,2,[.v (.slice dS L.length dD),.v (.int .i64 (E.length:Nat))]⟩::⟨kg,3,1,[.v (.int .i64 (on:Nat))]⟩::⟨b4,35,2,[.v (.slice none 0 0),.v (.int .i64 0)]⟩::⟨b3,42,12,cg s⟩::⟨b2,48,5,dG t⟩::([⟨FK,27,Fa*1,flatMap gR (L++[(⟨I,hU,ic,Sy⟩:cf)])⟩]++(L++[(⟨I,hU,ic,Sy⟩:cf)]).flatMap bR)) (ik fun iQ=>by simp only[map_append,map_cons,map_nil,sum_append,sum_cons,sum_nil,agi];omega) ?_;refine aD 1 ?_;refine aN 0 [_,_] sizeOf33 ?_;refine aj 135 [2,4,6,14,103,104,105] ?_;refine cj [2,4,6,14,103,104,105] ?_;refine⟨((i+1),(L++[(⟨I,hU,ic,Sy⟩:cf)]),(some ⟨FK,0,none⟩),Fa,[⟨FK,27,Fa*1,flatMap gR (L++[(⟨I,hU,ic,Sy⟩:cf)])⟩]),_,cz,aM,w4,ve,jE,(bD agm agn),rfl⟩
 have uc:L.map cf.r=E.map (zi t acc):=(by rw[hL,take_of_length_le w4])
 refine aC 1 ?_;refine aN 2 [_,_] sizeOf35 ?_;refine aj 135 [4,5] ?_;refine aJ (Sx++L.flatMap bR) ?_;rw[aS];exact⟨L,dS,dD,Sx,rfl,ee,aR,uc,rfl⟩

abbrev gK(bo:Nat)(ad:Option Addr)(n cap:Nat):ag:=⟨bo,25,1,[.v (.slice ad n cap)]⟩
def gA(s:cN):aT:=⟨s.table,s.av,[],rP⟩
def wK(s:cN):aQ:=⟨gA s,[],none,0,[],[]⟩
theorem ads(s:cN):qq (wK s):=⟨[],rfl,rfl,(fun o h=>by cases h),rfl,iA⟩
def pI(l:List aT)(s:cN):List aT×Int:=if 0≤bq l s.table then (l,9) else if l.length=4 then (l,10) else (l++[gA s],0)
def J1(l:List aT)(bo:Nat)(S:List ag):Prop:=∃(L:List aQ) (ad:Option Addr) (cap:Nat) (Sx:List ag),zh L ad cap Sx∧(∀o∈L,okW o)∧L.map aQ.t=l∧S.Perm (gK bo ad L.length cap::(Sx++L.flatMap bT))
theorem YK:(Tryz.prog.info? 48).map (fun i=>(i.zero,i.size,i.bytes))=some (some (.agg #[.string ⟨#[]⟩,.slice none 0 0,.slice none 0 0,.slice none 0 0,.int .i64 0]),5,96):=by kernel_rfl
theorem Z9(L:List aQ)(aR:∀o∈L,qq o)(hL:L.length≤4)(s:cN)(kV:s.av.length≤1000)(bo:Nat)(ad:Option Addr)(cap:Nat)(Sx:List ag)(O:zh L ad cap Sx):VC Tryz.prog G 47 [.v (.pointer (some ⟨bo,0,none⟩)),.agg (cg s)] (gK bo ad L.length cap::(Sx++L.flatMap bT)) (fun r S=>r = .v (.int .i64 (pI (L.map aQ.t) s).2)∧((pI (L.map aQ.t) s).2=0→J1 (pI (L.map aQ.t) s).1 bo S)):=by
 refine VC.body func47 rfl ntmps47 aO fun X0 w0 aX=>?_;have dr:maxLen=9223372036854775807:=rfl;have U:=fun o ho=>(aR o ho).w;have fL:=qx (G:=G) (L.map aQ.t) Ff s.table;rw[length_map] at fL;unfold cg;refine bX ?_;refine OD.box (ds:=[_,_,_,_,_,_,_,_,_,_,_,_]) an rfl rfl ot rfl rfl (fun b3=>?_);refine aj 37 [0,3] ?_;refine cM [0,3,5] ?_;refine mW 6 ?_;refine yY (fL) (ha:=by exact⟨⟨_,ot,(EQ O U (fun B hB=>by repeat (first|exact hB|apply mem_append_right|apply mem_cons_of_mem)))⟩,⟨_,ot,eM⟩,trivial⟩) (K:=?_);refine bM ?_;refine aq (fun az aG=>?_) (fun az aG=>?_)
 ·have h0:0≤bq (L.map aQ.t) s.table:=(by simpa using az)
  have aS:pI (L.map aQ.t) s=(L.map aQ.t,9):=if_pos h0;refine ae [4] ?_;exact F5
 have h0:¬0≤bq (L.map aQ.t) s.table:=(by simpa using az)
 refine ae [0,3,14] ?_;refine aq (fun aH aU=>?_) (fun aH aU=>?_)
 ·have h4:L.length=4:=(by have:=aH;simp at this;omega)
  have aS:pI (L.map aQ.t) s=(L.map aQ.t,10):=(by unfold pI;rw[if_neg h0,if_pos (by rw[length_map];exact h4)])
  refine ae [4] ?_;exact F5
 have h4:¬L.length=4:=(by have:=aH;simp at this;omega)
 have aS:pI (L.map aQ.t) s=(L.map aQ.t++[gA s],0):=(by unfold pI;rw[if_neg h0,if_neg (by rw[length_map];exact h4)])
 have mT:=aeE (G:=G);refine CD.skip ?_;refine CD.seq ?_;refine lT 13 [21,25,33] ?_;refine cU (OJ s.av w4) ?_;refine cU (mT) ?_;refine bM ?_;refine OD.en (ls:=L) (new:=[wK s]) (Sq:=Sx) uu SO an rfl rfl underlying23 YK rfl w7 ot O (n8 (A:=[_,_])) ot bw nu nv (fun I E Z ai6=>?_);refine OD.perm (iU (S1:=[⟨I,48,E*5,flatMap gT (L++[wK s])⟩]) (A:=[_,_])) ?_;refine aD 2 ?_;refine aN 1 [_] sizeOf23 ?_;refine aj 37 [] ?_;refine ae [4] ?_;refine aJ (⟨bo,25,1,[_]⟩::([⟨I,48,E*5,flatMap gT (L++[wK s])⟩]++L.flatMap bT)) ?_;rw[aS];exact⟨rfl,fun _=>⟨L++[wK s],some ⟨I,0,none⟩,E,[⟨I,48,E*5,flatMap gT (L++[wK s])⟩],bD Z ai6,(fun o ho=>by rcases mem_append.1 ho with ho|ho;exact U o ho;rw[mem_singleton] at ho;subst ho;exact(ads s).w),by rw[map_append];rfl,by rw[RC,show bT (wK s)=[] from rfl,append_nil]⟩⟩

noncomputable def dX(l:List aT)(s:cN):List aT×((List (List Vl)×Int)×Int) :=
 if s.kind=1 then ((pI l s).1,(([],0),(pI l s).2))
 else if bq l s.table<0 then (l,(([],0),8))
 else if s.kind=3 then (l.set (bq l s.table).toNat (fS (l.getD (bq l s.table).toNat (gA s)) s.row).1,(([],1),(fS (l.getD (bq l s.table).toNat (gA s)) s.row).2))
 else if s.kind=4 then (l,pZ (l.getD (bq l s.table).toNat (gA s)) s)
 else if s.kind=5 then (l.set (bq l s.table).toNat (gF (l.getD (bq l s.table).toNat (gA s)) s).1,(([],(gF (l.getD (bq l s.table).toNat (gA s)) s).2.1),(gF (l.getD (bq l s.table).toNat (gA s)) s).2.2))
 else (l.set (bq l s.table).toNat (l8 (l.getD (bq l s.table).toNat (gA s)) s.ah).1,(([],(l8 (l.getD (bq l s.table).toNat (gA s)) s.ah).2.1),(l8 (l.getD (bq l s.table).toNat (gA s)) s.ah).2.2))
theorem NN:∀(c:List D) {S:List ag},gi S c c
 | [],_=>trivial
 | _::c,_=>⟨eM,NN c⟩
theorem abN(L:List aQ)(h:i<L.length):L.flatMap gT=(L.take i).flatMap gT++(gT L[i]++(L.drop (i+1)).flatMap gT):=by
 conv=>lhs;rw[←take_append_drop i L,drop_eq_getElem_cons h]
 rw[flatMap_append,flatMap_cons]
theorem ae0(L:List aQ)(h:i<L.length)(o:aQ):(L.set i o).flatMap gT=(L.take i).flatMap gT++(gT o++(L.drop (i+1)).flatMap gT):=by
 rw[set_eq_take_append_cons_drop,if_pos h,flatMap_append,flatMap_cons]
theorem Jp(f:ag→Nat):∀(L:List aQ) (i:Nat) (o:aQ) (h:i<L.length),(((L.set i o).flatMap bT).map f).sum=((bT o).map f).sum+(((L.eraseIdx i).flatMap bT).map f).sum
 | [],_,_,h=>absurd h (Nat.not_lt_zero _)
 | x::L,0,o,_=>by simp
 | x::L,i+1,o,h=>by
  have:=Jp f L i o (Nat.lt_of_succ_lt_succ h);simp only[set_cons_succ,flatMap_cons,map_append,sum_append,eraseIdx_cons_succ,this];omega
theorem HC{A:List ag}{L:List aQ}{bx z:Nat}(h:i<L.length):(A++([(⟨bx,48,z,L.flatMap gT⟩:ag)]++L.flatMap bT)).Perm (A++((⟨bx,48,z,(L.take i).flatMap gT++(gT L[i]++(L.drop (i+1)).flatMap gT)⟩:ag)::(bT L[i]++(L.eraseIdx i).flatMap bT))):=by
 rw[←abN L h];exact ik fun f=>by
  have:=Jp f L i L[i] h;rw[set_getElem_self] at this;simp only[map_cons,sum_cons,map_append,sum_append,map_nil,sum_nil,this];omega
theorem I3{L:List aQ}{bx E:Nat}(h:i<L.length)(h1:L.length≤cap)(h2:cap≤maxLen)(aR:∀o∈L,okW o){o:aQ}(ho:okW o)(hS:S.Perm (gK E (some ⟨bx,0,none⟩) L.length cap::((⟨bx,48,cap*5,(L.take i).flatMap gT++(gT o++(L.drop (i+1)).flatMap gT)⟩::bT o)++(L.eraseIdx i).flatMap bT))):J1 ((L.map aQ.t).set i o.t) E S:=by
 refine⟨L.set i o,some ⟨bx,0,none⟩,cap,[⟨bx,48,cap*5,(L.set i o).flatMap gT⟩],bD (by rw[length_set];exact h1) h2,fun x hx=>?_,by rw[map_set],?_⟩
 ·rcases mem_or_eq_of_mem_set hx with hx|hx
  ·exact aR x hx
  rw[hx];exact ho
 rw[length_set,ae0 L h];refine hS.trans (ik fun f=>?_);have:=Jp f L i o h;simp only[map_cons,sum_cons,map_append,sum_append,map_nil,sum_nil,this];omega
theorem RQ(h:uW t ad cap E):okW ⟨t,t.rows.flatMap gY,ad,cap,E,[]⟩:=⟨h,fun S _=>NN _⟩
theorem abO(h:FH t L ad cap E):okW ⟨t,L.flatMap gR,ad,cap,E,L.flatMap bR⟩:=qq.w ⟨L,rfl,rfl,h.2.1,h.1,h.2.2⟩
theorem NQ{o:aQ}(h:qq o):∃U,uW o.t o.ad o.cap U∧∀(n:Nat) (env:List (Nat×D)) (A R:List ag),Wk ⟨n,env,A++(bT o++R)⟩ ⟨n,env,A++(U++R)⟩:=by
 obtain⟨L,h1,h2,h3,h4,h5⟩:=h;have Z:=Ez (S:=L.flatMap bR) h3 (fun B h=>h);have E:L.length=o.t.rows.length:=(by rw[←h4,length_map])
 rcases h5 with ⟨e1,e2,I,O,e5⟩|⟨b,e1,e2,I,O⟩
 ·have hL:L=[]:=length_eq_zero_iff.1 e1;subst hL;have hr:o.t.rows=[]:=(by rw[←h4];rfl)
  refine⟨[],.inl ⟨by rw[hr];rfl,by rw[hr];rfl,I,O,rfl⟩,fun n env A R=>?_⟩;have hb:bT o=[]:=(by unfold bT;rw[e5,h2];rfl)
  rw[hb];exact Wk.refl _
 refine⟨[⟨b,27,o.cap*1,o.t.rows.flatMap gY⟩],.inr ⟨b,e1,by rw[←E];exact e2,I,rfl⟩,fun n env A R=>?_⟩;have hb:bT o=⟨b,27,o.cap*1,L.flatMap gR⟩::L.flatMap bR:=(by unfold bT;rw[O,h2];rfl)
 rw[hb,←h4];have hc:=Wk.cover (n:=n) (l:=env) (S:=A++((⟨b,27,o.cap*1,L.flatMap gR⟩::L.flatMap bR)++R)) (A:=⟨b,27,o.cap*1,L.flatMap gR⟩) (R:=A++R) (Sd:=L.flatMap bR) (cs':=(L.map cf.r).flatMap gY) (ik fun f=>by simp only[map_cons,sum_cons,map_append,sum_append,map_nil,sum_nil];omega) Z;refine hc.trans (Wk.perm (ik fun f=>by simp only[map_cons,sum_cons,map_append,sum_append,map_nil,sum_nil];omega))
theorem ae1(hm:(3,marksC)∈G)(hw:(2,wordsC)∈G)(ht:(0,typesC)∈G)(hG:(1,[Value.int .i64 m])∈G)(L:List aQ)(aR:∀o∈L,qq o)(hL:L.length≤4)(hg:∀o∈L,∃n,n≤260∧eW o.t n)(s:cN)(fj:¬s.kind=2)(kV:s.av.length≤1000)(q8:s.row.length≤1000)(BF:∀v∈s.row,v.Ok)(r8:s.names.length≤1000)(ho:∀o∈s.ah,o.nm.size≤maxLen)(fH:∀o∈s.ah,o.v.Ok)(oL:∀o∈s.bH,o.nm.size≤maxLen)(zj:∀o∈s.bH,o.v.Ok)(I:Nat)(ad:Option Addr)(cap:Nat)(Sx:List ag)(Z:zh L ad cap Sx):VC Tryz.prog G 29 [.v (.pointer (some ⟨I,0,none⟩)),.agg (cg s)] (gK I ad L.length cap::(Sx++L.flatMap bT)) (fun r S=>r=Dm (dX (L.map aQ.t) s).2∧((dX (L.map aQ.t) s).2.2=0→J1 (dX (L.map aQ.t) s).1 I S)):=by
 refine VC.body func29 rfl ntmps29 aO fun X0 w0 aX=>?_;have dr:maxLen=9223372036854775807:=rfl;have O:=fun o ho=>(aR o ho).w;have fL:=qx (G:=G) (L.map aQ.t) Ff s.table;rw[length_map] at fL;have u6:=yh (fun t:aT=>t.nm.toList==s.table.toList) (L.map aQ.t);rw[show dO (fun t:aT=>t.nm.toList==s.table.toList) (L.map aQ.t)=(bq (L.map aQ.t) s.table) from rfl,length_map] at u6;refine bX ?_;refine OD.box (ds:=[_,_,_,_,_,_,_,_,_,_,_,_]) an rfl rfl ot rfl rfl (fun b3=>?_);refine OD.alloc (ds:=[_,_]) an rfl rfl zeroValue35 rfl (fun b4=>?_);refine aD 1 ?_;first|refine OD.cells (k:=0) (cs':=[.list 1 [] 0,_]) rfl ⟨ff,dM,trivial⟩ rfl ?_|skip
 refine aj 87 [0,3,4] ?_;refine ae [0,3,4,14] ?_;refine aq (fun az aG=>?_) (fun az aG=>?_)
 ·have dI:s.kind=1:=(by simpa using az)
  have aS:dX (L.map aQ.t) s=((pI (L.map aQ.t) s).1,(([],0),(pI (L.map aQ.t) s).2)):=(by unfold dX;rw[if_pos dI])
  refine aC 3 ?_;refine OD.call (Sf:=gK I ad L.length cap::(Sx++L.flatMap bT)) (R:=[⟨b4,35,2,[.list 1 [] 0,.v (.int .i64 0)]⟩,⟨b3,42,12,cg s⟩]) an rfl rfl rfl call47 (Z9 L aR hL s kV I ad cap Sx Z) ⟨ot,ot,trivial⟩ (show(⟨b4,35,2,[.list 1 [] 0,.v (.int .i64 0)]⟩::⟨b3,42,12,cg s⟩::gK I ad L.length cap::(Sx++L.flatMap bT):List ag).Perm (gK I ad L.length cap::(Sx++L.flatMap bT)++[⟨b4,35,2,[.list 1 [] 0,.v (.int .i64 0)]⟩,⟨b3,42,12,cg s⟩]) from(ik fun iQ=>by simp only[map_append,map_cons,map_nil,sum_append,sum_cons,sum_nil];omega)) ?_;rintro _ U ⟨rfl,h9⟩;refine OD.perm (S':=⟨b4,35,2,[.list 1 [] 0,.v (.int .i64 0)]⟩::⟨b3,42,12,cg s⟩::U) (show(U++[⟨b4,35,2,[.list 1 [] 0,.v (.int .i64 0)]⟩,⟨b3,42,12,cg s⟩]:List ag).Perm _ from(ik fun iQ=>by simp only[map_append,map_cons,map_nil,sum_append,sum_cons,sum_nil];omega)) ?_;refine aN 0 [_,_] sizeOf35 ?_;refine aD 1 ?_;first|refine OD.cells (k:=0) (cs':=[.list 1 [] 0,_]) rfl ⟨ff,dM,trivial⟩ rfl ?_|skip
  refine aj 87 [4,5] ?_;refine aJ U ?_;rw[aS];exact⟨rfl,fun h=>h9 h⟩
 have dI:¬s.kind=1:=(by simpa using az)
 refine cM [0,3,4,6] ?_;refine mW 6 ?_;refine yY (fL) (ha:=by exact⟨⟨_,ot,(EQ Z O (fun B hB=>by repeat (first|exact hB|apply mem_append_right|apply mem_cons_of_mem)))⟩,⟨_,ot,eM⟩,trivial⟩) (K:=?_);refine bM ?_;refine ae [0,3,4,6,27] ?_;refine aq (fun aH aU=>?_) (fun aH aU=>?_)
 ·have h0:(bq (L.map aQ.t) s.table)<0:=(by simpa using aH)
  have aS:dX (L.map aQ.t) s=(L.map aQ.t,(([],0),8)):=(by unfold dX;rw[if_neg dI,if_pos h0])
  refine aC 1 ?_;refine aN 0 [_,_] sizeOf35 ?_;refine aD 1 ?_;first|refine OD.cells (k:=0) (cs':=[.list 1 [] 0,_]) rfl ⟨ff,dM,trivial⟩ rfl ?_|skip
  refine aj 87 [4,5] ?_;exact F5
 have h0:¬(bq (L.map aQ.t) s.table)<0:=(by simpa using aH)
 have E:(bq (L.map aQ.t) s.table).toNat<L.length:=(by omega)
 obtain⟨bx,rfl,iR,oI,rfl⟩:=Z.pos w4;have kE:(L.map aQ.t).getD (bq (L.map aQ.t) s.table).toNat (gA s)=(L[(bq (L.map aQ.t) s.table).toNat]'E).t:=(by rw[getD_eq_getElem?_getD,getElem?_map,getElem?_eq_getElem E];rfl)
 refine cM [0,3,4,6,7] ?_;refine aP 5 ?_ (h:=by exact(dy 5 (h:=by first|exact .l (j:=(bq (L.map aQ.t) s.table).toNat) (Int.toNat_of_nonneg w4).symm E|exact .r (j:=(bq (L.map aQ.t) s.table).toNat) (Int.toNat_of_nonneg w4).symm E)));refine bM ?_;refine ae [0,3,4,6,7,36] ?_;refine ae [0,3,4,6,7,36,37] ?_;refine aq (fun aY bz=>?_) (fun aY bz=>?_)
 ·exact absurd aY (by exact absurd (by simpa using aY) fj)
 refine ae [3,4,7,36,51] ?_;refine aq (fun bF bY=>?_) (fun bF bY=>?_)
 ·have lD:s.kind=3:=(by simpa using bF)
  have aS:dX (L.map aQ.t) s=((L.map aQ.t).set (bq (L.map aQ.t) s.table).toNat (fS (L[(bq (L.map aQ.t) s.table).toNat]'E).t s.row).1,(([],1),(fS (L[(bq (L.map aQ.t) s.table).toNat]'E).t s.row).2)):=(by unfold dX;rw[kE,if_neg dI,if_neg h0,if_pos lD])
  obtain⟨n,hn,g⟩:=hg (L[(bq (L.map aQ.t) s.table).toNat]'E) (getElem_mem E);obtain⟨Sg,M1,jv⟩:=NQ (aR (L[(bq (L.map aQ.t) s.table).toNat]'E) (getElem_mem E));refine CD.perm (HC (A:=[_,_,_]) E) ?_;refine CD.wk (jv _ _ [_,_,_,_] _) ?_;refine aC 4 ?_
  refine OD.call (Sf:=(⟨bx,48,cap*5,(L.take (bq (L.map aQ.t) s.table).toNat).flatMap gT++(gT (L[(bq (L.map aQ.t) s.table).toNat]'E)++(L.drop ((bq (L.map aQ.t) s.table).toNat+1)).flatMap gT)⟩:ag)::Sg) (R:=⟨b4,35,2,[.list 1 [] 0,.v (.int .i64 0)]⟩::⟨b3,42,12,cg s⟩::gK I (some ⟨bx,0,none⟩) L.length cap::((L.eraseIdx (bq (L.map aQ.t) s.table).toNat).flatMap bT)) an rfl rfl rfl call49 (Hx hm hw ht hG (L[(bq (L.map aQ.t) s.table).toNat]'E).t g w4 s.row q8 BF bx (0+(bq (L.map aQ.t) s.table).toNat*5) (cap*5) ((L.take (bq (L.map aQ.t) s.table).toNat).flatMap gT) ((L.drop ((bq (L.map aQ.t) s.table).toNat+1)).flatMap gT) J3 (L[(bq (L.map aQ.t) s.table).toNat]'E).ad (L[(bq (L.map aQ.t) s.table).toNat]'E).cap Sg M1) ⟨ot,ot,trivial⟩ (show(⟨b4,35,2,[.list 1 [] 0,.v (.int .i64 0)]⟩::⟨b3,42,12,cg s⟩::gK I (some ⟨bx,0,none⟩) L.length cap::(⟨bx,48,cap*5,(L.take (bq (L.map aQ.t) s.table).toNat).flatMap gT++(gT (L[(bq (L.map aQ.t) s.table).toNat]'E)++(L.drop ((bq (L.map aQ.t) s.table).toNat+1)).flatMap gT)⟩:ag)::(Sg++(L.eraseIdx (bq (L.map aQ.t) s.table).toNat).flatMap bT):List ag).Perm (((⟨bx,48,cap*5,(L.take (bq (L.map aQ.t) s.table).toNat).flatMap gT++(gT (L[(bq (L.map aQ.t) s.table).toNat]'E)++(L.drop ((bq (L.map aQ.t) s.table).toNat+1)).flatMap gT)⟩:ag)::Sg)++(⟨b4,35,2,[.list 1 [] 0,.v (.int .i64 0)]⟩::⟨b3,42,12,cg s⟩::gK I (some ⟨bx,0,none⟩) L.length cap::((L.eraseIdx (bq (L.map aQ.t) s.table).toNat).flatMap bT))) from(ik fun iQ=>by simp only[map_append,map_cons,map_nil,sum_append,sum_cons,sum_nil];omega)) ?_
  rintro _ U ⟨rfl,h9⟩;refine OD.perm (S':=⟨b4,35,2,[.list 1 [] 0,.v (.int .i64 0)]⟩::⟨b3,42,12,cg s⟩::gK I (some ⟨bx,0,none⟩) L.length cap::(U++(L.eraseIdx (bq (L.map aQ.t) s.table).toNat).flatMap bT)) (show(U++(⟨b4,35,2,[.list 1 [] 0,.v (.int .i64 0)]⟩::⟨b3,42,12,cg s⟩::gK I (some ⟨bx,0,none⟩) L.length cap::((L.eraseIdx (bq (L.map aQ.t) s.table).toNat).flatMap bT)):List ag).Perm _ from(ik fun iQ=>by simp only[map_append,map_cons,map_nil,sum_append,sum_cons,sum_nil];omega)) ?_;refine aN 0 [_,_] sizeOf35 ?_;refine aD 1 ?_;first|refine OD.cells (k:=0) (cs':=[.list 1 [] 0,_]) rfl ⟨ff,dM,trivial⟩ rfl ?_|skip
  refine aj 87 [4,5] ?_;refine aJ (gK I (some ⟨bx,0,none⟩) L.length cap::(U++(L.eraseIdx (bq (L.map aQ.t) s.table).toNat).flatMap bT)) ?_;rw[aS];refine⟨rfl,fun h=>?_⟩;obtain⟨ny,j9,nW,KW,rfl⟩:=h9 h;exact I3 E iR oI O (RQ KW) (by rw[show bT (⟨_,_,ny,j9,nW,[]⟩:aQ)=nW from append_nil _];exact Perm.refl _)
 have lD:¬s.kind=3:=(by simpa using bF)
 refine ae [3,4,7,36,58] ?_;refine aq (fun cx c8=>?_) (fun cx c8=>?_)
 ·have wZ:s.kind=4:=(by simpa using cx)
  have aS:dX (L.map aQ.t) s=(L.map aQ.t,(pZ (L[(bq (L.map aQ.t) s.table).toNat]'E).t s)):=(by unfold dX;rw[kE,if_neg dI,if_neg h0,if_neg lD,if_pos wZ])
  obtain⟨n,hn,g⟩:=hg (L[(bq (L.map aQ.t) s.table).toNat]'E) (getElem_mem E);refine CD.seq ?_;refine lT 7 [4,65,66] ?_;refine aP 2 ?_ (h:=by exact(cH (mk:=Op.load 48) rfl ot (dK (k:=3) (i:=(bq (L.map aQ.t) s.table).toNat) (ls:=L) uu rfl rfl rfl isAgg48 sizeOf48 E)));refine mW 1 ?_;refine yX (adr hm hw ht hG (L[(bq (L.map aQ.t) s.table).toNat]'E).t g s r8 ho fH) (fun r S h=>h.flat) (fun r S h=>(by have h9:=h.view;unfold Dm at h9;exact h9)) (ha:=by exact⟨⟨_,ot,(Rz (O _ (getElem_mem E)) (fun B hB=>by have h9:=mem_flatMap.2 ⟨_,getElem_mem E,hB⟩;repeat (first|exact h9|apply mem_append_right|apply mem_cons_of_mem)):View _ (.agg (gT (L[(bq (L.map aQ.t) s.table).toNat]'E))) _)⟩,⟨_,ot,eM⟩,trivial⟩) (K:=?_);refine bM ?_;refine aN 0 [_,_] sizeOf35 ?_;refine aD 1 ?_;first|refine OD.cells (k:=0) (cs':=[.list 1 [] 0,_]) rfl ⟨ff,dM,trivial⟩ rfl ?_|skip
  refine aj 87 [4,5] ?_;refine aJ (gK I (some ⟨bx,0,none⟩) L.length cap::([⟨bx,48,cap*5,L.flatMap gT⟩]++L.flatMap bT)) ?_;rw[aS];exact⟨rfl,fun _=>⟨L,_,cap,_,Z,O,rfl,Perm.refl _⟩⟩
 have wZ:¬s.kind=4:=(by simpa using cx)
 refine ae [3,4,7,67] ?_;refine aq (fun dP er=>?_) (fun dP er=>?_)
 ·have CC:s.kind=5:=(by simpa using dP)
  have aS:dX (L.map aQ.t) s=((L.map aQ.t).set (bq (L.map aQ.t) s.table).toNat (gF (L[(bq (L.map aQ.t) s.table).toNat]'E).t s).1,(([],(gF (L[(bq (L.map aQ.t) s.table).toNat]'E).t s).2.1),(gF (L[(bq (L.map aQ.t) s.table).toNat]'E).t s).2.2)):=(by unfold dX;rw[kE,if_neg dI,if_neg h0,if_neg lD,if_neg wZ,if_pos CC])
  obtain⟨n,hn,g⟩:=hg (L[(bq (L.map aQ.t) s.table).toNat]'E) (getElem_mem E);obtain⟨LR,q1,q2,q3,q4,q5⟩:=aR (L[(bq (L.map aQ.t) s.table).toNat]'E) (getElem_mem E);refine CD.perm (HC (A:=[_,_,_]) E) ?_;refine aC 2 ?_
  refine OD.call (Sf:=(⟨bx,48,cap*5,(L.take (bq (L.map aQ.t) s.table).toNat).flatMap gT++(gT (L[(bq (L.map aQ.t) s.table).toNat]'E)++(L.drop ((bq (L.map aQ.t) s.table).toNat+1)).flatMap gT)⟩:ag)::((L[(bq (L.map aQ.t) s.table).toNat]'E).sr++LR.flatMap bR)) (R:=⟨b4,35,2,[.list 1 [] 0,.v (.int .i64 0)]⟩::⟨b3,42,12,cg s⟩::gK I (some ⟨bx,0,none⟩) L.length cap::((L.eraseIdx (bq (L.map aQ.t) s.table).toNat).flatMap bT)) an rfl rfl rfl call51 (Z8 hm hw ht hG (L[(bq (L.map aQ.t) s.table).toNat]'E).t g s ho fH oL zj hn bx (0+(bq (L.map aQ.t) s.table).toNat*5) (cap*5) ((L.take (bq (L.map aQ.t) s.table).toNat).flatMap gT) ((L.drop ((bq (L.map aQ.t) s.table).toNat+1)).flatMap gT) J3 LR (L[(bq (L.map aQ.t) s.table).toNat]'E).ad (L[(bq (L.map aQ.t) s.table).toNat]'E).cap (L[(bq (L.map aQ.t) s.table).toNat]'E).sr q4 q3 q5) ⟨ot,ot,trivial⟩ (show(⟨b4,35,2,[.list 1 [] 0,.v (.int .i64 0)]⟩::⟨b3,42,12,cg s⟩::gK I (some ⟨bx,0,none⟩) L.length cap::(⟨bx,48,cap*5,(L.take (bq (L.map aQ.t) s.table).toNat).flatMap gT++(gT (L[(bq (L.map aQ.t) s.table).toNat]'E)++(L.drop ((bq (L.map aQ.t) s.table).toNat+1)).flatMap gT)⟩:ag)::((bT (L[(bq (L.map aQ.t) s.table).toNat]'E))++(L.eraseIdx (bq (L.map aQ.t) s.table).toNat).flatMap bT):List ag).Perm (((⟨bx,48,cap*5,(L.take (bq (L.map aQ.t) s.table).toNat).flatMap gT++(gT (L[(bq (L.map aQ.t) s.table).toNat]'E)++(L.drop ((bq (L.map aQ.t) s.table).toNat+1)).flatMap gT)⟩:ag)::((L[(bq (L.map aQ.t) s.table).toNat]'E).sr++LR.flatMap bR))++(⟨b4,35,2,[.list 1 [] 0,.v (.int .i64 0)]⟩::⟨b3,42,12,cg s⟩::gK I (some ⟨bx,0,none⟩) L.length cap::((L.eraseIdx (bq (L.map aQ.t) s.table).toNat).flatMap bT))) from by rw[show bT (L[(bq (L.map aQ.t) s.table).toNat]'E)=((L[(bq (L.map aQ.t) s.table).toNat]'E).sr++LR.flatMap bR) from by unfold bT;rw[q2]];exact(ik fun iQ=>by simp only[map_append,map_cons,map_nil,sum_append,sum_cons,sum_nil];omega)) ?_
  rintro _ U ⟨rfl,h9⟩;refine OD.perm (S':=⟨b4,35,2,[.list 1 [] 0,.v (.int .i64 0)]⟩::⟨b3,42,12,cg s⟩::gK I (some ⟨bx,0,none⟩) L.length cap::(U++(L.eraseIdx (bq (L.map aQ.t) s.table).toNat).flatMap bT)) (show(U++(⟨b4,35,2,[.list 1 [] 0,.v (.int .i64 0)]⟩::⟨b3,42,12,cg s⟩::gK I (some ⟨bx,0,none⟩) L.length cap::((L.eraseIdx (bq (L.map aQ.t) s.table).toNat).flatMap bT)):List ag).Perm _ from(ik fun iQ=>by simp only[map_append,map_cons,map_nil,sum_append,sum_cons,sum_nil];omega)) ?_;refine aj 87 [4,8,9] ?_;refine aC 3 ?_;refine aN 0 [_,_] sizeOf35 ?_;refine aD 1 ?_;first|refine OD.cells (k:=0) (cs':=[.list 1 [] 0,_]) rfl ⟨ff,dM,trivial⟩ rfl ?_|skip
  refine aj 87 [4,5] ?_;refine aJ (gK I (some ⟨bx,0,none⟩) L.length cap::(U++(L.eraseIdx (bq (L.map aQ.t) s.table).toNat).flatMap bT)) ?_;rw[aS];refine⟨rfl,fun h=>?_⟩;obtain⟨L',ny,j9,nW,ai7,rfl⟩:=h9 h;exact I3 E iR oI O (abO ai7) (Perm.refl _)
 have CC:¬s.kind=5:=(by simpa using dP)
 have aS:dX (L.map aQ.t) s=((L.map aQ.t).set (bq (L.map aQ.t) s.table).toNat (l8 (L[(bq (L.map aQ.t) s.table).toNat]'E).t s.ah).1,(([],(l8 (L[(bq (L.map aQ.t) s.table).toNat]'E).t s.ah).2.1),(l8 (L[(bq (L.map aQ.t) s.table).toNat]'E).t s.ah).2.2)):=(by unfold dX;rw[kE,if_neg dI,if_neg h0,if_neg lD,if_neg wZ,if_neg CC])
 obtain⟨n,hn,g⟩:=hg (L[(bq (L.map aQ.t) s.table).toNat]'E) (getElem_mem E);obtain⟨Sg,M1,jv⟩:=NQ (aR (L[(bq (L.map aQ.t) s.table).toNat]'E) (getElem_mem E));refine CD.perm (HC (A:=[_,_,_]) E) ?_;refine CD.wk (jv _ _ [_,_,_,_] _) ?_;refine aC 2 ?_
 refine OD.call (Sf:=(⟨bx,48,cap*5,(L.take (bq (L.map aQ.t) s.table).toNat).flatMap gT++(gT (L[(bq (L.map aQ.t) s.table).toNat]'E)++(L.drop ((bq (L.map aQ.t) s.table).toNat+1)).flatMap gT)⟩:ag)::Sg) (R:=⟨b4,35,2,[.list 1 [] 0,.v (.int .i64 0)]⟩::⟨b3,42,12,cg s⟩::gK I (some ⟨bx,0,none⟩) L.length cap::((L.eraseIdx (bq (L.map aQ.t) s.table).toNat).flatMap bT)) an rfl rfl rfl call52 (Z5 hm hw ht hG (L[(bq (L.map aQ.t) s.table).toNat]'E).t g s ho fH bx (0+(bq (L.map aQ.t) s.table).toNat*5) (cap*5) ((L.take (bq (L.map aQ.t) s.table).toNat).flatMap gT) ((L.drop ((bq (L.map aQ.t) s.table).toNat+1)).flatMap gT) J3 (L[(bq (L.map aQ.t) s.table).toNat]'E).ad (L[(bq (L.map aQ.t) s.table).toNat]'E).cap Sg M1) ⟨ot,ot,trivial⟩ (show(⟨b4,35,2,[.list 1 [] 0,.v (.int .i64 0)]⟩::⟨b3,42,12,cg s⟩::gK I (some ⟨bx,0,none⟩) L.length cap::(⟨bx,48,cap*5,(L.take (bq (L.map aQ.t) s.table).toNat).flatMap gT++(gT (L[(bq (L.map aQ.t) s.table).toNat]'E)++(L.drop ((bq (L.map aQ.t) s.table).toNat+1)).flatMap gT)⟩:ag)::(Sg++(L.eraseIdx (bq (L.map aQ.t) s.table).toNat).flatMap bT):List ag).Perm (((⟨bx,48,cap*5,(L.take (bq (L.map aQ.t) s.table).toNat).flatMap gT++(gT (L[(bq (L.map aQ.t) s.table).toNat]'E)++(L.drop ((bq (L.map aQ.t) s.table).toNat+1)).flatMap gT)⟩:ag)::Sg)++(⟨b4,35,2,[.list 1 [] 0,.v (.int .i64 0)]⟩::⟨b3,42,12,cg s⟩::gK I (some ⟨bx,0,none⟩) L.length cap::((L.eraseIdx (bq (L.map aQ.t) s.table).toNat).flatMap bT))) from(ik fun iQ=>by simp only[map_append,map_cons,map_nil,sum_append,sum_cons,sum_nil];omega)) ?_
 rintro _ U ⟨rfl,h9⟩;refine OD.perm (S':=⟨b4,35,2,[.list 1 [] 0,.v (.int .i64 0)]⟩::⟨b3,42,12,cg s⟩::gK I (some ⟨bx,0,none⟩) L.length cap::(U++(L.eraseIdx (bq (L.map aQ.t) s.table).toNat).flatMap bT)) (show(U++(⟨b4,35,2,[.list 1 [] 0,.v (.int .i64 0)]⟩::⟨b3,42,12,cg s⟩::gK I (some ⟨bx,0,none⟩) L.length cap::((L.eraseIdx (bq (L.map aQ.t) s.table).toNat).flatMap bT)):List ag).Perm _ from(ik fun iQ=>by simp only[map_append,map_cons,map_nil,sum_append,sum_cons,sum_nil];omega)) ?_;refine aj 87 [4,10,11] ?_;refine aC 3 ?_;refine aN 0 [_,_] sizeOf35 ?_;refine aD 1 ?_;first|refine OD.cells (k:=0) (cs':=[.list 1 [] 0,_]) rfl ⟨ff,dM,trivial⟩ rfl ?_|skip
 refine aj 87 [4,5] ?_;refine aJ (gK I (some ⟨bx,0,none⟩) L.length cap::(U++(L.eraseIdx (bq (L.map aQ.t) s.table).toNat).flatMap bT)) ?_;rw[aS];refine⟨rfl,fun h=>?_⟩;obtain⟨ny,j9,nW,KW,rfl⟩:=h9 h;exact I3 E iR oI O (RQ KW) (by rw[show bT (⟨_,_,ny,j9,nW,[]⟩:aQ)=nW from append_nil _];exact Perm.refl _)

end Go.Proofs.YtbcmjoaggammcaaGreatDoor.Ba
namespace Go.Proofs.YtbcmjoaggammcaaGreatDoor.Ba
open List
open Go.Proofs.Tryz
open Go.RowKit V Pk Tr Vl Go.Proofs.YtbcmjoaggammcaaGreatDoor.Nm Pc Cd Ex Tw
open Pa (cN cg)
variable {G:List (Nat×List Value)} {m:Int}
variable {n:Nat}
def uX(t:aT)(i:Nat):Nat:=((range i).filter fun j=>decide ((t.rows.getD j []).length≠0)).length
theorem D0(t:aT)(i:Nat):uX t (i+1)=uX t i+if (t.rows.getD i []).length≠0 then 1 else 0:=by
 unfold uX;rw[range_succ,filter_append,length_append];congr 1;by_cases h:(t.rows.getD i []).length≠0
 ·rw[if_pos h,filter_cons_of_pos oB];rfl
 rw[if_neg h,filter_cons_of_neg oB];rfl
theorem ae2(t:aT)(i:Nat):uX t i≤i:=by
 unfold uX;exact Nat.le_trans (length_filter_le _ _) (by rw[length_range];exact Nat.le_refl _)
theorem Ic{t:aT}{i:Nat}(h:i<t.rows.length):t.rows.getD i []=t.rows[i]:=by rw[getD_eq_getElem?_getD,getElem?_eq_getElem h];rfl
theorem adt{t:aT}(g:eW t n):uX t t.rows.length=(gE t.ix).length:=by
 unfold uX;have hA:((gE t.ix).map fun x=>x.2.toNat).Nodup:=by
  have hr:(gE t.ix).Pairwise (fun a b=>bP a.1 b.1):=Hu g.ix.val;rw[Nodup,pairwise_map];refine hr.imp_of_mem fun {a b} ha hb h e=>?_;obtain⟨a0,a1,a2,a3⟩:=g.jm a ha;obtain⟨b0,b1,b2,b3⟩:=g.jm b hb;refine jX a.1 ?_;have:a.1=b.1:=(by rw[a3,b3];simp only[e])
  rw[←this] at h;exact h
 have Z:((range t.rows.length).filter fun j=>decide ((t.rows.getD j []).length≠0)).Nodup:=List.nodup_range.filter _;have h1:=hA.length_le_of_subset (l₂:=(range t.rows.length).filter fun j=>decide ((t.rows.getD j []).length≠0)) fun i hi=>by
  obtain⟨x,hx,rfl⟩:=mem_map.1 hi;obtain⟨x0,x1,x2,x3⟩:=g.jm x hx;refine mem_filter.2 ⟨mem_range.2 x1,decide_eq_true ?_⟩;rw[Ic x1];exact fun h=>x2 (length_eq_zero_iff.1 h)
 have h2:=Z.length_le_of_subset (l₂:=(gE t.ix).map fun x=>x.2.toNat) fun i hi=>by
  obtain⟨O,U⟩:=mem_filter.1 hi;have E:=mem_range.1 O;have I:=of_decide_eq_true U;rw[Ic E] at I;exact mem_map.2 ⟨_,(g.row i E (fun h=>I (by rw[h];rfl))).2.2,by simp⟩
 rw[length_map] at h1 h2;omega
theorem abP(hm:(3,marksC)∈G)(hw:(2,wordsC)∈G)(ht:(0,typesC)∈G)(hG:(1,[Value.int .i64 m])∈G)(t:aT)(g:eW t n)(r8:t.nm.size≤maxLen):VP Tryz.prog G 40 [.agg (dG t)] (.v (.bool true)):=by
 refine VC.body func40 rfl ntmps40 aO fun X0 w0 aX=>?_;have dr:maxLen=9223372036854775807:=rfl;have mR:=g.eL;have mT:=sO (G:=G) hm hw t.nm r8;rw[g.nm] at mT;have eZ:=Pc.Et (G:=G) hm hw ht t.av wP wO;have hco:Pc.fw t.av=0:=(by rw[g.av];exact yj)
 rw[hco] at eZ;have vr:=ac5 (G:=G) g.ix;have Z:=ac6 (G:=G) g.ix;rw[abr] at Z;unfold Tw.cT at vr Z;have hca:=adt g;unfold dG;refine bX ?_;refine OD.box (ds:=[_,_,_,_,_]) an rfl rfl ot rfl rfl (fun b1=>?_);refine aj 76 [1] ?_;refine aC 2 ?_;refine dJ call63 (mT) ?_;refine aD 2 ?_;refine bS 14 (fun E ago=>?_) (fun E ago=>?_)
 ·exact absurd E (by simp at E)
 refine aD 2 ?_;refine OD.gI gN rfl rfl rfl call64 (eZ) ⟨ot,trivial⟩ ?_;refine aD 3 ?_;refine bS 20 (fun I agp=>?_) (fun I agp=>?_)
 ·exact absurd I (by simp at I)
 refine aD 6 ?_;refine bS 26 (fun O JQ=>?_) (fun O JQ=>?_)
 ·exact absurd O (by (simp at O;omega))
 refine aD 2 ?_;refine OD.gI gN rfl rfl rfl call16 (vr) ⟨ot,trivial⟩ ?_;refine aj 76 [1,31] ?_;refine aq (fun az aG=>?_) (fun az aG=>?_)
 ·exact absurd az (by simp at az)
 refine ae [1,3] ?_;refine ae [1,3,33,34,35] ?_;refine CD.block ?_;refine mB (fun (i:Nat) aK=>(i≤t.rows.length)∧aK=(⟨76,[(1,.v (.pointer (some ⟨b1,0,none⟩))),(3,.v (.int .i64 (uX t i:Nat))),(33,.list 1 (t.rows.flatMap gY) t.rows.length),(34,.v (.int .i64 (t.rows.length:Nat))),(35,.v (.int .i64 (i:Nat)))],[⟨b1,48,5,dG t⟩]⟩:St)) (fun (i:Nat)=>t.rows.length-i) 0 ⟨(Nat.zero_le _),rfl⟩ (aM (h:=by repeat (first|exact trivial|refine⟨(by (repeat (first|exact fm|(apply fK;focus (first|rfl|(rw[D0,if_neg yU];rfl)|(rw[D0,if_pos yU];rfl)|(simp;done)|(congr 2;omega)))|(apply fu;focus rfl)));done),?_⟩))) ?_;rintro i _ ⟨hi,rfl⟩;refine ae [1,3,33,34,35,36] ?_;refine aq (fun aH aU=>?_) (fun aH aU=>?_)
 ·have aa:i<t.rows.length:=(by omega)
  have kE:t.rows.getD i []=(t.rows[i]'aa):=Ic aa;have kV:=ae2 t i;refine ae [1,3,4,5,33,34,35] ?_;refine ae [1,3,4,5,33,34,35,42] ?_;refine aq (fun aY bz=>?_) (fun aY bz=>?_)
  ·have yU:¬(t.rows.getD i []).length≠0:=(by rw[kE];simpa using aY)
   exact z72
  have yU:(t.rows.getD i []).length≠0:=(by rw[kE];simpa using aY)
  have hne:(t.rows[i]'aa)≠[]:=fun h=>yU (by rw[kE,h];rfl);obtain⟨p1,p2,p3⟩:=g.row i aa hne;have p4:=pY p1;have xJ:=Jc (G:=G) hm hw ht t.av wP wO (t.rows[i]'aa) w4;have WW:Pc.dW t.av (t.rows[i]'aa)=0:=(by rw[g.av];exact p1)
  rw[WW] at xJ;have hyv:=yw (G:=G) hG (t.rows[i]'aa) w4 w4 p2;have fL:=Jk (G:=G) g.ix (dj (t.rows[i]'aa));rw[Qf g.ix (vL p1) p3] at fL;unfold Tw.cT at fL;refine ae [1,3,4,5,33,34,35] ?_;refine cL [1,3,4,5,33,34,35,49] (xJ) ?_;refine aq (fun bF bY=>?_) (fun bF bY=>?_)
  ·exact absurd bF (by simp at bF)
  refine cM [1,3,4,6,7,33,34,35] ?_;refine cU (hyv) ?_;refine cU (fL) ?_;refine bM ?_;refine aC 3 ?_;refine bS 60 (fun U JJ=>?_) (fun U JJ=>?_)
  ·exact absurd U (by simp at U)
  refine aZ [1,3,33,34,35,64] ?_;refine aq (fun cx c8=>?_) (fun cx c8=>?_)
  ·exact absurd cx (by simp at cx)
  exact z72
 have tw:i=t.rows.length:=(by omega)
 subst tw;refine cL [3,8] (Z) ?_;refine ae [2] ?_;refine aJ [] ?_;refine⟨?_,rfl⟩;first|rfl|(rw[hca];simp)

structure qF (l:List aT) (n:Nat):Prop where
 eL:l.length≤4
 tb:∀t∈l,eW t n
 sz:∀t∈l,t.nm.size≤maxLen
 GL:l.Pairwise fun a b=>a.nm.toList≠b.nm.toList
theorem qF.no{l:List aT}(g:qF l n){i:Nat}(h:i<l.length):bq (l.take i) l[i].nm<0:=by
 unfold bq;rw[ud (k:=(l.take i).length) w4 (fun x hx=>?_)]
 ·decide
 rw[take_of_length_le (Nat.le_refl _)] at hx;obtain⟨j,hj,rfl⟩:=mem_iff_getElem.1 hx;rw[length_take] at hj;rw[getElem_take];have:=pairwise_iff_getElem.1 g.GL j i w4 h w4;simpa using this
theorem aaa(hm:(3,marksC)∈G)(hw:(2,wordsC)∈G)(ht:(0,typesC)∈G)(hG:(1,[Value.int .i64 m])∈G)(l:List aT)(g:qF l n):VP Tryz.prog G 20 [.agg [.list 5 ((l).flatMap dG) (l).length]] (.v (.int .i64 0)):=by
 refine VC.body func20 rfl ntmps20 aO fun X0 w0 aX=>?_;have dr:maxLen=9223372036854775807:=rfl;have U:=g.eL;refine bX ?_;refine OD.box (ds:=[_]) an rfl rfl ot rfl rfl (fun b1=>?_);refine aj 31 [1] ?_;refine ae [1,8] ?_;refine aq (fun az aG=>?_) (fun az aG=>?_)
 ·exact absurd az (by (simp at az;omega))
 refine ae [1,10,11,12] ?_;refine eI [1,10,11] (fun aV _ (i:Nat) aK=>(i≤l.length)∧aK=(⟨31,(12,.v (.int .i64 (i:Nat)))::aV,[⟨b1,25,1,[.list 5 ((l).flatMap dG) (l).length]⟩]⟩:St)) (fun (i:Nat)=>l.length-i) 0 ⟨(Nat.zero_le _),rfl⟩ ?_;rintro i _ ⟨hi,rfl⟩;refine ae [1,10,11,12,13] ?_;refine aq (fun aH aU=>?_) (fun aH aU=>?_)
 ·have aa:i<l.length:=(by omega)
  have O:=abP hm hw ht hG (l[i]'aa) (g.tb _ (getElem_mem aa)) (g.sz _ (getElem_mem aa));have fL:=qx (G:=G) (l.take i) ox (l[i]'aa).nm;have kG:=g.no aa;unfold dG at O;refine aC 3 ?_;refine OD.alloc (ds:=[_,_,_,_,_]) an rfl rfl zeroValue48 rfl (fun b4=>?_);refine aD 1 ?_;refine aN 0 [_,_,_,_,_] sizeOf48 ?_;refine aj 31 [1,3,4,10,11,12] ?_;refine CD.seq ?_;refine fE 10 (ap _) ?_ (fun _ h=>h);refine ax 0 rfl (cH (mk:=Op.load 48) rfl ot (by first|exact pO (k:=0) (ds:=[_,_,_,_,_]) rfl rfl isAgg48 sizeOf48 rfl rfl|exact jM jL isAgg48 sizeOf48 w5|exact dK (k:=0) jL rfl rfl rfl isAgg48 sizeOf48 w5|exact dK (k:=1) jL rfl rfl rfl isAgg48 sizeOf48 w5|exact pT (ds:=[_,_,_,_,_]) isAgg48 sizeOf48 rfl rfl)) ?_;refine dg.later rfl ?_;refine AD.one (i:=1) ay ?_;refine jt call40 (O) ?_;refine cr 2 rfl kI ?_;refine cr 3 rfl bg ?_;refine AD.split (t:=20) lk (fun E=>?_) (fun E=>?_)
  ·exact absurd E (by simp at E)
  have I:=E;(try simp only[V.mU,ne_eq] at I)
  refine cr 4 rfl (cX 0) ?_;refine cr 6 rfl bg ?_;refine cr 8 rfl (cX 0) ?_;refine AD.two (i:=5) (j:=9) ay ?_ ?_
  ·refine at_ rfl (dx 1) ?_;refine cr 7 rfl (ek (l:=0) (h:=i) rfl ot trivial ⟨_,ot⟩ (by exact n9 jL (fun h=>by cases h) runUnderlying23 sizeOf48 w4)) ?_;refine AD.one (i:=9) ay ?_;refine at_ rfl (dx 0) ?_;exact Vw
  refine at_ rfl (dx 0) ?_;refine AD.one (i:=5) ay ?_;refine at_ rfl (dx 1) ?_;refine cr 7 rfl (ek (l:=0) (h:=i) rfl ot trivial ⟨_,ot⟩ (by exact n9 jL (fun h=>by cases h) runUnderlying23 sizeOf48 w4)) ?_;exact Vw
 refine ae [2] ?_;exact z51

end Go.Proofs.YtbcmjoaggammcaaGreatDoor.Ba
namespace Go.Proofs.YtbcmjoaggammcaaGreatDoor.Ba
open List
open Go.Proofs.Tryz
open Go.RowKit V Pk Tr Vl Go.Proofs.YtbcmjoaggammcaaGreatDoor.Nm Pc Cd Ex Tw
open Pa (cN cg nl iW)
variable {G:List (Nat×List Value)} {m:Int}
noncomputable def kf(l:List aT)(s:cN):List aT×((List (List Vl)×Int)×Int) :=
 if iW s≠0 then ([],(([],0),iW s)) else if 7≤s.kind then ([],(([],0),2)) else if (dX l s).2.2≠0 then ([],(([],0),(dX l s).2.2)) else ((dX l s).1,((dX l s).2.1,0))
def Ab(p:List aT×((List (List Vl)×Int)×Int)):D:=.dz [.agg [.list 5 (p.1.flatMap dG) p.1.length],.agg [.list 1 (p.2.1.1.flatMap gY) p.2.1.1.length,.v (.int .i64 p.2.1.2)],.v (.int .i64 p.2.2)]
theorem ae3(hm:(3,marksC)∈G)(hw:(2,wordsC)∈G)(ht:(0,typesC)∈G)(hG:(1,[Value.int .i64 m])∈G)(l:List aT){n:Nat}(hn:n≤260)(g:qF l n)(s:cN)(hf:nl s)(fj:¬s.kind=2)(BF:∀v∈s.row,v.Ok)(ho:∀o∈s.ah,o.nm.size≤maxLen)(fH:∀o∈s.ah,o.v.Ok)(oL:∀o∈s.bH,o.nm.size≤maxLen)(zj:∀o∈s.bH,o.v.Ok)(GG:(dX l s).2.2=0→(dX l s).1.length≤1000∧∀t∈(dX l s).1,AZ t):VP Tryz.prog G 12 [.agg [.list 5 ((l).flatMap dG) (l).length],.agg (cg s)] (Ab (kf l s)):=by
 refine VC.body func12 rfl ntmps12 aO fun X0 w0 aX=>?_;have dr:maxLen=9223372036854775807:=rfl;have mR:=g.eL;have pp:=aaa hm hw ht hG l g;have eZ:=Pa.PA (G:=G) hm hw ht s hf;refine bX ?_;refine OD.box (ds:=[_]) an rfl rfl ot rfl rfl (fun b2=>?_);refine OD.box (ds:=[_,_,_,_,_,_,_,_,_,_,_,_]) an rfl rfl ot rfl rfl (fun b3=>?_);refine OD.alloc (ds:=[_]) an rfl rfl zeroValue25 rfl (fun b4=>?_);refine OD.alloc (ds:=[_,_]) an rfl rfl zeroValue35 rfl (fun b5=>?_);refine aD 1 ?_;first|refine OD.cells (k:=0) (cs':=[.list 1 [] 0,_]) rfl ⟨ff,dM,trivial⟩ rfl ?_|skip
 first|refine OD.cells (k:=1) (cs':=[.list 1 [] 0,_]) rfl ⟨ff,dM,trivial⟩ rfl ?_|skip
 first|refine OD.cells (k:=1) (cs':=[.list 5 [] 0]) rfl ⟨ff,trivial⟩ rfl ?_|skip
 first|refine OD.cells (k:=2) (cs':=[.list 5 [] 0]) rfl ⟨ff,trivial⟩ rfl ?_|skip
 refine aj 46 [2,3,4,5] ?_;refine cL [2,3,4,5,7] (pp) ?_;refine ae [2,3,4,5,7,15] ?_;refine aq (fun az aG=>?_) (fun az aG=>?_)
 ·exact absurd az (by simp at az)
 refine cL [2,3,4,5,8] (eZ) ?_;refine ae [2,3,4,5,8,22] ?_;refine aq (fun aH aU=>?_) (fun aH aU=>?_)
 ·have h1:iW s≠0:=(by simpa using aH)
  have aS:kf l s=([],(([],0),iW s)):=if_pos h1;refine aC 3 ?_;refine aN 1 [_] sizeOf25 ?_;refine aN 0 [_,_] sizeOf35 ?_;exact z40
 have h1:¬iW s≠0:=(by simpa using aH)
 refine ae [2,3,4,5,28] ?_;refine aq (fun aY bz=>?_) (fun aY bz=>?_)
 ·have h2:7≤s.kind:=(by simpa using aY)
  have aS:kf l s=([],(([],0),2)):=(by unfold kf;rw[if_neg h1,if_pos h2])
  refine aC 2 ?_;refine aN 1 [_] sizeOf25 ?_;refine aN 0 [_,_] sizeOf35 ?_;exact z40
 have h2:¬7≤s.kind:=(by simpa using aY)
 refine aC 1 ?_;refine OD.call an rfl rfl rfl call28 (OL l w4 (fun t h=>(g.tb t h).small)) ⟨ot,trivial⟩ (eH _) ?_;rintro _ _ ⟨L,ad,cap,Sx,rfl,j8,aR,E,rfl⟩;refine OD.perm (S':=⟨b5,35,2,[.list 1 [] 0,.v (.int .i64 0)]⟩::⟨b4,25,1,[.list 5 [] 0]⟩::⟨b3,42,12,cg s⟩::⟨b2,25,1,[.list 5 ((l).flatMap dG) (l).length]⟩::(Sx++L.flatMap bT)) (show((Sx++L.flatMap bT)++(⟨b5,35,2,[.list 1 [] 0,.v (.int .i64 0)]⟩::⟨b4,25,1,[.list 5 [] 0]⟩::⟨b3,42,12,cg s⟩::[⟨b2,25,1,[.list 5 ((l).flatMap dG) (l).length]⟩]):List ag).Perm _ from(ik fun iQ=>by simp only[map_append,map_cons,map_nil,sum_append,sum_cons,sum_nil];omega)) ?_;refine OD.alloc (ds:=[_]) an rfl rfl zeroValue25 rfl (fun b9=>?_);refine aN 0 [_] sizeOf25 ?_;refine aj 46 [3,4,5,9] ?_;refine aC 1 ?_;have q9:L.length=l.length:=(by rw[←E,length_map])
 refine OD.call (Sf:=gK b9 ad L.length cap::(Sx++L.flatMap bT)) (R:=⟨b5,35,2,[.list 1 [] 0,.v (.int .i64 0)]⟩::⟨b4,25,1,[.list 5 [] 0]⟩::⟨b3,42,12,cg s⟩::[⟨b2,25,1,[.list 5 ((l).flatMap dG) (l).length]⟩]) an rfl rfl rfl call29 (ae1 hm hw ht hG L aR w4 (fun o ho=>⟨n,hn,g.tb _ (by rw[←E];exact mem_map_of_mem ho)⟩) s fj (by have:=hf.ok.1;omega) (by have:=hf.ok.2.1;omega) BF (by have:=hf.ok.2.2.1;omega) ho fH oL zj b9 ad cap Sx j8) ⟨ot,ot,trivial⟩ (show(gK b9 ad L.length cap::⟨b5,35,2,[.list 1 [] 0,.v (.int .i64 0)]⟩::⟨b4,25,1,[.list 5 [] 0]⟩::⟨b3,42,12,cg s⟩::⟨b2,25,1,[.list 5 ((l).flatMap dG) (l).length]⟩::(Sx++L.flatMap bT):List ag).Perm ((gK b9 ad L.length cap::(Sx++L.flatMap bT))++(⟨b5,35,2,[.list 1 [] 0,.v (.int .i64 0)]⟩::⟨b4,25,1,[.list 5 [] 0]⟩::⟨b3,42,12,cg s⟩::[⟨b2,25,1,[.list 5 ((l).flatMap dG) (l).length]⟩])) from(ik fun iQ=>by simp only[map_append,map_cons,map_nil,sum_append,sum_cons,sum_nil];omega)) ?_;rintro _ S9 ⟨rfl,h9⟩;rw[E] at h9
 refine OD.perm (S':=⟨b5,35,2,[.list 1 [] 0,.v (.int .i64 0)]⟩::⟨b4,25,1,[.list 5 [] 0]⟩::⟨b3,42,12,cg s⟩::⟨b2,25,1,[.list 5 ((l).flatMap dG) (l).length]⟩::S9) (show(S9++(⟨b5,35,2,[.list 1 [] 0,.v (.int .i64 0)]⟩::⟨b4,25,1,[.list 5 [] 0]⟩::⟨b3,42,12,cg s⟩::[⟨b2,25,1,[.list 5 ((l).flatMap dG) (l).length]⟩]):List ag).Perm _ from(ik fun iQ=>by simp only[map_append,map_cons,map_nil,sum_append,sum_cons,sum_nil];omega)) ?_;rw[E];unfold Dm;refine aD 3 ?_;refine OD.alloc (ds:=[_,_]) an rfl rfl zeroValue35 rfl (fun kD=>?_);refine aN 0 [_,_] sizeOf35 ?_;refine aj 46 [4,5,9,10,11] ?_;refine ae [4,5,9,10,11,39] ?_;refine aq (fun bF bY=>?_) (fun bF bY=>?_)
 ·have h3:(dX l s).2.2≠0:=(by simpa using bF)
  have aS:kf l s=([],(([],0),(dX l s).2.2)):=(by unfold kf;rw[if_neg h1,if_neg h2,if_pos h3])
  refine aC 3 ?_;refine aN 2 [_] sizeOf25 ?_;refine aN 1 [_,_] sizeOf35 ?_;exact z40
 have h3:¬(dX l s).2.2≠0:=(by simpa using bF)
 have aS:kf l s=((dX l s).1,((dX l s).2.1,0)):=(by unfold kf;rw[if_neg h1,if_neg h2,if_neg h3])
 obtain⟨L',I,j9,O,U,Z,ai8,hS⟩:=h9 (Classical.not_not.1 h3);obtain⟨GC,tP⟩:=GG (Classical.not_not.1 h3);have wV:=Z0 (G:=G) (dX l s).1 GC tP;refine CD.perm (S':=⟨kD,35,2,[.list 1 ((dX l s).2.1.1.flatMap gY) (dX l s).2.1.1.length,.v (.int .i64 (dX l s).2.1.2)]⟩::⟨b5,35,2,[.list 1 [] 0,.v (.int .i64 0)]⟩::⟨b4,25,1,[.list 5 [] 0]⟩::⟨b3,42,12,cg s⟩::⟨b2,25,1,[.list 5 ((l).flatMap dG) (l).length]⟩::(gK b9 I L'.length j9::(O++L'.flatMap bT))) (show((⟨kD,35,2,[.list 1 ((dX l s).2.1.1.flatMap gY) (dX l s).2.1.1.length,.v (.int .i64 (dX l s).2.1.2)]⟩::⟨b5,35,2,[.list 1 [] 0,.v (.int .i64 0)]⟩::⟨b4,25,1,[.list 5 [] 0]⟩::⟨b3,42,12,cg s⟩::[⟨b2,25,1,[.list 5 ((l).flatMap dG) (l).length]⟩])++S9:List ag).Perm ((⟨kD,35,2,[.list 1 ((dX l s).2.1.1.flatMap gY) (dX l s).2.1.1.length,.v (.int .i64 (dX l s).2.1.2)]⟩::⟨b5,35,2,[.list 1 [] 0,.v (.int .i64 0)]⟩::⟨b4,25,1,[.list 5 [] 0]⟩::⟨b3,42,12,cg s⟩::[⟨b2,25,1,[.list 5 ((l).flatMap dG) (l).length]⟩])++(gK b9 I L'.length j9::(O++L'.flatMap bT))) from Perm.append_left ((⟨kD,35,2,[.list 1 ((dX l s).2.1.1.flatMap gY) (dX l s).2.1.1.length,.v (.int .i64 (dX l s).2.1.2)]⟩::⟨b5,35,2,[.list 1 [] 0,.v (.int .i64 0)]⟩::⟨b4,25,1,[.list 5 [] 0]⟩::⟨b3,42,12,cg s⟩::[⟨b2,25,1,[.list 5 ((l).flatMap dG) (l).length]⟩]):List ag) hS) ?_
 refine CD.wk (Wk.cover (A:=gK b9 I L'.length j9) (R:=⟨kD,35,2,[.list 1 ((dX l s).2.1.1.flatMap gY) (dX l s).2.1.1.length,.v (.int .i64 (dX l s).2.1.2)]⟩::⟨b5,35,2,[.list 1 [] 0,.v (.int .i64 0)]⟩::⟨b4,25,1,[.list 5 [] 0]⟩::⟨b3,42,12,cg s⟩::[⟨b2,25,1,[.list 5 ((l).flatMap dG) (l).length]⟩]) (Sd:=O++L'.flatMap bT) (cs':=[.list 5 (((dX l s).1).flatMap dG) ((dX l s).1).length]) (show(⟨kD,35,2,[.list 1 ((dX l s).2.1.1.flatMap gY) (dX l s).2.1.1.length,.v (.int .i64 (dX l s).2.1.2)]⟩::⟨b5,35,2,[.list 1 [] 0,.v (.int .i64 0)]⟩::⟨b4,25,1,[.list 5 [] 0]⟩::⟨b3,42,12,cg s⟩::⟨b2,25,1,[.list 5 ((l).flatMap dG) (l).length]⟩::(gK b9 I L'.length j9::(O++L'.flatMap bT)):List ag).Perm _ from(ik fun iQ=>by simp only[map_append,map_cons,map_nil,sum_append,sum_cons,sum_nil];omega)) ⟨by rw[←ai8,length_map];exact EQ U Z (fun B h=>h),trivial⟩) ?_;refine CD.skip ?_;refine CD.seq ?_;refine fE 4 (ap (eraseIdx _ 3)) ?_ (fun _ h=>(Sublist.map _ (eraseIdx_sublist _ 3)).subset h)
 refine ax 0 rfl (cH (mk:=Op.load 25) rfl ot (by first|exact pO (k:=0) (ds:=[_]) rfl rfl isAgg25 sizeOf25 rfl rfl|exact jM jL isAgg25 sizeOf25 w5|exact jM kL isAgg25 sizeOf25 w5|exact dK (k:=0) jL rfl rfl rfl isAgg25 sizeOf25 w5|exact dK (k:=1) jL rfl rfl rfl isAgg25 sizeOf25 w5|exact dK (k:=2) jL rfl rfl rfl isAgg25 sizeOf25 w5|exact dK (k:=3) jL rfl rfl rfl isAgg25 sizeOf25 w5|exact dK (k:=4) jL rfl rfl rfl isAgg25 sizeOf25 w5|exact dK (k:=5) jL rfl rfl rfl isAgg25 sizeOf25 w5|exact dK (k:=0) kL rfl rfl rfl isAgg25 sizeOf25 w5|exact dK (k:=1) kL rfl rfl rfl isAgg25 sizeOf25 w5|exact dK (k:=2) kL rfl rfl rfl isAgg25 sizeOf25 w5|exact dK (k:=3) kL rfl rfl rfl isAgg25 sizeOf25 w5|exact dK (k:=4) kL rfl rfl rfl isAgg25 sizeOf25 w5|exact dK (k:=5) kL rfl rfl rfl isAgg25 sizeOf25 w5|exact pT (ds:=[_]) isAgg25 sizeOf25 rfl rfl)) ?_
 refine ax 2 rfl (cH (mk:=Op.load 35) rfl ot (by first|exact pO (k:=1) (ds:=[_,_]) rfl rfl isAgg35 sizeOf35 rfl rfl|exact jM jL isAgg35 sizeOf35 w5|exact jM kL isAgg35 sizeOf35 w5|exact dK (k:=0) jL rfl rfl rfl isAgg35 sizeOf35 w5|exact dK (k:=1) jL rfl rfl rfl isAgg35 sizeOf35 w5|exact dK (k:=2) jL rfl rfl rfl isAgg35 sizeOf35 w5|exact dK (k:=3) jL rfl rfl rfl isAgg35 sizeOf35 w5|exact dK (k:=4) jL rfl rfl rfl isAgg35 sizeOf35 w5|exact dK (k:=5) jL rfl rfl rfl isAgg35 sizeOf35 w5|exact dK (k:=0) kL rfl rfl rfl isAgg35 sizeOf35 w5|exact dK (k:=1) kL rfl rfl rfl isAgg35 sizeOf35 w5|exact dK (k:=2) kL rfl rfl rfl isAgg35 sizeOf35 w5|exact dK (k:=3) kL rfl rfl rfl isAgg35 sizeOf35 w5|exact dK (k:=4) kL rfl rfl rfl isAgg35 sizeOf35 w5|exact dK (k:=5) kL rfl rfl rfl isAgg35 sizeOf35 w5|exact pT (ds:=[_,_]) isAgg35 sizeOf35 rfl rfl)) ?_;refine dg.later rfl ?_;refine AD.one (i:=1) ay ?_;refine jt call28 (wV) ?_;refine AD.one (i:=3) ay ?_;refine dN 3 [_] sizeOf25 ?_;refine ey ?_;refine aN 2 [_,_] sizeOf35 ?_;refine aD 1 ?_;first|refine OD.cells (k:=0) (cs':=[.list 1 [] 0,_]) rfl ⟨ff,dM,trivial⟩ rfl ?_|skip
 first|refine OD.cells (k:=1) (cs':=[.list 1 [] 0,_]) rfl ⟨ff,dM,trivial⟩ rfl ?_|skip
 first|refine OD.cells (k:=1) (cs':=[.list 5 [] 0]) rfl ⟨ff,trivial⟩ rfl ?_|skip
 first|refine OD.cells (k:=2) (cs':=[.list 5 [] 0]) rfl ⟨ff,trivial⟩ rfl ?_|skip
 refine aj 46 [4,5,6] ?_;exact tI

end Go.Proofs.YtbcmjoaggammcaaGreatDoor.Ba
namespace Go.Proofs.YtbcmjoaggammcaaGreatDoor.Ba
open List
open Go.Proofs.Tryz
open Go.RowKit V Pk Tr Vl Go.Proofs.YtbcmjoaggammcaaGreatDoor.Nm Pc Cd Ex Tw
open Pa (cN cg)
variable {t:aT} {n:Nat} {i:Int}
theorem eW.mono{t:aT}{a b:Nat}(g:eW t a)(h:a≤b):eW t b:=⟨g.nm,g.av,g.eL,g.ix.mono h,g.row,g.jm⟩
structure nj (t:aT) (n:Nat) (D:List Int):Prop where
 nm:cJ t.nm=0
 av:t.av=dH
 eL:t.rows.length≤40
 ix:iv t.ix n
 row:∀i (h:i<t.rows.length),t.rows[i]≠[]→Pc.dW dH t.rows[i]=0∧(∀v∈t.rows[i],v.Ok)∧((i:Int)∉D→(dj t.rows[i],(i:Int))∈gE t.ix)
 jm:∀x∈gE t.ix,0≤x.2∧x.2∉D∧∃h:x.2.toNat<t.rows.length,t.rows[x.2.toNat]≠[]∧x.1=dj t.rows[x.2.toNat]
theorem eW.d(g:eW t n):nj t n []:=⟨g.nm,g.av,g.eL,g.ix,fun i h hn=>⟨(g.row i h hn).1,(g.row i h hn).2.1,fun _=>(g.row i h hn).2.2⟩,fun x hx=>⟨(g.jm x hx).1,not_mem_nil,(g.jm x hx).2⟩⟩
theorem nj.tb(g:nj t n []):eW t n:=⟨g.nm,g.av,g.eL,g.ix,fun i h hn=>⟨(g.row i h hn).1,(g.row i h hn).2.1,(g.row i h hn).2.2 not_mem_nil⟩,fun x hx=>⟨(g.jm x hx).1,(g.jm x hx).2.2⟩⟩
theorem aab(g:eW t n)(hn:n≤300){row:List Vl}(aR:∀v∈row,v.Ok)(h:(fS t row).2=0):eW (fS t row).1 (n+1)∧(fS t row).1.rows.length=t.rows.length+1:=by
 unfold fS at h ⊢;by_cases h1:Pc.dW t.av row=0
 ·rw[if_neg (fun e=>e h1)] at h ⊢;cases h2:gS t.ix (dj row) (dA t.ix) with
  | true=>rw[h2,if_pos rfl] at h;cases h
  | false =>
   rw[h2,if_neg w7] at h;rw[if_neg w7];by_cases h3:t.rows.length=40
   ·rw[if_pos h3] at h;cases h
   rw[if_neg h3];have h4:Pc.dW dH row=0:=(by rw[←g.av];exact h1)
   obtain⟨g1,g2,g3⟩:=Ef g.ix hn ((Eg g.ix).1 h2) (vL h4) (Int.natCast_nonneg t.rows.length);have I:=g.eL;refine⟨⟨g.nm,g.av,by show(t.rows++[row]).length≤40;rw[length_append,length_singleton];omega,g1,fun i hi hne=>?_,fun x hx=>?_⟩,by show(t.rows++[row]).length=_;rw[length_append,length_singleton]⟩
   ·simp only at hi hne ⊢;rw[length_append,length_singleton] at hi;by_cases hl:i<t.rows.length
    ·have e:(t.rows++[row])[i]'B3=t.rows[i]:=getElem_append_left hl;rw[e] at hne ⊢;obtain⟨p1,p2,p3⟩:=g.row i hl hne;exact⟨p1,p2,(g3 _).2 (.inr p3)⟩
    have E:i=t.rows.length:=(by omega)
    subst E;have e:(t.rows++[row])[t.rows.length]'B3=row:=(by rw[getElem_append_right (Nat.le_refl _)];simp)
    rw[e] at hne ⊢;exact⟨h4,aR,(g3 _).2 (.inl rfl)⟩
   rcases(g3 x).1 hx with rfl|hx
   ·refine⟨Int.natCast_nonneg _,by show t.rows.length<(t.rows++[row]).length;rw[length_append,length_singleton];omega,?_⟩;have e:(t.rows++[row])[t.rows.length]'B3=row:=(by rw[getElem_append_right (Nat.le_refl _)];simp)
    show(t.rows++[row])[t.rows.length]'_≠[]∧dj row=dj ((t.rows++[row])[t.rows.length]'_);rw[e];exact⟨fun e=>(by have:=pY h4;rw[e] at this;cases this),rfl⟩
   obtain⟨x0,x1,O,U⟩:=g.jm x hx;have e:(t.rows++[row])[x.2.toNat]'B3=t.rows[x.2.toNat]:=getElem_append_left x1;refine⟨x0,by show _<(t.rows++[row]).length;rw[length_append,length_singleton];omega,?_⟩;show(t.rows++[row])[x.2.toNat]'_≠[]∧x.1=dj ((t.rows++[row])[x.2.toNat]'_);rw[e];exact⟨O,U⟩
 rw[if_pos h1] at h;exact absurd h h1
theorem OU{n:Nat}:∀{l:List Int} {t:aT},eW t n→l.Nodup→(∀i∈l,gD t i)→eW (qN t l) n∧(qN t l).rows.length=t.rows.length
 | [],_,g,_,_=>⟨g,rfl⟩
 | i::r,t,g,hn,hi=>by
  rw[nodup_cons] at hn;have h1:=OU (OR g (hi i mem_cons_self)) hn.2 fun j hj=>RM (hi j (mem_cons_of_mem _ hj)) (fun e=>hn.1 (e ▸ hj)) (hi i mem_cons_self).1;refine⟨h1.1,h1.2.trans ?_⟩;show(t.rows.set _ _).length=_;rw[length_set]
theorem XA(g:eW t n)(w:List aW):eW (l8 t w).1 n∧(l8 t w).1.rows.length=t.rows.length:=by
 unfold l8;split
 ·exact⟨g,rfl⟩
 exact OU g (DX g w) (uB g w)
theorem RR{r:List Vl}{c:Nat}(hc:c≠0)(v:Vl):dj (r.set c v)=dj r:=by
 unfold dj;cases r with
 | nil=>rfl
 | cons a r=>cases c with
  | zero=>exact absurd rfl hc
  | succ c=>rfl
theorem TF{D:List Int}(g:nj t n D)(hi:gD t i){c:Nat}(hc:c<dH.length){v:Vl}(hv:jC (dH[c]'hc).k v)(fH:v.Ok)(h0:c=0→v.k≠0∧i∈D):nj (qO t i c v) n D∧(∀j,gD t j→gD (qO t i c v) j):=by
 obtain⟨q0,q1,q2⟩:=hi;obtain⟨p1,p2,p3⟩:=g.row _ q1 q2;have U:=jA (t:=t) q1;have Z:Pc.dW dH ((rowAt t i).set c v)=0:=(by rw[U];exact RN p1 hc hv fun h=>(h0 h).1)
 have jF:(rowAt t i).set c v≠[]:=fun e=>by have:=pY Z;rw[e] at this;cases this
 have hlen:(qO t i c v).rows.length=t.rows.length:=length_set;have I:∀j (h:j<t.rows.length),(qO t i c v).rows[j]'(by rw[hlen];exact h)=if i.toNat=j then (rowAt t i).set c v else t.rows[j]:=fun j h=>getElem_set ..
 refine⟨⟨g.nm,g.av,by rw[hlen];exact g.eL,g.ix,fun j hj hne=>?_,fun x hx=>?_⟩,fun j ⟨j0,j1,j2⟩=>⟨j0,by rw[hlen];exact j1,?_⟩⟩
 ·rw[hlen] at hj;rw[I j hj] at hne ⊢;by_cases E:i.toNat=j
  ·rw[if_pos E];refine⟨Z,fun w hw=>?_,fun hd=>?_⟩
   ·rcases mem_or_eq_of_mem_set hw with hw|hw
    ·rw[U] at hw;exact p2 w hw
    rw[hw];exact fH
   have qY:(j:Int)=i:=(by omega)
   by_cases O:c=0
   ·exact absurd (qY ▸ (h0 O).2) hd
   rw[RR O,U];subst E;exact p3 hd
  rw[if_neg E] at hne ⊢;exact g.row j hj hne
 ·obtain⟨x0,xd,x1,x2,x3⟩:=g.jm x hx;refine⟨x0,xd,by rw[hlen];exact x1,?_⟩;rw[I _ x1];by_cases E:i.toNat=x.2.toNat
  ·rw[if_pos E];refine⟨jF,?_⟩;have qY:x.2=i:=(by omega)
   by_cases O:c=0
   ·exact absurd (qY ▸ (h0 O).2) xd
   rw[RR O,U,x3];simp only[E]
  rw[if_neg E];exact⟨x2,x3⟩
 rw[I _ j1];split
 ·exact jF
 exact j2
theorem agq{x:aE}{D:List Int}(g:nj {t with ix:=x} n D)(hi:gD t i)(hd:i∉D):nj {t with ix:=gp x (dA x) (dj (rowAt t i))} n (i::D):=by
 obtain⟨q0,q1,q2⟩:=hi;obtain⟨p1,p2,p3⟩:=g.row _ q1 q2;have E:=jA (t:=t) q1;have I:(dj (rowAt t i),i)∈gE x:=by
  have:=p3 (by rw[Int.toNat_of_nonneg q0];exact hd);rw[Int.toNat_of_nonneg q0] at this;rw[E];exact this
 obtain⟨d1,d2⟩:=H7 g.ix ((Ar g.ix.val _).2 ⟨i,I⟩);refine⟨g.nm,g.av,g.eL,d1,fun j hj hne=>?_,fun y hy=>?_⟩
 ·obtain⟨r1,r2,U⟩:=g.row j hj hne;refine⟨r1,r2,fun hd2=>?_⟩;have O:(j:Int)≠i:=fun e=>hd2 (e ▸ mem_cons_self);refine(d2 _).2 ⟨U fun e=>hd2 (mem_cons_of_mem _ e),fun e=>O ?_⟩;have:=IZ g.ix (U fun e=>hd2 (mem_cons_of_mem _ e)) I e;simp only[Prod.mk.injEq] at this;exact this.2
 obtain⟨y1,y2⟩:=(d2 y).1 hy;obtain⟨z0,zd,z1,z2,z3⟩:=g.jm y y1;refine⟨z0,fun hm=>?_,z1,z2,z3⟩;rcases mem_cons.1 hm with e|hm
 ·refine y2 ?_;rw[z3,E];simp only[e]
 exact zd hm
theorem RS{t:aT}{n:Nat}:∀(l:List Int) (x:aE) (D:List Int),nj {t with ix:=x} n D→l.Nodup→(∀i∈l,gD t i∧i∉D)→∃D',nj {t with ix:=nL t x l} n D'∧∀i,i∈D'↔i∈l∨i∈D
 | [],x,D,g,_,_=>⟨D,g,fun i=>by simp⟩
 | i::r,x,D,g,hn,hi=>by
  rw[nodup_cons] at hn;obtain⟨D',h1,h2⟩:=RS r _ (i::D) (agq g (hi i mem_cons_self).1 (hi i mem_cons_self).2) hn.2 fun j hj=>⟨(hi j (mem_cons_of_mem _ hj)).1,fun e=>by
   rcases mem_cons.1 e with e|e
   ·exact hn.1 (e ▸ hj)
   exact(hi j (mem_cons_of_mem _ hj)).2 e⟩
  refine⟨D',h1,fun j=>(h2 j).trans ?_⟩;simp only[mem_cons];constructor
  ·rintro(h|h|h)
   ·exact .inl (.inr h)
   ·exact .inl (.inl h)
   exact .inr h
  rintro((h|h)|h)
  ·exact .inr (.inl h)
  ·exact .inl h
  exact .inr (.inr h)
theorem nj.ai9{D D':List Int}(g:nj t n D)(h:∀i,i∈D↔i∈D'):nj t n D':=⟨g.nm,g.av,g.eL,g.ix,fun i hi hne=>⟨(g.row i hi hne).1,(g.row i hi hne).2.1,fun hd=>(g.row i hi hne).2.2 fun e=>hd ((h _).1 e)⟩,fun x hx=>⟨(g.jm x hx).1,fun e=>(g.jm x hx).2.1 ((h _).2 e),(g.jm x hx).2.2⟩⟩
theorem aja{D:List Int}(g:nj t n D)(hn:n≤300)(hi:gD t i)(hd:i∈D)(kG:gS t.ix (dj (rowAt t i)) (dA t.ix)=false):nj {t with ix:=gm t.ix (dA t.ix) (dj (rowAt t i)) i} (n+1) (D.filter (·≠i)):=by
 obtain⟨q0,q1,q2⟩:=hi;obtain⟨p1,p2,p3⟩:=g.row _ q1 q2;have E:=jA (t:=t) q1;obtain⟨g1,_,g3⟩:=Ef g.ix hn ((Eg g.ix).1 kG) (by rw[E];exact vL p1) q0;have hf:∀j,j∈D.filter (·≠i)↔j∈D∧j≠i:=fun j=>by rw[mem_filter];simp
 refine⟨g.nm,g.av,g.eL,g1,fun j hj hne=>?_,fun y hy=>?_⟩
 ·obtain⟨r1,r2,O⟩:=g.row j hj hne;refine⟨r1,r2,fun hd2=>(g3 _).2 ?_⟩;by_cases e:(j:Int)=i
  ·left;have I:i.toNat=j:=(by omega)
   subst I;rw[E,Int.toNat_of_nonneg q0]
  right;exact O fun hm=>hd2 ((hf _).2 ⟨hm,e⟩)
 rcases(g3 y).1 hy with rfl|hy
 ·exact⟨q0,fun hm=>((hf _).1 hm).2 rfl,q1,q2,by rw[E]⟩
 obtain⟨z0,zd,z1,z2,z3⟩:=g.jm y hy;exact⟨z0,fun hm=>zd ((hf _).1 hm).1,z1,z2,z3⟩
theorem SR:∀(l:List Int) (vs:List Vl) (t:aT) (n:Nat) (D:List Int),nj t n D→n+l.length≤300→l.Nodup→vs.length=l.length→(∀i∈l,gD t i∧i∈D)→(∀v∈vs,v.Ok∧jC (dH[0]'w7).k v∧v.k≠0)→(j6 t l vs).2=0 →
  ∃D',nj (j6 t l vs).1 (n+l.length) D'∧(j6 t l vs).1.rows.length=t.rows.length∧∀i,i∈D'↔i∈D∧i∉l
 | [],[],t,n,D,g,_,_,_,_,_,_=>⟨D,g,rfl,fun i=>by simp⟩
 | [],_::_,_,_,_,_,_,_,h,_,_,_=>by cases h
 | _::_,[],_,_,_,_,_,_,h,_,_,_=>by cases h
 | i::r,v::s,t,n,D,g,hn,hnd,hl,hi,hv,h=>by
  rw[nodup_cons] at hnd;rw[length_cons] at hn hl;rw[length_cons] at hl;obtain⟨E,hid⟩:=hi i mem_cons_self;obtain⟨v1,v2,v3⟩:=hv v mem_cons_self;obtain⟨g1,kH⟩:=TF g E (c:=0) w7 v2 v1 fun _=>⟨v3,hid⟩
  rw[j6] at h ⊢;cases iG:gS t.ix (dj (rowAt (qO t i 0 v) i)) (dA t.ix) with
  | true=>rw[iG,if_pos rfl] at h;cases h
  | false =>
   rw[iG,if_neg w7] at h;rw[if_neg w7];have g2:=aja g1 w4 (kH i E) hid iG;obtain⟨D',h1,h2,h3⟩:=SR r s _ (n+1) _ g2 w4 hnd.2 w4 (fun j hj=>⟨kH j (hi j (mem_cons_of_mem _ hj)).1,by rw[mem_filter];exact⟨(hi j (mem_cons_of_mem _ hj)).2,by simp;exact fun e=>hnd.1 (e ▸ hj)⟩⟩) (fun w hw=>hv w (mem_cons_of_mem _ hw)) h;refine⟨D',by rw[length_cons,show n+(r.length+1)=n+1+r.length by omega];exact h1,h2.trans (by show(t.rows.set _ _).length=_;rw[length_set]),fun j=>(h3 j).trans ?_⟩;rw[mem_filter,mem_cons];simp only[decide_eq_true_eq,ne_eq,not_or,and_assoc]
theorem RT{n:Nat}{c:Nat}(hc:c<dH.length)(az:c≠0):∀(l:List Int) (vs:List Vl) (t:aT),eW t n→(∀i∈l,gD t i)→(∀v∈vs,v.Ok∧jC (dH[c]'hc).k v)→eW (mu c t l vs) n∧(mu c t l vs).rows.length=t.rows.length
 | [],_,t,g,_,_=>by unfold mu;exact⟨g,rfl⟩
 | _::_,[],t,g,_,_=>by unfold mu;exact⟨g,rfl⟩
 | i::r,v::s,t,g,hi,hv=>by
  rw[mu];obtain⟨v1,v2⟩:=hv v mem_cons_self;obtain⟨g1,kH⟩:=TF g.d (hi i mem_cons_self) hc v2 v1 fun e=>absurd e az;have h1:=RT hc az r s _ g1.tb (fun j hj=>kH j (hi j (mem_cons_of_mem _ hj))) fun w hw=>hv w (mem_cons_of_mem _ hw);exact⟨h1.1,h1.2.trans (by show(t.rows.set _ _).length=_;rw[length_set])⟩
theorem adu{k:Int}{c:Int}{v:Vl}(h:jC k v)(hk:¬(k≠c∧k≠0)):jC c v:=by
 refine⟨h.1,?_⟩;have:=h.2;omega
theorem aac(g:eW t n)(s:cN)(kG:∀o∈s.bH,o.nm.size≤maxLen)(fH:∀o∈s.bH,o.v.Ok)(hn:n≤260):eW (gF t s).1 (n+t.rows.length)∧(gF t s).1.rows.length=t.rows.length:=by
 have hz:eW t (n+t.rows.length)∧t.rows.length=t.rows.length:=⟨g.mono w4,rfl⟩
 unfold gF;by_cases hA:bN t.av s.set<0
 ·rw[if_pos hA];exact hz
 rw[if_neg hA];by_cases hB:(ec t.av s.bH).2≠0
 ·rw[if_pos hB];exact hz
 rw[if_neg hB];by_cases hC:(ec t.av s.bH).1≠(t.av.getD (bN t.av s.set).toNat ⟨⟨#[]⟩,0⟩).k∧(ec t.av s.bH).1≠0
 ·rw[if_pos hC];exact hz
 rw[if_neg hC];by_cases hD:(au t s.ah).2≠0
 ·rw[if_pos hD];exact hz
 rw[if_neg hD];by_cases hN:(iC t (bN t.av s.set) s.bH [] (au t s.ah).1).2≠0
 ·rw[if_pos hN];exact hz
 rw[if_neg hN];have Z:=Classical.not_not.1 hN;have hkz:(ec dH s.bH).2=0:=(by rw[←g.av];exact Classical.not_not.1 hB)
 have E:=Ib g kG fH hkz (au t s.ah).1 [] (uB g s.ah) Z (fun v O=>by cases O);have hlen:=Qs (t:=t) (c:=bN t.av s.set) (e:=s.bH) (au t s.ah).1 [] Z;have WY:=(Jo (l:=t.av) (nm:=s.set)).2;have hcc:t.av.length=dH.length:=(by rw[g.av])
 have U:(bN t.av s.set).toNat<dH.length:=(by omega)
 have GJ:∀v,jC (ec dH s.bH).1 v→jC (dH[(bN t.av s.set).toNat]'U).k v:=fun v O=>by
  refine adu O ?_;rw[g.av] at hC;have e:dH.getD (bN dH s.set).toNat ⟨⟨#[]⟩,0⟩=dH[(bN t.av s.set).toNat]'U:=by
   rw[getD_eq_getElem?_getD];rw[show(bN dH s.set).toNat=(bN t.av s.set).toNat by rw[g.av]];rw[getElem?_eq_getElem U];rfl
  rw[e] at hC;exact hC
 by_cases hP:0<bN t.av s.set
 ·rw[if_pos hP];have h1:=RT (c:=(bN t.av s.set).toNat) U w4 (au t s.ah).1 (iC t (bN t.av s.set) s.bH [] (au t s.ah).1).1 t g (uB g s.ah) fun v O=>⟨(E v O).1,GJ v (E v O).2.1⟩
  exact⟨h1.1.mono w4,h1.2⟩
 rw[if_neg hP];have xM:bN t.av s.set=0:=(by omega)
 by_cases hM:(j6 {t with ix:=nL t t.ix (au t s.ah).1} (au t s.ah).1 (iC t (bN t.av s.set) s.bH [] (au t s.ah).1).1).2≠0
 ·rw[if_pos hM];exact hz
 rw[if_neg hM];have hnd:=DX g s.ah;have I:=uB g s.ah;have mR:=ED g s.ah;obtain⟨D,d1,d2⟩:=RS (au t s.ah).1 t.ix [] g.d hnd fun i hi=>⟨I i hi,not_mem_nil⟩
 obtain⟨D',e1,e2,e3⟩:=SR (au t s.ah).1 (iC t (bN t.av s.set) s.bH [] (au t s.ah).1).1 _ n D d1 w4 hnd (by rw[hlen];simp) (fun i hi=>⟨I i hi,(d2 i).2 (.inl hi)⟩) (fun v O=>⟨(E v O).1,by have:=GJ v (E v O).2.1;simp only[xM] at this;exact this,(E v O).2.2 xM⟩) (Classical.not_not.1 hM);have hD':eW _ _:=(e1.ai9 (D':=[]) fun i=>by rw[e3,d2];simp).tb;have hle:(au t s.ah).1.length≤t.rows.length:=by
  have h1:((au t s.ah).1.map Int.toNat).Nodup:=by
   rw[Nodup,pairwise_map];refine(Pairwise.and_mem.1 hnd).imp fun {a b} h e=>h.2.2 ?_;have:=(I a h.1).1;have:=(I b h.2.1).1;omega
  have h2:=h1.length_le_of_subset (l₂:=range t.rows.length) fun x hx=>by
   obtain⟨y,hy,rfl⟩:=mem_map.1 hx;exact mem_range.2 (I y hy).2.1
  rwa [length_map,length_range] at h2
 exact⟨hD'.mono w4,e2⟩

end Go.Proofs.YtbcmjoaggammcaaGreatDoor.Ba
namespace Go.Proofs.YtbcmjoaggammcaaGreatDoor.Pa
open List
open Go.Proofs.Tryz
open Go.RowKit V Pk Vl Go.Proofs.YtbcmjoaggammcaaGreatDoor.Nm Pc
variable {t:ByteArray}
theorem adw{s:ByteArray}(h:cJ s=0):nH s=true∧s.size≤8:=by
 unfold cJ at h;split at h
 ·cases h
 split at h
 ·cases h
 rename_i h1 h2;rw[Bool.or_eq_true,Bool.not_eq_true'] at h2;refine⟨?_,by omega⟩;cases hw:nH s with
 | true=>rfl
 | false=>exact absurd (.inl hw) h2
variable {G:List (Nat×List Value)}
def sS:List Vl→ByteArray
 | []=>⟨#[120]⟩
 | v::_=>v.s
def oo(s:cN):Prop:=nl s∧1≤s.kind∧s.kind≤6∧s.gJ≤9223372036854775807∧ir s=0
structure M2 (w:List aW):Prop where
 l:w.length≤40
 f:ng w=0
 b:∀o∈w,o.nm.size≤maxLen∧-9223372036854775808≤o.v.n∧o.v.n≤9223372036854775807
theorem adA:M2 []:=⟨Nat.zero_le _,rfl,fun _ h=>by cases h⟩
theorem aad(t:Tw):∀o∈gU 3 t,-20≤o.v.n∧o.v.n≤40:=by
 have hz:∀j nm,-20≤(⟨j,bE,nm⟩:aW).v.n∧(⟨j,bE,nm⟩:aW).v.n≤40:=fun _ _=>⟨by show(-20:Int)≤0;decide,by show(0:Int)≤40;decide⟩
 have uL:∀n s,-20≤(rE n s).v.n∧(rE n s).v.n≤40:=fun n s=>by
  show -20≤(oT ⟨n,dV n 40-20,s⟩).n∧(oT ⟨n,dV n 40-20,s⟩).n≤40;have O:=jT n (show(1:Int)≤40 by decide);have h2:=jT (dV n 40-20) (show(1:Int)≤2 by decide);unfold oT;split
  ·dsimp only;omega
  split
  ·dsimp only;omega
  split
  ·dsimp only;omega
  exact⟨by show(-20:Int)≤0;decide,by show(0:Int)≤40;decide⟩
 have E:∀k n s,∀o∈l6 k n s,-20≤o.v.n∧o.v.n≤40:=fun k n s o ho=>by
  unfold l6 at ho;split at ho<;>(simp only[mem_singleton] at ho;subst ho)
  ·exact hz _ _
  exact uL _ _
 have key:∀(r:Nat) (t:Tw),∀o∈gU r t,-20≤o.v.n∧o.v.n≤40:=by
  intro r;induction r with
  | zero=>intro t;obtain⟨k,n,s,ts⟩:=t;exact E k n s
  | succ r ih =>
   intro t o ho;obtain⟨k,n,s,ts⟩:=t;have I:∀i:Nat,∀o∈gk r ts n s i,-20≤o.v.n∧o.v.n≤40:=fun i o ho=>by
    unfold gk at ho;split at ho
    ·exact ih _ o ho
    exact E _ _ _ o ho
   rw[vC] at ho;split at ho
   ·simp only[mem_singleton] at ho;subst ho;exact uL _ _
   split at ho
   ·simp only[mem_singleton] at ho;subst ho;exact hz _ _
   split at ho
   ·rcases mem_append.1 ho with ho|ho
    ·exact I 0 o ho
    simp only[mem_singleton] at ho;subst ho;exact hz _ _
   rcases mem_append.1 ho with ho|ho
   ·rcases mem_append.1 ho with ho|ho
    ·exact I 0 o ho
    exact I 1 o ho
   simp only[mem_singleton] at ho;subst ho;exact hz _ _
 exact key 3 t
theorem RU(t:Tw):M2 (gU 3 t):=by
 have h:=Og t;refine⟨by omega,?_,fun o ho=>⟨aaR (aaQ t) o ho,?_⟩⟩
 ·unfold ng;rw[if_neg w4];exact Oh t
 have:=aad t o ho;omega
theorem aae(s:cN):mb s s=true:=by
 unfold mb;simp only[Bool.and_eq_true,beq_iff_eq,AG,and_self]
theorem x6{s:cN}(ht:cJ s.table=0)(he:kz s=0)(hb:jr s=s):ir s=0:=by
 unfold ir;rw[if_neg (fun h=>h.2 ht),hb,if_neg (fun h=>by rw[aae] at h;cases h.2),he]
theorem small{x:ByteArray}(h:cJ x=0):x.size≤maxLen:=Nat.le_trans (adw h).2 w7
def rV(s:cN):Prop:=s.ah=[]∧∀w,M2 w→(4≤s.kind∨w=[])→oo {s with ah:=w}
theorem rV.wA{s:cN}(h:rV s):oo s:=by
 have:=h.2 [] adA (.inr rfl);rw[←h.1] at this;exact this
theorem NR(ht:cJ t=0):rV {iz with kind:=1,table:=t,av:=dH}:=⟨rfl,fun w hw h=>by
 have E:w=[]:=h.resolve_left (by show ¬(4:Int)≤1;decide);subst E;exact⟨⟨⟨by show 4≤6;decide,Nat.zero_le _,Nat.zero_le _,Nat.zero_le _,Nat.zero_le _⟩,small ht,by show ∀c∈dH,c.n.size≤maxLen;decide,(fun _ h=>by cases h),Nat.zero_le _,Nat.zero_le _,(fun _ h=>by cases h),(fun _ h=>by cases h),(fun _ h=>by cases h)⟩,by show(1:Int)≤1;decide,by show(1:Int)≤6;decide,B4,
  x6 ht (show fw dH=0 by decide +kernel) ay⟩⟩
theorem abQ(ht:cJ t=0):rV {iz with kind:=2,table:=t}:=⟨rfl,fun w hw h=>by
 have E:w=[]:=h.resolve_left (by show ¬(4:Int)≤2;decide);subst E;exact⟨⟨⟨Nat.zero_le _,Nat.zero_le _,Nat.zero_le _,Nat.zero_le _,Nat.zero_le _⟩,small ht,(fun _ h=>by cases h),(fun _ h=>by cases h),Nat.zero_le _,Nat.zero_le _,(fun _ h=>by cases h),(fun _ h=>by cases h),(fun _ h=>by cases h)⟩,by show(1:Int)≤2;decide,by show(2:Int)≤6;decide,B4,
  x6 ht ay ay⟩⟩
theorem RV{x:Int}(h0:0≤x):iE ⟨2,x,⟨#[]⟩⟩=0:=by
 unfold iE;rw[if_neg (by intro h;have:=h.2;dsimp only at this;omega)];kernel_rfl
theorem adB{s:ByteArray}(h:s.size≤20):iE ⟨3,0,s⟩=0:=by
 unfold iE;rw[if_neg (by intro h;exact absurd h.1 FW)];unfold dL;rw[if_neg (by show ¬(3:Int)=0;decide),if_neg (by show ¬(3:Int)=1;decide),if_neg FW,if_pos rfl,if_neg (fun h=>h rfl),if_neg (by show ¬s.size>20;omega)]
theorem aaf(n:Int):iE (nh n)=0∧-9223372036854775808≤(nh n).n∧(nh n).n≤9223372036854775807:=by
 have h:=jT n (show(1:Int)≤3 by decide);unfold nh;split
 ·exact⟨by decide,by decide,by decide⟩
 have h2:dV n 3=0∨dV n 3=1:=(by omega)
 rcases h2 with h2|h2<;>rw[h2]<;>exact⟨by decide,by decide,by decide⟩
theorem YL(ht:cJ t=0){x y b:Int}(hx:0≤x∧x<12)(hy:0≤y∧y<9){u:ByteArray}(Z:u.size≤6):rV {iz with kind:=3,table:=t,row:=[⟨2,x,⟨#[]⟩⟩,⟨2,y,⟨#[]⟩⟩,⟨3,0,u⟩,nh b]}:=⟨rfl,fun w hw h=>by
 have E:w=[]:=h.resolve_left (by show ¬(4:Int)≤3;decide);subst E;have l1:=RV hx.1;have l2:=RV hy.1;have l3:iE ⟨3,0,u⟩=0:=adB w4;obtain⟨l4,O,U⟩:=aaf b;refine⟨⟨⟨Nat.zero_le _,by show 4≤6;decide,Nat.zero_le _,Nat.zero_le _,Nat.zero_le _⟩,small ht,(fun _ h=>by cases h),(fun _ h=>by cases h),Nat.zero_le _,Nat.zero_le _,fun v I=>?_,(fun _ h=>by cases h),(fun _ h=>by cases h)⟩,by show(1:Int)≤3;decide,by show(3:Int)≤6;decide,B4,x6 ht ?_ ay⟩
 ·simp only[mem_cons,not_mem_nil,or_false] at I;rcases I with rfl|rfl|rfl|rfl
  ·dsimp only;omega
  ·dsimp only;omega
  ·dsimp only;omega
  exact⟨O,U⟩
 show dW [⟨2,x,⟨#[]⟩⟩,⟨2,y,⟨#[]⟩⟩,⟨3,0,u⟩,nh b]=0;unfold dW;rw[if_neg bw];simp[jB,l1,l2,l3,l4]⟩
theorem YM(ht:cJ t=0){N:List ByteArray}(E:N.length≤6∧∀x∈N,cJ x=0){c:Bool}(hc:c=true→N=[]){o:ByteArray}(ho:o=⟨#[]⟩∨cJ o=0){d:Bool}(hd:o=⟨#[]⟩→d=false){m:Int}(hm:-1≤m∧m≤7):rV {iz with kind:=4,table:=t,names:=N,count:=c,order:=o,down:=d,gJ:=m}:=⟨rfl,fun w hw h=>by
 have I:o.size≤maxLen:=(by rcases ho with rfl|h;exact Nat.zero_le _;exact small h)
 refine⟨⟨⟨Nat.zero_le _,Nat.zero_le _,E.1,hw.l,Nat.zero_le _⟩,small ht,(fun _ h=>by cases h),fun x hx=>small (E.2 x hx),I,Nat.zero_le _,(fun _ h=>by cases h),hw.b,(fun _ h=>by cases h)⟩,by show(1:Int)≤4;decide,by show(4:Int)≤6;decide,(by show _≤(9223372036854775807:Int);dsimp only;omega),x6 ht ?_ ay⟩;show oh {iz with kind:=4,table:=t,names:=N,count:=c,ah:=w,order:=o,down:=d,gJ:=m}=0;have gq:jB cJ N=0:=by
  have key:∀l:List ByteArray,(∀x∈l,cJ x=0)→jB cJ l=0:=by
   intro l;induction l with
   | nil=>intro _;rfl
   | cons a r ih=>intro h;rw[jB,if_neg (by rw[h a mem_cons_self];decide)];exact ih fun x hx=>h x (mem_cons_of_mem _ hx)
  exact key N E.2
 unfold oh;dsimp only;rw[if_neg w4,if_neg w4,if_neg (by
  rintro(⟨h1,h2⟩|⟨h1,h2⟩)
  ·rw[hc h1] at h2;simp at h2
  rw[hd (AG.1 h2)] at h1;cases h1),if_neg (by rw[gq];decide),if_neg (by rw[hw.f];decide)]
 split
 ·rfl
 rename_i h2;exact ho.resolve_left fun h=>h2 (AG.2 h)⟩
theorem YN(ht:cJ t=0){c:ByteArray}(hc:cJ c=0)(E:Tw):rV {iz with kind:=5,table:=t,set:=c,bH:=gU 3 E}:=⟨rfl,fun w hw h=>by
 have ho:=RU E;refine⟨⟨⟨Nat.zero_le _,Nat.zero_le _,Nat.zero_le _,hw.l,ho.l⟩,small ht,(fun _ h=>by cases h),(fun _ h=>by cases h),Nat.zero_le _,small hc,(fun _ h=>by cases h),hw.b,ho.b⟩,by show(1:Int)≤5;decide,by show(5:Int)≤6;decide,B4,x6 ht ?_ ay⟩;show(if cJ c=0 then (if iD (gU 3 E)=0 then ng w else iD (gU 3 E)) else cJ c)=0;rw[if_pos hc,if_pos (Oh E),hw.f]⟩
theorem YO(ht:cJ t=0):rV {iz with kind:=6,table:=t}:=⟨rfl,fun w hw h=>by
 refine⟨⟨⟨Nat.zero_le _,Nat.zero_le _,Nat.zero_le _,hw.l,Nat.zero_le _⟩,small ht,(fun _ h=>by cases h),(fun _ h=>by cases h),Nat.zero_le _,Nat.zero_le _,(fun _ h=>by cases h),hw.b,(fun _ h=>by cases h)⟩,by show(1:Int)≤6;decide,by show(6:Int)≤6;decide,B4,x6 ht hw.f ay⟩⟩
def eK:List ByteArray:=[⟨#[116]⟩,⟨#[117]⟩]
def iy:List ByteArray:=[⟨#[]⟩,⟨#[110]⟩,⟨#[115]⟩,⟨#[105,100]⟩]
def Ac:List ByteArray:=[⟨#[110]⟩,⟨#[110]⟩,⟨#[115]⟩,⟨#[98]⟩,⟨#[105,100]⟩]
theorem Fb:∀x∈eK,cJ x=0:=by decide +kernel
theorem agr:∀x∈iy,x.size=0∨cJ x=0:=by decide +kernel
theorem Fc:∀x∈Ac,cJ x=0:=by decide +kernel
theorem qu(n:Int)(h1:-9223372036854775808≤n)(h2:n≤9223372036854775807):VP Tryz.prog G 26 [.v (.int .i64 n)] (.agg [.v (.int .i64 (nh n).k),.v (.int .i64 (nh n).n),.v (.string (nh n).s)]):=by
 refine VC.body func26 rfl ntmps26 aO fun X0 w0 aX=>?_;refine bX ?_;refine OD.alloc (ds:=[_,_,_]) an rfl rfl zeroValue30 rfl (fun b2=>?_);refine aj 10 [0,2] ?_;refine cL [0,2,5] (jw G n 3 h1 h2 w7) ?_;refine aq (fun az aG=>?_) (fun az aG=>?_)
 ·refine aC 1 ?_;refine aN 0 [_,_,_] sizeOf30 ?_;refine aj 10 [2] ?_;refine aJ [] ?_;refine⟨?_,rfl⟩;unfold nh bE;simp_all
 refine aC 1 ?_;refine dJ call11 (jw G n 3 h1 h2 w7) ?_;refine aD 1 ?_;refine aN 0 [_,_,_] sizeOf30 ?_;refine aj 10 [2] ?_;refine aJ [] ?_;refine⟨?_,rfl⟩;unfold nh bE;simp_all

theorem ae4{s:ByteArray}(h:s.size=0):s=⟨#[]⟩:=by
 obtain⟨d⟩:=s;have:d = #[]:=Array.eq_empty_of_size_eq_zero h;rw[this]
theorem aag(k t a b:Int)(row:List Vl)(O U:Int)(Z:ByteArray)(E:List Tw)(y1 y2:Int)(y3:ByteArray)(I:List Tw)(bare:Bool):VP Tryz.prog G 42 [.agg [.v (.int .i64 k),.v (.int .i64 t),.v (.int .i64 a),.v (.int .i64 b),.list 3 (row.flatMap cV) row.length,.v (.int .i64 O),.v (.int .i64 U),.v (.string Z),.list 4 (Tw.lY E) E.length,.v (.int .i64 y1),.v (.int .i64 y2),.v (.string y3),.list 4 (Tw.lY I) I.length,.v (.bool bare)]] (.v (.string (sS row))):=by
 refine VC.body func42 rfl ntmps42 aO fun X0 w0 aX=>?_;refine bX ?_;refine OD.box (ds:=[_,_,_,_,_,_,_,_,_,_,_,_,_,_]) an rfl rfl ot rfl rfl (fun b1=>?_);refine aj 12 [1] ?_;refine ae [1,6] ?_;refine aq (fun az aG=>?_) (fun az aG=>?_)
 ·obtain⟨v,r,rfl⟩:∃v r,row=v::r:=(by (cases row;simp at az;exact⟨_,_,rfl⟩))
  refine cM [2] ?_;refine aP 2 ?_ (h:=by exact(nZ (mk:=Op.indexAddr 73) rfl ot bC (by first|exact oR runUnderlying73 sizeOf137 (j:=0) rfl bw|exact oV runUnderlying73 sizeOf137 (j:=0) rfl bw)));refine aP 1 ?_ (h:=by exact(cH (mk:=Op.load 9) rfl ot (by exact uD (i:=0) (j:=2) eS isAgg9 bw rfl)));refine bM ?_;refine aJ [] ?_;exact⟨rfl,rfl⟩
 obtain rfl:row=[]:=eq_nil_of_length_eq_zero (by simp at az;simp[az]);refine ae [2] ?_;exact z51
theorem Nf : ∀ w, ((#[{ name := "Kind", type := 3, offset := 0, embedded := false, tag := "", pkgPath := "", byteOffset := 0 }, { name := "Table", type := 9, offset := 1, embedded := false, tag := "", pkgPath := "", byteOffset := 8 }, { name := "Cols", type := 38, offset := 2, embedded := false, tag := "", pkgPath := "", byteOffset := 24 }, { name := "Row", type := 27, offset := 3, embedded := false, tag := "", pkgPath := "", byteOffset := 48 }, { name := "Names", type := 39, offset := 4, embedded := false, tag := "", pkgPath := "", byteOffset := 72 }, { name := "Count", type := 4, offset := 5, embedded := false, tag := "", pkgPath := "", byteOffset := 96 }, { name := "Where", type := 40, offset := 6, embedded := false, tag := "", pkgPath := "", byteOffset := 104 }, { name := "Order", type := 9, offset := 7, embedded := false, tag := "", pkgPath := "", byteOffset := 128 }, { name := "Down", type := 4, offset := 8, embedded := false, tag := "", pkgPath := "", byteOffset := 144 }, { name := "Limit", type := 3, offset := 9, embedded := false, tag := "", pkgPath := "", byteOffset := 152 }, { name := "Set", type := 9, offset := 10, embedded := false, tag := "", pkgPath := "", byteOffset := 160 }, { name := "To", type := 40, offset := 11, embedded := false, tag := "", pkgPath := "", byteOffset := 176 }] : Array Field).mapM fun f => do pure (f.offset, ← sizeOf f.type) : Sem (Array (Nat × Nat))).run Tryz.prog w = .ok #[(0, 1), (1, 1), (2, 1), (3, 1), (4, 1), (5, 1), (6, 1), (7, 1), (8, 1), (9, 1), (10, 1), (11, 1)] w := fun w => by simp [sizeOf27, sizeOf3, sizeOf38, sizeOf39, sizeOf4, sizeOf40, sizeOf9]
theorem XB(k t a b:Int)(row:List Vl)(x1 x2:Int)(x3:ByteArray)(E:List Tw)(y1 y2:Int)(y3:ByteArray)(I:List Tw)(bare:Bool)(dI:-9223372036854775808≤k)(fj:k≤9223372036854775807)(ht1:-9223372036854775808≤t)(ht2:t≤9223372036854775807)(U:-9223372036854775808≤a)(pu:a≤9223372036854775807)(iR:-9223372036854775808≤b)(oI:b≤9223372036854775807)(uU:∀v∈row,v.s.size≤maxLen)(hto:(Tw.mk x1 x2 x3 E).Ok)(Mq:(Tw.mk y1 y2 y3 I).Ok):VC Tryz.prog G 25 [.agg [.v (.int .i64 k),.v (.int .i64 t),.v (.int .i64 a),.v (.int .i64 b),.list 3 (row.flatMap cV) row.length,.v (.int .i64 x1),.v (.int .i64 x2),.v (.string x3),.list 4 (Tw.lY E) E.length,.v (.int .i64 y1),.v (.int .i64 y2),.v (.string y3),.list 4 (Tw.lY I) I.length,.v (.bool bare)]] [] (fun r S'=>∃s,r = .agg (cg s)∧S'=[]∧oo s∧s.kind=1+dV k 6):=by
 refine VC.body func25 rfl ntmps25 aO fun X0 w0 aX=>?_;have aoi:=jT k (show(1:Int)≤6 by decide);have O:=jw G k 6 dI fj w7;generalize dV k 6=ki at *;have ajb:=jT t (show(1:Int)≤2 by decide);have Fp:=jw G t 2 ht1 ht2 w7;generalize dV t 2=ti at *;obtain⟨tj,rfl⟩:=Int.eq_ofNat_of_zero_le ajb.1;have qR:tj<eK.length:=(by show tj<2;omega)
 have Z:=Fb eK[tj] (getElem_mem qR);generalize TJ:eK[tj]=tn at *;refine bX ?_;refine OD.box (ds:=[_,_,_,_,_,_,_,_,_,_,_,_,_,_]) an rfl rfl ot rfl rfl (fun b1=>?_);refine OD.alloc (ds:=[_,_,_,_,_,_,_,_,_,_,_,_]) an rfl rfl zeroValue42 rfl (fun b2=>?_);refine aj 111 [1,2] ?_;refine CD.seq ?_;refine CD.mono (Q:=fun aV aK=>aV=Exit.normal∧∃(b3:Nat),(True)∧Wk aK (⟨111,[(1,.v (.pointer (some ⟨b1,0,none⟩))),(2,.v (.pointer (some ⟨b2,0,none⟩))),(3,.v (.pointer (some ⟨b3,0,none⟩)))],[⟨b3,42,12,[.v (.int .i64 (1+ki)),.v (.string tn),.v (.slice none 0 0),.v (.slice none 0 0),.v (.slice none 0 0),.v (.bool false),.v (.slice none 0 0),.v (.string ⟨#[]⟩),.v (.bool false),.v (.int .i64 (-1)),.v (.string ⟨#[]⟩),.v (.slice none 0 0)]⟩,⟨b2,42,12,[.v (.int .i64 0),.v (.string ⟨#[]⟩),.v (.slice none 0 0),.v (.slice none 0 0),.v (.slice none 0 0),.v (.bool false),.v (.slice none 0 0),.v (.string ⟨#[]⟩),.v (.bool false),.v (.int .i64 0),.v (.string ⟨#[]⟩),.v (.slice none 0 0)]⟩,⟨b1,78,14,[.v (.int .i64 k),.v (.int .i64 t),.v (.int .i64 a),.v (.int .i64 b),.list 3 (row.flatMap cV) row.length,.v (.int .i64 x1),.v (.int .i64 x2),.v (.string x3),.list 4 (Tw.lY E) E.length,.v (.int .i64 y1),.v (.int .i64 y2),.v (.string y3),.list 4 (Tw.lY I) I.length,.v (.bool bare)]⟩]⟩:St)) ?_ ?_
 ·refine CD.draw (ap _) ay (fun _ h=>h) ?_;refine ax 0 rfl (cX 0) ?_;refine ax 1 rfl (dx 1) ?_;refine ax 5 rfl (cX 1) ?_;refine ax 6 rfl (dx 1) ?_;refine dg.later rfl ?_;refine AD.three (i:=2) (j:=4) (k:=11) ay ?_ ?_ ?_
  ·refine jt call11 (O) ?_;refine cr 3 rfl mz ?_;refine AD.three (i:=4) (j:=7) (k:=11) ay ?_ ?_ ?_
   ·refine je (bZ 0 [_,_]) [.string ⟨#[]⟩,.string ⟨#[]⟩] [_,_] zeroValue9 runUnderlying39 sizeOf9 (fun b8=>?_);refine jf 0 8 1 2 ?_;exact T9
   ·refine jt call11 (Fp) ?_;refine AD.two (i:=4) (j:=11) ay ?_ ?_
    ·refine je (bZ 0 [_,_]) [.string ⟨#[]⟩,.string ⟨#[]⟩] [_,_] zeroValue9 runUnderlying39 sizeOf9 (fun b8=>?_);refine jf 0 8 1 2 ?_;exact z109
    refine bf.alloc (ds:=[_,_,_,_,_,_,_,_,_,_,_,_]) rfl an rfl rfl zeroValue42 rfl (fun b3=>?_);refine AD.one (i:=4) ay ?_;refine je (bZ 0 [_,_]) [.string ⟨#[]⟩,.string ⟨#[]⟩] [_,_] zeroValue9 runUnderlying39 sizeOf9 (fun b8=>?_);refine jf 0 8 1 2 ?_;exact TX
   refine bf.alloc (ds:=[_,_,_,_,_,_,_,_,_,_,_,_]) rfl an rfl rfl zeroValue42 rfl (fun b3=>?_);exact z139
  ·refine je (bZ 0 [_,_]) [.string ⟨#[]⟩,.string ⟨#[]⟩] [_,_] zeroValue9 runUnderlying39 sizeOf9 (fun b8=>?_);refine jf 0 8 1 2 ?_;refine AD.two (i:=2) (j:=11) ay ?_ ?_
   ·refine jt call11 (O) ?_;refine cr 3 rfl mz ?_;exact T9
   refine bf.alloc (ds:=[_,_,_,_,_,_,_,_,_,_,_,_]) rfl an rfl rfl zeroValue42 rfl (fun b3=>?_);refine AD.one (i:=2) ay ?_;refine jt call11 (O) ?_;refine cr 3 rfl mz ?_;exact Fm
  refine bf.alloc (ds:=[_,_,_,_,_,_,_,_,_,_,_,_]) rfl an rfl rfl zeroValue42 rfl (fun b3=>?_);refine AD.two (i:=2) (j:=4) ay ?_ ?_
  ·refine jt call11 (O) ?_;refine cr 3 rfl mz ?_;exact z139
  refine je (bZ 0 [_,_]) [.string ⟨#[]⟩,.string ⟨#[]⟩] [_,_] zeroValue9 runUnderlying39 sizeOf9 (fun b8=>?_);refine jf 0 8 1 2 ?_;refine AD.one (i:=2) ay ?_;refine jt call11 (O) ?_;refine cr 3 rfl mz ?_;exact Fm
 rintro _ _ ⟨rfl,b3,_,JP⟩;refine CD.wk JP ?_;refine jz [1,2,3] (fun aV _ aK=>∃(s:cN),(rV s)∧(s.kind=1+ki)∧aK=(⟨111,aV,[⟨b3,42,12,[.v (.int .i64 s.kind),.v (.string s.table),.list 2 (s.av.flatMap cC) s.av.length,.list 3 (s.row.flatMap cV) s.row.length,.list 1 (s.names.flatMap cS) s.names.length,.v (.bool s.count),.list 5 (s.ah.flatMap cO) s.ah.length,.v (.string s.order),.v (.bool s.down),.v (.int .i64 s.gJ),.v (.string s.set),.list 5 (s.bH.flatMap cO) s.bH.length]⟩,⟨b2,42,12,[.v (.int .i64 0),.v (.string ⟨#[]⟩),.v (.slice none 0 0),.v (.slice none 0 0),.v (.slice none 0 0),.v (.bool false),.v (.slice none 0 0),.v (.string ⟨#[]⟩),.v (.bool false),.v (.int .i64 0),.v (.string ⟨#[]⟩),.v (.slice none 0 0)]⟩,⟨b1,78,14,[.v (.int .i64 k),.v (.int .i64 t),.v (.int .i64 a),.v (.int .i64 b),.list 3 (row.flatMap cV) row.length,.v (.int .i64 x1),.v (.int .i64 x2),.v (.string x3),.list 4 (Tw.lY E) E.length,.v (.int .i64 y1),.v (.int .i64 y2),.v (.string y3),.list 4 (Tw.lY I) I.length,.v (.bool bare)]⟩]⟩:St)) ?_ ?_
 ·refine CD.seq ?_;refine CD.cells (k:=0) (cs':=[_,_,.list 2 [] 0,.list 3 [] 0,.list 1 [] 0,_,.list 5 [] 0,_,_,_,_,.list 5 [] 0]) (S':=[_,_,_]) rfl (by repeat (first|exact trivial|exact⟨dM,trivial⟩|exact⟨ff,trivial⟩|refine⟨dM,?_⟩|refine⟨ff,?_⟩)) rfl ?_;refine cj [1,2,3,16] ?_;refine ae [1,2,3,16,17] ?_;refine aq (fun az aG=>?_) (fun az aG=>?_)
  ·obtain rfl:ki=0:=(by simp at az;omega)
   refine sy ?_;refine OD.gI an rfl rfl rfl call24 (Om) trivial ?_;refine aD 1 ?_;refine aN 0 [_,_,_,_,_,_,_,_,_,_,_,_] sizeOf38 ?_;refine aj 111 [1,2,3] ?_;refine⟨_,aM,{iz with kind:=1+0,table:=tn,av:=dH},(NR Z),B0,rfl⟩
  refine ae [1,2,3,16,21] ?_;refine aq (fun aH aU=>?_) (fun aH aU=>?_)
  ·obtain rfl:ki=2:=(by simp at aH;omega)
   have ajc:=jT a (show(1:Int)≤12 by decide);have ajd:=jw G a 12 U pu w7;generalize dV a 12=xa at *;have aje:=jT b (show(1:Int)≤9 by decide);have ajf:=jw G b 9 iR oI w7;generalize dV b 9=xb at *;have Gp:(sS row).size≤maxLen:=(by (cases row;decide;exact uU _ mem_cons_self))
   have xM:(mq (sS row) 2).size≤maxLen:=(by rw[DN];exact Nat.le_trans (Nat.min_le_left _ _) Gp)
   have di:((⟨#[]⟩:ByteArray)++mq (sS row) 2).size≤maxLen:=(by rw[ByteArray.size_append];show 0+_≤_;omega)
   have r9:(⟨#[]⟩:ByteArray).size+(mq (sS row) 2).size≤9223372036854775807:=(by (have:=xM;unfold maxLen at this;show 0+_≤_;omega))
   have hu6:=(Yf ((⟨#[]⟩:ByteArray)++mq (sS row) 2)).2;refine lT 18 [1,2,3,40] ?_;refine cU (ajd) ?_;refine cU (ajf) ?_;refine cU (aag k t a b row x1 x2 x3 E y1 y2 y3 I bare) ?_;refine cU (AT (sS row) 2 Gp) ?_;refine aP 0 ?_ (h:=by exact(cW rfl bC ot (Ip r9)));refine cU (Nm.pP ((⟨#[]⟩:ByteArray)++mq (sS row) 2) di) ?_;refine cU (qu b iR oI) ?_;refine bM ?_;refine aD 1 ?_;refine aN 0 [_,_,_,_,_,_,_,_,_,_,_,_] sizeOf27 ?_;refine aj 111 [1,2,3] ?_;refine⟨_,aM,{iz with kind:=1+2,table:=tn,row:=[⟨2,xa,⟨#[]⟩⟩,⟨2,xb,⟨#[]⟩⟩,⟨3,0,uG ((⟨#[]⟩:ByteArray)++mq (sS row) 2)⟩,nh b]},(YL Z ajc aje hu6),B0,rfl⟩
  refine ae [1,2,3,16,42] ?_;refine aq (fun aY bz=>?_) (fun aY bz=>?_)
  ·obtain rfl:ki=3:=(by simp at aY;omega)
   refine jz [1,2,3] (fun aV _ aK=>∃(N:List ByteArray),((N.length≤6∧∀x∈N,cJ x=0))∧aK=(⟨111,aV,[⟨b3,42,12,[.v (.int .i64 (1+3)),.v (.string tn),.list 2 [] 0,.list 3 [] 0,.list 1 (N.flatMap cS) N.length,.v (.bool false),.list 5 [] 0,.v (.string ⟨#[]⟩),.v (.bool false),.v (.int .i64 (-1)),.v (.string ⟨#[]⟩),.list 5 [] 0]⟩,⟨b2,42,12,[.v (.int .i64 0),.v (.string ⟨#[]⟩),.v (.slice none 0 0),.v (.slice none 0 0),.v (.slice none 0 0),.v (.bool false),.v (.slice none 0 0),.v (.string ⟨#[]⟩),.v (.bool false),.v (.int .i64 0),.v (.string ⟨#[]⟩),.v (.slice none 0 0)]⟩,⟨b1,78,14,[.v (.int .i64 k),.v (.int .i64 t),.v (.int .i64 a),.v (.int .i64 b),.list 3 (row.flatMap cV) row.length,.v (.int .i64 x1),.v (.int .i64 x2),.v (.string x3),.list 4 (Tw.lY E) E.length,.v (.int .i64 y1),.v (.int .i64 y2),.v (.string y3),.list 4 (Tw.lY I) I.length,.v (.bool bare)]⟩]⟩:St)) ?_ ?_
   ·refine CD.seq ?_;have aoj:=jT a (show(1:Int)≤3 by decide);have ajg:=jw G a 3 U pu w7;generalize dV a 3=xc at *;refine ie [1,2,3,47] ?_;refine cU (ajg) ?_;refine bM ?_;refine aq (fun bF bY=>?_) (fun bF bY=>?_)
    ·have pyb:=jT b (show(1:Int)≤3 by decide);have M3:=jw G b 3 iR oI w7;generalize dV b 3=yb at *;have hyb:yb=0∨yb=1∨yb=2:=(by omega)
     rcases hyb with rfl|rfl|rfl
     ·refine sy ?_;refine ei (bZ 0 [_,_,_]) [.string ⟨#[]⟩,.string ⟨#[]⟩,.string ⟨#[]⟩] [_,_,_] zeroValue9 runUnderlying39 sizeOf9 (fun MS=>?_);refine fG 0 48 1 3 ?_;refine aD 2 ?_;refine dJ call11 (M3) ?_;refine aD 1 ?_;refine bJ (ek (l:=0) (h:=1) rfl ot trivial ⟨_,ot⟩ K5) ?_;refine aD 1 ?_;refine aN 0 [_,_,_,_,_,_,_,_,_,_,_,_] sizeOf39 ?_;refine aj 111 [1,2,3] ?_;refine⟨_,aM,[⟨#[115]⟩],⟨by decide,by decide +kernel⟩,rfl⟩
     ·refine sy ?_;refine ei (bZ 0 [_,_,_]) [.string ⟨#[]⟩,.string ⟨#[]⟩,.string ⟨#[]⟩] [_,_,_] zeroValue9 runUnderlying39 sizeOf9 (fun MS=>?_);refine fG 0 48 1 3 ?_;refine aD 2 ?_;refine dJ call11 (M3) ?_;refine aD 1 ?_;refine bJ (ek (l:=0) (h:=2) rfl ot trivial ⟨_,ot⟩ K5) ?_;refine aD 1 ?_;refine aN 0 [_,_,_,_,_,_,_,_,_,_,_,_] sizeOf39 ?_;refine aj 111 [1,2,3] ?_;refine⟨_,aM,[⟨#[115]⟩,⟨#[105,100]⟩],⟨by decide,by decide +kernel⟩,rfl⟩
     refine sy ?_;refine ei (bZ 0 [_,_,_]) [.string ⟨#[]⟩,.string ⟨#[]⟩,.string ⟨#[]⟩] [_,_,_] zeroValue9 runUnderlying39 sizeOf9 (fun MS=>?_);refine fG 0 48 1 3 ?_;refine aD 2 ?_;refine dJ call11 (M3) ?_;refine aD 1 ?_;refine bJ (ek (l:=0) (h:=3) rfl ot trivial ⟨_,ot⟩ K5) ?_;refine aD 1 ?_;refine aN 0 [_,_,_,_,_,_,_,_,_,_,_,_] sizeOf39 ?_;refine aj 111 [1,2,3] ?_;refine⟨_,aM,[⟨#[115]⟩,⟨#[105,100]⟩,⟨#[110]⟩],⟨by decide,by decide +kernel⟩,rfl⟩
    refine CD.skip ?_;refine⟨_,aM,[],⟨by simp,fun _ h=>by cases h⟩,rfl⟩
   rintro _ ⟨N,hN,rfl⟩;refine CD.seq ?_;have aok:=jT a (show(1:Int)≤5 by decide);have ajh:=jw G a 5 U pu w7;generalize dV a 5=xd at *;refine dw 2 ?_;refine dJ call11 (ajh) ?_;refine aD 2 ?_;refine aN 0 [_,_,_,_,_,_,_,_,_,_,_,_] sizeOf4 ?_;refine aj 111 [1,2,3] ?_;refine jz [1,2,3] (fun aV _ aK=>∃(N:List ByteArray),∃(ct:Bool),((N.length≤6∧∀x∈N,cJ x=0))∧(ct=true→N=[])∧aK=(⟨111,aV,[⟨b3,42,12,[.v (.int .i64 (1+3)),.v (.string tn),.list 2 [] 0,.list 3 [] 0,.list 1 (N.flatMap cS) N.length,.v (.bool ct),.list 5 [] 0,.v (.string ⟨#[]⟩),.v (.bool false),.v (.int .i64 (-1)),.v (.string ⟨#[]⟩),.list 5 [] 0]⟩,⟨b2,42,12,[.v (.int .i64 0),.v (.string ⟨#[]⟩),.v (.slice none 0 0),.v (.slice none 0 0),.v (.slice none 0 0),.v (.bool false),.v (.slice none 0 0),.v (.string ⟨#[]⟩),.v (.bool false),.v (.int .i64 0),.v (.string ⟨#[]⟩),.v (.slice none 0 0)]⟩,⟨b1,78,14,[.v (.int .i64 k),.v (.int .i64 t),.v (.int .i64 a),.v (.int .i64 b),.list 3 (row.flatMap cV) row.length,.v (.int .i64 x1),.v (.int .i64 x2),.v (.string x3),.list 4 (Tw.lY E) E.length,.v (.int .i64 y1),.v (.int .i64 y2),.v (.string y3),.list 4 (Tw.lY I) I.length,.v (.bool bare)]⟩]⟩:St)) ?_ ?_
   ·refine ae [1,2,3,61] ?_;refine aq (fun cx c8=>?_) (fun cx c8=>?_)
    ·refine dw 1 ?_;refine aN 0 [_,_,_,_,_,_,_,_,_,_,_,_] sizeOf39 ?_;refine aj 111 [1,2,3] ?_;refine⟨_,(Wk.cells (k:=0) (cs':=[_,_,_,_,.list 1 [] 0,_,_,_,_,_,_,_]) rfl (by repeat (first|exact trivial|exact⟨dM,trivial⟩|exact⟨ff,trivial⟩|refine⟨dM,?_⟩|refine⟨ff,?_⟩)) rfl).trans (aM),[],(xd==3),⟨Nat.zero_le _,fun _ h=>by cases h⟩,(fun _=>rfl),rfl⟩
    refine CD.skip ?_;refine⟨_,aM,N,(xd==3),hN,(fun h=>absurd h (by rw[cx];decide)),rfl⟩
   rintro _ ⟨N,ct,hN,hcn,rfl⟩;refine CD.seq ?_;have aji:=jT b (show(1:Int)≤4 by decide);have ajj:=jw G b 4 iR oI w7;generalize dV b 4=xe at *;obtain⟨ej,rfl⟩:=Int.eq_ofNat_of_zero_le aji.1;have M4:ej<iy.length:=(by show ej<4;omega)
   have jx:=agr iy[ej] (getElem_mem M4);generalize ajk:iy[ej]=od at *;refine sy ?_;refine ei (bZ 0 [_,_,_,_]) [.string ⟨#[]⟩,.string ⟨#[]⟩,.string ⟨#[]⟩,.string ⟨#[]⟩] [_,_,_,_] zeroValue9 runUnderlying39 sizeOf9 (fun Dh=>?_);refine fG 0 63 1 4 ?_;refine aD 2 ?_;refine dJ call11 (ajj) ?_;refine aD 1 ?_;refine bJ (cH (mk:=Op.load 9) rfl ot (by exact pQ (g:=cS) (ls:=iy) (i:=ej) (d:=.v (.string od)) iV isAgg9 M4 (by show some (D.v (.string (iy[ej]'M4)))=some (D.v (.string od));rw[ajk]))) ?_;refine aD 1 ?_;refine aN 0 [_,_,_,_,_,_,_,_,_,_,_,_] sizeOf9 ?_;refine aj 111 [1,2,3] ?_;refine jz [1,2,3] (fun aV _ aK=>∃(dn:Bool),(od=⟨#[]⟩→dn=false)∧aK=(⟨111,aV,[⟨b3,42,12,[.v (.int .i64 (1+3)),.v (.string tn),.list 2 [] 0,.list 3 [] 0,.list 1 (N.flatMap cS) N.length,.v (.bool ct),.list 5 [] 0,.v (.string od),.v (.bool dn),.v (.int .i64 (-1)),.v (.string ⟨#[]⟩),.list 5 [] 0]⟩,⟨b2,42,12,[.v (.int .i64 0),.v (.string ⟨#[]⟩),.v (.slice none 0 0),.v (.slice none 0 0),.v (.slice none 0 0),.v (.bool false),.v (.slice none 0 0),.v (.string ⟨#[]⟩),.v (.bool false),.v (.int .i64 0),.v (.string ⟨#[]⟩),.v (.slice none 0 0)]⟩,⟨b1,78,14,[.v (.int .i64 k),.v (.int .i64 t),.v (.int .i64 a),.v (.int .i64 b),.list 3 (row.flatMap cV) row.length,.v (.int .i64 x1),.v (.int .i64 x2),.v (.string x3),.list 4 (Tw.lY E) E.length,.v (.int .i64 y1),.v (.int .i64 y2),.v (.string y3),.list 4 (Tw.lY I) I.length,.v (.bool bare)]⟩]⟩:St)) ?_ ?_
   ·have aol:=jT a (show(1:Int)≤2 by decide);have ajl:=jw G a 2 U pu w7;generalize dV a 2=xf at *;refine dw 4 ?_;refine bS 73 (fun KX ags=>?_) (fun KX ags=>?_)
    ·refine aD 2 ?_;refine OD.gI gN rfl rfl rfl call11 (ajl) ⟨ot,bC,trivial⟩ ?_;refine aD 3 ?_;refine aN 0 [_,_,_,_,_,_,_,_,_,_,_,_] sizeOf4 ?_;refine aj 111 [1,2,3] ?_;refine⟨_,aM,(xf==1),(fun h=>by rw[h] at KX;exact absurd KX (by decide +kernel)),rfl⟩
    refine xj 4 ?_;refine aD 2 ?_;refine aN 0 [_,_,_,_,_,_,_,_,_,_,_,_] sizeOf4 ?_;refine aj 111 [1,2,3] ?_;refine⟨_,aM,false,(fun _=>rfl),rfl⟩
   rintro _ ⟨dn,zM,rfl⟩;have aom:=jT a (show(1:Int)≤9 by decide);have ajm:=jw G a 9 U pu w7;generalize dV a 9=xg at *;refine dw 2 ?_;refine dJ call11 (ajm) ?_;refine aD 2 ?_;refine aN 0 [_,_,_,_,_,_,_,_,_,_,_,_] sizeOf3 ?_;refine aj 111 [1,2,3] ?_;refine⟨_,aM,{iz with kind:=1+3,table:=tn,names:=N,count:=ct,order:=od,down:=dn,gJ:=xg-1},(YM Z hN hcn (jx.imp (fun h=>ae4 h) id) zM w4),B0,rfl⟩
  refine ae [1,2,3,85] ?_;refine aq (fun dP er=>?_) (fun dP er=>?_)
  ·obtain rfl:ki=4:=(by simp at dP;omega)
   refine CD.seq ?_;have ajn:=jT a (show(1:Int)≤5 by decide);have ajo:=jw G a 5 U pu w7;generalize dV a 5=xh at *;obtain⟨hj,rfl⟩:=Int.eq_ofNat_of_zero_le ajn.1;have M5:hj<Ac.length:=(by show hj<5;omega)
   have hsn:=Fc Ac[hj] (getElem_mem M5);generalize ajp:Ac[hj]=sn at *;refine sy ?_;refine ei (bZ 0 [_,_,_,_,_]) [.string ⟨#[]⟩,.string ⟨#[]⟩,.string ⟨#[]⟩,.string ⟨#[]⟩,.string ⟨#[]⟩] [_,_,_,_,_] zeroValue9 runUnderlying39 sizeOf9 (fun b87=>?_);refine fG 0 87 1 5 ?_;refine aD 2 ?_;refine dJ call11 (ajo) ?_;refine aD 1 ?_;refine bJ (cH (mk:=Op.load 9) rfl ot (by exact pQ (g:=cS) (ls:=Ac) (i:=hj) (d:=.v (.string sn)) iV isAgg9 M5 (by show some (D.v (.string (Ac[hj]'M5)))=some (D.v (.string sn));rw[ajp]))) ?_;refine aD 1 ?_;refine aN 0 [_,_,_,_,_,_,_,_,_,_,_,_] sizeOf9 ?_;refine aj 111 [1,2,3] ?_;refine dw 2 ?_;refine dJ call43 (SC (.mk x1 x2 x3 E) hto) ?_;refine aD 1 ?_;refine aN 0 [_,_,_,_,_,_,_,_,_,_,_,_] sizeOf40 ?_;refine aj 111 [1,2,3] ?_;refine⟨_,aM,{iz with kind:=1+4,table:=tn,set:=sn,bH:=gU 3 (.mk x1 x2 x3 E)},(YN Z hsn (.mk x1 x2 x3 E)),B0,rfl⟩
  have ajq:ki=1∨ki=5:=(by simp at az aH aY dP;omega)
  refine CD.skip ?_;refine⟨_,aM,{iz with kind:=1+ki,table:=tn},(by (rcases ajq with rfl|rfl;exact abQ Z;exact YO Z)),B0,rfl⟩
 rintro _ ⟨s,KY,KZ,rfl⟩;refine aC 4 ?_;refine bS 101 (fun TG ae5=>?_) (fun TG ae5=>?_)
 ·refine aZ [1,2,3,105] ?_;refine aq (fun eN fR=>?_) (fun eN fR=>?_)
  ·have hg4:4≤s.kind∧bare=false:=(by (have q1:=eN;simp at q1;first|exact⟨by simpa using TG,by simpa using q1⟩|simp_all))
   have nJ:=KY.2 (gU 3 (.mk y1 y2 y3 I)) (RU _) (.inl hg4.1);refine dw 2 ?_;refine dJ call43 (SC (.mk y1 y2 y3 I) Mq) ?_;refine aD 1 ?_;refine aN 0 [_,_,_,_,_,_,_,_,_,_,_,_] sizeOf40 ?_;refine aj 111 [2,3] ?_;refine aC 1 ?_;refine aN 1 [_,_,_,_,_,_,_,_,_,_,_,_] sizeOf42 ?_;refine aj 111 [2] ?_;refine aJ [] ?_;exact⟨{s with ah:=gU 3 (.mk y1 y2 y3 I)},rfl,rfl,nJ,KZ⟩
  have nJ:=KY.wA;refine aC 1 ?_;refine aN 1 [_,_,_,_,_,_,_,_,_,_,_,_] sizeOf42 ?_;refine aj 111 [2] ?_;refine aJ [] ?_;exact⟨s,rfl,rfl,nJ,KZ⟩
 refine aZ [1,2,3,105] ?_;refine fF ?_;have nJ:=KY.wA;refine aC 1 ?_;refine aN 1 [_,_,_,_,_,_,_,_,_,_,_,_] sizeOf42 ?_;refine aj 111 [2] ?_;refine aJ [] ?_;exact⟨s,rfl,rfl,nJ,KZ⟩

end Go.Proofs.YtbcmjoaggammcaaGreatDoor.Pa
namespace Go.Proofs.YtbcmjoaggammcaaGreatDoor.Ba
open List
open Go.Proofs.Tryz
open Go.RowKit V Pk Tr Vl Go.Proofs.YtbcmjoaggammcaaGreatDoor.Nm Pc Cd Ex Tw
open Pa (cN cg nl iW oo ir kz mb jr)
variable {l:List aT} {a c:Nat}
theorem J2{v:Vl}(h:dL v=0)(h1:-9223372036854775808≤v.n)(h2:v.n≤9223372036854775807):v.Ok:=by
 unfold dL at h;have hk:(0≤v.k∧v.k≤3)∧v.s.size≤20:=by
  repeat' split at h
  all_goals first|(cases h;done)|omega
 exact⟨by omega,by omega,h1,h2,Nat.le_trans hk.2 w7⟩
theorem OV{α:Type}{f:α→Int}:∀{l:List α},Pa.jB f l=0→∀a∈l,f a=0
 | [],_,a,ha=>by cases ha
 | x::r,h,a,ha=>by
  rw[Pa.jB] at h;split at h
  ·rename_i hx;exact absurd h hx
  rename_i hx;rcases mem_cons.1 ha with rfl|ha
  ·exact Classical.not_not.1 hx
  exact OV h a ha
theorem Ie{w:List aW}(h:Pa.ng w=0):∀o∈w,dL o.v=0:=fun o ho=>by
 unfold Pa.ng at h;split at h
 ·rename_i h0;rw[length_eq_zero_iff.1 h0] at ho;cases ho
 obtain⟨h',h1⟩:=Ej w 0 (vK h).2 o ho;exact DS (vH h1).2.2.1
theorem adC{w:List aW}(h:iD w=0):∀o∈w,dL o.v=0:=fun o ho=>by
 obtain⟨h',h1⟩:=Ej w 0 (vK h).2 o ho;exact DS (vH h1).2.2.1
structure zk (s:cN):Prop where
 fin:nl s
 row:∀v∈s.row,v.Ok
 wnm:∀o∈s.ah,o.nm.size≤maxLen
 wok:∀o∈s.ah,o.v.Ok
 W7:∀o∈s.bH,o.nm.size≤maxLen
 W8:∀o∈s.bH,o.v.Ok
theorem Fc{s:cN}(hf:nl s)(dI:1≤s.kind)(zK:s.kind≤6)(hc:ir s=0):zk s:=by
 unfold ir at hc;split at hc
 ·rename_i h1;exact absurd hc h1.2
 split at hc
 ·cases hc
 rename_i h1 h2;have hb:mb s (jr s)=true:=by
  cases h:mb s (jr s) with
  | true=>rfl
  | false=>exact absurd ⟨hc,h⟩ h2
 unfold mb at hb;simp only[Bool.and_eq_true,beq_iff_eq] at hb;have hr:∀v∈s.row,dL v=0:=by
  by_cases h3:s.kind=3
  ·unfold kz at hc;rw[if_neg w4,if_pos h3] at hc;unfold Pa.dW at hc;split at hc
   ·cases hc
   exact fun v O=>DS (OV hc v O)
  have E:(s.row.length:Int)=((jr s).row.length:Int):=hb.2.2.1;have h0:(jr s).row=[]:=(by unfold jr;split;rfl;split;rfl;split;rfl;split;rfl;rfl)
  rw[h0] at E;have:s.row=[]:=length_eq_zero_iff.1 (by simpa using E);rw[this];intro v O;cases O
 have hw:∀o∈s.ah,dL o.v=0:=by
  by_cases h3:4≤s.kind
  ·unfold kz at hc;rw[if_neg w4,if_neg w4] at hc;by_cases h4:s.kind=4
   ·rw[if_pos h4] at hc;unfold Pa.oh at hc;split at hc
    ·cases hc
    split at hc
    ·cases hc
    split at hc
    ·cases hc
    split at hc
    ·rename_i I;exact absurd hc I
    split at hc
    ·rename_i I;exact absurd hc I
    rename_i I;exact Ie (Classical.not_not.1 I)
   rw[if_neg h4] at hc;by_cases h5:s.kind=5
   ·rw[if_pos h5] at hc;split at hc
    ·split at hc
     ·exact Ie hc
     rename_i I;exact absurd hc I
    rename_i I;exact absurd hc I
   rw[if_neg h5,if_pos w4] at hc;exact Ie hc
  have E:(s.ah.length:Int)=((jr s).ah.length:Int):=hb.2.2.2.2.2.1;have h0:(jr s).ah=[]:=(by unfold jr;split;rfl;split;rfl;rw[if_neg w4,if_neg w4,if_neg w4];rfl)
  rw[h0] at E;have:s.ah=[]:=length_eq_zero_iff.1 (by simpa using E);rw[this];intro v O;cases O
 have hx:∀o∈s.bH,dL o.v=0:=by
  by_cases h5:s.kind=5
  ·unfold kz at hc;rw[if_neg w4,if_neg w4,if_neg w4,if_pos h5] at hc;split at hc
   ·split at hc
    ·rename_i I;exact adC I
    rename_i I;exact absurd hc I
   rename_i I;exact absurd hc I
  have E:(s.bH.length:Int)=((jr s).bH.length:Int):=(by simpa using hb.2.2.2.2.2.2.2.2.2.2)
  have h0:(jr s).bH=[]:=(by unfold jr;split;rfl;split;rfl;split;rfl;split;rfl;rfl)
  rw[h0] at E;have:s.bH=[]:=length_eq_zero_iff.1 (by simpa using E);rw[this];intro v O;cases O
 exact⟨hf,fun v O=>J2 (hr v O) (hf.r v O).1 (hf.r v O).2,fun o ho=>(hf.w o ho).1,fun o ho=>J2 (hw o ho) (hf.w o ho).2.1 (hf.w o ho).2.2,fun o ho=>(hf.x o ho).1,fun o ho=>J2 (hx o ho) (hf.x o ho).2.1 (hf.x o ho).2.2⟩
theorem oo.st{s:cN}(h:oo s):zk s:=Fc h.1 h.2.1 h.2.2.1 h.2.2.2.2
structure p8 (l:List aT) (a c:Nat):Prop where
 g:qF l (a*(1+c))
 r:∀t∈l,t.rows.length≤a
theorem abR(s:cN)(h:cJ s.table=0)(hc:s.av=dH):eW (gA s) 0:=⟨h,hc,Nat.zero_le _,abp,fun i h=>absurd h (Nat.not_lt_zero _),fun x hx=>by
 have:gE rP=[]:=abq;rw[show(gA s).ix=rP from rfl,this] at hx;cases hx⟩
theorem qF.mono{l:List aT}{n m:Nat}(g:qF l n)(h:n≤m):qF l m:=⟨g.eL,fun t ht=>(g.tb t ht).mono h,g.sz,g.GL⟩
theorem qF.put{n:Nat}(g:qF l n){i:Nat}(hi:i<l.length){t:aT}(ht:eW t n)(hn:t.nm=l[i].nm):qF (l.set i t) n:=by
 refine⟨by rw[length_set];exact g.eL,fun x hx=>?_,fun x hx=>?_,?_⟩
 ·rcases mem_or_eq_of_mem_set hx with h|h
  ·exact g.tb x h
  rw[h];exact ht
 ·rcases mem_or_eq_of_mem_set hx with h|h
  ·exact g.sz x h
  rw[h,hn];exact g.sz _ (getElem_mem hi)
 have hm:(l.set i t).map aT.nm=l.map aT.nm:=by
  exact VM
 have h1:∀l:List aT,(l.Pairwise fun a b=>a.nm.toList≠b.nm.toList)↔(l.map aT.nm).Pairwise fun a b=>a.toList≠b.toList:=fun l=>by rw[pairwise_map]
 rw[h1,hm,←h1];exact g.GL

theorem SS(t:aT)(row:List Vl):(fS t row).1.nm=t.nm:=by
 unfold fS;by_cases h1:Pc.dW t.av row≠0
 ·rw[if_pos h1]
 rw[if_neg h1];cases gS t.ix (dj row) (dA t.ix) with
 | true=>rw[if_pos rfl]
 | false =>
  rw[if_neg w7];by_cases h3:t.rows.length=40
  ·rw[if_pos h3]
  rw[if_neg h3]
theorem RW:∀(l:List Int) (t:aT),(qN t l).nm=t.nm
 | [],_=>rfl
 | _::l,t=>(RW l _).trans rfl
theorem SU(t:aT)(w:List aW):(l8 t w).1.nm=t.nm:=by unfold l8;split;rfl;exact RW _ _
theorem RX{c:Nat}:∀(l:List Int) (vs:List Vl) (t:aT),(mu c t l vs).nm=t.nm
 | [],_,t=>by unfold mu;rfl
 | _::_,[],t=>by unfold mu;rfl
 | _::l,_::vs,t=>(RX l vs _).trans rfl
theorem Qt:∀(l:List Int) (vs:List Vl) (t:aT),(j6 t l vs).1.nm=t.nm
 | [],_,t=>by unfold j6;rfl
 | _::_,[],t=>by unfold j6;rfl
 | _::l,_::vs,t=>by
  rw[j6];split
  ·rfl
  exact(Qt l vs _).trans rfl
theorem SV(t:aT)(s:cN):(gF t s).1.nm=t.nm:=by
 unfold gF;repeat' split
 all_goals first|rfl|exact RX _ _ _|exact(Qt _ _ _).trans rfl
theorem ae6{nm:ByteArray}(h:bq l nm<0):∀t∈l,t.nm.toList≠nm.toList:=fun t ht e=>by
 unfold bq dO at h;split at h
 ·omega
 rename_i h1;have:=findIdx?_eq_none_iff.1 h1 t ht;rw[e] at this;simp at this
theorem Qu(h:a+c≤30):a*(1+c)≤260:=by
 have key:∀a<31,∀c<31,a+c≤30→a*(1+c)≤260:=(by decide +kernel)
 exact key a w4 c w4 h
theorem TH:a*(1+c)+1≤(a+1)*(1+c):=by rw[Nat.add_mul];omega
theorem TI:a*(1+c)+a=a*(1+(c+1)):=by rw[←Nat.add_assoc,Nat.mul_add a (1+c) 1,Nat.mul_one]
theorem p8.put{l:List aT}{a c a' E:Nat}(g:p8 l a c)(h:a*(1+c)≤a'*(1+E))(ha:a≤a'){i:Nat}(hi:i<l.length){t:aT}(ht:eW t (a'*(1+E)))(hr:t.rows.length≤a')(hn:t.nm=l[i].nm):p8 (l.set i t) a' E:=by
 refine⟨(g.g.mono h).put hi ht hn,fun x hx=>?_⟩;rcases mem_or_eq_of_mem_set hx with hx|hx
 ·exact Nat.le_trans (g.r x hx) ha
 rw[hx];exact hr
theorem Jq{i:Nat}(hi:i<l.length){t:aT}(hn:t.nm=l[i].nm):(l.set i t).map aT.nm=l.map aT.nm:=by
 exact VM
theorem If(g:p8 l a c)(O:a+c≤30){s:cN}(hs:zk s)(fj:¬s.kind=2)(qh:cJ s.table=0)(I:s.kind=1→s.av=dH)(h0:(dX l s).2.2=0) :
  ∃a' U,a'+U≤a+c+1∧p8 (dX l s).1 a' U∧(s.kind=1→(dX l s).1=l++[gA s]∧a'=a∧U=c)∧(¬s.kind=1→(dX l s).1.map aT.nm=l.map aT.nm):=by
 have hb:=Qu O;have iR:=yh (fun t:aT=>t.nm.toList==s.table.toList) l;rw[show dO (fun t:aT=>t.nm.toList==s.table.toList) l=bq l s.table from rfl] at iR;unfold dX at h0 ⊢;by_cases dI:s.kind=1
 ·rw[if_pos dI] at h0 ⊢;dsimp only at h0;unfold pI at h0 ⊢;by_cases h1:0≤bq l s.table
  ·rw[if_pos h1] at h0;cases h0
  rw[if_neg h1] at h0 ⊢;by_cases h2:l.length=4
  ·rw[if_pos h2] at h0;cases h0
  rw[if_neg h2] at h0 ⊢;have Z:=abR s qh (I dI);have hf:=g.g.eL;refine⟨a,c,by omega,⟨⟨by rw[length_append,length_singleton];omega,fun t ht=>?_,fun t ht=>?_,?_⟩,fun t ht=>?_⟩,fun _=>⟨rfl,rfl,rfl⟩,fun h=>absurd dI h⟩
  ·rcases mem_append.1 ht with ht|ht
   ·exact g.g.tb t ht
   rw[mem_singleton] at ht;rw[ht];exact Z.mono (Nat.zero_le _)
  ·rcases mem_append.1 ht with ht|ht
   ·exact g.g.sz t ht
   rw[mem_singleton] at ht;rw[ht];exact hs.fin.t
  ·refine pairwise_append.2 ⟨g.g.GL,pairwise_singleton _ _,fun x hx y hy=>?_⟩;rw[mem_singleton] at hy;subst hy;exact ae6 (show bq l s.table<0 by omega) x hx
  rcases mem_append.1 ht with ht|ht
  ·exact g.r t ht
  rw[mem_singleton] at ht;rw[ht];exact Nat.zero_le _
 rw[if_neg dI] at h0 ⊢;by_cases h1:bq l s.table<0
 ·rw[if_pos h1] at h0;cases h0
 rw[if_neg h1] at h0 ⊢;have E:(bq l s.table).toNat<l.length:=(by omega)
 have kE:l.getD (bq l s.table).toNat (gA s)=l[(bq l s.table).toNat]:=(by rw[getD_eq_getElem?_getD,getElem?_eq_getElem E];rfl)
 rw[kE] at h0 ⊢;have gt:=g.g.tb _ (getElem_mem E);have gr:=g.r _ (getElem_mem E);by_cases h3:s.kind=3
 ·rw[if_pos h3] at h0 ⊢;obtain⟨q1,q2⟩:=aab gt w4 hs.row h0;exact⟨a+1,c,by omega,g.put (Nat.le_trans (Nat.le_succ _) TH) (Nat.le_succ _) E (q1.mono TH) w4 (SS _ _),fun h=>absurd h dI,fun _=>Jq E (SS _ _)⟩
 rw[if_neg h3] at h0 ⊢;by_cases h4:s.kind=4
 ·rw[if_pos h4];exact⟨a,c,by omega,g,fun h=>absurd h dI,fun _=>rfl⟩
 rw[if_neg h4] at h0 ⊢;by_cases h5:s.kind=5
 ·rw[if_pos h5];obtain⟨q1,q2⟩:=aac gt s hs.W7 hs.W8 hb;exact⟨a,c+1,by omega,g.put (by rw[←TI];omega) (Nat.le_refl _) E (q1.mono (by rw[←TI];omega)) w4 (SV _ _),fun h=>absurd h dI,fun _=>Jq E (SV _ _)⟩
 rw[if_neg h5];obtain⟨q1,q2⟩:=XA gt s.ah;exact⟨a,c,by omega,g.put (Nat.le_refl _) (Nat.le_refl _) E q1 w4 (SU _ _),fun h=>absurd h dI,fun _=>Jq E (SU _ _)⟩

end Go.Proofs.YtbcmjoaggammcaaGreatDoor.Ba

namespace Go.Proofs.YtbcmjoaggammcaaGreatDoor.Pa
open List
open Go.Proofs.Tryz
open Go.RowKit V Pk Go.Proofs.YtbcmjoaggammcaaGreatDoor.Vl Go.Proofs.YtbcmjoaggammcaaGreatDoor.Nm Go.Proofs.YtbcmjoaggammcaaGreatDoor.Pc
section
variable {H:Type} {enc:TypeId×Value→H} {P:Program} {w:World} {base:Nat} {sp:Nat→Bool} {held:Bool}
theorem YP {fuel:Nat} {t:TypeId} {f0 f1 f2 f3 f4 f5 f6 f7:Field} {E I O U Z α5 α6 α7:Type} {g0:E→List D} {k0:E→Prop} {g1:I→List D} {k1:I→Prop} {g2:O→List D} {k2:O→Prop} {g3:U→List D} {k3:U→Prop} {g4:Z→List D} {k4:Z→Prop} {g5:α5→List D} {k5:α5→Prop} {g6:α6→List D} {k6:α6→Prop} {g7:α7→List D} {k7:α7→Prop} {n0 n1 n2 n3 n4 n5 n6 n7:Nat}
  (ht:P.underlying t=some (.struct #[f0,f1,f2,f3,f4,f5,f6,f7])) (hc:P.cellsOf t=n0+n1+n2+n3+n4+n5+n6+n7) (o0:f0.offset=0) (c0:P.cellsOf f0.type=n0) (o1:f1.offset=n0) (c1:P.cellsOf f1.type=n1) (o2:f2.offset=n0+n1) (c2:P.cellsOf f2.type=n2) (o3:f3.offset=n0+n1+n2) (c3:P.cellsOf f3.type=n3) (o4:f4.offset=n0+n1+n2+n3) (c4:P.cellsOf f4.type=n4) (o5:f5.offset=n0+n1+n2+n3+n4) (c5:P.cellsOf f5.type=n5) (o6:f6.offset=n0+n1+n2+n3+n4+n5) (c6:P.cellsOf f6.type=n6) (o7:f7.offset=n0+n1+n2+n3+n4+n5+n6) (c7:P.cellsOf f7.type=n7)
  (r0:∀n,n+1=fuel→lR n enc P w base sp held f0.type g0 k0) (r1:∀n,n+1=fuel→lR n enc P w base sp held f1.type g1 k1) (r2:∀n,n+1=fuel→lR n enc P w base sp held f2.type g2 k2) (r3:∀n,n+1=fuel→lR n enc P w base sp held f3.type g3 k3) (r4:∀n,n+1=fuel→lR n enc P w base sp held f4.type g4 k4) (r5:∀n,n+1=fuel→lR n enc P w base sp held f5.type g5 k5) (r6:∀n,n+1=fuel→lR n enc P w base sp held f6.type g6 k6) (r7:∀n,n+1=fuel→lR n enc P w base sp held f7.type g7 k7) :
  lR fuel enc P w base sp held t (fun a:E × I × O × U × Z × α5 × α6 × α7=>(g0 (a.1)++(g1 (a.2.1)++(g2 (a.2.2.1)++(g3 (a.2.2.2.1)++(g4 (a.2.2.2.2.1)++(g5 (a.2.2.2.2.2.1)++(g6 (a.2.2.2.2.2.2.1)++g7 (a.2.2.2.2.2.2.2))))))))) (fun a=>k0 (a.1)∧k1 (a.2.1)∧k2 (a.2.2.1)∧k3 (a.2.2.2.1)∧k4 (a.2.2.2.2.1)∧k5 (a.2.2.2.2.2.1)∧k6 (a.2.2.2.2.2.2.1)∧k7 (a.2.2.2.2.2.2.2)):=fun cs x h=>by
 obtain⟨xs,n,hn,_,hl,fO,hf⟩:=DataW.trod_struct ht h;have e0:=hf 0 f0 rfl;have e1:=hf 1 f1 rfl;have e2:=hf 2 f2 rfl;have e3:=hf 3 f3 rfl;have e4:=hf 4 f4 rfl;have e5:=hf 5 f5 rfl;have e6:=hf 6 f6 rfl;have e7:=hf 7 f7 rfl;rw[o0,c0,drop_zero] at e0;rw[o1,c1] at e1;rw[o2,c2] at e2;rw[o3,c3] at e3;rw[o4,c4] at e4;rw[o5,c5] at e5;rw[o6,c6] at e6;rw[o7,c7] at e7;have hx8:xs.length=8:=fO;rw[getElem?_eq_getElem w4] at e0 e1 e2 e3 e4 e5 e6 e7;obtain⟨a0,p0,q0⟩:=r0 n hn.symm _ _ e0;obtain⟨a1,p1,q1⟩:=r1 n hn.symm _ _ e1;obtain⟨a2,p2,q2⟩:=r2 n hn.symm _ _ e2;obtain⟨a3,p3,q3⟩:=r3 n hn.symm _ _ e3;obtain⟨a4,p4,q4⟩:=r4 n hn.symm _ _ e4;obtain⟨a5,p5,q5⟩:=r5 n hn.symm _ _ e5;obtain⟨a6,p6,q6⟩:=r6 n hn.symm _ _ e6;obtain⟨a7,p7,q7⟩:=r7 n hn.symm _ _ e7;refine⟨(a0,a1,a2,a3,a4,a5,a6,a7),?_,q0,q1,q2,q3,q4,q5,q6,q7⟩;have di:cs=(cs.take n0++((cs.drop (n0)).take n1++((cs.drop (n0+n1)).take n2++((cs.drop (n0+n1+n2)).take n3++((cs.drop (n0+n1+n2+n3)).take n4++((cs.drop (n0+n1+n2+n3+n4)).take n5++((cs.drop (n0+n1+n2+n3+n4+n5)).take n6++((cs.drop (n0+n1+n2+n3+n4+n5+n6)).take n7)))))))):=by
  rw[take_of_length_le (l:=drop (n0+n1+n2+n3+n4+n5+n6) cs) (by rw[length_drop];omega)];have d2:cs.drop (n0+n1)=(cs.drop (n0)).drop n1:=(by rw[drop_drop])
  have d3:cs.drop (n0+n1+n2)=(cs.drop (n0+n1)).drop n2:=(by rw[drop_drop])
  have d4:cs.drop (n0+n1+n2+n3)=(cs.drop (n0+n1+n2)).drop n3:=(by rw[drop_drop])
  have d5:cs.drop (n0+n1+n2+n3+n4)=(cs.drop (n0+n1+n2+n3)).drop n4:=(by rw[drop_drop])
  have d6:cs.drop (n0+n1+n2+n3+n4+n5)=(cs.drop (n0+n1+n2+n3+n4)).drop n5:=(by rw[drop_drop])
  have d7:cs.drop (n0+n1+n2+n3+n4+n5+n6)=(cs.drop (n0+n1+n2+n3+n4+n5)).drop n6:=(by rw[drop_drop])
  rw[d7,take_append_drop,d6,take_append_drop,d5,take_append_drop,d4,take_append_drop,d3,take_append_drop,d2,take_append_drop,take_append_drop]
 rw[di];exact(p0.append (p1.append (p2.append (p3.append (p4.append (p5.append (p6.append p7)))))))
end


structure Ph where
 k:Int
 t:Int
 a:Int
 b:Int
 row:List Vl
 bH:Tw
 wh:Tw
 bare:Bool
def Ph.cs(p:Ph):List D:=[.v (.int .i64 p.k)]++([.v (.int .i64 p.t)]++([.v (.int .i64 p.a)]++([.v (.int .i64 p.b)]++([.list 3 (p.row.flatMap cV) p.row.length]++(p.bH.cs++(p.wh.cs++[.v (.bool p.bare)]))))))
structure Ph.Ok (p:Ph):Prop where
 k:-9223372036854775808≤p.k∧p.k≤9223372036854775807
 t:-9223372036854775808≤p.t∧p.t≤9223372036854775807
 a:-9223372036854775808≤p.a∧p.a≤9223372036854775807
 b:-9223372036854775808≤p.b∧p.b≤9223372036854775807
 row:∀v∈p.row,v.s.size≤maxLen
 bH:p.bH.Ok
 wh:p.wh.Ok
theorem adD{H:Type}{enc:TypeId×Value→H}{w:World}{base:Nat}{sp:Nat→Bool}{held:Bool}:oE enc Tryz.prog w base sp held 137 cV (fun v:Vl=>v.s.size≤maxLen) :=
 (X7 (n0:=1) (n1:=1) (n2:=1) underlying137 ay rfl rfl rfl ay ay ay (uy underlying3) (uy underlying3) (N0 underlying9)).map (fun a=>(⟨a.1,a.2.1,a.2.2⟩:Vl)) (fun _=>rfl) (fun _ h=>h.2.2)
theorem YQ{H:Type}{enc:TypeId×Value→H}{w:World}{base:Nat}{sp:Nat→Bool}{held:Bool}(n:Nat):lR n enc Tryz.prog w base sp held 78 Ph.cs Ph.Ok:=fun cs x h=>by
 obtain⟨⟨a0,a1,a2,a3,a4,a5,a6,a7⟩,h1,q0,q1,q2,E,I,O,U,_⟩:=YP (fuel:=n) (n0:=1) (n1:=1) (n2:=1) (n3:=1) (n4:=1) (n5:=4) (n6:=4) (n7:=1) underlying78 ay rfl ay rfl ay rfl ay rfl ay rfl ay rfl ay rfl ay rfl ay
  (fun q _=>(uy underlying3).at q) (fun q _=>(uy underlying3).at q) (fun q _=>(uy underlying3).at q) (fun q _=>(uy underlying3).at q) (fun q _=>N4 (sz:=3) underlying73 ay w7 (fun z _=>adD.at z) eS) (fun q _=>PJ q) (fun q _=>PJ q) (fun q _=>(ab1 underlying4).at q) cs x h
 exact⟨⟨a0,a1,a2,a3,a4,a5,a6,a7⟩,h1,⟨q0,q1,q2,E,I.1,O,U⟩⟩
end Go.Proofs.YtbcmjoaggammcaaGreatDoor.Pa

namespace Go.Proofs.YtbcmjoaggammcaaGreatDoor.Ba
open List
open Go.Proofs.Tryz
open Go.RowKit V Pk Tr Vl Go.Proofs.YtbcmjoaggammcaaGreatDoor.Nm Pc Cd Ex Tw
open Pa (cN cg nl iW oo ir kz mb jr iz eK Ph)
variable {G:List (Nat×List Value)} {m:Int}
variable {l:List aT} {x:ByteArray} {p:List Vl×Int}
theorem VC.F1{P:Program}{f:FuncId}{args args':List D}{S:List ag}{post:D→List ag→Prop}(h:VC P G f args S post)(k:pC args' args):VC P G f args' S post:=by
 obtain⟨h1,h2⟩:=k.spec;exact h.args h1.symm fun w L i q1 q2 v hr=>h2 i q2 q1 _ _ _ hr
theorem R3(hm:(3,marksC)∈G)(hw:(2,wordsC)∈G)(ht:(0,typesC)∈G)(hG:(1,[Value.int .i64 m])∈G)(p:Ph)(h:p.Ok):VC Tryz.prog G 25 [.agg p.cs] [] (fun r S'=>∃s,r = .agg (cg s)∧S'=[]∧oo s∧s.kind=1+dV p.k 6):=by
 obtain⟨k,t,a,b,row,⟨x1,O,U,E⟩,⟨y1,y2,y3,I⟩,bare⟩:=p;exact Pa.XB k t a b row x1 O U E y1 y2 y3 I bare h.k.1 h.k.2 h.t.1 h.t.2 h.a.1 h.a.2 h.b.1 h.b.2 h.row h.bH h.wh
theorem Fe(hm:(3,marksC)∈G)(hw:(2,wordsC)∈G)(ht:(0,typesC)∈G)(hG:(1,[Value.int .i64 m])∈G){a c:Nat}(g:p8 l a c)(E:a+c≤30){s:cN}(hs:zk s)(fj:¬s.kind=2)(qh:s.kind≤6→cJ s.table=0)(zK:s.kind≤6)(I:s.kind=1→s.av=dH):VP Tryz.prog G 12 [.agg [.list 5 ((l).flatMap dG) (l).length],.agg (cg s)] (Ab (kf l s)):=by
 refine ae3 hm hw ht hG l (Qu E) g.g s hs.fin fj hs.row hs.wnm hs.wok hs.W7 hs.W8 fun h0=>?_;obtain⟨a',c',_,g',_⟩:=If g E hs fj (qh zK) I h0;exact⟨Nat.le_trans g'.g.eL w7,fun t ht=>(g'.g.tb t ht).small⟩
theorem RY{s:cN}(h:(kf l s).2.2=0):(dX l s).2.2=0∧(kf l s).1=(dX l s).1:=by
 unfold kf at h ⊢;by_cases h1:iW s≠0
 ·rw[if_pos h1] at h;exact absurd h h1
 rw[if_neg h1] at h ⊢;by_cases h2:7≤s.kind
 ·rw[if_pos h2] at h;cases h
 rw[if_neg h2] at h ⊢;by_cases h3:(dX l s).2.2≠0
 ·rw[if_pos h3] at h;exact absurd h h3
 rw[if_neg h3];exact⟨Classical.not_not.1 h3,rfl⟩
def jJ(x:ByteArray):cN:={iz with kind:=1,table:=x,av:=dH}
theorem abS:∀x∈eK,iW (jJ x)=0:=by decide +kernel
theorem RZ(hx:x∈eK):zk (jJ x):=oo.st (Pa.rV.wA (Pa.NR (Pa.Fb x hx)))
def UW:List aT:=eK.map fun x=>gA (jJ x)
theorem SX:∀i (h:i<eK.length),kf ((eK.take i).map fun x=>gA (jJ x)) (jJ eK[i])=((eK.take (i+1)).map (fun x=>gA (jJ x)),(([],0),0)):=by
 intro i h;have hx:eK[i]∈eK:=getElem_mem h;unfold kf;rw[if_neg (by rw[abS _ hx];decide),if_neg (by show ¬(7:Int)≤1;decide)];have h1:dX ((eK.take i).map fun x=>gA (jJ x)) (jJ eK[i])=((eK.take (i+1)).map (fun x=>gA (jJ x)),(([],0),0)):=by
  have h2:i=0∨i=1:=(by have:eK.length=2:=rfl;omega)
  rcases h2 with rfl|rfl
  ·exact(show dX ((eK.take 0).map fun x=>gA (jJ x)) (jJ (eK[0]'w7))=((eK.take 1).map (fun x=>gA (jJ x)),(([],0),0)) by kernel_rfl)
  exact(show dX ((eK.take 1).map fun x=>gA (jJ x)) (jJ (eK[1]'w7))=((eK.take 2).map (fun x=>gA (jJ x)),(([],0),0)) by kernel_rfl)
 rw[h1];rfl
theorem yn(p:Ph):p.cs.length=14:=by
 obtain⟨k,t,a,b,row,⟨x1,O,U,E⟩,⟨y1,y2,y3,I⟩,bare⟩:=p;rfl
theorem aah:p8 [] 0 0:=⟨⟨by decide,(fun t h=>by cases h),(fun t h=>by cases h),Pairwise.nil⟩,(fun t h=>by cases h)⟩
theorem R4:(Nm.Tw.mk 0 0 ⟨#[]⟩ []).Ok:=by constructor<;>first|decide|(simp;done)|trivial
theorem adE{s:cN}(h:oo s):cJ s.table=0:=by
 have hc:=h.2.2.2.2;have h6:=h.2.2.1;unfold ir at hc;split at hc
 ·rename_i h1;exact absurd hc h1.2
 rename_i h1;exact Classical.not_not.1 fun e=>h1 ⟨by omega,e⟩
theorem UX:∀i,i≤2→p8 ((eK.take i).map fun x=>gA (jJ x)) 0 0:=by
 intro i;induction i with
 | zero=>intro _;exact aah
 | succ i ih =>
  intro hi;have aa:i<eK.length:=(by have:eK.length=2:=rfl;omega)
  have hr:=SX i aa;have h0:(kf ((eK.take i).map fun x=>gA (jJ x)) (jJ eK[i])).2.2=0:=(by rw[hr])
  obtain⟨h1,h2⟩:=RY h0;obtain⟨a',c',_,g',h4,_⟩:=If (ih w4) w7 (RZ (getElem_mem aa)) (show ¬(1:Int)=2 by decide) (Pa.Fb _ (getElem_mem aa)) (fun _=>rfl) h1;obtain⟨_,rfl,rfl⟩:=h4 rfl;rw[←h2,hr] at g';exact g'
theorem adF(hm:(3,marksC)∈G)(hw:(2,wordsC)∈G)(ht:(0,typesC)∈G)(hG:(1,[Value.int .i64 m])∈G)(ps:List Ph)(gG:∀p∈ps,p.Ok)(fC:ps.length≤maxLen):VC Tryz.prog G 9 [.list 14 (ps.flatMap Ph.cs) ps.length] [] (fun r S=>∃l a c,r = .agg [.list 5 ((l).flatMap dG) (l).length]∧S=[]∧p8 l a c∧a+c≤30∧l.map aT.nm=eK):=by
 refine VC.body func9 rfl ntmps9 aO fun X0 w0 aX=>?_;have dr:maxLen=9223372036854775807:=rfl;have ow:eK.length=2:=rfl;skip;refine bX ?_;refine OD.alloc (ds:=[_]) an rfl rfl zeroValue25 rfl (fun b2=>?_);refine aj 88 [0,2] ?_;refine bX ?_;refine OD.alloc (ds:=[_]) an rfl rfl zeroValue25 rfl (fun b3=>?_);refine OD.cells (k:=0) (cs':=[.list 5 [] 0]) rfl ⟨ff,trivial⟩ rfl ?_;refine aj 88 [0,2,3] ?_;refine ae [0,2,3,4] ?_;refine eI [0,2,3] (fun aV _ (i:Nat) aK=>(i≤2)∧aK=(⟨88,(4,.v (.int .i64 (i:Nat)))::aV,[⟨b3,25,1,[.list 5 ((((eK.take i).map fun x=>gA (jJ x))).flatMap dG) (((eK.take i).map fun x=>gA (jJ x))).length]⟩,⟨b2,25,1,[.v (.slice none 0 0)]⟩]⟩:St)) (fun (i:Nat)=>2-i) 0 ⟨(Nat.zero_le _),rfl⟩ ?_;rintro i _ ⟨hi,rfl⟩;refine ae [0,2,3,4,14] ?_;refine aq (fun az aG=>?_) (fun az aG=>?_)
 ·have aa:i<eK.length:=(by omega)
  have O:=VC.F1 (Fe hm hw ht hG (l:=((eK.take i).map fun x=>gA (jJ x))) (a:=0) (c:=0) (s:=jJ (eK[i]'aa)) (UX i w4) w7 (RZ (getElem_mem aa)) (show ¬(1:Int)=2 by decide) (fun _=>Pa.Fb _ (getElem_mem aa)) (show(1:Int)≤6 by decide) (fun _=>rfl)) (args':=[.agg [.list 5 ((((eK.take i).map fun x=>gA (jJ x))).flatMap dG) (((eK.take i).map fun x=>gA (jJ x))).length],.agg [.v (.int .i64 1),.v (.string (eK[i]'aa)),.list 2 (dH.flatMap cC) dH.length,.v (.slice none 0 0),.v (.slice none 0 0),.v (.bool false),.v (.slice none 0 0),.v (.string ⟨#[]⟩),.v (.bool false),.v (.int .i64 (-1)),.v (.string ⟨#[]⟩),.v (.slice none 0 0)]]) ⟨dM,AS ⟨dM,dM,dM,ff,ff,dM,ff,dM,dM,dM,dM,ff,trivial⟩,trivial⟩;rw[SX i aa] at O;unfold Ab at O;refine CD.skip ?_;refine CD.seq ?_;refine CD.block ?_;refine CD.seq ?_;refine dv_ 14 13 12 [0,2,3,4,5,6,26,27,28] ?_;refine mW 1 ?_;refine L8 (g:=cS) (eK) ?_;refine cU (Om) ?_;refine cU (O) ?_;refine mW 4 ?_;refine qV ?_;refine qV ?_;refine jP ?_;refine⟨rfl,rfl,fun b6 b5=>?_⟩;refine aN 1 [_] sizeOf25 ?_;refine aN 0 [_,_] sizeOf35 ?_;refine aj 88 [0,2,3,4,5,7] ?_;refine ae [0,2,3,4,5,30] ?_;refine aq (fun aH aU=>?_) (fun aH aU=>?_)
  ·refine dw 1 ?_;refine aN 2 [_] sizeOf25 ?_;refine aj 88 [0,2,3,4] ?_;refine cj [0,2,3,4] ?_;refine⟨(i+1),_,cz,aM,w4,rfl⟩
  exact absurd aH (by simp at aH)
 have lG:i=2:=(by omega)
 subst lG;have htw:((eK.take 2).map fun x=>gA (jJ x))=UW:=rfl;refine ae [0,2,3,8] ?_;refine eI [0,2,3] (fun aV _ (U:Nat×List aT×Nat×Nat) aK=>match U with|(k,l,a,c)=>(k≤30)∧(k≤ps.length)∧(a+c≤k)∧(p8 l a c)∧((l).map aT.nm=eK)∧aK=(⟨88,(8,.v (.int .i64 (k:Nat)))::aV,[⟨b3,25,1,[.list 5 ((l).flatMap dG) (l).length]⟩,⟨b2,25,1,[.v (.slice none 0 0)]⟩]⟩:St)) (fun (U:Nat×List aT×Nat×Nat)=>match U with|(k,l,a,c)=>30-k) (0,UW,0,0) ⟨(Nat.zero_le _),(Nat.zero_le _),(Nat.le_refl _),(UX 2 (Nat.le_refl _)),rfl,rfl⟩ ?_;rintro⟨k,l,a,c⟩ _ ⟨lD,hkp,hac,gn,I,rfl⟩;refine aC 5 ?_;refine bS 36 (fun ajr agt=>?_) (fun ajr agt=>?_)
 ·refine aZ [0,2,3,8,39] ?_;refine aq (fun aY bz=>?_) (fun aY bz=>?_)
  ·have aa:k<ps.length:=(by first|omega|(simp at *;omega))
   have aon:k<30:=(by first|omega|(simp at *;omega))
   have qU:=gG (ps[k]'aa) (getElem_mem aa);refine aC 3 ?_;refine bJ (cH (mk:=Op.load 78) rfl ot (jM (g:=Ph.cs) (ls:=ps) (i:=k) yn isAgg78 sizeOf78 aa)) ?_;refine OD.call an rfl rfl rfl call25 (R3 hm hw ht hG (ps[k]'aa) qU) ⟨ot,trivial⟩ (eH _) ?_;rintro _ _ ⟨s,rfl,rfl,Z,GD⟩;refine OD.alloc (ds:=[_,_,_,_,_,_,_,_,_,_,_,_]) an rfl rfl zeroValue42 rfl (fun b9=>?_);refine aN 0 [_,_,_,_,_,_,_,_,_,_,_,_] sizeOf42 ?_;refine aj 88 [0,2,3,8,9] ?_;refine jz [0,2,3,8,9] (fun aV _ aK=>∃(s:cN),(oo s)∧(¬s.kind=1∧¬s.kind=2)∧aK=(⟨88,aV,[⟨b9,42,12,cg s⟩,⟨b3,25,1,[.list 5 ((l).flatMap dG) (l).length]⟩,⟨b2,25,1,[.v (.slice none 0 0)]⟩]⟩:St)) ?_ ?_
   ·refine aC 4 ?_;refine bS 50 (fun UY agu=>?_) (fun UY agu=>?_)
    ·refine aZ [0,2,3,8,9,54] ?_;refine ez ?_;exact U6
    refine aZ [0,2,3,8,9,54] ?_;refine aq (fun bF bY=>?_) (fun bF bY=>?_)
    ·exact U6
    have E:¬s.kind=1∧¬s.kind=2:=(by first|exact⟨by simpa using UY,by simpa using bF⟩|(simp at *;omega))
    refine CD.skip ?_;refine⟨_,aM,s,Z,E,rfl⟩
   rintro _ ⟨s,Z,E,rfl⟩;refine CD.seq ?_;have Aa:=oo.st Z;have qh:=adE Z;have O:=Fe hm hw ht hG gn w4 Aa E.2 (fun _=>qh) Z.2.2.1 (fun h=>absurd h E.1);unfold Ab at O;refine dw 2 ?_;refine dJ call12 (O) ?_;refine aD 4 ?_;refine OD.alloc (ds:=[_]) an rfl rfl zeroValue25 rfl (fun kD=>?_);refine OD.alloc (ds:=[_,_]) an rfl rfl zeroValue35 rfl (fun kg=>?_);refine aN 1 [_] sizeOf25 ?_;refine aN 0 [_,_] sizeOf35 ?_;refine aj 88 [0,2,3,8,10,12] ?_;refine ae [0,2,3,8,10,85] ?_;refine aq (fun cx c8=>?_) (fun cx c8=>?_)
   ·have h0:(kf l s).2.2=0:=(by simpa using cx)
    obtain⟨h1,h2⟩:=RY h0;obtain⟨a',c',aoo,gn1,_,ga⟩:=If gn w4 Aa E.2 qh (fun h=>absurd h E.1) h1;have gn2:p8 (kf l s).1 a' c':=(by rw[h2];exact gn1)
    have agv:(kf l s).1.map aT.nm=eK:=(by rw[h2,ga E.1];exact I)
    refine dw 1 ?_;refine aN 3 [_] sizeOf25 ?_;refine aj 88 [0,2,3,8] ?_;refine cj [0,2,3,8] ?_;refine⟨((k+1),(kf l s).1,a',c'),_,cz,aM,w4,w4,w4,gn2,agv,rfl⟩
   refine cj [0,2,3,8] ?_;refine⟨((k+1),l,a,c),_,cz,aM,w4,w4,w4,gn,I,rfl⟩
  refine aC 1 ?_;refine aN 1 [_] sizeOf25 ?_;refine aj 88 [2] ?_;refine aJ [] ?_;exact⟨l,a,c,rfl,rfl,gn,by omega,I⟩
 refine aZ [0,2,3,8,39] ?_;refine fF ?_;refine aC 1 ?_;refine aN 1 [_] sizeOf25 ?_;refine aj 88 [2] ?_;refine aJ [] ?_;exact⟨l,a,c,rfl,rfl,gn,by omega,I⟩

theorem abT(a:Int)(a1:-9223372036854775808≤a)(I:a≤9223372036854775807)(b:Int)(b1:-9223372036854775808≤b)(b2:b≤9223372036854775807)(s:ByteArray)(hs:s.size≤maxLen)(c:Int)(O:-9223372036854775808≤c)(U:c≤9223372036854775807):VC Tryz.prog G 10 [.v (.int .i64 a),.v (.int .i64 b),.v (.string s),.v (.int .i64 c)] [] (fun r S=>∃b0,r = .v (.slice (some ⟨b0,0,none⟩) 4 4)∧S=[⟨b0,30,12,(Ur a b s c).flatMap cV⟩]):=by
 refine VC.body func10 rfl ntmps10 aO fun X0 w0 aX=>?_;refine ae [0,1,2,3] ?_;refine aC 1 ?_;refine dJ call11 (jw G a 12 a1 I w7) ?_;refine aD 2 ?_;refine dJ call11 (jw G b 9 b1 b2 w7) ?_;refine aD 2 ?_;refine dJ call22 (AT s 2 hs) ?_;refine dJ call23 (Nm.pP (mq s 2) (by rw[DN];exact Nat.le_trans (Nat.min_le_left _ _) hs)) ?_;refine aD 2 ?_;refine dJ call26 (Pc.qu c O U) ?_;refine ei (bZ 0 [_,_,_,_]) [.int .i64 0,.int .i64 0,.string ⟨#[]⟩,.int .i64 0,.int .i64 0,.string ⟨#[]⟩,.int .i64 0,.int .i64 0,.string ⟨#[]⟩,.int .i64 0,.int .i64 0,.string ⟨#[]⟩] [_,_,_,_,_,_,_,_,_,_,_,_] zeroValue30 runUnderlying27 sizeOf30 (fun E=>?_);refine aj 22 [8] ?_;refine aJ [_] ?_;exact⟨E,rfl,rfl⟩
def mF(x:ByteArray)(r:List Vl):cN:={iz with kind:=3,table:=x,row:=r}
theorem FL{r:List Vl}:¬(mF x r).kind=1:=(by decide:¬(3:Int)=1)
theorem UZ{r:List Vl}:¬7≤(mF x r).kind:=(by decide:¬(7:Int)≤3)
theorem ajs{r:List Vl}:(mF x r).kind=3:=rfl
def r0:List Vl:=(Ur 50 1 ⟨#[120]⟩ 0).set 0 ⟨2,50,⟨#[]⟩⟩
def tv:List (List Vl×Int):=[(r0.take 3,1),(r0.set 0 bE,4),(r0.set 1 ⟨3,0,⟨#[]⟩⟩,4),(r0.set 2 ⟨1,0,⟨#[]⟩⟩,4)]
theorem SY:∀p∈tv,iW (mF ⟨#[116]⟩ p.1)=0∧iW (mF ⟨#[110,111,110,101]⟩ p.1)=0∧Pc.dW dH p.1=p.2∧p.2≠0:=by decide +kernel
theorem adG(h:l.map aT.nm=eK):bq l ⟨#[110,111,110,101]⟩<0:=by
 unfold bq;rw[ud (k:=l.length) w4 (fun x hx=>?_)]
 ·decide
 rw[take_of_length_le (Nat.le_refl _)] at hx;have:x.nm∈eK:=h ▸ mem_map_of_mem hx;have key:∀y∈eK,(y.toList==(⟨#[110,111,110,101]⟩:ByteArray).toList)=false:=(by decide +kernel)
 exact key _ this
theorem ajt(h:l.map aT.nm=eK):bq l ⟨#[116]⟩=0:=by
 match l,h with
 | a::r,h =>
  rw[map_cons] at h;have ha:a.nm=⟨#[116]⟩:=(by injection h)
  unfold bq;rw[vB (ls:=a::r) (k:=0) bw (fun x hx=>by cases hx) (by show(a.nm.toList==_)=true;rw[ha];exact BEq.rfl)];rfl
theorem adH{a c:Nat}(g:p8 l a c)(h:l.map aT.nm=eK)(hp:p∈tv):kf l (mF ⟨#[116]⟩ p.1)=([],(([],0),p.2))∧kf l (mF ⟨#[110,111,110,101]⟩ p.1)=([],(([],0),8)):=by
 obtain⟨h1,h2,h3,h4⟩:=SY p hp;have hl:0<l.length:=(by have:=congrArg length h;rw[length_map] at this;rw[this];decide)
 constructor
 ·have hr:dX l (mF ⟨#[116]⟩ p.1)=(l.set 0 l[0],(([],1),p.2)):=by
   unfold dX;rw[if_neg FL,show bq l (mF ⟨#[116]⟩ p.1).table=0 from ajt h,if_neg w7,if_pos ajs];have kE:l.getD (0:Int).toNat (gA (mF ⟨#[116]⟩ p.1))=l[0]:=(by show l.getD 0 _=_;rw[getD_eq_getElem?_getD,getElem?_eq_getElem hl];rfl)
   rw[kE];have hi:fS l[0] (mF ⟨#[116]⟩ p.1).row=(l[0],p.2):=by
    unfold fS;have:Pc.dW l[0].av p.1=p.2:=(by rw[(g.g.tb _ (getElem_mem hl)).av];exact h3)
    rw[show(mF ⟨#[116]⟩ p.1).row=p.1 from rfl,this,if_pos h4]
   rw[hi];rfl
  unfold kf;rw[if_neg (fun e=>e h1),if_neg UZ,hr,if_pos h4]
 have hr:dX l (mF ⟨#[110,111,110,101]⟩ p.1)=(l,(([],0),8)):=by
  unfold dX;rw[if_neg FL,if_pos (show bq l (mF ⟨#[110,111,110,101]⟩ p.1).table<0 from adG h)]
 unfold kf;rw[if_neg (fun e=>e h2),if_neg UZ,hr,if_pos (show(8:Int)≠0 by decide)]
theorem adI:∀p∈tv,p.1.length≤6∧∀v∈p.1,-9223372036854775808≤v.n∧v.n≤9223372036854775807:=by decide +kernel
theorem SZ(hx:x.size≤maxLen)(hp:p∈tv)(hc:iW (mF x p.1)=0):zk (mF x p.1):=by
 obtain⟨h1,h2⟩:=adI p hp;exact Fc ⟨⟨Nat.zero_le _,h1,Nat.zero_le _,Nat.zero_le _,Nat.zero_le _⟩,hx,(fun _ h=>by cases h),(fun _ h=>by cases h),Nat.zero_le _,Nat.zero_le _,h2,(fun _ h=>by cases h),(fun _ h=>by cases h)⟩ (by show(1:Int)≤3;decide) (by show(3:Int)≤6;decide) (Pa.acz hc).2.2.1
theorem XC(hm:(3,marksC)∈G)(hw:(2,wordsC)∈G)(ht:(0,typesC)∈G)(hG:(1,[Value.int .i64 m])∈G)(ps:List Ph)(gG:∀p∈ps,p.Ok)(fC:ps.length≤maxLen)(which:Int)(w1:-9223372036854775808≤which)(w2:which≤9223372036854775807):VP Tryz.prog G 3 [.list 14 (ps.flatMap Ph.cs) ps.length,.v (.int .i64 which)] (.v (.bool true)):=by
 refine VC.body func3 rfl ntmps3 aO fun X0 w0 aX=>?_;have dr:maxLen=9223372036854775807:=rfl;refine ae [0,1] ?_;refine aC 1 ?_;refine OD.call an rfl rfl rfl call9 (adF hm hw ht hG ps gG fC) ⟨ot,trivial⟩ (eH _) ?_;rintro _ _ ⟨l,a,c,rfl,rfl,gn,Z,aju⟩;refine OD.alloc (ds:=[_]) an rfl rfl zeroValue25 rfl (fun b5=>?_);refine aN 0 [_] sizeOf25 ?_;refine aj 68 [1,5] ?_;refine bX ?_;refine OD.call an rfl rfl rfl call10 (abT 50 w7 w7 1 w7 w7 ⟨#[120]⟩ w7 0 w7 w7) ⟨bC,bC,bC,bC,trivial⟩ (eH _) ?_;rintro _ _ ⟨br,rfl,rfl⟩;refine OD.perm (Perm.refl _) ?_;refine aD 1 ?_;first|(refine OD.wk (Wk.shrink (k:=0) (cs':=(r0.take 3).flatMap cV) rfl ⟨_,rfl⟩) ?_;refine OD.gd (t:=6) (Sq:=[⟨br,30,4*3,(r0.take 3).flatMap cV⟩]) lk (bD (g:=cV) (sz:=3) (ls:=(r0.take 3)) (cap:=4) w7 w7) (cl eS _) (Perm.refl _) ?_)|skip
 refine aj 68 [1,5,6] ?_;refine aC 1 ?_;refine bJ (nZ (mk:=Op.indexAddr 27) rfl ot bC (by first|exact oR runUnderlying27 sizeOf30 (j:=0) rfl w7|exact oV runUnderlying27 sizeOf30 (j:=0) rfl w7)) ?_;refine aD 1 ?_;refine OD.storeAt (k:=0) (cs':=r0.flatMap cV) an rfl rfl ot rfl rfl bC rfl rfl sizeOf3 rfl aO (by rfl) ?_;refine aj 68 [1,5,6] ?_;refine ae [1,5,6,7] ?_;refine jz [5] (fun aV _ aK=>∃(p:List Vl×Int),(p∈tv)∧aK=(⟨68,(6,.list 3 (p.1.flatMap cV) p.1.length)::(7,.v (.int .i64 p.2))::aV,[⟨b5,25,1,[.list 5 ((l).flatMap dG) (l).length]⟩]⟩:St)) ?_ ?_
 ·refine cL [5,6,7,21] (jw G which 4 w1 w2 w7) ?_;refine ae [5,6,7,21,25] ?_;refine aq (fun az aG=>?_) (fun az aG=>?_)
  ·refine aC 1 ?_;refine bJ (Af (n:=4) (k:=3) (cs:=r0.flatMap cV) rfl ot rfl ⟨_,_,bC,by decide⟩ runUnderlying27 sizeOf30 w7 (bD (e:=30) (sz:=3) (b:=br) (g:=cV) (ls:=r0) (cap:=4) w7 w7)) ?_;refine aD 1 ?_;first|(refine OD.wk (Wk.shrink (k:=0) (cs':=(r0.take 3).flatMap cV) rfl ⟨_,rfl⟩) ?_;refine OD.gd (t:=6) (Sq:=[⟨br,30,4*3,(r0.take 3).flatMap cV⟩]) lk (bD (g:=cV) (sz:=3) (ls:=(r0.take 3)) (cap:=4) w7 w7) (cl eS _) (Perm.refl _) ?_)|skip
   refine aj 68 [5,6] ?_;refine cj [5,6,7] ?_;refine⟨_,aM,((r0.take 3),1),(by unfold tv;simp),rfl⟩
  refine ae [5,6,7,21,29] ?_;refine aq (fun aH aU=>?_) (fun aH aU=>?_)
  ·refine dw 2 ?_;refine bJ (nZ (mk:=Op.indexAddr 27) rfl ot bC (by first|exact oR runUnderlying27 sizeOf30 (j:=0) rfl w7|exact oV runUnderlying27 sizeOf30 (j:=0) rfl w7)) ?_;refine OD.storeAt (k:=0) (cs':=(r0.set 0 bE).flatMap cV) an rfl rfl ot rfl rfl ot rfl rfl sizeOf30 rfl aO (by rfl) ?_;refine OD.gd (t:=6) (Sq:=[⟨br,30,4*3,(r0.set 0 bE).flatMap cV⟩]) lk (bD (g:=cV) (sz:=3) (ls:=(r0.set 0 bE)) (cap:=4) w7 w7) (cl eS _) (Perm.refl _) ?_;refine aj 68 [5,6,7] ?_;refine⟨_,aM,((r0.set 0 bE),4),(by unfold tv;simp),rfl⟩
  refine ae [5,6,7,34] ?_;refine aq (fun aY bz=>?_) (fun aY bz=>?_)
  ·refine dw 2 ?_;refine bJ (nZ (mk:=Op.indexAddr 27) rfl ot bC (by first|exact oR runUnderlying27 sizeOf30 (j:=1) rfl w7|exact oV runUnderlying27 sizeOf30 (j:=1) rfl w7)) ?_;refine OD.storeAt (k:=0) (cs':=(r0.set 1 ⟨3,0,⟨#[]⟩⟩).flatMap cV) an rfl rfl ot rfl rfl ot rfl rfl sizeOf30 rfl aO (by rfl) ?_;refine OD.gd (t:=6) (Sq:=[⟨br,30,4*3,(r0.set 1 ⟨3,0,⟨#[]⟩⟩).flatMap cV⟩]) lk (bD (g:=cV) (sz:=3) (ls:=(r0.set 1 ⟨3,0,⟨#[]⟩⟩)) (cap:=4) w7 w7) (cl eS _) (Perm.refl _) ?_;refine aj 68 [5,6,7] ?_;refine⟨_,aM,((r0.set 1 ⟨3,0,⟨#[]⟩⟩),4),(by unfold tv;simp),rfl⟩
  refine dw 2 ?_;refine bJ (nZ (mk:=Op.indexAddr 27) rfl ot bC (by first|exact oR runUnderlying27 sizeOf30 (j:=2) rfl w7|exact oV runUnderlying27 sizeOf30 (j:=2) rfl w7)) ?_;refine OD.storeAt (k:=0) (cs':=(r0.set 2 ⟨1,0,⟨#[]⟩⟩).flatMap cV) an rfl rfl ot rfl rfl ot rfl rfl sizeOf30 rfl aO (by rfl) ?_;refine OD.gd (t:=6) (Sq:=[⟨br,30,4*3,(r0.set 2 ⟨1,0,⟨#[]⟩⟩).flatMap cV⟩]) lk (bD (g:=cV) (sz:=3) (ls:=(r0.set 2 ⟨1,0,⟨#[]⟩⟩)) (cap:=4) w7 w7) (cl eS _) (Perm.refl _) ?_;refine aj 68 [5,6,7] ?_;refine⟨_,aM,((r0.set 2 ⟨1,0,⟨#[]⟩⟩),4),(by unfold tv;simp),rfl⟩
 rintro _ ⟨p,hp,rfl⟩;refine CD.seq ?_;obtain⟨h1,h2,h3,h4⟩:=SY p hp;obtain⟨e1,e2⟩:=adH gn aju hp;have O:=VC.F1 (Fe hm hw ht hG gn Z (s:=mF ⟨#[116]⟩ p.1) (SZ w7 hp h1) FW (fun _=>(by show cJ ⟨#[116]⟩=0;decide +kernel)) (by show(3:Int)≤6;decide) (fun h=>absurd h FL)) (args':=[.agg [.list 5 ((l).flatMap dG) (l).length],.agg [.v (.int .i64 3),.v (.string ⟨#[116]⟩),.v (.slice none 0 0),.list 3 (p.1.flatMap cV) p.1.length,.v (.slice none 0 0),.v (.bool false),.v (.slice none 0 0),.v (.string ⟨#[]⟩),.v (.bool false),.v (.int .i64 (-1)),.v (.string ⟨#[]⟩),.v (.slice none 0 0)]]) ⟨dM,AS ⟨dM,dM,ff,dM,ff,dM,ff,dM,dM,dM,dM,ff,trivial⟩,trivial⟩;rw[e1] at O;unfold Ab at O;have E:=VC.F1 (Fe hm hw ht hG gn Z (s:=mF ⟨#[110,111,110,101]⟩ p.1) (SZ w7 hp h2) FW (fun _=>(by show cJ ⟨#[110,111,110,101]⟩=0;decide +kernel)) (by show(3:Int)≤6;decide) (fun h=>absurd h FL)) (args':=[.agg [.list 5 ((l).flatMap dG) (l).length],.agg [.v (.int .i64 3),.v (.string ⟨#[110,111,110,101]⟩),.v (.slice none 0 0),.list 3 (p.1.flatMap cV) p.1.length,.v (.slice none 0 0),.v (.bool false),.v (.slice none 0 0),.v (.string ⟨#[]⟩),.v (.bool false),.v (.int .i64 (-1)),.v (.string ⟨#[]⟩),.v (.slice none 0 0)]]) ⟨dM,AS ⟨dM,dM,ff,dM,ff,dM,ff,dM,dM,dM,dM,ff,trivial⟩,trivial⟩;rw[e2] at E;unfold Ab at E;refine dw 3 ?_;refine dJ call12 (O) ?_
 refine aD 4 ?_;refine OD.alloc (ds:=[_]) an rfl rfl zeroValue25 rfl (fun b8=>?_);refine OD.alloc (ds:=[_,_]) an rfl rfl zeroValue35 rfl (fun b9=>?_);refine aN 1 [_] sizeOf25 ?_;refine aN 0 [_,_] sizeOf35 ?_;refine aj 68 [5,6,7,8,10] ?_;refine aC 3 ?_;refine dJ call12 (E) ?_;refine aD 4 ?_;refine OD.alloc (ds:=[_]) an rfl rfl zeroValue25 rfl (fun kg=>?_);refine OD.alloc (ds:=[_,_]) an rfl rfl zeroValue35 rfl (fun ua=>?_);refine aN 1 [_] sizeOf25 ?_;refine aN 0 [_,_] sizeOf35 ?_;refine aj 68 [7,8,10,13] ?_;refine aC 4 ?_;refine bS 58 (fun Bu JA=>?_) (fun Bu JA=>?_)
 ·refine aD 4 ?_;refine bS 62 (fun I U=>?_) (fun I U=>?_)
  ·refine aZ [4] ?_;refine eA ?_;refine⟨?_,rfl⟩;first|rfl|simp
  exact absurd I (by simp at I)
 exact absurd Bu (by simp at Bu)

end Go.Proofs.YtbcmjoaggammcaaGreatDoor.Ba
namespace Go.Proofs.YtbcmjoaggammcaaGreatDoor.Ba
open List
open Go.Proofs.Tryz
open Go.RowKit V Pk Tr Vl Go.Proofs.YtbcmjoaggammcaaGreatDoor.Nm Pc Cd Ex Tw
open Pa (Ph)
variable {m:Int}
def Ad(m:Int):List (Nat×List Value):=[(3,marksC),(2,wordsC),(0,typesC),(1,[Value.int .i64 m])]
theorem tm1:(3,marksC)∈Ad m:=mem_cons_self
theorem tm2:(2,wordsC)∈Ad m:=mem_cons_of_mem _ mem_cons_self
theorem tm3:(0,typesC)∈Ad m:=mem_cons_of_mem _ (mem_cons_of_mem _ mem_cons_self)
theorem tm4:(1,[Value.int .i64 m])∈Ad m:=mem_cons_of_mem _ (mem_cons_of_mem _ (mem_cons_of_mem _ mem_cons_self))
theorem ajv{w:World}(h1:MarksTab w)(h2:WordsTab w)(h3:TypesTab w)(h4:Tab.me w 1 [Value.int .i64 m]):∀g∈Ad m,g.2≠[]∧By w g.1 g.2:=fun g hg=>by
 rcases mem_cons.1 hg with rfl|hg
 ·exact⟨by decide,.of h1 rfl⟩
 rcases mem_cons.1 hg with rfl|hg
 ·exact⟨by decide,.of h2 rfl⟩
 rcases mem_cons.1 hg with rfl|hg
 ·exact⟨by decide,.of h3 rfl⟩
 rw[mem_singleton] at hg;subst hg;exact⟨by simp,.of h4 rfl⟩
theorem rd_phrases{H:Type}{enc:TypeId×Value→H}{w:World}{base E:Nat}{sp:Nat→Bool}{held:Bool}{v:Value}{d:DataW H}{p:List MemPlace}(hval:Value.okWide Tryz.prog w .any E 22 v)(h:DataW.Trod enc Tryz.prog w base sp held 22 v d p) :
  ∃l:List Ph,cm w (fun _=>False) (.list 14 (l.flatMap Ph.cs) l.length) v∧((∀x∈l,x.Ok)∧l.length≤maxLen)∧True:=by
 obtain⟨l,h1,h2,h3⟩:=aat (g:=Ph.cs) (ok:=Ph.Ok) (sz:=14) underlying22 ay w7 (fun n cs x hn=>Pa.YQ n cs x hn) yn hval h;exact⟨l,h1,⟨h2,h3⟩,trivial⟩
theorem walkInsertBad(l:List Ph)(v:Value)(ok:(∀x∈l,x.Ok)∧l.length≤maxLen)(a:Int)(E:(Lit.int .i64 a).wf=true)(w:World)(h1:MarksTab w)(h2:WordsTab w)(h3:TypesTab w)(hm:Tab.me w 1 [Value.int .i64 m])(I:cm w (fun _=>False) (.list 14 (l.flatMap Ph.cs) l.length) v):Calls Tryz.prog 3 #[v,.int .i64 a] w fun e w'=>e = .returned (.bool true)∧Below w.heap.size w w' :=
 (XC (G:=Ad m) tm1 tm2 tm3 tm4 l ok.1 ok.2 a (JF E).1 (JF E).2).agK (ajv h1 h2 h3 hm) (vs:=[v,_]) (cG.cons I (cG.vs w _ [_]))

end Go.Proofs.YtbcmjoaggammcaaGreatDoor.Ba
