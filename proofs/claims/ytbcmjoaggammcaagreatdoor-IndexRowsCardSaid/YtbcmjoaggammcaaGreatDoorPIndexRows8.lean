/-
  What the proof of IndexRows leans on, part 8 of 8: walks of the program's functions at the level of values, and plain facts of what they compute.
-/
import Derived.Test.YtbcmjoaggammcaaGreatDoorPIndexRows7
set_option linter.unusedVariables false
set_option linter.unusedSimpArgs false
set_option maxRecDepth 100000
set_option maxHeartbeats 4000000
namespace Go.Proofs.YtbcmjoaggammcaaGreatDoor.Ba
open List
open Go.Proofs.Tryz
open Go.RowKit V Pk Tr Vl Go.Proofs.YtbcmjoaggammcaaGreatDoor.Nm Pc Cd Ex Tw
open Pa (cN bY)
variable {G:List (Nat×List Value)} {m:Int}
variable {t:aU} {L:List cf} {ad:Option Addr} {cap i n:Nat} {E S:List ag} {o:cf} {p:(List (List Vl)×Int)×Int}
def FI(t:aU)(L:List cf)(ad:Option Addr)(cap:Nat)(Sr:List ag):Prop:=L.map cf.r=t.rows∧(∀o∈L,nC o)∧rY L ad cap Sr
theorem Qs(h:FI t L ad cap E)(hs:∀B∈E++L.flatMap bR,B∈S):View S (.agg (tC t ad cap)) (.agg (dJ t)) :=
 RE (o:=⟨t,L.flatMap gR,ad,cap,E,L.flatMap bR⟩) (qn.w ⟨L,rfl,rfl,h.2.1,h.1,h.2.2⟩) hs
theorem Qt(aQ:∀o∈L,nC o)(hi:i<L.length)(hs:∀B∈L.flatMap bR,B∈S):View S (.v (.slice L[i].ad L[i].r.length L[i].cap)) (.list 3 (L[i].r.flatMap cV) L[i].r.length) :=
 kZ (aQ _ (getElem_mem hi)) (cr e9 _) (fun B E=>hs B (mem_flatMap.2 ⟨_,getElem_mem hi,E⟩))
theorem I1(f:ag→Nat):∀(L:List cf) (i:Nat) (o:cf) (h:i<L.length),(((L.set i o).flatMap bR).map f).sum=(o.S.map f).sum+(((L.eraseIdx i).flatMap bR).map f).sum
 | [],_,_,h=>absurd h (Nat.not_lt_zero _)
 | x::L,0,o,_=>by simp[bR]
 | x::L,i+1,o,h=>by
  have:=I1 f L i o (Nat.lt_of_succ_lt_succ h);simp only[set_cons_succ,flatMap_cons,map_append,sum_append,eraseIdx_cons_succ,this];omega
theorem Qu{A B C X:ag}(h:i<L.length)(hS:L[i].S=[X]):(A::B::([C]++L.flatMap bR)).Perm (X::A::B::C::(L.eraseIdx i).flatMap bR):=iu fun f=>by
 have:=I1 f L i L[i] h;rw[set_getElem_self,hS] at this;simp only[map_cons,sum_cons,map_append,sum_append,map_nil,sum_nil,this];omega
theorem RT{A B C X:ag}(h:i<L.length)(hS:o.S=[X]):(X::A::B::C::(L.eraseIdx i).flatMap bR).Perm (A::B::([C]++(L.set i o).flatMap bR)):=iu fun f=>by
 have:=I1 f L i o h;rw[hS] at this;simp only[map_cons,sum_cons,map_append,sum_append,map_nil,sum_nil,this];omega
theorem Qv{t:aU}{c:Int}{e:List aV}:∀(l:List Int) (acc:List Vl),(iE t c e acc l).2=0→(iE t c e acc l).1.length=acc.length+l.length
 | [],acc,_=>rfl
 | i::r,acc,h=>by
  rw[iE] at h ⊢;split
  ·rename_i h1;rw[if_pos h1] at h;exact absurd h h1
  rename_i h1;rw[if_neg h1] at h;split
  ·rename_i h2;rw[if_pos h2] at h;cases h
  rename_i h2;rw[if_neg h2] at h;rw[Qv r _ h,length_append,length_cons,length_cons,length_nil];omega
theorem Ic{t:aU}{n:Nat}(g:eW t n){c:Int}{e:List aV}(kH:∀o∈e,o.nm.size≤maxLen)(fI:∀o∈e,o.v.Ok)(hk:(dZ dG e).2=0):∀(l:List Int) (acc:List Vl),(∀i∈l,gg t i)→(iE t c e acc l).2=0 →
  (∀v∈acc,v.Ok∧jB (dZ dG e).1 v∧(c=0→v.k≠0))→∀v∈(iE t c e acc l).1,v.Ok∧jB (dZ dG e).1 v∧(c=0→v.k≠0)
 | [],acc,_,_,ha=>ha
 | i::r,acc,hl,h,ha=>by
  rw[iE] at h ⊢;have hi:=hl i mem_cons_self;obtain⟨h0,h1,h2⟩:=id hi;obtain⟨p1,p2,_⟩:=g.row _ h1 h2;rw[←jo h1] at p1 p2;split
  ·rename_i h1;rw[if_pos h1] at h;exact absurd h h1
  rename_i hne;rw[if_neg hne] at h;split
  ·rename_i h2;rw[if_pos h2] at h;cases h
  rename_i h3;rw[if_neg h3] at h;refine Ic g kH fI hk r _ (fun j hj=>hl j (mem_cons_of_mem _ hj)) h fun v E=>?_;rcases mem_append.1 E with E|E
  ·exact ha v E
  rw[mem_singleton] at E;subst E;rw[g.av] at hne h3 ⊢;exact⟨ads p2 fI,abR kH fI p1 hk (Classical.not_not.1 hne),fun hc hz=>h3 ⟨hc,hz⟩⟩
theorem I2{g:cf→List D}:∀(M:List cf) (i:Nat) (h:i<M.length) (o:cf),g o=g M[i]→(M.set i o).flatMap g=M.flatMap g
 | [],_,h,_,_=>absurd h (Nat.not_lt_zero _)
 | x::M,0,_,o,e=>by
  rw[set_cons_zero,flatMap_cons,flatMap_cons,e];rfl
 | x::M,i+1,h,o,e=>by
  rw[set_cons_succ,flatMap_cons,flatMap_cons,I2 M i (Nat.lt_of_succ_lt_succ h) o e]
theorem OU{x:aE}{M:List cf}{i:Int}(h:i.toNat<M.length):rowAt {t with rows:=M.map cf.r,ix:=x} i=M[i.toNat].r:=by
 rw[jo (by show _<(M.map cf.r).length;rw[length_map];exact h)];exact getElem_map ..
theorem RU{x:aE}{M:List cf}{i:Int}(h:i.toNat<M.length){c:Nat}{v:Vl}(ho:o.r=M[i.toNat].r.set c v):qO {t with rows:=M.map cf.r,ix:=x} i c v={t with rows:=(M.set i.toNat o).map cf.r,ix:=x}:=by
 unfold qO;rw[OU h,map_set,ho]
theorem abS{c:Nat}{l:List Vl}:mz c t [] l=t:=by unfold mz;rfl
theorem aad{l:List Vl}:j9 t [] l=(t,0):=by unfold j9;rfl
theorem FJ{l:List (List Vl)}(h:L.map cf.r=l)(h1:i<L.length)(h2:i<l.length):L[i].r=l[i]:=by subst h;rw[getElem_map]
theorem YN:(Tryz.prog.info? 30).map (fun i=>(i.zero,i.size,i.bytes))=some (some (.agg #[.int .i64 0,.int .i64 0,.string ⟨#[]⟩]),3,32):=by kernel_rfl
theorem aae(hm:(3,marksC)∈G)(hw:(2,wordsC)∈G)(ht:(0,typesC)∈G)(hG:(1,[Value.int .i64 m])∈G)(t:aU)(g:eW t n)(s:cN)(ho:∀o∈s.ah,o.nm.size≤maxLen)(fI:∀o∈s.ah,o.v.Ok)(oM:∀o∈s.bE,o.nm.size≤maxLen)(zk:∀o∈s.bE,o.v.Ok)(hn:n≤260)(bt off pH:Nat)(pre post:List D)(hp:pre.length=off)(L:List cf)(ad:Option Addr)(cap:Nat)(Sr:List ag)(hL:L.map cf.r=t.rows)(aQ:∀o∈L,nC o)(kf:rY L ad cap Sr):VC Tryz.prog G 51 [.v (.pointer (some ⟨bt,off,none⟩)),.agg (bY s)] (⟨bt,48,pH,pre++(tC t ad cap++post)⟩::(Sr++L.flatMap bR)) (fun r S=>r = .dy [.v (.int .i64 (gG t s).2.1),.v (.int .i64 (gG t s).2.2)]∧((gG t s).2.2=0→∃L' nB kg n8,FI (gG t s).1 L' nB kg n8∧S=⟨bt,48,pH,pre++(tC (gG t s).1 nB kg++post)⟩::(n8++L'.flatMap bR))):=by
 refine VC.body func51 rfl ntmps51 aO fun X0 w0 aZ=>?_;have dr:maxLen=9223372036854775807:=rfl;have GB:FI t L ad cap Sr:=⟨hL,aQ,kf⟩
 have rh:L.length=t.rows.length:=(by rw[←hL,length_map])
 have mw:=g.eI;have Dl:=EC g s.ah;have l9:=uF g s.ah;have hnd:=DV g s.ah;have aiO:t.av.length=4:=(by rw[g.av];rfl)
 have af6:=Hy (G:=G) t w4 s.set;have rp:=IC (G:=G) hm hw ht t.av wS wR s.bE oM;unfold pi at rp;have W7:=ym (fun c:cu=>c.n.toList==s.set.toList) t.av;rw[show dM (fun c:cu=>c.n.toList==s.set.toList) t.av=(bL t.av s.set) from rfl] at W7;unfold tC;unfold bY;refine cj ?_;refine OD.box (ds:=[_,_,_,_,_,_,_,_,_,_,_,_]) an rfl rfl ot rfl rfl (fun b3=>?_);refine aj 205 [0,3] ?_;refine cL [0,3,6] ?_;refine aP 2 ?_ (h:=by exact(KN 1));refine mX 2 ?_;refine y4 (af6) (ha:=by exact⟨⟨_,ot,(Qs GB (fun B U=>by repeat (first|exact U|apply mem_append_right|apply mem_cons_of_mem)):View _ (.agg (tC t ad cap)) _)⟩,⟨_,ot,eL⟩,trivial⟩) (K:=?_);refine bG ?_;refine ae [0,3,6,30] ?_;refine aq (fun az aG=>?_) (fun az aG=>?_)
 ·have hA:(bL t.av s.set)<0:=(by simpa using az)
  have aS:gG t s=(t,0,8):=(by unfold gG;rw[if_pos hA])
  exact wA
 have hA:¬(bL t.av s.set)<0:=(by simpa using az)
 have kJ:(bL t.av s.set).toNat<t.av.length:=(by omega)
 refine cL [0,3,6,7,8] ?_;refine aP 3 ?_ (h:=by exact(nZ 1));refine cU (rp) ?_;refine bG ?_;refine ae [0,3,6,7,8,42] ?_;refine aq (fun aH aT=>?_) (fun aH aT=>?_)
 ·have U:(dZ t.av s.bE).2≠0:=(by simpa using aH)
  have aS:gG t s=(t,0,(dZ t.av s.bE).2):=(by unfold gG;rw[if_neg hA,if_pos U])
  exact wA
 have U:¬(dZ t.av s.bE).2≠0:=(by simpa using aH)
 have jR:t.av.getD (bL t.av s.set).toNat ⟨⟨#[]⟩,0⟩=t.av[(bL t.av s.set).toNat]:=(by rw[getD_eq_getElem?_getD,getElem?_eq_getElem kJ];rfl)
 refine CD.skip ?_;refine jI [0,3,6] (fun aW uc aK=>(¬((dZ t.av s.bE).1≠(t.av.getD (bL t.av s.set).toNat ⟨⟨#[]⟩,0⟩).k∧(dZ t.av s.bE).1≠0))∧aK=(⟨205,aW,uc⟩:St)) ?_ ?_
 ·refine aC 4 ?_;refine bQ (nZ 1) ?_;refine aD 1 ?_;refine bQ (dx 2 (h:=by first|exact .l (j:=(bL t.av s.set).toNat) (Int.toNat_of_nonneg w4).symm kJ|exact .r (j:=(bL t.av s.set).toNat) (Int.toNat_of_nonneg w4).symm kJ)) ?_;refine aD 4 ?_;refine bS 54 (fun yX yC=>?_) (fun yX yC=>?_)
  ·refine aj 205 [0,3,6,57] ?_;refine aq (fun aX bw=>?_) (fun aX bw=>?_)
   ·have hC:(dZ t.av s.bE).1≠(t.av.getD (bL t.av s.set).toNat ⟨⟨#[]⟩,0⟩).k∧(dZ t.av s.bE).1≠0:=(by rw[jR];exact⟨by simpa using yX,by simpa using aX⟩)
    have aS:gG t s=(t,0,4):=(by unfold gG;rw[if_neg hA,if_neg U,if_pos hC])
    exact wA
   exact VF
  refine aj 205 [0,3,6,57] ?_;refine fG ?_;exact VF
 rintro _ ⟨hC,rfl⟩;refine cL [0,3,6,8,9] ?_;refine aP 2 ?_ (h:=by exact(KN 1));refine mX 2 ?_;refine yZ (Jn hm hw ht hG t g s.ah ho fI) (fun r S h=>h.flat) (fun r S h=>h.view) (ha:=by exact⟨⟨_,ot,(Qs GB (fun B U=>by repeat (first|exact U|apply mem_append_right|apply mem_cons_of_mem)):View _ (.agg (tC t ad cap)) _)⟩,⟨_,ot,eL⟩,trivial⟩) (K:=?_);refine bG ?_;refine ae [0,3,6,8,9,68] ?_;refine aq (fun bC bW=>?_) (fun bC bW=>?_)
 ·have hD:(au t s.ah).2≠0:=(by simpa using bC)
  have aS:gG t s=(t,0,(au t s.ah).2):=(by unfold gG;rw[if_neg hA,if_neg U,if_neg hC,if_pos hD])
  exact wA
 have hD:¬(au t s.ah).2≠0:=(by simpa using bC)
 refine cj ?_;refine aY [0,3,6,9,10] ?_;refine ae [0,3,6,9,10,70,71,72] ?_;refine eH [0,3,6,9,70,71] (fun aW _ (E:Nat×List Vl×Option Addr×Nat×List ag) aK=>match E with|(k,acc,dQ,dD,Sx)=>(k≤(au t s.ah).1.length)∧((acc).length=k)∧((iE t (bL t.av s.set) s.bE [] (au t s.ah).1)=iE t (bL t.av s.set) s.bE acc ((au t s.ah).1.drop k))∧(bq 30 3 ((acc).flatMap cV) (acc).length dQ dD Sx)∧aK=(⟨205,(10,.v (.slice dQ (acc).length dD))::(72,.v (.int .i64 (k:Nat)))::aW,(⟨b3,42,12,bY s⟩::⟨bt,48,pH,pre++([.v (.string t.nm),.list 2 (t.av.flatMap cC) t.av.length,.v (.slice ad t.rows.length cap),.list 5 (t.ix.af.flatMap cP) t.ix.af.length,.v (.int .i64 t.ix.root)]++post)⟩::(Sr++(Sx++L.flatMap bR)))⟩:St)) (fun (E:Nat×List Vl×Option Addr×Nat×List ag)=>match E with|(k,acc,dQ,dD,Sx)=>(au t s.ah).1.length-k) (0,([]:List Vl),none,0,[]) ⟨(Nat.zero_le _),rfl,rfl,iC,rfl⟩ ?_;rintro⟨k,acc,dQ,dD,Sx⟩ _ ⟨hk,wL,zL,ec,rfl⟩;refine ae [0,3,6,9,10,70,71,72,73] ?_;refine aq (fun cx c9=>?_) (fun cx c9=>?_)
 ·have aa:k<(au t s.ah).1.length:=(by omega)
  have jh:(au t s.ah).1.drop k=((au t s.ah).1[k]'aa)::(au t s.ah).1.drop (k+1):=drop_eq_getElem_cons aa;have rm:gg t ((au t s.ah).1[k]'aa):=l9 _ (getElem_mem aa);obtain⟨gJ,O,oN⟩:=id rm;have fQ:((au t s.ah).1[k]'aa).toNat<L.length:=(by rw[rh];exact O)
  obtain⟨br,rfl,tT,tU,rfl⟩:=kf.pos w4;have vw:L[((au t s.ah).1[k]'aa).toNat].r=rowAt t ((au t s.ah).1[k]'aa):=(by rw[jo O];exact(FJ hL fQ O))
  obtain⟨W6,Dm⟩:=gg.ok g rm;have KO:=Rm (G:=G) hm hw ht t.av wS wR L[((au t s.ah).1[k]'aa).toNat].r (by rw[vw];omega) (by rw[vw];exact fun v hv=>(Dm v hv).1) s.bE oM zk;rw[show fh t.av L[((au t s.ah).1[k]'aa).toNat].r s.bE=(fh t.av (rowAt t ((au t s.ah).1[k]'aa)) s.bE) from by rw[vw]] at KO;unfold mH at KO;refine ae [0,3,6,9,10,12,70,71,72] ?_;refine CD.seq ?_;refine tO 18 17 [0,3,6,9,10,13,70,71,72,91,92] ?_;refine aP 3 ?_ (h:=by exact(nZ 1));refine aP 3 ?_ (h:=by exact(nZ 1));refine aP 1 ?_ (h:=by exact(dx 1 (h:=by first|exact .l (j:=((au t s.ah).1[k]'aa).toNat) (Int.toNat_of_nonneg gJ).symm O|exact .r (j:=((au t s.ah).1[k]'aa).toNat) (Int.toNat_of_nonneg gJ).symm O)));refine aP 0 ?_ (h:=by exact(cH (mk:=Op.load 27) rfl ot (iL (k:=2) (i:=((au t s.ah).1[k]'aa).toNat) (ls:=L) uE rfl rfl rfl isAgg27 fQ rfl)));refine mX 2 ?_;refine y4 (KO) (ha:=by exact⟨⟨_,ot,eL⟩,⟨_,ot,(Qt aQ fQ (fun B U=>by repeat (first|exact U|apply mem_append_right|apply mem_cons_of_mem)))⟩,⟨_,ot,eL⟩,trivial⟩) (K:=?_);refine mX 3 ?_;refine qW ?_;refine jQ ?_;refine⟨rfl,fun mI=>?_⟩;refine aN 0 [_,_,_] sizeOf30 ?_;refine aj 205 [0,3,6,9,10,13,14,70,71,72] ?_;refine ae [0,3,6,9,10,13,14,70,71,72,94] ?_;refine aq (fun dN en=>?_) (fun dN en=>?_)
  ·have hE:(fh t.av (rowAt t ((au t s.ah).1[k]'aa)) s.bE).2≠0:=(by simpa using dN)
   have iJ:(iE t (bL t.av s.set) s.bE [] (au t s.ah).1)=([],(fh t.av (rowAt t ((au t s.ah).1[k]'aa)) s.bE).2):=(by rw[zL,jh,iE,if_pos hE])
   have aS:gG t s=(t,0,(fh t.av (rowAt t ((au t s.ah).1[k]'aa)) s.bE).2):=(by unfold gG;rw[if_neg hA,if_neg U,if_neg hC,if_neg hD,iJ,if_pos hE])
   exact wA
  have hE:¬(fh t.av (rowAt t ((au t s.ah).1[k]'aa)) s.bE).2≠0:=(by simpa using dN)
  refine CD.skip ?_;refine jI [0,3,6,9,10,13,70,71,72] (fun aW uc aK=>((iE t (bL t.av s.set) s.bE [] (au t s.ah).1)=iE t (bL t.av s.set) s.bE (acc++[(fh t.av (rowAt t ((au t s.ah).1[k]'aa)) s.bE).1]) ((au t s.ah).1.drop (k+1)))∧aK=(⟨205,aW,uc⟩:St)) ?_ ?_
  ·refine aC 3 ?_;refine bS 98 (fun yT E7=>?_) (fun yT E7=>?_)
   ·refine aY [0,3,6,9,10,13,70,71,72,102] ?_;refine aq (fun eN fT=>?_) (fun eN fT=>?_)
    ·have hF:(bL t.av s.set)=0∧(fh t.av (rowAt t ((au t s.ah).1[k]'aa)) s.bE).1.k=0:=⟨E7,by simpa using eN⟩
     have iJ:(iE t (bL t.av s.set) s.bE [] (au t s.ah).1)=([],4):=(by rw[zL,jh,iE,if_neg hE,if_pos hF])
     have aS:gG t s=(t,0,4):=(by unfold gG;rw[if_neg hA,if_neg U,if_neg hC,if_neg hD,iJ,if_pos w7])
     exact wA
    exact Vv
   refine aY [0,3,6,9,10,13,70,71,72,102] ?_;refine fG ?_;exact Vv
  rintro _ ⟨ny,rfl⟩;refine dK 2 ?_;refine ei (cc 0 [_]) [.int .i64 0,.int .i64 0,.string ⟨#[]⟩] [_,_,_] zeroValue30 runUnderlying27 sizeOf30 (fun an5=>?_);refine fH 0 105 3 1 ?_;refine OD.ee (ls:=acc) (new:=[(fh t.av (rowAt t ((au t s.ah).1[k]'aa)) s.bE).1]) (Sq:=Sx) e9 EE an rfl rfl underlying27 YN rfl w7 ot ec (sN (A:=[_,_,_]) (S1:=[⟨br,27,cap*1,L.flatMap gR⟩]) (S2:=Sx) (S3:=L.flatMap bR)) ot bu nv nw (fun KP JV af7 af8=>?_);refine OD.perm (vH (S2:=[⟨KP,30,JV*3,flatMap cV (acc++[(fh t.av (rowAt t ((au t s.ah).1[k]'aa)) s.bE).1])⟩]) (A:=[_,_,_])) ?_;refine aj 205 [0,3,6,9,10,70,71,72] ?_;refine cg [0,3,6,9,10,70,71,72] ?_;refine⟨((k+1),(acc++[(fh t.av (rowAt t ((au t s.ah).1[k]'aa)) s.bE).1]),(some ⟨KP,0,none⟩),JV,[⟨KP,30,JV*3,flatMap cV (acc++[(fh t.av (rowAt t ((au t s.ah).1[k]'aa)) s.bE).1])⟩]),_,cz,aM,w4,B0,ny,(bI af7 af8),rfl⟩
 have Dn:(iE t (bL t.av s.set) s.bE [] (au t s.ah).1)=(acc,0):=(by rw[zL,drop_of_length_le w4];rfl)
 have hN:¬(iE t (bL t.av s.set) s.bE [] (au t s.ah).1).2≠0:=(by rw[Dn];exact fun h=>h rfl)
 have qZ:acc.length=(au t s.ah).1.length:=(by omega)
 have UR:=Ic g oM zk (c:=(bL t.av s.set)) (by rw[←g.av];exact Classical.not_not.1 U) (au t s.ah).1 [] l9 (Classical.not_not.1 hN) (fun v hv=>by cases hv);rw[Dn] at UR;have hl4:∀i∈(au t s.ah).1,∃h:i.toNat<L.length,L[i.toNat].r.length=4:=fun i hi=>by obtain⟨h0,h1,h2⟩:=l9 i hi;have:=(gg.ok g (l9 i hi)).1;rw[jo h1] at this;exact⟨by omega,by rw[FJ hL w4 h1];exact this⟩
 have hl5:∀i∈(au t s.ah).1,∃h:i.toNat<L.length,Pc.dU dG L[i.toNat].r=0∧∀v∈L[i.toNat].r,v.Ok:=fun i hi=>by obtain⟨h0,h1,h2⟩:=l9 i hi;obtain⟨p1,p2,_⟩:=g.row _ h1 h2;exact⟨by omega,by rw[FJ hL w4 h1];exact⟨p1,p2⟩⟩
 refine CD.exit ?_;refine CD.seq ?_;refine CD.seq ?_;refine CD.gW (t:=10) (Sq:=Sx) lk ec (cr e9 _) (sN (A:=[_,_])) ?_;refine sF ?_;refine aY [0,6,9,10,109] ?_;refine aq (fun eG fZ=>?_) (fun eG fZ=>?_)
 ·have hP:0<(bL t.av s.set):=(by simpa using eG)
  refine ae [0,6,9,10,110,111,112] ?_;refine eH [0,6,9,10,110,111] (fun aW _ (E:Nat×List cf) aK=>match E with|(k,M)=>(k≤(au t s.ah).1.length)∧(mz (bL t.av s.set).toNat {t with rows:=M.map cf.r} ((au t s.ah).1.drop k) (acc.drop k)=mz (bL t.av s.set).toNat t (au t s.ah).1 acc)∧(∀o∈M,nC o)∧(rY M ad cap Sr)∧(M.length=t.rows.length)∧(∀i∈(au t s.ah).1,∃h:i.toNat<M.length,M[i.toNat].r.length=4)∧aK=(⟨205,(112,.v (.int .i64 (k:Nat)))::aW,(⟨b3,42,12,bY s⟩::⟨bt,48,pH,pre++([.v (.string t.nm),.list 2 (t.av.flatMap cC) t.av.length,.v (.slice ad t.rows.length cap),.list 5 (t.ix.af.flatMap cP) t.ix.af.length,.v (.int .i64 t.ix.root)]++post)⟩::(Sr++M.flatMap bR))⟩:St)) (fun (E:Nat×List cf)=>match E with|(k,M)=>(au t s.ah).1.length-k) (0,L) ⟨(Nat.zero_le _),(by rw[hL];rfl),aQ,kf,rh,hl4,rfl⟩ ?_;rintro⟨k,M⟩ _ ⟨dH,US,Z,vv,wQ,W8,rfl⟩;refine ae [0,6,9,10,110,111,112,113] ?_;refine aq (fun kU tw=>?_) (fun kU tw=>?_)
  ·have aa:k<(au t s.ah).1.length:=(by omega)
   have di:k<acc.length:=(by omega)
   have jh:(au t s.ah).1.drop k=((au t s.ah).1[k]'aa)::(au t s.ah).1.drop (k+1):=drop_eq_getElem_cons aa;have kX:acc.drop k=(acc[k]'di)::acc.drop (k+1):=drop_eq_getElem_cons di;obtain⟨gJ,O,oN⟩:=l9 _ (getElem_mem aa);obtain⟨fQ,rq⟩:=W8 _ (getElem_mem aa);obtain⟨br,rfl,tT,tU,rfl⟩:=vv.pos w4;obtain⟨I,xN,B4,Dp,MV⟩:=(Z _ (getElem_mem fQ)).pos w4;have jD:∀o∈(M.set ((au t s.ah).1[k]'aa).toNat (⟨M[((au t s.ah).1[k]'aa).toNat].r.set (bL t.av s.set).toNat (acc[k]'di),some ⟨I,0,none⟩,M[((au t s.ah).1[k]'aa).toNat].cap,[⟨I,30,M[((au t s.ah).1[k]'aa).toNat].cap*3,(M[((au t s.ah).1[k]'aa).toNat].r.set (bL t.av s.set).toNat (acc[k]'di)).flatMap cV⟩]⟩:cf)),nC o:=fun o ho=>by rcases mem_or_eq_of_mem_set ho with h|h;exact Z o h;rw[h];exact bI (g:=cV) FV Dp
   have MW:(M.set ((au t s.ah).1[k]'aa).toNat (⟨M[((au t s.ah).1[k]'aa).toNat].r.set (bL t.av s.set).toNat (acc[k]'di),some ⟨I,0,none⟩,M[((au t s.ah).1[k]'aa).toNat].cap,[⟨I,30,M[((au t s.ah).1[k]'aa).toNat].cap*3,(M[((au t s.ah).1[k]'aa).toNat].r.set (bL t.av s.set).toNat (acc[k]'di)).flatMap cV⟩]⟩:cf)).flatMap gR=M.flatMap gR:=I2 M _ fQ _ (by show[D.v (.slice _ (M[((au t s.ah).1[k]'aa).toNat].r.set (bL t.av s.set).toNat (acc[k]'di)).length _)]=[D.v (.slice _ _ _)];rw[length_set,xN]);have BW:rY (M.set ((au t s.ah).1[k]'aa).toNat (⟨M[((au t s.ah).1[k]'aa).toNat].r.set (bL t.av s.set).toNat (acc[k]'di),some ⟨I,0,none⟩,M[((au t s.ah).1[k]'aa).toNat].cap,[⟨I,30,M[((au t s.ah).1[k]'aa).toNat].cap*3,(M[((au t s.ah).1[k]'aa).toNat].r.set (bL t.av s.set).toNat (acc[k]'di)).flatMap cV⟩]⟩:cf)) (some ⟨br,0,none⟩) cap [⟨br,27,cap*1,M.flatMap gR⟩]:=(by rw[←MW];exact bI (by rw[length_set];exact tT) tU)
   have aiP:∀i∈(au t s.ah).1,∃h:i.toNat<(M.set ((au t s.ah).1[k]'aa).toNat (⟨M[((au t s.ah).1[k]'aa).toNat].r.set (bL t.av s.set).toNat (acc[k]'di),some ⟨I,0,none⟩,M[((au t s.ah).1[k]'aa).toNat].cap,[⟨I,30,M[((au t s.ah).1[k]'aa).toNat].cap*3,(M[((au t s.ah).1[k]'aa).toNat].r.set (bL t.av s.set).toNat (acc[k]'di)).flatMap cV⟩]⟩:cf)).length,(M.set ((au t s.ah).1[k]'aa).toNat (⟨M[((au t s.ah).1[k]'aa).toNat].r.set (bL t.av s.set).toNat (acc[k]'di),some ⟨I,0,none⟩,M[((au t s.ah).1[k]'aa).toNat].cap,[⟨I,30,M[((au t s.ah).1[k]'aa).toNat].cap*3,(M[((au t s.ah).1[k]'aa).toNat].r.set (bL t.av s.set).toNat (acc[k]'di)).flatMap cV⟩]⟩:cf))[i.toNat].r.length=4:=fun i hi=>by obtain⟨h1,h2⟩:=W8 i hi;refine⟨by rw[length_set];exact h1,?_⟩;rw[getElem_set];split;(show(M[((au t s.ah).1[k]'aa).toNat].r.set (bL t.av s.set).toNat (acc[k]'di)).length=4;rw[length_set];exact rq);exact h2
   have af9:mz (bL t.av s.set).toNat {t with rows:=(M.set ((au t s.ah).1[k]'aa).toNat (⟨M[((au t s.ah).1[k]'aa).toNat].r.set (bL t.av s.set).toNat (acc[k]'di),some ⟨I,0,none⟩,M[((au t s.ah).1[k]'aa).toNat].cap,[⟨I,30,M[((au t s.ah).1[k]'aa).toNat].cap*3,(M[((au t s.ah).1[k]'aa).toNat].r.set (bL t.av s.set).toNat (acc[k]'di)).flatMap cV⟩]⟩:cf)).map cf.r} ((au t s.ah).1.drop (k+1)) (acc.drop (k+1))=mz (bL t.av s.set).toNat t (au t s.ah).1 acc:=(by rw[←US,jh,kX,mz];congr 1;exact(RU (x:=t.ix) fQ rfl).symm)
   refine CD.perm (Qu fQ MV) ?_;refine ae [0,6,9,10,15,16,110,111,112] ?_;refine lX 12 [0,6,9,10,110,111,112,123,124,128] ?_;refine aP 3 ?_ (h:=by exact(nZ 2));refine aP 1 ?_ (h:=by exact(dx 1 (h:=by first|exact .l (j:=((au t s.ah).1[k]'aa).toNat) (Int.toNat_of_nonneg gJ).symm u9|exact .r (j:=((au t s.ah).1[k]'aa).toNat) (Int.toNat_of_nonneg gJ).symm u9)));refine aP 0 ?_ (h:=by exact(cH (mk:=Op.load 27) rfl ot (iL (k:=3) (i:=((au t s.ah).1[k]'aa).toNat) (ls:=M) (d:=.v (.slice (some ⟨I,0,none⟩) M[((au t s.ah).1[k]'aa).toNat].r.length M[((au t s.ah).1[k]'aa).toNat].cap)) uE rfl rfl rfl isAgg27 fQ (by rw[←xN];rfl))));refine bG ?_;refine bQ (dx 3 (h:=by first|exact .l (j:=(bL t.av s.set).toNat) (Int.toNat_of_nonneg w4).symm (by rw[rq];omega)|exact .r (j:=(bL t.av s.set).toNat) (Int.toNat_of_nonneg w4).symm (by rw[rq];omega))) ?_;refine OD.storeAt (k:=0) (cs':=(M[((au t s.ah).1[k]'aa).toNat].r.set (bL t.av s.set).toNat (acc[k]'di)).flatMap cV) an rfl rfl ot rfl rfl ot rfl rfl sizeOf30 rfl (by show 0+(bL t.av s.set).toNat*3+3≤(M[((au t s.ah).1[k]'aa).toNat].r.flatMap cV).length;rw[cr e9,rq];omega) (by show cZ (M[((au t s.ah).1[k]'aa).toNat].r.flatMap cV) (0+(bL t.av s.set).toNat*3) (cV (acc[k]'di))=_;rw[Nat.zero_add];exact og e9 _ _ (by rw[rq];omega)) ?_;refine aj 205 [0,6,9,10,110,111,112] ?_;refine dK 1 ?_
   refine OD.perm (RT fQ (o:=(⟨M[((au t s.ah).1[k]'aa).toNat].r.set (bL t.av s.set).toNat (acc[k]'di),some ⟨I,0,none⟩,M[((au t s.ah).1[k]'aa).toNat].cap,[⟨I,30,M[((au t s.ah).1[k]'aa).toNat].cap*3,(M[((au t s.ah).1[k]'aa).toNat].r.set (bL t.av s.set).toNat (acc[k]'di)).flatMap cV⟩]⟩:cf)) rfl) ?_;refine aj 205 [0,6,9,10,110,111,112] ?_;refine⟨((k+1),(M.set ((au t s.ah).1[k]'aa).toNat (⟨M[((au t s.ah).1[k]'aa).toNat].r.set (bL t.av s.set).toNat (acc[k]'di),some ⟨I,0,none⟩,M[((au t s.ah).1[k]'aa).toNat].cap,[⟨I,30,M[((au t s.ah).1[k]'aa).toNat].cap*3,(M[((au t s.ah).1[k]'aa).toNat].r.set (bL t.av s.set).toNat (acc[k]'di)).flatMap cV⟩]⟩:cf))),_,cz,aM,w4,af9,jD,BW,(by rw[length_set];exact wQ),aiP,rfl⟩
  have aga:mz (bL t.av s.set).toNat t (au t s.ah).1 acc={t with rows:=M.map cf.r}:=(by rw[←US,drop_of_length_le (l:=(au t s.ah).1) w4,abS])
  have aS:gG t s=({t with rows:=M.map cf.r},((au t s.ah).1.length:Int),0):=(by unfold gG;rw[if_neg hA,if_neg U,if_neg hC,if_neg hD,if_neg hN,if_pos hP,Dn,aga])
  refine ae [4,5] ?_;refine aJ (⟨bt,48,pH,pre++(_++post)⟩::(Sr++M.flatMap bR)) ?_;rw[aS];exact⟨rfl,fun _=>⟨M,ad,cap,Sr,⟨rfl,Z,vv⟩,by simp only[tC,length_map,wQ]⟩⟩
 have hP:¬0<(bL t.av s.set):=(by simpa using eG)
 have xO:(bL t.av s.set)=0:=(by omega)
 refine ae [0,9,10,133,134,135] ?_;refine eH [0,9,10,133,134] (fun aW _ (E:Nat×aE) aK=>match E with|(k,x)=>(k≤(au t s.ah).1.length)∧(nO t x ((au t s.ah).1.drop k)=nO t t.ix (au t s.ah).1)∧(iy x n)∧(∀i∈(au t s.ah).1.drop k,(cQ (rowAt t i),i)∈gD x)∧aK=(⟨205,(135,.v (.int .i64 (k:Nat)))::aW,(⟨b3,42,12,bY s⟩::⟨bt,48,pH,pre++([.v (.string t.nm),.list 2 (t.av.flatMap cC) t.av.length,.v (.slice ad t.rows.length cap),.list 5 (x.af.flatMap cP) x.af.length,.v (.int .i64 x.root)]++post)⟩::(Sr++L.flatMap bR))⟩:St)) (fun (E:Nat×aE)=>match E with|(k,x)=>(au t s.ah).1.length-k) (0,t.ix) ⟨(Nat.zero_le _),rfl,g.ix,(fun i hi=>(l9 i hi).jn g),rfl⟩ ?_;rintro⟨k,x⟩ _ ⟨fk,KQ,gx,tZ,rfl⟩;refine ae [0,9,10,133,134,135,136] ?_;refine aq (fun sI wI=>?_) (fun sI wI=>?_)
 ·have aa:k<(au t s.ah).1.length:=(by omega)
  have jh:(au t s.ah).1.drop k=((au t s.ah).1[k]'aa)::(au t s.ah).1.drop (k+1):=drop_eq_getElem_cons aa;have rm:gg t ((au t s.ah).1[k]'aa):=l9 _ (getElem_mem aa);obtain⟨gJ,O,oN⟩:=id rm;have fQ:((au t s.ah).1[k]'aa).toNat<L.length:=(by rw[rh];exact O)
  obtain⟨br,rfl,tT,tU,rfl⟩:=kf.pos w4;have vw:L[((au t s.ah).1[k]'aa).toNat].r=rowAt t ((au t s.ah).1[k]'aa):=(by rw[jo O];exact(FJ hL fQ O))
  obtain⟨W6,Dm⟩:=gg.ok g rm;have UT:=Jl (G:=G) hG L[((au t s.ah).1[k]'aa).toNat].r (by rw[vw];omega) (by rw[vw];omega) (by rw[vw];exact fun v hv=>(Dm v hv).1);rw[show cQ L[((au t s.ah).1[k]'aa).toNat].r=cQ (rowAt t ((au t s.ah).1[k]'aa)) from by rw[vw]] at UT;have iI:=tZ _ (by rw[jh];exact mem_cons_self);have W9:=H7 gx ((Aq gx.val _).2 ⟨_,iI⟩);have xM:=Qj (G:=G) gx (cQ (rowAt t ((au t s.ah).1[k]'aa)));rw[RB gx (ux (by rw[jo O];exact(g.row _ O oN).1)) ((Ar gx _).2 ⟨_,iI⟩)] at xM;unfold Tw.cT at xM;have agb:nO t (gq x (dz x) (cQ (rowAt t ((au t s.ah).1[k]'aa)))) ((au t s.ah).1.drop (k+1))=nO t t.ix (au t s.ah).1:=(by rw[←KQ,jh];rfl)
  have aiQ:∀i∈(au t s.ah).1.drop (k+1),(cQ (rowAt t i),i)∈gD (gq x (dz x) (cQ (rowAt t ((au t s.ah).1[k]'aa)))):=fun i hi=>by refine(W9.2 _).2 ⟨tZ i (by rw[jh];exact mem_cons_of_mem _ hi),fun e=>?_⟩;have h9:=hnd.sublist (drop_sublist k _);rw[jh,nodup_cons] at h9;have h8:=IZ g.ix ((l9 i (mem_of_mem_drop hi)).jn g) (rm.jn g) e;simp only[Prod.mk.injEq] at h8;exact h9.1 (h8.2 ▸ hi)
  refine ae [0,9,10,18,133,134,135] ?_;refine lX 17 [0,9,10,133,134,135,140,154] ?_;refine aP 4 ?_ (h:=by exact(wM 1));refine aP 3 ?_ (h:=by exact(nZ 1));refine aP 1 ?_ (h:=by exact(dx 1 (h:=by first|exact .l (j:=((au t s.ah).1[k]'aa).toNat) (Int.toNat_of_nonneg gJ).symm O|exact .r (j:=((au t s.ah).1[k]'aa).toNat) (Int.toNat_of_nonneg gJ).symm O)));refine aP 0 ?_ (h:=by exact(cH (mk:=Op.load 27) rfl ot (iL (k:=2) (i:=((au t s.ah).1[k]'aa).toNat) (ls:=L) uE rfl rfl rfl isAgg27 fQ rfl)));refine yZ (UT) (fun r S h=>h.flat) (fun r S h=>h.view) (ha:=by exact⟨⟨_,ot,(Qt aQ fQ (fun B U=>by repeat (first|exact U|apply mem_append_right|apply mem_cons_of_mem)))⟩,trivial⟩) (K:=?_);refine cU (xM) ?_;refine bG ?_;refine aD 2 ?_
  refine OD.storeAt (k:=1) (cs':=pre++([.v (.string t.nm),.list 2 (t.av.flatMap cC) t.av.length,.v (.slice (some ⟨br,0,none⟩) t.rows.length cap),.list 5 ((gq x (dz x) (cQ (rowAt t ((au t s.ah).1[k]'aa)))).af.flatMap cP) (gq x (dz x) (cQ (rowAt t ((au t s.ah).1[k]'aa)))).af.length,.v (.int .i64 (gq x (dz x) (cQ (rowAt t ((au t s.ah).1[k]'aa)))).root)]++post)) an rfl rfl ot rfl rfl ot rfl rfl sizeOf46 rfl (by show off+3+2≤(pre++(([.v (.string t.nm),.list 2 (t.av.flatMap cC) t.av.length,.v (.slice (some ⟨br,0,none⟩) t.rows.length cap),.list 5 (x.af.flatMap cP) x.af.length,.v (.int .i64 x.root)]:List D)++post)).length;simp only[length_append,length_cons,length_nil];omega) (by exact AO (j:=3) hp aO rfl) ?_;refine aj 205 [0,9,10,133,134,135] ?_;refine cg [0,9,10,133,134,135] ?_;refine⟨((k+1),(gq x (dz x) (cQ (rowAt t ((au t s.ah).1[k]'aa))))),_,cz,aM,w4,agb,W9.1,aiQ,rfl⟩
 have xH:nO t t.ix (au t s.ah).1=x:=(by rw[←KQ,drop_of_length_le w4];rfl)
 clear KQ tZ;skip;refine ae [0,9,10,159,160,161] ?_;refine eH [0,9,10,159,160] (fun aW _ (E:Nat×List cf×aE) aK=>match E with|(k,M,y)=>(k≤(au t s.ah).1.length)∧(j9 {t with rows:=M.map cf.r,ix:=y} ((au t s.ah).1.drop k) (acc.drop k)=j9 {t with ix:=nO t t.ix (au t s.ah).1} (au t s.ah).1 acc)∧(∀o∈M,nC o)∧(rY M ad cap Sr)∧(M.length=t.rows.length)∧(∀i∈(au t s.ah).1,∃h:i.toNat<M.length,Pc.dU dG M[i.toNat].r=0∧∀v∈M[i.toNat].r,v.Ok)∧(iy y (n+k))∧aK=(⟨205,(161,.v (.int .i64 (k:Nat)))::aW,(⟨b3,42,12,bY s⟩::⟨bt,48,pH,pre++([.v (.string t.nm),.list 2 (t.av.flatMap cC) t.av.length,.v (.slice ad t.rows.length cap),.list 5 (y.af.flatMap cP) y.af.length,.v (.int .i64 y.root)]++post)⟩::(Sr++M.flatMap bR))⟩:St)) (fun (E:Nat×List cf×aE)=>match E with|(k,M,y)=>(au t s.ah).1.length-k) (0,L,x) ⟨(Nat.zero_le _),(by rw[hL,xH];rfl),aQ,kf,rh,hl5,gx,rfl⟩ ?_;rintro⟨k,M,y⟩ _ ⟨dH,Aa,Z,vv,wQ,Xa,gy,rfl⟩;refine ae [0,9,10,159,160,161,162] ?_;refine aq (fun th rH=>?_) (fun th rH=>?_)
 ·have aa:k<(au t s.ah).1.length:=(by omega)
  have di:k<acc.length:=(by omega)
  have jh:(au t s.ah).1.drop k=((au t s.ah).1[k]'aa)::(au t s.ah).1.drop (k+1):=drop_eq_getElem_cons aa;have kX:acc.drop k=(acc[k]'di)::acc.drop (k+1):=drop_eq_getElem_cons di;obtain⟨gJ,O,oN⟩:=l9 _ (getElem_mem aa);obtain⟨fQ,Xb,hx6⟩:=Xa _ (getElem_mem aa);have rq:=oX Xb;obtain⟨aiR,UU,aiS⟩:=UR _ (getElem_mem di);have xL:(acc[k]'di).k≠0∧jB (dG[0]'w7).k (acc[k]'di):=(by have h1:=aiS xO;refine⟨h1,UU.1,?_⟩;have h2:=UU.2;have aiT:bL dG s.set=0:=(by rw[←g.av];exact xO);have Xc:=hC;simp only[g.av,aiT] at Xc;have h3:(dZ dG s.bE).1=(dG[0]'w7).k∨(dZ dG s.bE).1=0:=(Classical.em ((dZ dG s.bE).1=(dG[0]'w7).k)).imp id fun h=>Classical.not_not.1 fun h'=>Xc ⟨h,h'⟩;omega)
  obtain⟨br,rfl,tT,tU,rfl⟩:=vv.pos w4;obtain⟨I,xN,B4,Dp,MV⟩:=(Z _ (getElem_mem fQ)).pos w4;have jD:∀o∈(M.set ((au t s.ah).1[k]'aa).toNat (⟨M[((au t s.ah).1[k]'aa).toNat].r.set 0 (acc[k]'di),some ⟨I,0,none⟩,M[((au t s.ah).1[k]'aa).toNat].cap,[⟨I,30,M[((au t s.ah).1[k]'aa).toNat].cap*3,(M[((au t s.ah).1[k]'aa).toNat].r.set 0 (acc[k]'di)).flatMap cV⟩]⟩:cf)),nC o:=fun o ho=>by rcases mem_or_eq_of_mem_set ho with h|h;exact Z o h;rw[h];exact bI (g:=cV) FV Dp
  have MW:(M.set ((au t s.ah).1[k]'aa).toNat (⟨M[((au t s.ah).1[k]'aa).toNat].r.set 0 (acc[k]'di),some ⟨I,0,none⟩,M[((au t s.ah).1[k]'aa).toNat].cap,[⟨I,30,M[((au t s.ah).1[k]'aa).toNat].cap*3,(M[((au t s.ah).1[k]'aa).toNat].r.set 0 (acc[k]'di)).flatMap cV⟩]⟩:cf)).flatMap gR=M.flatMap gR:=I2 M _ fQ _ (by show[D.v (.slice _ (M[((au t s.ah).1[k]'aa).toNat].r.set 0 (acc[k]'di)).length _)]=[D.v (.slice _ _ _)];rw[length_set,xN]);have BW:rY (M.set ((au t s.ah).1[k]'aa).toNat (⟨M[((au t s.ah).1[k]'aa).toNat].r.set 0 (acc[k]'di),some ⟨I,0,none⟩,M[((au t s.ah).1[k]'aa).toNat].cap,[⟨I,30,M[((au t s.ah).1[k]'aa).toNat].cap*3,(M[((au t s.ah).1[k]'aa).toNat].r.set 0 (acc[k]'di)).flatMap cV⟩]⟩:cf)) (some ⟨br,0,none⟩) cap [⟨br,27,cap*1,M.flatMap gR⟩]:=(by rw[←MW];exact bI (by rw[length_set];exact tT) tU)
  have TL:Pc.dU dG (M[((au t s.ah).1[k]'aa).toNat].r.set 0 (acc[k]'di))=0:=RS Xb w7 xL.2 (fun _=>xL.1);have wK:∀v∈M[((au t s.ah).1[k]'aa).toNat].r.set 0 (acc[k]'di),v.Ok:=fun v hv=>by rcases mem_or_eq_of_mem_set hv with h|h;exact hx6 v h;rw[h];exact aiR
  have aiU:∀i∈(au t s.ah).1,∃h:i.toNat<(M.set ((au t s.ah).1[k]'aa).toNat (⟨M[((au t s.ah).1[k]'aa).toNat].r.set 0 (acc[k]'di),some ⟨I,0,none⟩,M[((au t s.ah).1[k]'aa).toNat].cap,[⟨I,30,M[((au t s.ah).1[k]'aa).toNat].cap*3,(M[((au t s.ah).1[k]'aa).toNat].r.set 0 (acc[k]'di)).flatMap cV⟩]⟩:cf)).length,Pc.dU dG (M.set ((au t s.ah).1[k]'aa).toNat (⟨M[((au t s.ah).1[k]'aa).toNat].r.set 0 (acc[k]'di),some ⟨I,0,none⟩,M[((au t s.ah).1[k]'aa).toNat].cap,[⟨I,30,M[((au t s.ah).1[k]'aa).toNat].cap*3,(M[((au t s.ah).1[k]'aa).toNat].r.set 0 (acc[k]'di)).flatMap cV⟩]⟩:cf))[i.toNat].r=0∧∀v∈(M.set ((au t s.ah).1[k]'aa).toNat (⟨M[((au t s.ah).1[k]'aa).toNat].r.set 0 (acc[k]'di),some ⟨I,0,none⟩,M[((au t s.ah).1[k]'aa).toNat].cap,[⟨I,30,M[((au t s.ah).1[k]'aa).toNat].cap*3,(M[((au t s.ah).1[k]'aa).toNat].r.set 0 (acc[k]'di)).flatMap cV⟩]⟩:cf))[i.toNat].r,v.Ok:=fun i hi=>by obtain⟨h1,h2⟩:=Xa i hi;refine⟨by rw[length_set];exact h1,?_⟩;rw[getElem_set];split;exact⟨TL,wK⟩;exact h2
  have dR:=ux TL;have UW:=Jl (G:=G) hG (M[((au t s.ah).1[k]'aa).toNat].r.set 0 (acc[k]'di)) u7 u7 wK;have Dq:=Qi (G:=G) gy (cQ (M[((au t s.ah).1[k]'aa).toNat].r.set 0 (acc[k]'di))) ((au t s.ah).1[k]'aa);unfold Tw.cT at Dq
  have UX:j9 {t with ix:=nO t t.ix (au t s.ah).1} (au t s.ah).1 acc=if gU y (cQ (M[((au t s.ah).1[k]'aa).toNat].r.set 0 (acc[k]'di))) (dz y)=true then ({t with rows:=M.map cf.r,ix:=y},9) else j9 {t with rows:=(M.set ((au t s.ah).1[k]'aa).toNat (⟨M[((au t s.ah).1[k]'aa).toNat].r.set 0 (acc[k]'di),some ⟨I,0,none⟩,M[((au t s.ah).1[k]'aa).toNat].cap,[⟨I,30,M[((au t s.ah).1[k]'aa).toNat].cap*3,(M[((au t s.ah).1[k]'aa).toNat].r.set 0 (acc[k]'di)).flatMap cV⟩]⟩:cf)).map cf.r,ix:=(gp y (dz y) (cQ (M[((au t s.ah).1[k]'aa).toNat].r.set 0 (acc[k]'di))) ((au t s.ah).1[k]'aa))} ((au t s.ah).1.drop (k+1)) (acc.drop (k+1)):=by rw[←Aa,jh,kX,j9,RU (o:=(⟨M[((au t s.ah).1[k]'aa).toNat].r.set 0 (acc[k]'di),some ⟨I,0,none⟩,M[((au t s.ah).1[k]'aa).toNat].cap,[⟨I,30,M[((au t s.ah).1[k]'aa).toNat].cap*3,(M[((au t s.ah).1[k]'aa).toNat].r.set 0 (acc[k]'di)).flatMap cV⟩]⟩:cf)) fQ rfl,OU qP,show((M.set ((au t s.ah).1[k]'aa).toNat (⟨M[((au t s.ah).1[k]'aa).toNat].r.set 0 (acc[k]'di),some ⟨I,0,none⟩,M[((au t s.ah).1[k]'aa).toNat].cap,[⟨I,30,M[((au t s.ah).1[k]'aa).toNat].cap*3,(M[((au t s.ah).1[k]'aa).toNat].r.set 0 (acc[k]'di)).flatMap cV⟩]⟩:cf))[((au t s.ah).1[k]'aa).toNat]'qP)=(⟨M[((au t s.ah).1[k]'aa).toNat].r.set 0 (acc[k]'di),some ⟨I,0,none⟩,M[((au t s.ah).1[k]'aa).toNat].cap,[⟨I,30,M[((au t s.ah).1[k]'aa).toNat].cap*3,(M[((au t s.ah).1[k]'aa).toNat].r.set 0 (acc[k]'di)).flatMap cV⟩]⟩:cf) from getElem_set_self _]
  refine CD.perm (Qu fQ MV) ?_;refine ae [0,9,10,19,20,159,160,161] ?_;refine CD.seq ?_;refine lX 11 [0,9,10,20,159,160,161,172,176] ?_;refine aP 3 ?_ (h:=by exact(nZ 2));refine aP 1 ?_ (h:=by exact(dx 1 (h:=by first|exact .l (j:=((au t s.ah).1[k]'aa).toNat) (Int.toNat_of_nonneg gJ).symm u9|exact .r (j:=((au t s.ah).1[k]'aa).toNat) (Int.toNat_of_nonneg gJ).symm u9)));refine aP 0 ?_ (h:=by exact(cH (mk:=Op.load 27) rfl ot (iL (k:=3) (i:=((au t s.ah).1[k]'aa).toNat) (ls:=M) (d:=.v (.slice (some ⟨I,0,none⟩) M[((au t s.ah).1[k]'aa).toNat].r.length M[((au t s.ah).1[k]'aa).toNat].cap)) uE rfl rfl rfl isAgg27 fQ (by rw[←xN];rfl))));refine bG ?_;refine bQ (qq (mk:=Op.indexAddr 27) rfl ot bH (by first|exact rC runUnderlying27 sizeOf30 (j:=0) rfl (by rw[rq];decide)|exact rF runUnderlying27 sizeOf30 (j:=0) rfl (by rw[rq];decide))) ?_;refine OD.storeAt (k:=0) (cs':=(M[((au t s.ah).1[k]'aa).toNat].r.set 0 (acc[k]'di)).flatMap cV) an rfl rfl ot rfl rfl ot rfl rfl sizeOf30 rfl (by show 0+0*3+3≤(M[((au t s.ah).1[k]'aa).toNat].r.flatMap cV).length;rw[cr e9,rq];omega) (by show cZ (M[((au t s.ah).1[k]'aa).toNat].r.flatMap cV) (0+0*3) (cV (acc[k]'di))=_;rw[Nat.zero_add];exact og e9 _ _ (by rw[rq];omega)) ?_;refine aj 205 [0,9,10,20,159,160,161] ?_;refine CD.seq ?_
  rcases iI:gU y (cQ (M[((au t s.ah).1[k]'aa).toNat].r.set 0 (acc[k]'di))) (dz y) with _|_
  ·rw[SU gy w4 dR gJ iI] at Dq;have gy2:iy (gp y (dz y) (cQ (M[((au t s.ah).1[k]'aa).toNat].r.set 0 (acc[k]'di))) ((au t s.ah).1[k]'aa)) (n+(k+1)):=(Ec gy w4 ((Ed gy).1 iI) dR gJ).1;have aiV:j9 {t with rows:=(M.set ((au t s.ah).1[k]'aa).toNat (⟨M[((au t s.ah).1[k]'aa).toNat].r.set 0 (acc[k]'di),some ⟨I,0,none⟩,M[((au t s.ah).1[k]'aa).toNat].cap,[⟨I,30,M[((au t s.ah).1[k]'aa).toNat].cap*3,(M[((au t s.ah).1[k]'aa).toNat].r.set 0 (acc[k]'di)).flatMap cV⟩]⟩:cf)).map cf.r,ix:=(gp y (dz y) (cQ (M[((au t s.ah).1[k]'aa).toNat].r.set 0 (acc[k]'di))) ((au t s.ah).1[k]'aa))} ((au t s.ah).1.drop (k+1)) (acc.drop (k+1))=j9 {t with ix:=nO t t.ix (au t s.ah).1} (au t s.ah).1 acc:=(by rw[UX,if_neg wT])
   refine tO 18 17 [0,9,10,21,159,160,161,193,194] ?_;refine aP 3 ?_ (h:=by exact(wM 2));refine aP 3 ?_ (h:=by exact(nZ 2));refine aP 1 ?_ (h:=by exact(dx 1 (h:=by first|exact .l (j:=((au t s.ah).1[k]'aa).toNat) (Int.toNat_of_nonneg gJ).symm u9|exact .r (j:=((au t s.ah).1[k]'aa).toNat) (Int.toNat_of_nonneg gJ).symm u9)));refine aP 0 ?_ (h:=by exact(cH (mk:=Op.load 27) rfl ot (iL (k:=3) (i:=((au t s.ah).1[k]'aa).toNat) (ls:=M) (d:=.v (.slice (some ⟨I,0,none⟩) (M[((au t s.ah).1[k]'aa).toNat].r.set 0 (acc[k]'di)).length M[((au t s.ah).1[k]'aa).toNat].cap)) uE rfl rfl rfl isAgg27 fQ (by rw[←xN,length_set];rfl))));refine yZ (UW) (fun r S h=>h.flat) (fun r S h=>h.view) (ha:=by exact⟨⟨_,ot,(kZ (bI (g:=cV) FV Dp) (cr e9 _) (fun B U=>by rw[mem_singleton] at U;rw[U];exact mem_cons_self))⟩,trivial⟩) (K:=?_);refine cU (Dq) ?_;refine mX 3 ?_;refine qW ?_;refine jQ ?_;refine⟨rfl,fun Cw=>?_⟩;refine aN 0 [_,_] sizeOf46 ?_;refine aj 205 [0,9,10,21,22,159,160,161] ?_;refine ae [0,9,10,21,22,159,160,161,196] ?_;refine aq (fun oZ s8=>?_) (fun oZ s8=>?_)
   ·exact absurd oZ (by simp at oZ)
   refine dK 4 ?_;refine OD.storeAt (k:=3) (cs':=pre++([.v (.string t.nm),.list 2 (t.av.flatMap cC) t.av.length,.v (.slice (some ⟨br,0,none⟩) t.rows.length cap),.list 5 ((gp y (dz y) (cQ (M[((au t s.ah).1[k]'aa).toNat].r.set 0 (acc[k]'di))) ((au t s.ah).1[k]'aa)).af.flatMap cP) (gp y (dz y) (cQ (M[((au t s.ah).1[k]'aa).toNat].r.set 0 (acc[k]'di))) ((au t s.ah).1[k]'aa)).af.length,.v (.int .i64 (gp y (dz y) (cQ (M[((au t s.ah).1[k]'aa).toNat].r.set 0 (acc[k]'di))) ((au t s.ah).1[k]'aa)).root)]++post)) an rfl rfl ot rfl rfl ot rfl rfl sizeOf46 rfl (by show off+3+2≤(pre++(([.v (.string t.nm),.list 2 (t.av.flatMap cC) t.av.length,.v (.slice (some ⟨br,0,none⟩) t.rows.length cap),.list 5 (y.af.flatMap cP) y.af.length,.v (.int .i64 y.root)]:List D)++post)).length;simp only[length_append,length_cons,length_nil];omega) (by exact AO (j:=3) hp aO rfl) ?_;refine aj 205 [0,9,10,159,160,161] ?_;refine dK 1 ?_;refine OD.perm ((RT fQ (o:=(⟨M[((au t s.ah).1[k]'aa).toNat].r.set 0 (acc[k]'di),some ⟨I,0,none⟩,M[((au t s.ah).1[k]'aa).toNat].cap,[⟨I,30,M[((au t s.ah).1[k]'aa).toNat].cap*3,(M[((au t s.ah).1[k]'aa).toNat].r.set 0 (acc[k]'di)).flatMap cV⟩]⟩:cf)) rfl).cons _) ?_;refine aj 205 [0,9,10,159,160,161] ?_
   refine⟨((k+1),(M.set ((au t s.ah).1[k]'aa).toNat (⟨M[((au t s.ah).1[k]'aa).toNat].r.set 0 (acc[k]'di),some ⟨I,0,none⟩,M[((au t s.ah).1[k]'aa).toNat].cap,[⟨I,30,M[((au t s.ah).1[k]'aa).toNat].cap*3,(M[((au t s.ah).1[k]'aa).toNat].r.set 0 (acc[k]'di)).flatMap cV⟩]⟩:cf)),(gp y (dz y) (cQ (M[((au t s.ah).1[k]'aa).toNat].r.set 0 (acc[k]'di))) ((au t s.ah).1[k]'aa))),_,cz,aM,w4,aiV,jD,BW,(by rw[length_set];exact wQ),aiU,gy2,rfl⟩
  rw[ac7 gy dR gJ iI] at Dq;have aS:gG t s=(t,0,9):=(by unfold gG;rw[if_neg hA,if_neg U,if_neg hC,if_neg hD,if_neg hN,if_neg hP,Dn,UX,if_pos iI];exact if_pos (show(9:Int)≠0 by decide))
  refine tO 18 17 [0,9,10,21,159,160,161,193,194] ?_;refine aP 3 ?_ (h:=by exact(wM 2));refine aP 3 ?_ (h:=by exact(nZ 2));refine aP 1 ?_ (h:=by exact(dx 1 (h:=by first|exact .l (j:=((au t s.ah).1[k]'aa).toNat) (Int.toNat_of_nonneg gJ).symm u9|exact .r (j:=((au t s.ah).1[k]'aa).toNat) (Int.toNat_of_nonneg gJ).symm u9)));refine aP 0 ?_ (h:=by exact(cH (mk:=Op.load 27) rfl ot (iL (k:=3) (i:=((au t s.ah).1[k]'aa).toNat) (ls:=M) (d:=.v (.slice (some ⟨I,0,none⟩) (M[((au t s.ah).1[k]'aa).toNat].r.set 0 (acc[k]'di)).length M[((au t s.ah).1[k]'aa).toNat].cap)) uE rfl rfl rfl isAgg27 fQ (by rw[←xN,length_set];rfl))));refine yZ (UW) (fun r S h=>h.flat) (fun r S h=>h.view) (ha:=by exact⟨⟨_,ot,(kZ (bI (g:=cV) FV Dp) (cr e9 _) (fun B U=>by rw[mem_singleton] at U;rw[U];exact mem_cons_self))⟩,trivial⟩) (K:=?_);refine cU (Dq) ?_;refine mX 3 ?_;refine qW ?_;refine jQ ?_;refine⟨rfl,fun Cw=>?_⟩;refine aN 0 [_,_] sizeOf46 ?_;refine aj 205 [0,9,10,21,22,159,160,161] ?_;refine ae [0,9,10,21,22,159,160,161,196] ?_;refine aq (fun oZ s8=>?_) (fun oZ s8=>?_)
  ·exact wA
  exact absurd oZ (by simp at oZ)
 have agc:j9 {t with ix:=nO t t.ix (au t s.ah).1} (au t s.ah).1 acc=({t with rows:=M.map cf.r,ix:=y},0):=(by rw[←Aa,drop_of_length_le (l:=(au t s.ah).1) w4,aad])
 have aS:gG t s=({t with rows:=M.map cf.r,ix:=y},((au t s.ah).1.length:Int),0):=(by unfold gG;rw[if_neg hA,if_neg U,if_neg hC,if_neg hD,if_neg hN,if_neg hP,Dn,agc];exact if_neg (fun h=>h rfl))
 refine ae [4,5] ?_;refine aJ (⟨bt,48,pH,pre++(_++post)⟩::(Sr++M.flatMap bR)) ?_;rw[aS];exact⟨rfl,fun _=>⟨M,ad,cap,Sr,⟨rfl,Z,vv⟩,by simp only[tC,length_map,wQ]⟩⟩

open Go.Proofs.YtbcmjoaggammcaaGreatDoor.So
def Bl(p:(List (List Vl)×Int)×Int)(r:D)(S:List ag):Prop:=∃(L:List cf) (ad:Option Addr) (cap:Nat) (Sx:List ag),r = .dy [.agg [.v (.slice ad L.length cap),.v (.int .i64 p.1.2)],.v (.int .i64 p.2)]∧rY L ad cap Sx∧(∀o∈L,nC o)∧L.map cf.r=p.1.1∧S=Sx++L.flatMap bR
theorem Bl.view{r:D}(h:Bl p r S):View S r (Dk p):=by
 obtain⟨L,ad,cap,Sx,rfl,ho,aQ,hL,rfl⟩:=h;unfold Dk;rw[←hL,length_map];exact D3 ⟨um ⟨Am ho (Ey aQ fun B E=>mem_append_right _ E) (by rw[cr kN,length_map]) (fun B E=>mem_append_left _ E),eL,trivial⟩,eL,trivial⟩
theorem aeU(l:List Vl):∀d∈l.flatMap cV,ku d=true:=fun d hd=>by
 obtain⟨v,_,hv⟩:=mem_flatMap.1 hd;unfold cV at hv;simp only[mem_cons,not_mem_nil,or_false] at hv;rcases hv with rfl|rfl|rfl<;>rfl
theorem aeV(l:List cf):∀d∈l.flatMap gR,ku d=true:=fun d hd=>by
 obtain⟨v,_,hv⟩:=mem_flatMap.1 hd;unfold gR at hv;rw[mem_singleton] at hv;subst hv;rfl
theorem Bl.flat{r:D}(h:Bl p r S):ku r=true∧∀B∈S,∀d∈B.cs,ku d=true:=by
 obtain⟨L,ad,cap,Sx,rfl,ho,aQ,hL,rfl⟩:=h;refine⟨rfl,fun B E=>?_⟩;rcases mem_append.1 E with E|E
 ·rcases ho with ⟨_,_,_,_,rfl⟩|⟨b,_,_,_,rfl⟩
  ·cases E
  rw[mem_singleton] at E;subst E;exact aeV L
 obtain⟨o,I,E⟩:=mem_flatMap.1 E;have h1:=aQ o I;unfold bR at E;rcases h1 with ⟨_,_,_,_,h2⟩|⟨b,_,_,_,h2⟩
 ·rw[h2] at E;cases E
 rw[h2,mem_singleton] at E;subst E;exact aeU o.r
theorem aeW(g:eW t n)(s:cN):r8 t s<4:=by
 unfold r8;split
 ·decide
 have:=(Jo (l:=t.av) (nm:=s.order)).2;rw[g.av] at this ⊢;exact this
theorem agd(g:eW t n){names:List ByteArray}(h:∀n∈names,0≤bL t.av n):∀c∈vu t names,0≤c∧c.toNat<4:=fun c hc=>by
 have h4:t.av.length=4:=(by rw[g.av];rfl)
 unfold vu at hc;split at hc
 ·obtain⟨i,hi,rfl⟩:=mem_map.1 hc;have:=mem_range.1 hi;constructor
  ·exact Int.natCast_nonneg i
  show i<4;omega
 obtain⟨x,hx,rfl⟩:=mem_map.1 hc;have:=(Jo (l:=t.av) (nm:=x)).2;have:=h x hx;omega
theorem age(f:ag→Nat):(((L++[o]).flatMap bR).map f).sum=((L.flatMap bR).map f).sum+(o.S.map f).sum:=by
 rw[RG];simp only[bR,map_append,sum_append]
theorem OV:(Tryz.prog.info? 3).map (fun i=>(i.zero,i.size,i.bytes))=some (some (.int .i64 0),1,8):=by kernel_rfl
theorem YO:(Tryz.prog.info? 27).map (fun i=>(i.zero,i.size,i.bytes))=some (some (.slice none 0 0),1,24):=by kernel_rfl
theorem YP:(Tryz.prog.info? 30).map (fun i=>(i.zero,i.size,i.bytes))=some (some (.agg #[.int .i64 0,.int .i64 0,.string ⟨#[]⟩]),3,32):=by kernel_rfl
theorem adt(hm:(3,marksC)∈G)(hw:(2,wordsC)∈G)(ht:(0,typesC)∈G)(hG:(1,[Value.int .i64 m])∈G)(t:aU)(g:eW t n)(s:cN)(so:s.names.length≤1000)(ho:∀o∈s.ah,o.nm.size≤maxLen)(fI:∀o∈s.ah,o.v.Ok):VC Tryz.prog G 50 [.agg (dJ t),.agg (bY s)] [] (Bl (pY t s)):=by
 refine VC.body func50 rfl ntmps50 aO fun X0 w0 aZ=>?_;have dr:maxLen=9223372036854775807:=rfl;have Aa:=Jn (G:=G) hm hw ht hG t g s.ah ho fI;have Dl:=EC g s.ah;have l9:=uF g s.ah;have MX:=Ia g s.ah;obtain⟨M,hM⟩:∃M,M=au t s.ah:=⟨_,rfl⟩
 rw[←hM] at Aa Dl l9 MX;obtain⟨sl,em⟩:=M;dsimp only at Dl l9 MX;have mw:=g.eI;have aiO:t.av.length=4:=(by rw[g.av];rfl)
 unfold dJ at Aa;unfold dJ bY;refine cj ?_;refine OD.box (ds:=[_,_,_,_,_]) an rfl rfl ot rfl rfl (fun b2=>?_);refine OD.box (ds:=[_,_,_,_,_,_,_,_,_,_,_,_]) an rfl rfl ot rfl rfl (fun b3=>?_);refine OD.alloc (ds:=[_,_]) an rfl rfl zeroValue35 rfl (fun b4=>?_);refine aj 135 [2,3,4] ?_;refine cj ?_;refine aY [2,3,4,6] ?_;refine ae [2,3,4,6,21,22,23] ?_;refine eH [2,3,4,21,22] (fun aW _ (O:Nat×List Int×Option Addr×Nat×List ag) aK=>match O with|(i,acc,Z,nD,Sa)=>(i≤s.names.length)∧(acc=(s.names.take i).map (bL t.av))∧(∀x∈s.names.take i,0≤bL t.av x)∧(bq 3 1 ((acc).flatMap Tw.cI) (acc).length Z nD Sa)∧aK=(⟨135,(6,.v (.slice Z (acc).length nD))::(23,.v (.int .i64 (i:Nat)))::aW,(⟨b4,35,2,[.v (.slice none 0 0),.v (.int .i64 0)]⟩::⟨b3,42,12,bY s⟩::⟨b2,48,5,dJ t⟩::Sa)⟩:St)) (fun (O:Nat×List Int×Option Addr×Nat×List ag)=>match O with|(i,acc,Z,nD,Sa)=>s.names.length-i) (0,([]:List Int),none,0,[]) ⟨(Nat.zero_le _),rfl,(fun x h=>by cases h),(bq.cast iC lB),rfl⟩ ?_;rintro⟨i,acc,Z,nD,Sa⟩ _ ⟨hi,wL,jP,nX,rfl⟩;refine ae [2,3,4,6,21,22,23,24] ?_;refine aq (fun az aG=>?_) (fun az aG=>?_)
 ·have aa:i<s.names.length:=(by omega)
  have eZ:=Hy (G:=G) t w4 s.names[i];unfold dJ at eZ;have qZ:acc.length=i:=(by rw[wL,length_map,length_take];omega)
  refine ae [2,3,4,6,8,21,22,23] ?_;refine cM [2,3,4,6,9,21,22,23] (eZ) ?_;refine ae [2,3,4,6,9,21,22,23,31] ?_;refine aq (fun aH aT=>?_) (fun aH aT=>?_)
  ·have BX:bL t.av s.names[i]<0:=(by simpa using aH)
   have aS:pY t s=(([],0),8):=if_pos (any_eq_true.2 ⟨s.names[i],getElem_mem _,decide_eq_true BX⟩);refine aC 1 ?_;refine aN 0 [_,_] sizeOf35 ?_;exact LC
  have BX:¬bL t.av s.names[i]<0:=(by simpa using aH)
  have aiW:∀x∈s.names.take (i+1),0≤bL t.av x:=fun x hx=>by rw[take_succ_eq_append_getElem aa] at hx;rcases mem_append.1 hx with hx|hx;exact jP x hx;rw[mem_singleton] at hx;subst hx;omega
  refine dK 2 ?_;refine ei (cc 0 [_]) [.int .i64 0] [_] zeroValue3 runUnderlying91 sizeOf3 (fun b35=>?_);refine fH 0 35 1 1 ?_;refine OD.ee (ls:=(acc)) (new:=[bL t.av s.names[i]]) (Sq:=Sa) Tw.eu Tw.ng an rfl rfl underlying91 OV rfl w7 ot nX (dA (A:=[_,_,_])) ot bu nv nw (fun Gm KR aiX aiY=>?_);refine OD.perm (dV (S1:=[⟨Gm,3,KR*1,flatMap Tw.cI ((acc)++[bL t.av s.names[i]])⟩]) (A:=[_,_,_])) ?_;refine aj 135 [2,3,4,6,21,22,23] ?_;refine cg [2,3,4,6,21,22,23] ?_;refine⟨((i+1),(acc++[bL t.av s.names[i]]),(some ⟨Gm,0,none⟩),KR,[⟨Gm,3,KR*1,flatMap Tw.cI ((acc)++[bL t.av s.names[i]])⟩]),_,cz,aM,w4,(by rw[wL,←pK aa,map_append];rfl),aiW,(bq.cast (bI aiX aiY) lB),rfl⟩
 have vo:s.names.take i=s.names:=take_of_length_le w4;rw[vo] at wL jP;have FK:¬(s.names.any fun n=>decide (bL t.av n<0))=true:=fun h=>by obtain⟨x,h1,h2⟩:=any_eq_true.1 h;have:=jP x h1;have:=of_decide_eq_true h2;omega
 refine CD.exit ?_;refine jI [2,3,4] (fun aW _ aK=>∃(acc:List Int),∃(Z:Option Addr),∃(nD:Nat),∃(Sa:List ag),(acc=vu t s.names)∧(bq 3 1 (acc.flatMap Tw.cI) acc.length Z nD Sa)∧aK=(⟨135,(6,.v (.slice Z acc.length nD))::aW,(⟨b4,35,2,[.v (.slice none 0 0),.v (.int .i64 0)]⟩::⟨b3,42,12,bY s⟩::⟨b2,48,5,dJ t⟩::Sa)⟩:St)) ?_ ?_
 ·refine ae [2,3,4,6,41] ?_;refine aq (fun aX bw=>?_) (fun aX bw=>?_)
  ·have gv:s.names.length=0:=(by simpa using aX)
   have aiZ:acc=[]:=(by rw[wL,length_eq_zero_iff.1 gv];rfl)
   refine ae [2,3,4,6,44,45] ?_;refine eH [2,3,4,44] (fun aW _ (O:Nat×List Int×Option Addr×Nat×List ag) aK=>match O with|(j,U,Z,nD,Sa)=>(j≤t.av.length)∧(U=(range j).map Int.ofNat)∧(bq 3 1 ((U).flatMap Tw.cI) (U).length Z nD Sa)∧aK=(⟨135,(6,.v (.slice Z (U).length nD))::(45,.v (.int .i64 (j:Nat)))::aW,(⟨b4,35,2,[.v (.slice none 0 0),.v (.int .i64 0)]⟩::⟨b3,42,12,bY s⟩::⟨b2,48,5,dJ t⟩::Sa)⟩:St)) (fun (O:Nat×List Int×Option Addr×Nat×List ag)=>match O with|(j,U,Z,nD,Sa)=>t.av.length-j) (0,acc,Z,nD,Sa) ⟨(Nat.zero_le _),aiZ,(bq.cast nX lB),rfl⟩ ?_;rintro⟨j,U,Z,nD,Sa⟩ _ ⟨hj,JW,nX,rfl⟩;refine ae [2,3,4,6,44,45,46] ?_;refine aq (fun bC bW=>?_) (fun bC bW=>?_)
   ·have an6:j<t.av.length:=(by omega)
    have an7:U.length=j:=(by rw[JW,length_map,length_range])
    refine ae [2,3,4,6,10,44,45] ?_;refine dK 2 ?_;refine ei (cc 0 [_]) [.int .i64 0] [_] zeroValue3 runUnderlying91 sizeOf3 (fun CG=>?_);refine fH 0 50 1 1 ?_;refine OD.ee (ls:=(U)) (new:=[(j:Int)]) (Sq:=Sa) Tw.eu Tw.ng an rfl rfl underlying91 OV rfl w7 ot nX (dA (A:=[_,_,_])) ot bu nv nw (fun MY KS ai0 ai3=>?_);refine OD.perm (dV (S1:=[⟨MY,3,KS*1,flatMap Tw.cI ((U)++[(j:Int)])⟩]) (A:=[_,_,_])) ?_;refine aj 135 [2,3,4,6,44,45] ?_;refine cg [2,3,4,6,44,45] ?_;refine⟨((j+1),(U++[(j:Int)]),(some ⟨MY,0,none⟩),KS,[⟨MY,3,KS*1,flatMap Tw.cI ((U)++[(j:Int)])⟩]),_,cz,aM,w4,(by rw[JW,range_succ,map_append];rfl),(bq.cast (bI ai0 ai3) lB),rfl⟩
   have hjf:U=vu t s.names:=(by unfold vu;rw[if_pos gv,JW,show j=t.av.length by omega])
   refine CD.exit ?_;refine⟨_,aM,(U),Z,nD,Sa,hjf,nX,rfl⟩
  have gv:¬s.names.length=0:=(by simpa using aX)
  refine CD.skip ?_;refine⟨_,aM,(acc),Z,nD,Sa,(by unfold vu;rw[if_neg gv];exact wL),nX,rfl⟩
 rintro _ ⟨acc,Z,nD,Sa,ua,nX,rfl⟩;refine CD.seq ?_;refine CD.gW (t:=6) (Sq:=Sa) lk nX (cr Tw.eu _) (dA (A:=[_,_,_])) ?_;refine sF ?_;refine OD.alloc (ds:=[_]) an rfl rfl zeroValue3 rfl (fun kE=>?_);refine aN 0 [_] sizeOf3 ?_;refine aj 135 [2,3,4,6,11] ?_;refine jI [2,3,4,6,11] (fun aW _ aK=>∃(ov:Int),(0≤ov)∧(ov=r8 t s)∧aK=(⟨135,aW,[⟨kE,3,1,[.v (.int .i64 ov)]⟩,⟨b4,35,2,[.v (.slice none 0 0),.v (.int .i64 0)]⟩,⟨b3,42,12,bY s⟩,⟨b2,48,5,dJ t⟩]⟩:St)) ?_ ?_
 ·refine ae [2,3,4,6,11,55] ?_;refine aq (fun cx c9=>?_) (fun cx c9=>?_)
  ·have Ab:¬(s.order.toList==(⟨#[]⟩:ByteArray).toList)=true:=(by rw[c9];decide)
   have UY:=Hy (G:=G) t w4 s.order;unfold dJ at UY;have Dr:r8 t s=bL t.av s.order:=if_neg Ab;refine aC 3 ?_;refine dS call86 (UY) ?_;refine aN 0 [_] sizeOf3 ?_;refine aj 135 [2,3,4,6,11] ?_;refine ae [2,3,4,6,11,61] ?_;refine aq (fun dN en=>?_) (fun dN en=>?_)
   ·have BX:r8 t s<0:=(by rw[Dr];simpa using dN)
    have aS:pY t s=(([],0),8):=(by unfold pY;rw[if_neg FK,if_pos BX])
    refine aC 1 ?_;refine aN 1 [_,_] sizeOf35 ?_;exact LC
   have BX:¬r8 t s<0:=(by rw[Dr];simpa using dN)
   refine CD.skip ?_;refine⟨_,aM,(bL t.av s.order),w4,Dr.symm,rfl⟩
  have Ab:(s.order.toList==(⟨#[]⟩:ByteArray).toList)=true:=c9;have Dr:r8 t s=0:=if_pos Ab;refine CD.skip ?_;refine⟨_,aM,0,(Int.le_refl 0),Dr.symm,rfl⟩
 rintro _ ⟨ov,ai4,mD,rfl⟩;refine aC 3 ?_;refine OD.call an rfl rfl rfl call87 Aa ⟨ot,ot,trivial⟩ (eK _) ?_;rintro _ Sx ⟨dQ,dD,rfl,ec⟩;refine OD.perm (dV (A:=[_,_,_,_])) ?_;refine aj 135 [2,3,4,6,11,12,13] ?_;refine ae [2,3,4,6,11,12,13,71] ?_;refine aq (fun eN fT=>?_) (fun eN fT=>?_)
 ·have GH:em≠0:=(by simpa using eN)
  have aS:pY t s=(([],0),em):=(by unfold pY;rw[if_neg FK,if_neg w4,←hM];exact if_pos GH)
  refine aC 2 ?_;refine aN 1 [_,_] sizeOf35 ?_;exact LC
 have GH:¬em≠0:=(by simpa using eN)
 refine CD.skip ?_;refine jI [2,3,4,6] (fun aW _ aK=>∃(on:Nat),∃(lz:List Int),((on:Int)=r8 t s)∧(lz=JU t s.down on sl)∧(lz.length=sl.length)∧(∀x∈lz,gg t x)∧aK=(⟨135,(12,.list 1 (lz.flatMap Tw.cI) lz.length)::aW,[⟨kE,3,1,[.v (.int .i64 (on:Nat))]⟩,⟨b4,35,2,[.v (.slice none 0 0),.v (.int .i64 0)]⟩,⟨b3,42,12,bY s⟩,⟨b2,48,5,dJ t⟩]⟩:St)) ?_ ?_
 ·obtain⟨on,rfl⟩:=Int.eq_ofNat_of_zero_le ai4;have jx:on<4:=(by have:=aeW g s;omega)
  rcases ec with ⟨hn,dj,rfl,rfl,rfl⟩|⟨bx,rfl,pI,oN,rfl⟩
  ·obtain rfl:=length_eq_zero_iff.1 hn;refine dK 1 ?_;refine bQ (oP (ds:=[_,_,_]) rfl ⟨ot,ot,ot,trivial⟩) ?_;refine dS call88 (abQ _) ?_;refine OD.wk (Wk.ur (t:=12) (sz:=1) lk) ?_;refine aj 135 [2,3,4,6,12] ?_;refine⟨_,aM,on,[],mD,(RQ ⟨Perm.refl _,Pairwise.nil⟩),rfl,(fun x h=>by cases h),rfl⟩
  refine dK 1 ?_;refine bQ (oP (ds:=[_,_,_]) rfl ⟨ot,ot,ot,trivial⟩) ?_;refine OD.call (Sf:=⟨bx,3,dD*1,sl.flatMap Tw.cI⟩::[⟨b2,48,5,dJ t⟩,⟨kE,3,1,[.v (.int .i64 (on:Nat))]⟩,⟨b3,42,12,bY s⟩]) (R:=[⟨b4,35,2,[.v (.slice none 0 0),.v (.int .i64 0)]⟩]) an rfl rfl rfl call88 (adi sl.length dD bx 89 [.v (.pointer (some ⟨b2,0,none⟩)),.v (.pointer (some ⟨kE,0,none⟩)),.v (.pointer (some ⟨b3,0,none⟩))] [⟨b2,48,5,dJ t⟩,⟨kE,3,1,[.v (.int .i64 (on:Nat))]⟩,⟨b3,42,12,bY s⟩] (lA t s.down on) (gg t) (GF t) (fun x y hx hy=>adn t g s on jx b2 kE b3 x y hx hy) call89 (fun h1 h2=>aeR t s.down on h1 h2) (fun x y h=>by have:=OR t s.down on x y;omega) pI oN Dl sl MX rfl l9) ⟨ot,ot,trivial⟩ (show([⟨kE,3,1,[.v (.int .i64 (on:Nat))]⟩,⟨b4,35,2,[.v (.slice none 0 0),.v (.int .i64 0)]⟩,⟨b3,42,12,bY s⟩,⟨b2,48,5,dJ t⟩]++[⟨bx,3,dD*1,sl.flatMap Tw.cI⟩]:List ag).Perm ((⟨bx,3,dD*1,sl.flatMap Tw.cI⟩::[⟨b2,48,5,dJ t⟩,⟨kE,3,1,[.v (.int .i64 (on:Nat))]⟩,⟨b3,42,12,bY s⟩])++[⟨b4,35,2,[.v (.slice none 0 0),.v (.int .i64 0)]⟩]) from(iu fun iS=>by simp only[map_append,map_cons,map_nil,sum_append,sum_cons,sum_nil];omega)) ?_;rintro _ _ ⟨rfl,lz,xE,rfl⟩;have lK:=xE.1.length_eq
  refine OD.perm (S':=⟨kE,3,1,[.v (.int .i64 (on:Nat))]⟩::⟨b4,35,2,[.v (.slice none 0 0),.v (.int .i64 0)]⟩::⟨b3,42,12,bY s⟩::⟨b2,48,5,dJ t⟩::[⟨bx,3,dD*1,lz.flatMap Tw.cI⟩]) (show((⟨bx,3,dD*1,lz.flatMap Tw.cI⟩::[⟨b2,48,5,dJ t⟩,⟨kE,3,1,[.v (.int .i64 (on:Nat))]⟩,⟨b3,42,12,bY s⟩])++[⟨b4,35,2,[.v (.slice none 0 0),.v (.int .i64 0)]⟩]:List ag).Perm _ from(iu fun iS=>by simp only[map_append,map_cons,map_nil,sum_append,sum_cons,sum_nil];omega)) ?_;rw[←lK];refine OD.gW (t:=12) (Sq:=[⟨bx,3,dD*1,lz.flatMap Tw.cI⟩]) lk (bI (by rw[lK];exact pI) oN) (cr Tw.eu _) (dA (A:=[_,_,_,_])) ?_;refine aj 135 [2,3,4,6,12] ?_;refine⟨_,aM,on,lz,mD,(RQ xE),(by first|exact lK|rfl),(fun x hx=>l9 x (xE.1.subset hx)),rfl⟩
 rintro _ ⟨on,lz,mD,TV,lK,TW,rfl⟩;refine jI [2,3,4,6] (fun aW uc aK=>∃(E:List Int),(E=vQ t s)∧(∀x∈E,gg t x)∧(E.length≤40)∧aK=(⟨135,(12,.list 1 (E.flatMap Tw.cI) E.length)::aW,uc⟩:St)) ?_ ?_
 ·refine aC 4 ?_;refine bS 80 (fun J3 ET=>?_) (fun J3 ET=>?_)
  ·refine aY [2,3,4,6,12,86] ?_;refine aq (fun eG fZ=>?_) (fun eG fZ=>?_)
   ·have mC:0≤s.gK∧s.gK<lz.length:=⟨ET,fZ⟩
    refine ij [2,3,4,6,12] ?_;refine aP 3 ?_ (h:=by exact(dY (l:=0) (h:=s.gK.toNat) rfl ot trivial ⟨_,by rw[Int.toNat_of_nonneg mC.1];exact ot⟩ (by exact nH Tw.eu (fun h=>by cases h) runUnderlying91 sizeOf3 w4)));refine bG ?_;refine⟨_,aM,(lz.take s.gK.toNat),(by unfold vQ uU;rw[←mD,Int.toNat_natCast,←hM,←TV,if_pos mC]),(fun x hx=>TW x (mem_of_mem_take hx)),nT,rfl⟩
   exact VG
  refine aY [2,3,4,6,12,86] ?_;refine fG ?_;exact VG
 rintro _ ⟨E,UZ,xB,an8,rfl⟩;refine aC 3 ?_;refine OD.alloc (ds:=[_,_]) an rfl rfl zeroValue35 rfl (fun zN=>?_);refine aN 0 [_,_] sizeOf35 ?_;refine aj 135 [2,3,4,6,12,14] ?_;refine ae [2,4,6,12,14,95] ?_;refine aq (fun kU tw=>?_) (fun kU tw=>?_)
 ·have BF:s.count=true:=kU;have aS:pY t s=(([[⟨2,((E.length:Nat):Int),⟨#[]⟩⟩]],((E.length:Nat):Int)),0):=(by unfold pY;rw[if_neg FK,if_neg w4,←hM,if_neg GH,if_pos BF,←UZ])
  refine aC 3 ?_;refine ei (cc 0 [_]) [.int .i64 0,.int .i64 0,.string ⟨#[]⟩] [_,_,_] zeroValue30 runUnderlying27 sizeOf30 (fun MZ=>?_);refine ei (cc 0 [_]) [.slice none 0 0] [_] zeroValue27 runUnderlying33 sizeOf27 (fun U0=>?_);refine aD 1 ?_;refine aN 2 [_,_] sizeOf33 ?_;refine aj 135 [4,14] ?_;refine aC 1 ?_;refine aN 4 [_,_] sizeOf35 ?_;refine aj 135 [4,5] ?_;refine aJ [_,_] ?_;rw[aS];exact⟨[⟨[⟨2,(E.length:Nat),⟨#[]⟩⟩],some ⟨MZ,0,none⟩,1,[⟨MZ,30,1*3,[⟨2,(E.length:Nat),⟨#[]⟩⟩].flatMap cV⟩]⟩],some ⟨U0,0,none⟩,1,[_],rfl,.inr ⟨U0,rfl,Nat.le_refl _,(show 1≤maxLen by decide),rfl⟩,(fun o ho=>by rw[mem_singleton] at ho;subst ho;exact .inr ⟨MZ,rfl,Nat.le_refl _,(show 1≤maxLen by decide),rfl⟩),rfl,rfl⟩
 have BF:¬s.count=true:=(by rw[kU];decide)
 have aS:pY t s=((E.map (zj t acc),((E.length:Nat):Int)),0):=(by unfold pY;rw[if_neg FK,if_neg w4,←hM,if_neg GH,if_neg BF,←UZ,←ua])
 have U1:=agd g jP;rw[←ua] at U1;have an9:acc.length≤1000:=(by rw[ua];unfold vu;split;(rw[length_map,length_range];omega);(rw[length_map];omega))
 refine ae [2,4,6,14,103,104,105] ?_;refine eH [2,4,6,14,103,104] (fun aW _ (O:Nat×List cf×Option Addr×Nat×List ag) aK=>match O with|(i,L,dQ,dD,Sx)=>(i≤E.length)∧(L.map cf.r=(E.take i).map (zj t acc))∧(∀o∈L,nC o)∧(rY L dQ dD Sx)∧aK=(⟨135,(105,.v (.int .i64 (i:Nat)))::aW,(⟨zN,35,2,[.v (.slice dQ L.length dD),.v (.int .i64 (E.length:Nat))]⟩::⟨kE,3,1,[.v (.int .i64 (on:Nat))]⟩::⟨b4,35,2,[.v (.slice none 0 0),.v (.int .i64 0)]⟩::⟨b3,42,12,bY s⟩::⟨b2,48,5,dJ t⟩::(Sx++L.flatMap bR))⟩:St)) (fun (O:Nat×List cf×Option Addr×Nat×List ag)=>match O with|(i,L,dQ,dD,Sx)=>E.length-i) (0,([]:List cf),none,0,[]) ⟨(Nat.zero_le _),rfl,(fun o h=>by cases h),iC,rfl⟩ ?_;rintro⟨i,L,dQ,dD,Sx⟩ _ ⟨hi,hL,aQ,ec,rfl⟩;refine ae [2,4,6,14,103,104,105,106] ?_;refine aq (fun sI wI=>?_) (fun sI wI=>?_)
 ·have aa:i<E.length:=(by omega)
  obtain⟨gJ,pI,oN⟩:=xB _ (getElem_mem aa);have rq:=oX (g.row _ pI oN).1;have rh:L.length=i:=(by have:=congrArg length hL;rw[length_map,length_map,length_take] at this;omega)
  refine ae [2,4,6,14,16,103,104,105] ?_;refine cj ?_;refine aY [2,4,6,14,16,17,103,104,105] ?_;refine ae [2,4,6,14,16,17,103,104,105,109,110,111] ?_;refine eH [2,4,6,14,16,103,104,105,109,110] (fun aW _ (O:Nat×List Vl×Option Addr×Nat×List ag) aK=>match O with|(j,I,ie,ig,Sy)=>(j≤acc.length)∧(I=(acc.take j).map fun c=>(rowAt t (E[i]'aa)).getD c.toNat bP)∧(bq 30 3 (I.flatMap cV) I.length ie ig Sy)∧aK=(⟨135,(17,.v (.slice ie I.length ig))::(111,.v (.int .i64 (j:Nat)))::aW,(⟨zN,35,2,[.v (.slice dQ L.length dD),.v (.int .i64 (E.length:Nat))]⟩::⟨kE,3,1,[.v (.int .i64 (on:Nat))]⟩::⟨b4,35,2,[.v (.slice none 0 0),.v (.int .i64 0)]⟩::⟨b3,42,12,bY s⟩::⟨b2,48,5,dJ t⟩::(Sy++(Sx++L.flatMap bR)))⟩:St)) (fun (O:Nat×List Vl×Option Addr×Nat×List ag)=>match O with|(j,I,ie,ig,Sy)=>acc.length-j) (0,([]:List Vl),none,0,[]) ⟨(Nat.zero_le _),rfl,iC,rfl⟩ ?_;rintro⟨j,I,ie,ig,Sy⟩ _ ⟨hj,JX,Dg,rfl⟩;refine ae [2,4,6,14,16,17,103,104,105,109,110,111,112] ?_;refine aq (fun th rH=>?_) (fun th rH=>?_)
  ·have lH:j<acc.length:=(by omega)
   obtain⟨U2,aoa⟩:=U1 _ (getElem_mem lH);have M1:(acc[j]'lH).toNat<(t.rows[(E[i]'aa).toNat]'pI).length:=(by omega)
   have agf:(rowAt t (E[i]'aa)).getD (acc[j]'lH).toNat bP=(t.rows[(E[i]'aa).toNat]'pI)[(acc[j]'lH).toNat]:=(by rw[jo pI,getD_eq_getElem?_getD,getElem?_eq_getElem M1];rfl)
   have aob:I.length=j:=(by rw[JX,length_map,length_take];omega)
   refine ae [2,4,6,14,16,17,19,103,104,105,109,110,111] ?_;refine dK 4 ?_;refine bQ (dx 1 (h:=by first|exact .l (j:=(E[i]'aa).toNat) (Int.toNat_of_nonneg gJ).symm pI|exact .r (j:=(E[i]'aa).toNat) (Int.toNat_of_nonneg gJ).symm pI)) ?_;refine aD 2 ?_;refine bQ (dx 3 (h:=by first|exact .l (j:=(acc[j]'lH).toNat) (Int.toNat_of_nonneg U2).symm M1|exact .r (j:=(acc[j]'lH).toNat) (Int.toNat_of_nonneg U2).symm M1)) ?_;refine aD 1 ?_;refine ei (cc 0 [_]) [.int .i64 0,.int .i64 0,.string ⟨#[]⟩] [_,_,_] zeroValue30 runUnderlying27 sizeOf30 (fun aoc=>?_);refine fH 0 124 3 1 ?_;refine OD.ee (ls:=I) (new:=[(t.rows[(E[i]'aa).toNat]'pI)[(acc[j]'lH).toNat]]) (Sq:=Sy) e9 EE an rfl rfl underlying27 YP rfl w7 ot Dg (HK (A:=[_,_,_,_,_])) ot bu nv nw (fun KT JY agh agi=>?_);refine OD.perm (Pj (S1:=[⟨KT,30,JY*3,flatMap cV (I++[(t.rows[(E[i]'aa).toNat]'pI)[(acc[j]'lH).toNat]])⟩]) (A:=[_,_,_,_,_])) ?_;refine aj 135 [2,4,6,14,16,17,103,104,105,109,110,111] ?_;refine cg [2,4,6,14,16,17,103,104,105,109,110,111] ?_;refine⟨((j+1),(I++[(t.rows[(E[i]'aa).toNat]'pI)[(acc[j]'lH).toNat]]),(some ⟨KT,0,none⟩),JY,[⟨KT,30,JY*3,flatMap cV (I++[(t.rows[(E[i]'aa).toNat]'pI)[(acc[j]'lH).toNat]])⟩]),_,cz,aM,w4,(by rw[JX,←agf,←pK lH,map_append];rfl),(bI agh agi),rfl⟩
  have vh:(L++[(⟨I,ie,ig,Sy⟩:cf)]).map cf.r=(E.take (i+1)).map (zj t acc):=(by rw[map_append,hL,←pK aa,map_append];congr 1;show[I]=[zj t acc (E[i]'aa)];rw[JX,take_of_length_le w4];rfl)
  have jD:∀o∈L++[(⟨I,ie,ig,Sy⟩:cf)],nC o:=fun o ho=>by rcases mem_append.1 ho with ho|ho;exact aQ o ho;rw[mem_singleton] at ho;subst ho;exact Dg
  refine dK 3 ?_;refine ei (cc 0 [_]) [.slice none 0 0] [_] zeroValue27 runUnderlying33 sizeOf27 (fun aod=>?_);refine fH 0 130 1 1 ?_;refine OD.ee (ls:=L) (new:=[(⟨I,ie,ig,Sy⟩:cf)]) (Sq:=Sx) uE SX an rfl rfl underlying33 YO rfl w7 ot ec (sN (A:=[_,_,_,_,_])) ot bu nv nw (fun FL Fb agj agk=>?_);refine OD.perm (vH (S2:=[⟨FL,27,Fb*1,flatMap gR (L++[(⟨I,ie,ig,Sy⟩:cf)])⟩]) (A:=[_,_,_,_,_])) ?_;refine OD.perm (S':=⟨zN,35,2,[.v (.slice dQ L.length dD),.v (.int .i64 (E.length:Nat))]⟩::⟨kE,3,1,[.v (.int .i64 (on:Nat))]⟩::⟨b4,35,2,[.v (.slice none 0 0),.v (.int .i64 0)]⟩::⟨b3,42,12,bY s⟩::⟨b2,48,5,dJ t⟩::([⟨FL,27,Fb*1,flatMap gR (L++[(⟨I,ie,ig,Sy⟩:cf)])⟩]++(L++[(⟨I,ie,ig,Sy⟩:cf)]).flatMap bR)) (iu fun iS=>by simp only[map_append,map_cons,map_nil,sum_append,sum_cons,sum_nil,age];omega) ?_;refine aD 1 ?_;refine aN 0 [_,_] sizeOf33 ?_;refine aj 135 [2,4,6,14,103,104,105] ?_;refine cg [2,4,6,14,103,104,105] ?_;refine⟨((i+1),(L++[(⟨I,ie,ig,Sy⟩:cf)]),(some ⟨FL,0,none⟩),Fb,[⟨FL,27,Fb*1,flatMap gR (L++[(⟨I,ie,ig,Sy⟩:cf)])⟩]),_,cz,aM,w4,vh,jD,(bI agj agk),rfl⟩
 have ug:L.map cf.r=E.map (zj t acc):=(by rw[hL,take_of_length_le w4])
 refine aC 1 ?_;refine aN 2 [_,_] sizeOf35 ?_;refine aj 135 [4,5] ?_;refine aJ (Sx++L.flatMap bR) ?_;rw[aS];exact⟨L,dQ,dD,Sx,rfl,ec,aQ,ug,rfl⟩

abbrev gL(bo:Nat)(ad:Option Addr)(n cap:Nat):ag:=⟨bo,25,1,[.v (.slice ad n cap)]⟩
def gF(s:cN):aU:=⟨s.table,s.av,[],rV⟩
def wN(s:cN):aR:=⟨gF s,[],none,0,[],[]⟩
theorem adu(s:cN):qn (wN s):=⟨[],rfl,rfl,(fun o h=>by cases h),rfl,iC⟩
def pJ(l:List aU)(s:cN):List aU×Int:=if 0≤bA l s.table then (l,9) else if l.length=4 then (l,10) else (l++[gF s],0)
def JZ(l:List aU)(bo:Nat)(S:List ag):Prop:=∃(L:List aR) (ad:Option Addr) (cap:Nat) (Sx:List ag),zi L ad cap Sx∧(∀o∈L,okW o)∧L.map aR.t=l∧S.Perm (gL bo ad L.length cap::(Sx++L.flatMap bT))
theorem YQ:(Tryz.prog.info? 48).map (fun i=>(i.zero,i.size,i.bytes))=some (some (.agg #[.string ⟨#[]⟩,.slice none 0 0,.slice none 0 0,.slice none 0 0,.int .i64 0]),5,96):=by kernel_rfl
theorem aaf(L:List aR)(aQ:∀o∈L,qn o)(hL:L.length≤4)(s:cN)(kJ:s.av.length≤1000)(bo:Nat)(ad:Option Addr)(cap:Nat)(Sx:List ag)(O:zi L ad cap Sx):VC Tryz.prog G 47 [.v (.pointer (some ⟨bo,0,none⟩)),.agg (bY s)] (gL bo ad L.length cap::(Sx++L.flatMap bT)) (fun r S=>r = .v (.int .i64 (pJ (L.map aR.t) s).2)∧((pJ (L.map aR.t) s).2=0→JZ (pJ (L.map aR.t) s).1 bo S)):=by
 refine VC.body func47 rfl ntmps47 aO fun X0 w0 aZ=>?_;have dr:maxLen=9223372036854775807:=rfl;have U:=fun o ho=>(aQ o ho).w;have fj:=qv (G:=G) (L.map aR.t) Fe s.table;rw[length_map] at fj;unfold bY;refine cj ?_;refine OD.box (ds:=[_,_,_,_,_,_,_,_,_,_,_,_]) an rfl rfl ot rfl rfl (fun b3=>?_);refine aj 37 [0,3] ?_;refine cL [0,3,5] ?_;refine mX 6 ?_;refine y4 (fj) (ha:=by exact⟨⟨_,ot,(ER O U (fun B hB=>by repeat (first|exact hB|apply mem_append_right|apply mem_cons_of_mem)))⟩,⟨_,ot,eL⟩,trivial⟩) (K:=?_);refine bG ?_;refine aq (fun az aG=>?_) (fun az aG=>?_)
 ·have h0:0≤bA (L.map aR.t) s.table:=(by simpa using az)
  have aS:pJ (L.map aR.t) s=(L.map aR.t,9):=if_pos h0;refine ae [4] ?_;exact z53
 have h0:¬0≤bA (L.map aR.t) s.table:=(by simpa using az)
 refine ae [0,3,14] ?_;refine aq (fun aH aT=>?_) (fun aH aT=>?_)
 ·have h4:L.length=4:=(by have:=aH;simp at this;omega)
  have aS:pJ (L.map aR.t) s=(L.map aR.t,10):=(by unfold pJ;rw[if_neg h0,if_pos (by rw[length_map];exact h4)])
  refine ae [4] ?_;exact z53
 have h4:¬L.length=4:=(by have:=aH;simp at this;omega)
 have aS:pJ (L.map aR.t) s=(L.map aR.t++[gF s],0):=(by unfold pJ;rw[if_neg h0,if_neg (by rw[length_map];exact h4)])
 have mU:=aeB (G:=G);refine CD.skip ?_;refine CD.seq ?_;refine lX 13 [21,25,33] ?_;refine cU (OL s.av w4) ?_;refine cU (mU) ?_;refine bG ?_;refine OD.ee (ls:=L) (new:=[wN s]) (Sq:=Sx) uy SY an rfl rfl underlying23 YQ rfl w7 ot O (oe (A:=[_,_])) ot bu nv nw (fun I E Z ai5=>?_);refine OD.perm (iW (S1:=[⟨I,48,E*5,flatMap gT (L++[wN s])⟩]) (A:=[_,_])) ?_;refine aD 2 ?_;refine aN 1 [_] sizeOf23 ?_;refine aj 37 [] ?_;refine ae [4] ?_;refine aJ (⟨bo,25,1,[_]⟩::([⟨I,48,E*5,flatMap gT (L++[wN s])⟩]++L.flatMap bT)) ?_;rw[aS];exact⟨rfl,fun _=>⟨L++[wN s],some ⟨I,0,none⟩,E,[⟨I,48,E*5,flatMap gT (L++[wN s])⟩],bI Z ai5,(fun o ho=>by rcases mem_append.1 ho with ho|ho;exact U o ho;rw[mem_singleton] at ho;subst ho;exact(adu s).w),by rw[map_append];rfl,by rw[RH,show bT (wN s)=[] from rfl,append_nil]⟩⟩

noncomputable def eo(l:List aU)(s:cN):List aU×((List (List Vl)×Int)×Int) :=
 if s.kind=1 then ((pJ l s).1,(([],0),(pJ l s).2))
 else if bA l s.table<0 then (l,(([],0),8))
 else if s.kind=3 then (l.set (bA l s.table).toNat (gi (l.getD (bA l s.table).toNat (gF s)) s.row).1,(([],1),(gi (l.getD (bA l s.table).toNat (gF s)) s.row).2))
 else if s.kind=4 then (l,pY (l.getD (bA l s.table).toNat (gF s)) s)
 else if s.kind=5 then (l.set (bA l s.table).toNat (gG (l.getD (bA l s.table).toNat (gF s)) s).1,(([],(gG (l.getD (bA l s.table).toNat (gF s)) s).2.1),(gG (l.getD (bA l s.table).toNat (gF s)) s).2.2))
 else (l.set (bA l s.table).toNat (mg (l.getD (bA l s.table).toNat (gF s)) s.ah).1,(([],(mg (l.getD (bA l s.table).toNat (gF s)) s.ah).2.1),(mg (l.getD (bA l s.table).toNat (gF s)) s.ah).2.2))
theorem NR:∀(c:List D) {S:List ag},gk S c c
 | [],_=>trivial
 | _::c,_=>⟨eL,NR c⟩
theorem abT(L:List aR)(h:i<L.length):L.flatMap gT=(L.take i).flatMap gT++(gT L[i]++(L.drop (i+1)).flatMap gT):=by
 conv=>lhs;rw[←take_append_drop i L,drop_eq_getElem_cons h]
 rw[flatMap_append,flatMap_cons]
theorem aeX(L:List aR)(h:i<L.length)(o:aR):(L.set i o).flatMap gT=(L.take i).flatMap gT++(gT o++(L.drop (i+1)).flatMap gT):=by
 rw[set_eq_take_append_cons_drop,if_pos h,flatMap_append,flatMap_cons]
theorem Jp(f:ag→Nat):∀(L:List aR) (i:Nat) (o:aR) (h:i<L.length),(((L.set i o).flatMap bT).map f).sum=((bT o).map f).sum+(((L.eraseIdx i).flatMap bT).map f).sum
 | [],_,_,h=>absurd h (Nat.not_lt_zero _)
 | x::L,0,o,_=>by simp
 | x::L,i+1,o,h=>by
  have:=Jp f L i o (Nat.lt_of_succ_lt_succ h);simp only[set_cons_succ,flatMap_cons,map_append,sum_append,eraseIdx_cons_succ,this];omega
theorem HC{A:List ag}{L:List aR}{bx z:Nat}(h:i<L.length):(A++([(⟨bx,48,z,L.flatMap gT⟩:ag)]++L.flatMap bT)).Perm (A++((⟨bx,48,z,(L.take i).flatMap gT++(gT L[i]++(L.drop (i+1)).flatMap gT)⟩:ag)::(bT L[i]++(L.eraseIdx i).flatMap bT))):=by
 rw[←abT L h];exact iu fun f=>by
  have:=Jp f L i L[i] h;rw[set_getElem_self] at this;simp only[map_cons,sum_cons,map_append,sum_append,map_nil,sum_nil,this];omega
theorem I3{L:List aR}{bx E:Nat}(h:i<L.length)(h1:L.length≤cap)(h2:cap≤maxLen)(aQ:∀o∈L,okW o){o:aR}(ho:okW o)(hS:S.Perm (gL E (some ⟨bx,0,none⟩) L.length cap::((⟨bx,48,cap*5,(L.take i).flatMap gT++(gT o++(L.drop (i+1)).flatMap gT)⟩::bT o)++(L.eraseIdx i).flatMap bT))):JZ ((L.map aR.t).set i o.t) E S:=by
 refine⟨L.set i o,some ⟨bx,0,none⟩,cap,[⟨bx,48,cap*5,(L.set i o).flatMap gT⟩],bI (by rw[length_set];exact h1) h2,fun x hx=>?_,by rw[map_set],?_⟩
 ·rcases mem_or_eq_of_mem_set hx with hx|hx
  ·exact aQ x hx
  rw[hx];exact ho
 rw[length_set,aeX L h];refine hS.trans (iu fun f=>?_);have:=Jp f L i o h;simp only[map_cons,sum_cons,map_append,sum_append,map_nil,sum_nil,this];omega
theorem RV(h:u0 t ad cap E):okW ⟨t,t.rows.flatMap hU,ad,cap,E,[]⟩:=⟨h,fun S _=>NR _⟩
theorem abU(h:FI t L ad cap E):okW ⟨t,L.flatMap gR,ad,cap,E,L.flatMap bR⟩:=qn.w ⟨L,rfl,rfl,h.2.1,h.1,h.2.2⟩
theorem NT{o:aR}(h:qn o):∃U,u0 o.t o.ad o.cap U∧∀(n:Nat) (env:List (Nat×D)) (A R:List ag),Wk ⟨n,env,A++(bT o++R)⟩ ⟨n,env,A++(U++R)⟩:=by
 obtain⟨L,h1,h2,h3,h4,h5⟩:=h;have Z:=Ey (S:=L.flatMap bR) h3 (fun B h=>h);have E:L.length=o.t.rows.length:=(by rw[←h4,length_map])
 rcases h5 with ⟨e1,e2,I,O,e5⟩|⟨b,e1,e2,I,O⟩
 ·have hL:L=[]:=length_eq_zero_iff.1 e1;subst hL;have hr:o.t.rows=[]:=(by rw[←h4];rfl)
  refine⟨[],.inl ⟨by rw[hr];rfl,by rw[hr];rfl,I,O,rfl⟩,fun n env A R=>?_⟩;have hb:bT o=[]:=(by unfold bT;rw[e5,h2];rfl)
  rw[hb];exact Wk.refl _
 refine⟨[⟨b,27,o.cap*1,o.t.rows.flatMap hU⟩],.inr ⟨b,e1,by rw[←E];exact e2,I,rfl⟩,fun n env A R=>?_⟩;have hb:bT o=⟨b,27,o.cap*1,L.flatMap gR⟩::L.flatMap bR:=(by unfold bT;rw[O,h2];rfl)
 rw[hb,←h4];have hc:=Wk.cover (n:=n) (l:=env) (S:=A++((⟨b,27,o.cap*1,L.flatMap gR⟩::L.flatMap bR)++R)) (A:=⟨b,27,o.cap*1,L.flatMap gR⟩) (R:=A++R) (Sd:=L.flatMap bR) (cs':=(L.map cf.r).flatMap hU) (iu fun f=>by simp only[map_cons,sum_cons,map_append,sum_append,map_nil,sum_nil];omega) Z;refine hc.trans (Wk.perm (iu fun f=>by simp only[map_cons,sum_cons,map_append,sum_append,map_nil,sum_nil];omega))
theorem aeY(hm:(3,marksC)∈G)(hw:(2,wordsC)∈G)(ht:(0,typesC)∈G)(hG:(1,[Value.int .i64 m])∈G)(L:List aR)(aQ:∀o∈L,qn o)(hL:L.length≤4)(hg:∀o∈L,∃n,n≤260∧eW o.t n)(s:cN)(fk:¬s.kind=2)(kJ:s.av.length≤1000)(rf:s.row.length≤1000)(BD:∀v∈s.row,v.Ok)(so:s.names.length≤1000)(ho:∀o∈s.ah,o.nm.size≤maxLen)(fI:∀o∈s.ah,o.v.Ok)(oM:∀o∈s.bE,o.nm.size≤maxLen)(zk:∀o∈s.bE,o.v.Ok)(I:Nat)(ad:Option Addr)(cap:Nat)(Sx:List ag)(Z:zi L ad cap Sx):VC Tryz.prog G 29 [.v (.pointer (some ⟨I,0,none⟩)),.agg (bY s)] (gL I ad L.length cap::(Sx++L.flatMap bT)) (fun r S=>r=Dk (eo (L.map aR.t) s).2∧((eo (L.map aR.t) s).2.2=0→JZ (eo (L.map aR.t) s).1 I S)):=by
 refine VC.body func29 rfl ntmps29 aO fun X0 w0 aZ=>?_;have dr:maxLen=9223372036854775807:=rfl;have O:=fun o ho=>(aQ o ho).w;have fj:=qv (G:=G) (L.map aR.t) Fe s.table;rw[length_map] at fj;have va:=ym (fun t:aU=>t.nm.toList==s.table.toList) (L.map aR.t);rw[show dM (fun t:aU=>t.nm.toList==s.table.toList) (L.map aR.t)=(bA (L.map aR.t) s.table) from rfl,length_map] at va;refine cj ?_;refine OD.box (ds:=[_,_,_,_,_,_,_,_,_,_,_,_]) an rfl rfl ot rfl rfl (fun b3=>?_);refine OD.alloc (ds:=[_,_]) an rfl rfl zeroValue35 rfl (fun b4=>?_);refine aD 1 ?_;first|refine OD.cells (k:=0) (cs':=[.list 1 [] 0,_]) rfl ⟨fY,eM,trivial⟩ rfl ?_|skip
 refine aj 87 [0,3,4] ?_;refine ae [0,3,4,14] ?_;refine aq (fun az aG=>?_) (fun az aG=>?_)
 ·have dH:s.kind=1:=(by simpa using az)
  have aS:eo (L.map aR.t) s=((pJ (L.map aR.t) s).1,(([],0),(pJ (L.map aR.t) s).2)):=(by unfold eo;rw[if_pos dH])
  refine aC 3 ?_;refine OD.call (Sf:=gL I ad L.length cap::(Sx++L.flatMap bT)) (R:=[⟨b4,35,2,[.list 1 [] 0,.v (.int .i64 0)]⟩,⟨b3,42,12,bY s⟩]) an rfl rfl rfl call47 (aaf L aQ hL s kJ I ad cap Sx Z) ⟨ot,ot,trivial⟩ (show(⟨b4,35,2,[.list 1 [] 0,.v (.int .i64 0)]⟩::⟨b3,42,12,bY s⟩::gL I ad L.length cap::(Sx++L.flatMap bT):List ag).Perm (gL I ad L.length cap::(Sx++L.flatMap bT)++[⟨b4,35,2,[.list 1 [] 0,.v (.int .i64 0)]⟩,⟨b3,42,12,bY s⟩]) from(iu fun iS=>by simp only[map_append,map_cons,map_nil,sum_append,sum_cons,sum_nil];omega)) ?_;rintro _ U ⟨rfl,h9⟩;refine OD.perm (S':=⟨b4,35,2,[.list 1 [] 0,.v (.int .i64 0)]⟩::⟨b3,42,12,bY s⟩::U) (show(U++[⟨b4,35,2,[.list 1 [] 0,.v (.int .i64 0)]⟩,⟨b3,42,12,bY s⟩]:List ag).Perm _ from(iu fun iS=>by simp only[map_append,map_cons,map_nil,sum_append,sum_cons,sum_nil];omega)) ?_;refine aN 0 [_,_] sizeOf35 ?_;refine aD 1 ?_;first|refine OD.cells (k:=0) (cs':=[.list 1 [] 0,_]) rfl ⟨fY,eM,trivial⟩ rfl ?_|skip
  refine aj 87 [4,5] ?_;refine aJ U ?_;rw[aS];exact⟨rfl,fun h=>h9 h⟩
 have dH:¬s.kind=1:=(by simpa using az)
 refine cL [0,3,4,6] ?_;refine mX 6 ?_;refine y4 (fj) (ha:=by exact⟨⟨_,ot,(ER Z O (fun B hB=>by repeat (first|exact hB|apply mem_append_right|apply mem_cons_of_mem)))⟩,⟨_,ot,eL⟩,trivial⟩) (K:=?_);refine bG ?_;refine ae [0,3,4,6,27] ?_;refine aq (fun aH aT=>?_) (fun aH aT=>?_)
 ·have h0:(bA (L.map aR.t) s.table)<0:=(by simpa using aH)
  have aS:eo (L.map aR.t) s=(L.map aR.t,(([],0),8)):=(by unfold eo;rw[if_neg dH,if_pos h0])
  refine aC 1 ?_;refine aN 0 [_,_] sizeOf35 ?_;refine aD 1 ?_;first|refine OD.cells (k:=0) (cs':=[.list 1 [] 0,_]) rfl ⟨fY,eM,trivial⟩ rfl ?_|skip
  refine aj 87 [4,5] ?_;exact z53
 have h0:¬(bA (L.map aR.t) s.table)<0:=(by simpa using aH)
 have E:(bA (L.map aR.t) s.table).toNat<L.length:=(by omega)
 obtain⟨bx,rfl,iT,oJ,rfl⟩:=Z.pos w4;have jR:(L.map aR.t).getD (bA (L.map aR.t) s.table).toNat (gF s)=(L[(bA (L.map aR.t) s.table).toNat]'E).t:=(by rw[getD_eq_getElem?_getD,getElem?_map,getElem?_eq_getElem E];rfl)
 refine cL [0,3,4,6,7] ?_;refine aP 5 ?_ (h:=by exact(dx 5 (h:=by first|exact .l (j:=(bA (L.map aR.t) s.table).toNat) (Int.toNat_of_nonneg w4).symm E|exact .r (j:=(bA (L.map aR.t) s.table).toNat) (Int.toNat_of_nonneg w4).symm E)));refine bG ?_;refine ae [0,3,4,6,7,36] ?_;refine ae [0,3,4,6,7,36,37] ?_;refine aq (fun aX bw=>?_) (fun aX bw=>?_)
 ·exact absurd aX (by exact absurd (by simpa using aX) fk)
 refine ae [3,4,7,36,51] ?_;refine aq (fun bC bW=>?_) (fun bC bW=>?_)
 ·have lF:s.kind=3:=(by simpa using bC)
  have aS:eo (L.map aR.t) s=((L.map aR.t).set (bA (L.map aR.t) s.table).toNat (gi (L[(bA (L.map aR.t) s.table).toNat]'E).t s.row).1,(([],1),(gi (L[(bA (L.map aR.t) s.table).toNat]'E).t s.row).2)):=(by unfold eo;rw[jR,if_neg dH,if_neg h0,if_pos lF])
  obtain⟨n,hn,g⟩:=hg (L[(bA (L.map aR.t) s.table).toNat]'E) (getElem_mem E);obtain⟨Sg,M2,jw⟩:=NT (aQ (L[(bA (L.map aR.t) s.table).toNat]'E) (getElem_mem E));refine CD.perm (HC (A:=[_,_,_]) E) ?_;refine CD.wk (jw _ _ [_,_,_,_] _) ?_;refine aC 4 ?_
  refine OD.call (Sf:=(⟨bx,48,cap*5,(L.take (bA (L.map aR.t) s.table).toNat).flatMap gT++(gT (L[(bA (L.map aR.t) s.table).toNat]'E)++(L.drop ((bA (L.map aR.t) s.table).toNat+1)).flatMap gT)⟩:ag)::Sg) (R:=⟨b4,35,2,[.list 1 [] 0,.v (.int .i64 0)]⟩::⟨b3,42,12,bY s⟩::gL I (some ⟨bx,0,none⟩) L.length cap::((L.eraseIdx (bA (L.map aR.t) s.table).toNat).flatMap bT)) an rfl rfl rfl call49 (Hx hm hw ht hG (L[(bA (L.map aR.t) s.table).toNat]'E).t g w4 s.row rf BD bx (0+(bA (L.map aR.t) s.table).toNat*5) (cap*5) ((L.take (bA (L.map aR.t) s.table).toNat).flatMap gT) ((L.drop ((bA (L.map aR.t) s.table).toNat+1)).flatMap gT) J2 (L[(bA (L.map aR.t) s.table).toNat]'E).ad (L[(bA (L.map aR.t) s.table).toNat]'E).cap Sg M2) ⟨ot,ot,trivial⟩ (show(⟨b4,35,2,[.list 1 [] 0,.v (.int .i64 0)]⟩::⟨b3,42,12,bY s⟩::gL I (some ⟨bx,0,none⟩) L.length cap::(⟨bx,48,cap*5,(L.take (bA (L.map aR.t) s.table).toNat).flatMap gT++(gT (L[(bA (L.map aR.t) s.table).toNat]'E)++(L.drop ((bA (L.map aR.t) s.table).toNat+1)).flatMap gT)⟩:ag)::(Sg++(L.eraseIdx (bA (L.map aR.t) s.table).toNat).flatMap bT):List ag).Perm (((⟨bx,48,cap*5,(L.take (bA (L.map aR.t) s.table).toNat).flatMap gT++(gT (L[(bA (L.map aR.t) s.table).toNat]'E)++(L.drop ((bA (L.map aR.t) s.table).toNat+1)).flatMap gT)⟩:ag)::Sg)++(⟨b4,35,2,[.list 1 [] 0,.v (.int .i64 0)]⟩::⟨b3,42,12,bY s⟩::gL I (some ⟨bx,0,none⟩) L.length cap::((L.eraseIdx (bA (L.map aR.t) s.table).toNat).flatMap bT))) from(iu fun iS=>by simp only[map_append,map_cons,map_nil,sum_append,sum_cons,sum_nil];omega)) ?_
  rintro _ U ⟨rfl,h9⟩;refine OD.perm (S':=⟨b4,35,2,[.list 1 [] 0,.v (.int .i64 0)]⟩::⟨b3,42,12,bY s⟩::gL I (some ⟨bx,0,none⟩) L.length cap::(U++(L.eraseIdx (bA (L.map aR.t) s.table).toNat).flatMap bT)) (show(U++(⟨b4,35,2,[.list 1 [] 0,.v (.int .i64 0)]⟩::⟨b3,42,12,bY s⟩::gL I (some ⟨bx,0,none⟩) L.length cap::((L.eraseIdx (bA (L.map aR.t) s.table).toNat).flatMap bT)):List ag).Perm _ from(iu fun iS=>by simp only[map_append,map_cons,map_nil,sum_append,sum_cons,sum_nil];omega)) ?_;refine aN 0 [_,_] sizeOf35 ?_;refine aD 1 ?_;first|refine OD.cells (k:=0) (cs':=[.list 1 [] 0,_]) rfl ⟨fY,eM,trivial⟩ rfl ?_|skip
  refine aj 87 [4,5] ?_;refine aJ (gL I (some ⟨bx,0,none⟩) L.length cap::(U++(L.eraseIdx (bA (L.map aR.t) s.table).toNat).flatMap bT)) ?_;rw[aS];refine⟨rfl,fun h=>?_⟩;obtain⟨nB,kg,n8,KU,rfl⟩:=h9 h;exact I3 E iT oJ O (RV KU) (by rw[show bT (⟨_,_,nB,kg,n8,[]⟩:aR)=n8 from append_nil _];exact Perm.refl _)
 have lF:¬s.kind=3:=(by simpa using bC)
 refine ae [3,4,7,36,58] ?_;refine aq (fun cx c9=>?_) (fun cx c9=>?_)
 ·have xm:s.kind=4:=(by simpa using cx)
  have aS:eo (L.map aR.t) s=(L.map aR.t,(pY (L[(bA (L.map aR.t) s.table).toNat]'E).t s)):=(by unfold eo;rw[jR,if_neg dH,if_neg h0,if_neg lF,if_pos xm])
  obtain⟨n,hn,g⟩:=hg (L[(bA (L.map aR.t) s.table).toNat]'E) (getElem_mem E);refine CD.seq ?_;refine lX 7 [4,65,66] ?_;refine aP 2 ?_ (h:=by exact(cH (mk:=Op.load 48) rfl ot (dI (k:=3) (i:=(bA (L.map aR.t) s.table).toNat) (ls:=L) uy rfl rfl rfl isAgg48 sizeOf48 E)));refine mX 1 ?_;refine yZ (adt hm hw ht hG (L[(bA (L.map aR.t) s.table).toNat]'E).t g s so ho fI) (fun r S h=>h.flat) (fun r S h=>(by have h9:=h.view;unfold Dk at h9;exact h9)) (ha:=by exact⟨⟨_,ot,(RE (O _ (getElem_mem E)) (fun B hB=>by have h9:=mem_flatMap.2 ⟨_,getElem_mem E,hB⟩;repeat (first|exact h9|apply mem_append_right|apply mem_cons_of_mem)):View _ (.agg (gT (L[(bA (L.map aR.t) s.table).toNat]'E))) _)⟩,⟨_,ot,eL⟩,trivial⟩) (K:=?_);refine bG ?_;refine aN 0 [_,_] sizeOf35 ?_;refine aD 1 ?_;first|refine OD.cells (k:=0) (cs':=[.list 1 [] 0,_]) rfl ⟨fY,eM,trivial⟩ rfl ?_|skip
  refine aj 87 [4,5] ?_;refine aJ (gL I (some ⟨bx,0,none⟩) L.length cap::([⟨bx,48,cap*5,L.flatMap gT⟩]++L.flatMap bT)) ?_;rw[aS];exact⟨rfl,fun _=>⟨L,_,cap,_,Z,O,rfl,Perm.refl _⟩⟩
 have xm:¬s.kind=4:=(by simpa using cx)
 refine ae [3,4,7,67] ?_;refine aq (fun dN en=>?_) (fun dN en=>?_)
 ·have CA:s.kind=5:=(by simpa using dN)
  have aS:eo (L.map aR.t) s=((L.map aR.t).set (bA (L.map aR.t) s.table).toNat (gG (L[(bA (L.map aR.t) s.table).toNat]'E).t s).1,(([],(gG (L[(bA (L.map aR.t) s.table).toNat]'E).t s).2.1),(gG (L[(bA (L.map aR.t) s.table).toNat]'E).t s).2.2)):=(by unfold eo;rw[jR,if_neg dH,if_neg h0,if_neg lF,if_neg xm,if_pos CA])
  obtain⟨n,hn,g⟩:=hg (L[(bA (L.map aR.t) s.table).toNat]'E) (getElem_mem E);obtain⟨LR,q1,q2,q3,q4,q5⟩:=aQ (L[(bA (L.map aR.t) s.table).toNat]'E) (getElem_mem E);refine CD.perm (HC (A:=[_,_,_]) E) ?_;refine aC 2 ?_
  refine OD.call (Sf:=(⟨bx,48,cap*5,(L.take (bA (L.map aR.t) s.table).toNat).flatMap gT++(gT (L[(bA (L.map aR.t) s.table).toNat]'E)++(L.drop ((bA (L.map aR.t) s.table).toNat+1)).flatMap gT)⟩:ag)::((L[(bA (L.map aR.t) s.table).toNat]'E).sr++LR.flatMap bR)) (R:=⟨b4,35,2,[.list 1 [] 0,.v (.int .i64 0)]⟩::⟨b3,42,12,bY s⟩::gL I (some ⟨bx,0,none⟩) L.length cap::((L.eraseIdx (bA (L.map aR.t) s.table).toNat).flatMap bT)) an rfl rfl rfl call51 (aae hm hw ht hG (L[(bA (L.map aR.t) s.table).toNat]'E).t g s ho fI oM zk hn bx (0+(bA (L.map aR.t) s.table).toNat*5) (cap*5) ((L.take (bA (L.map aR.t) s.table).toNat).flatMap gT) ((L.drop ((bA (L.map aR.t) s.table).toNat+1)).flatMap gT) J2 LR (L[(bA (L.map aR.t) s.table).toNat]'E).ad (L[(bA (L.map aR.t) s.table).toNat]'E).cap (L[(bA (L.map aR.t) s.table).toNat]'E).sr q4 q3 q5) ⟨ot,ot,trivial⟩ (show(⟨b4,35,2,[.list 1 [] 0,.v (.int .i64 0)]⟩::⟨b3,42,12,bY s⟩::gL I (some ⟨bx,0,none⟩) L.length cap::(⟨bx,48,cap*5,(L.take (bA (L.map aR.t) s.table).toNat).flatMap gT++(gT (L[(bA (L.map aR.t) s.table).toNat]'E)++(L.drop ((bA (L.map aR.t) s.table).toNat+1)).flatMap gT)⟩:ag)::((bT (L[(bA (L.map aR.t) s.table).toNat]'E))++(L.eraseIdx (bA (L.map aR.t) s.table).toNat).flatMap bT):List ag).Perm (((⟨bx,48,cap*5,(L.take (bA (L.map aR.t) s.table).toNat).flatMap gT++(gT (L[(bA (L.map aR.t) s.table).toNat]'E)++(L.drop ((bA (L.map aR.t) s.table).toNat+1)).flatMap gT)⟩:ag)::((L[(bA (L.map aR.t) s.table).toNat]'E).sr++LR.flatMap bR))++(⟨b4,35,2,[.list 1 [] 0,.v (.int .i64 0)]⟩::⟨b3,42,12,bY s⟩::gL I (some ⟨bx,0,none⟩) L.length cap::((L.eraseIdx (bA (L.map aR.t) s.table).toNat).flatMap bT))) from by rw[show bT (L[(bA (L.map aR.t) s.table).toNat]'E)=((L[(bA (L.map aR.t) s.table).toNat]'E).sr++LR.flatMap bR) from by unfold bT;rw[q2]];exact(iu fun iS=>by simp only[map_append,map_cons,map_nil,sum_append,sum_cons,sum_nil];omega)) ?_
  rintro _ U ⟨rfl,h9⟩;refine OD.perm (S':=⟨b4,35,2,[.list 1 [] 0,.v (.int .i64 0)]⟩::⟨b3,42,12,bY s⟩::gL I (some ⟨bx,0,none⟩) L.length cap::(U++(L.eraseIdx (bA (L.map aR.t) s.table).toNat).flatMap bT)) (show(U++(⟨b4,35,2,[.list 1 [] 0,.v (.int .i64 0)]⟩::⟨b3,42,12,bY s⟩::gL I (some ⟨bx,0,none⟩) L.length cap::((L.eraseIdx (bA (L.map aR.t) s.table).toNat).flatMap bT)):List ag).Perm _ from(iu fun iS=>by simp only[map_append,map_cons,map_nil,sum_append,sum_cons,sum_nil];omega)) ?_;refine aj 87 [4,8,9] ?_;refine aC 3 ?_;refine aN 0 [_,_] sizeOf35 ?_;refine aD 1 ?_;first|refine OD.cells (k:=0) (cs':=[.list 1 [] 0,_]) rfl ⟨fY,eM,trivial⟩ rfl ?_|skip
  refine aj 87 [4,5] ?_;refine aJ (gL I (some ⟨bx,0,none⟩) L.length cap::(U++(L.eraseIdx (bA (L.map aR.t) s.table).toNat).flatMap bT)) ?_;rw[aS];refine⟨rfl,fun h=>?_⟩;obtain⟨L',nB,kg,n8,ai6,rfl⟩:=h9 h;exact I3 E iT oJ O (abU ai6) (Perm.refl _)
 have CA:¬s.kind=5:=(by simpa using dN)
 have aS:eo (L.map aR.t) s=((L.map aR.t).set (bA (L.map aR.t) s.table).toNat (mg (L[(bA (L.map aR.t) s.table).toNat]'E).t s.ah).1,(([],(mg (L[(bA (L.map aR.t) s.table).toNat]'E).t s.ah).2.1),(mg (L[(bA (L.map aR.t) s.table).toNat]'E).t s.ah).2.2)):=(by unfold eo;rw[jR,if_neg dH,if_neg h0,if_neg lF,if_neg xm,if_neg CA])
 obtain⟨n,hn,g⟩:=hg (L[(bA (L.map aR.t) s.table).toNat]'E) (getElem_mem E);obtain⟨Sg,M2,jw⟩:=NT (aQ (L[(bA (L.map aR.t) s.table).toNat]'E) (getElem_mem E));refine CD.perm (HC (A:=[_,_,_]) E) ?_;refine CD.wk (jw _ _ [_,_,_,_] _) ?_;refine aC 2 ?_
 refine OD.call (Sf:=(⟨bx,48,cap*5,(L.take (bA (L.map aR.t) s.table).toNat).flatMap gT++(gT (L[(bA (L.map aR.t) s.table).toNat]'E)++(L.drop ((bA (L.map aR.t) s.table).toNat+1)).flatMap gT)⟩:ag)::Sg) (R:=⟨b4,35,2,[.list 1 [] 0,.v (.int .i64 0)]⟩::⟨b3,42,12,bY s⟩::gL I (some ⟨bx,0,none⟩) L.length cap::((L.eraseIdx (bA (L.map aR.t) s.table).toNat).flatMap bT)) an rfl rfl rfl call52 (aab hm hw ht hG (L[(bA (L.map aR.t) s.table).toNat]'E).t g s ho fI bx (0+(bA (L.map aR.t) s.table).toNat*5) (cap*5) ((L.take (bA (L.map aR.t) s.table).toNat).flatMap gT) ((L.drop ((bA (L.map aR.t) s.table).toNat+1)).flatMap gT) J2 (L[(bA (L.map aR.t) s.table).toNat]'E).ad (L[(bA (L.map aR.t) s.table).toNat]'E).cap Sg M2) ⟨ot,ot,trivial⟩ (show(⟨b4,35,2,[.list 1 [] 0,.v (.int .i64 0)]⟩::⟨b3,42,12,bY s⟩::gL I (some ⟨bx,0,none⟩) L.length cap::(⟨bx,48,cap*5,(L.take (bA (L.map aR.t) s.table).toNat).flatMap gT++(gT (L[(bA (L.map aR.t) s.table).toNat]'E)++(L.drop ((bA (L.map aR.t) s.table).toNat+1)).flatMap gT)⟩:ag)::(Sg++(L.eraseIdx (bA (L.map aR.t) s.table).toNat).flatMap bT):List ag).Perm (((⟨bx,48,cap*5,(L.take (bA (L.map aR.t) s.table).toNat).flatMap gT++(gT (L[(bA (L.map aR.t) s.table).toNat]'E)++(L.drop ((bA (L.map aR.t) s.table).toNat+1)).flatMap gT)⟩:ag)::Sg)++(⟨b4,35,2,[.list 1 [] 0,.v (.int .i64 0)]⟩::⟨b3,42,12,bY s⟩::gL I (some ⟨bx,0,none⟩) L.length cap::((L.eraseIdx (bA (L.map aR.t) s.table).toNat).flatMap bT))) from(iu fun iS=>by simp only[map_append,map_cons,map_nil,sum_append,sum_cons,sum_nil];omega)) ?_
 rintro _ U ⟨rfl,h9⟩;refine OD.perm (S':=⟨b4,35,2,[.list 1 [] 0,.v (.int .i64 0)]⟩::⟨b3,42,12,bY s⟩::gL I (some ⟨bx,0,none⟩) L.length cap::(U++(L.eraseIdx (bA (L.map aR.t) s.table).toNat).flatMap bT)) (show(U++(⟨b4,35,2,[.list 1 [] 0,.v (.int .i64 0)]⟩::⟨b3,42,12,bY s⟩::gL I (some ⟨bx,0,none⟩) L.length cap::((L.eraseIdx (bA (L.map aR.t) s.table).toNat).flatMap bT)):List ag).Perm _ from(iu fun iS=>by simp only[map_append,map_cons,map_nil,sum_append,sum_cons,sum_nil];omega)) ?_;refine aj 87 [4,10,11] ?_;refine aC 3 ?_;refine aN 0 [_,_] sizeOf35 ?_;refine aD 1 ?_;first|refine OD.cells (k:=0) (cs':=[.list 1 [] 0,_]) rfl ⟨fY,eM,trivial⟩ rfl ?_|skip
 refine aj 87 [4,5] ?_;refine aJ (gL I (some ⟨bx,0,none⟩) L.length cap::(U++(L.eraseIdx (bA (L.map aR.t) s.table).toNat).flatMap bT)) ?_;rw[aS];refine⟨rfl,fun h=>?_⟩;obtain⟨nB,kg,n8,KU,rfl⟩:=h9 h;exact I3 E iT oJ O (RV KU) (by rw[show bT (⟨_,_,nB,kg,n8,[]⟩:aR)=n8 from append_nil _];exact Perm.refl _)

end Go.Proofs.YtbcmjoaggammcaaGreatDoor.Ba
namespace Go.Proofs.YtbcmjoaggammcaaGreatDoor.Ba
open List
open Go.Proofs.Tryz
open Go.RowKit V Pk Tr Vl Go.Proofs.YtbcmjoaggammcaaGreatDoor.Nm Pc Cd Ex Tw
open Pa (cN bY)
variable {G:List (Nat×List Value)} {m:Int}
variable {n:Nat}
def tH(t:aU)(i:Nat):Nat:=((range i).filter fun j=>decide ((t.rows.getD j []).length≠0)).length
theorem OY(t:aU)(i:Nat):tH t (i+1)=tH t i+if (t.rows.getD i []).length≠0 then 1 else 0:=by
 unfold tH;rw[range_succ,filter_append,length_append];congr 1;by_cases h:(t.rows.getD i []).length≠0
 ·rw[if_pos h,filter_cons_of_pos oB];rfl
 rw[if_neg h,filter_cons_of_neg oB];rfl
theorem S5(t:aU)(i:Nat):tH t i≤i:=by
 unfold tH;exact Nat.le_trans (length_filter_le _ _) (by rw[length_range];exact Nat.le_refl _)
theorem Eh{t:aU}{i:Nat}(h:i<t.rows.length):t.rows.getD i []=t.rows[i]:=by rw[getD_eq_getElem?_getD,getElem?_eq_getElem h];rfl
theorem RW{t:aU}(g:eW t n):tH t t.rows.length=(gD t.ix).length:=by
 unfold tH;have hA:((gD t.ix).map fun x=>x.2.toNat).Nodup:=by
  have hr:(gD t.ix).Pairwise (fun a b=>bM a.1 b.1):=Hu g.ix.val;rw[Nodup,pairwise_map];refine hr.imp_of_mem fun {a b} ha hb h e=>?_;obtain⟨a0,a1,a2,a3⟩:=g.jn a ha;obtain⟨b0,b1,b2,b3⟩:=g.jn b hb;refine j3 a.1 ?_;have:a.1=b.1:=(by rw[a3,b3];simp only[e])
  rw[←this] at h;exact h
 have Z:((range t.rows.length).filter fun j=>decide ((t.rows.getD j []).length≠0)).Nodup:=List.nodup_range.filter _;have h1:=hA.length_le_of_subset (l₂:=(range t.rows.length).filter fun j=>decide ((t.rows.getD j []).length≠0)) fun i hi=>by
  obtain⟨x,hx,rfl⟩:=mem_map.1 hi;obtain⟨x0,x1,x2,x3⟩:=g.jn x hx;refine mem_filter.2 ⟨mem_range.2 x1,decide_eq_true ?_⟩;rw[Eh x1];exact fun h=>x2 (length_eq_zero_iff.1 h)
 have h2:=Z.length_le_of_subset (l₂:=(gD t.ix).map fun x=>x.2.toNat) fun i hi=>by
  obtain⟨O,U⟩:=mem_filter.1 hi;have E:=mem_range.1 O;have I:=of_decide_eq_true U;rw[Eh E] at I;exact mem_map.2 ⟨_,(g.row i E (fun h=>I (by rw[h];rfl))).2.2,by simp⟩
 rw[length_map] at h1 h2;omega
theorem abV(hm:(3,marksC)∈G)(hw:(2,wordsC)∈G)(ht:(0,typesC)∈G)(hG:(1,[Value.int .i64 m])∈G)(t:aU)(g:eW t n)(so:t.nm.size≤maxLen):VP Tryz.prog G 40 [.agg (dJ t)] (.v (.bool true)):=by
 refine VC.body func40 rfl ntmps40 aO fun X0 w0 aZ=>?_;have dr:maxLen=9223372036854775807:=rfl;have mw:=g.eI;have mU:=sW (G:=G) hm hw t.nm so;rw[g.nm] at mU;have eZ:=Pc.Es (G:=G) hm hw ht t.av wS wR;have hco:Pc.fw t.av=0:=(by rw[g.av];exact Ig)
 rw[hco] at eZ;have rp:=RC (G:=G) g.ix;have Z:=RD (G:=G) g.ix;rw[Qk] at Z;unfold Tw.cT at rp Z;have GI:=RW g;unfold dJ;refine cj ?_;refine OD.box (ds:=[_,_,_,_,_]) an rfl rfl ot rfl rfl (fun b1=>?_);refine aj 76 [1] ?_;refine aC 2 ?_;refine dS call63 (mU) ?_;refine aD 2 ?_;refine bS 14 (fun E agl=>?_) (fun E agl=>?_)
 ·exact absurd E (by simp at E)
 refine aD 2 ?_;refine OD.gE gH rfl rfl rfl call64 (eZ) ⟨ot,trivial⟩ ?_;refine aD 3 ?_;refine bS 20 (fun I agm=>?_) (fun I agm=>?_)
 ·exact absurd I (by simp at I)
 refine aD 6 ?_;refine bS 26 (fun O JO=>?_) (fun O JO=>?_)
 ·exact absurd O (by (simp at O;omega))
 refine aD 2 ?_;refine OD.gE gH rfl rfl rfl call16 (rp) ⟨ot,trivial⟩ ?_;refine aj 76 [1,31] ?_;refine aq (fun az aG=>?_) (fun az aG=>?_)
 ·exact absurd az (by simp at az)
 refine ae [1,3] ?_;refine ae [1,3,33,34,35] ?_;refine CD.block ?_;refine l5 (fun (i:Nat) aK=>(i≤t.rows.length)∧aK=(⟨76,[(1,.v (.pointer (some ⟨b1,0,none⟩))),(3,.v (.int .i64 (tH t i:Nat))),(33,.list 1 (t.rows.flatMap hU) t.rows.length),(34,.v (.int .i64 (t.rows.length:Nat))),(35,.v (.int .i64 (i:Nat)))],[⟨b1,48,5,dJ t⟩]⟩:St)) (fun (i:Nat)=>t.rows.length-i) 0 ⟨(Nat.zero_le _),rfl⟩ (aM (h:=by repeat (first|exact trivial|refine⟨K0,?_⟩))) ?_;rintro i _ ⟨hi,rfl⟩;refine ae [1,3,33,34,35,36] ?_;refine aq (fun aH aT=>?_) (fun aH aT=>?_)
 ·have aa:i<t.rows.length:=(by omega)
  have jR:t.rows.getD i []=(t.rows[i]'aa):=Eh aa;have kJ:=S5 t i;refine ae [1,3,4,5,33,34,35] ?_;refine ae [1,3,4,5,33,34,35,42] ?_;refine aq (fun aX bw=>?_) (fun aX bw=>?_)
  ·have wj:¬(t.rows.getD i []).length≠0:=(by rw[jR];simpa using aX)
   refine cg [1,3,33,34,35] ?_;exact F2
  have wj:(t.rows.getD i []).length≠0:=(by rw[jR];simpa using aX)
  have hne:(t.rows[i]'aa)≠[]:=fun h=>wj (by rw[jR,h];rfl);obtain⟨p1,p2,p3⟩:=g.row i aa hne;have p4:=oX p1;have xL:=Jd (G:=G) hm hw ht t.av wS wR (t.rows[i]'aa) w4;have W5:Pc.dU t.av (t.rows[i]'aa)=0:=(by rw[g.av];exact p1)
  rw[W5] at xL;have hyv:=yy (G:=G) hG (t.rows[i]'aa) w4 w4 p2;have fj:=EQ (G:=G) g.ix (cQ (t.rows[i]'aa));rw[H8 g.ix (ux p1) p3] at fj;unfold Tw.cT at fj;refine ae [1,3,4,5,33,34,35] ?_;refine cM [1,3,4,5,33,34,35,49] (xL) ?_;refine aq (fun bC bW=>?_) (fun bC bW=>?_)
  ·exact absurd bC (by simp at bC)
  refine cL [1,3,4,6,7,33,34,35] ?_;refine cU (hyv) ?_;refine cU (fj) ?_;refine bG ?_;refine aC 3 ?_;refine bS 60 (fun U A6=>?_) (fun U A6=>?_)
  ·exact absurd U (by simp at U)
  refine aY [1,3,33,34,35,64] ?_;refine aq (fun cx c9=>?_) (fun cx c9=>?_)
  ·exact absurd cx (by simp at cx)
  refine cg [1,3,33,34,35] ?_;exact F2
 have qQ:i=t.rows.length:=(by omega)
 subst qQ;refine cM [3,8] (Z) ?_;refine ae [2] ?_;refine aJ [] ?_;refine⟨?_,rfl⟩;first|rfl|(rw[GI];simp)

structure qE (l:List aU) (n:Nat):Prop where
 eI:l.length≤4
 tb:∀t∈l,eW t n
 sz:∀t∈l,t.nm.size≤maxLen
 GJ:l.Pairwise fun a b=>a.nm.toList≠b.nm.toList
theorem qE.no{l:List aU}(g:qE l n){i:Nat}(h:i<l.length):bA (l.take i) l[i].nm<0:=by
 unfold bA;rw[vA (k:=(l.take i).length) w4 (fun x hx=>?_)]
 ·decide
 rw[take_of_length_le (Nat.le_refl _)] at hx;obtain⟨j,hj,rfl⟩:=mem_iff_getElem.1 hx;rw[length_take] at hj;rw[getElem_take];have:=pairwise_iff_getElem.1 g.GJ j i w4 h w4;simpa using this
theorem aag(hm:(3,marksC)∈G)(hw:(2,wordsC)∈G)(ht:(0,typesC)∈G)(hG:(1,[Value.int .i64 m])∈G)(l:List aU)(g:qE l n):VP Tryz.prog G 20 [.agg [.list 5 ((l).flatMap dJ) (l).length]] (.v (.int .i64 0)):=by
 refine VC.body func20 rfl ntmps20 aO fun X0 w0 aZ=>?_;have dr:maxLen=9223372036854775807:=rfl;have U:=g.eI;refine cj ?_;refine OD.box (ds:=[_]) an rfl rfl ot rfl rfl (fun b1=>?_);refine aj 31 [1] ?_;refine ae [1,8] ?_;refine aq (fun az aG=>?_) (fun az aG=>?_)
 ·exact absurd az (by (simp at az;omega))
 refine ae [1,10,11,12] ?_;refine eH [1,10,11] (fun aW _ (i:Nat) aK=>(i≤l.length)∧aK=(⟨31,(12,.v (.int .i64 (i:Nat)))::aW,[⟨b1,25,1,[.list 5 ((l).flatMap dJ) (l).length]⟩]⟩:St)) (fun (i:Nat)=>l.length-i) 0 ⟨(Nat.zero_le _),rfl⟩ ?_;rintro i _ ⟨hi,rfl⟩;refine ae [1,10,11,12,13] ?_;refine aq (fun aH aT=>?_) (fun aH aT=>?_)
 ·have aa:i<l.length:=(by omega)
  have O:=abV hm hw ht hG (l[i]'aa) (g.tb _ (getElem_mem aa)) (g.sz _ (getElem_mem aa));have fj:=qv (G:=G) (l.take i) nT (l[i]'aa).nm;have kH:=g.no aa;unfold dJ at O;refine aC 3 ?_;refine OD.alloc (ds:=[_,_,_,_,_]) an rfl rfl zeroValue48 rfl (fun b4=>?_);refine aD 1 ?_;refine aN 0 [_,_,_,_,_] sizeOf48 ?_;refine aj 31 [1,3,4,10,11,12] ?_;refine CD.seq ?_;refine fF 10 (ap _) ?_ (fun _ h=>h);refine ax 0 rfl (cH (mk:=Op.load 48) rfl ot (by first|exact pP (k:=0) (ds:=[_,_,_,_,_]) rfl rfl isAgg48 sizeOf48 rfl rfl|exact jM jL isAgg48 sizeOf48 w5|exact dI (k:=0) jL rfl rfl rfl isAgg48 sizeOf48 w5|exact dI (k:=1) jL rfl rfl rfl isAgg48 sizeOf48 w5|exact pU (ds:=[_,_,_,_,_]) isAgg48 sizeOf48 rfl rfl)) ?_;refine dh.later rfl ?_;refine AD.one (i:=1) ay ?_;refine ju call40 (O) ?_;refine cq 2 rfl kI ?_;refine cq 3 rfl bg ?_;refine AD.split (t:=20) lk (fun E=>?_) (fun E=>?_)
  ·exact absurd E (by simp at E)
  have I:=E;(try simp only[V.mV,ne_eq] at I)
  refine cq 4 rfl (cY 0) ?_;refine cq 6 rfl bg ?_;refine cq 8 rfl (cY 0) ?_;refine AD.two (i:=5) (j:=9) ay ?_ ?_
  ·refine at_ rfl (dw 1) ?_;refine cq 7 rfl (dY (l:=0) (h:=i) rfl ot trivial ⟨_,ot⟩ (by exact nH jL (fun h=>by cases h) runUnderlying23 sizeOf48 w4)) ?_;refine AD.one (i:=9) ay ?_;refine at_ rfl (dw 0) ?_;exact VE
  refine at_ rfl (dw 0) ?_;refine AD.one (i:=5) ay ?_;refine at_ rfl (dw 1) ?_;refine cq 7 rfl (dY (l:=0) (h:=i) rfl ot trivial ⟨_,ot⟩ (by exact nH jL (fun h=>by cases h) runUnderlying23 sizeOf48 w4)) ?_;exact VE
 refine ae [2] ?_;exact nA

end Go.Proofs.YtbcmjoaggammcaaGreatDoor.Ba
namespace Go.Proofs.YtbcmjoaggammcaaGreatDoor.Ba
open List
open Go.Proofs.Tryz
open Go.RowKit V Pk Tr Vl Go.Proofs.YtbcmjoaggammcaaGreatDoor.Nm Pc Cd Ex Tw
open Pa (cN bY mv jA)
variable {G:List (Nat×List Value)} {m:Int}
noncomputable def lW(l:List aU)(s:cN):List aU×((List (List Vl)×Int)×Int) :=
 if jA s≠0 then ([],(([],0),jA s)) else if 7≤s.kind then ([],(([],0),2)) else if (eo l s).2.2≠0 then ([],(([],0),(eo l s).2.2)) else ((eo l s).1,((eo l s).2.1,0))
def GK(p:List aU×((List (List Vl)×Int)×Int)):D:=.dy [.agg [.list 5 (p.1.flatMap dJ) p.1.length],.agg [.list 1 (p.2.1.1.flatMap hU) p.2.1.1.length,.v (.int .i64 p.2.1.2)],.v (.int .i64 p.2.2)]
theorem aeZ(hm:(3,marksC)∈G)(hw:(2,wordsC)∈G)(ht:(0,typesC)∈G)(hG:(1,[Value.int .i64 m])∈G)(l:List aU){n:Nat}(hn:n≤260)(g:qE l n)(s:cN)(hf:mv s)(fk:¬s.kind=2)(BD:∀v∈s.row,v.Ok)(ho:∀o∈s.ah,o.nm.size≤maxLen)(fI:∀o∈s.ah,o.v.Ok)(oM:∀o∈s.bE,o.nm.size≤maxLen)(zk:∀o∈s.bE,o.v.Ok)(GC:(eo l s).2.2=0→(eo l s).1.length≤1000∧∀t∈(eo l s).1,AW t):VP Tryz.prog G 12 [.agg [.list 5 ((l).flatMap dJ) (l).length],.agg (bY s)] (GK (lW l s)):=by
 refine VC.body func12 rfl ntmps12 aO fun X0 w0 aZ=>?_;have dr:maxLen=9223372036854775807:=rfl;have mw:=g.eI;have pu:=aag hm hw ht hG l g;have eZ:=Pa.PF (G:=G) hm hw ht s hf;refine cj ?_;refine OD.box (ds:=[_]) an rfl rfl ot rfl rfl (fun b2=>?_);refine OD.box (ds:=[_,_,_,_,_,_,_,_,_,_,_,_]) an rfl rfl ot rfl rfl (fun b3=>?_);refine OD.alloc (ds:=[_]) an rfl rfl zeroValue25 rfl (fun b4=>?_);refine OD.alloc (ds:=[_,_]) an rfl rfl zeroValue35 rfl (fun b5=>?_);refine aD 1 ?_;first|refine OD.cells (k:=0) (cs':=[.list 1 [] 0,_]) rfl ⟨fY,eM,trivial⟩ rfl ?_|skip
 first|refine OD.cells (k:=1) (cs':=[.list 1 [] 0,_]) rfl ⟨fY,eM,trivial⟩ rfl ?_|skip
 first|refine OD.cells (k:=1) (cs':=[.list 5 [] 0]) rfl ⟨fY,trivial⟩ rfl ?_|skip
 first|refine OD.cells (k:=2) (cs':=[.list 5 [] 0]) rfl ⟨fY,trivial⟩ rfl ?_|skip
 refine aj 46 [2,3,4,5] ?_;refine cM [2,3,4,5,7] (pu) ?_;refine ae [2,3,4,5,7,15] ?_;refine aq (fun az aG=>?_) (fun az aG=>?_)
 ·exact absurd az (by simp at az)
 refine cM [2,3,4,5,8] (eZ) ?_;refine ae [2,3,4,5,8,22] ?_;refine aq (fun aH aT=>?_) (fun aH aT=>?_)
 ·have h1:jA s≠0:=(by simpa using aH)
  have aS:lW l s=([],(([],0),jA s)):=if_pos h1;refine aC 3 ?_;refine aN 1 [_] sizeOf25 ?_;refine aN 0 [_,_] sizeOf35 ?_;exact z40
 have h1:¬jA s≠0:=(by simpa using aH)
 refine ae [2,3,4,5,28] ?_;refine aq (fun aX bw=>?_) (fun aX bw=>?_)
 ·have h2:7≤s.kind:=(by simpa using aX)
  have aS:lW l s=([],(([],0),2)):=(by unfold lW;rw[if_neg h1,if_pos h2])
  refine aC 2 ?_;refine aN 1 [_] sizeOf25 ?_;refine aN 0 [_,_] sizeOf35 ?_;exact z40
 have h2:¬7≤s.kind:=(by simpa using aX)
 refine aC 1 ?_;refine OD.call an rfl rfl rfl call28 (ON l w4 (fun t h=>(g.tb t h).small)) ⟨ot,trivial⟩ (eK _) ?_;rintro _ _ ⟨L,ad,cap,Sx,rfl,kf,aQ,E,rfl⟩;refine OD.perm (S':=⟨b5,35,2,[.list 1 [] 0,.v (.int .i64 0)]⟩::⟨b4,25,1,[.list 5 [] 0]⟩::⟨b3,42,12,bY s⟩::⟨b2,25,1,[.list 5 ((l).flatMap dJ) (l).length]⟩::(Sx++L.flatMap bT)) (show((Sx++L.flatMap bT)++(⟨b5,35,2,[.list 1 [] 0,.v (.int .i64 0)]⟩::⟨b4,25,1,[.list 5 [] 0]⟩::⟨b3,42,12,bY s⟩::[⟨b2,25,1,[.list 5 ((l).flatMap dJ) (l).length]⟩]):List ag).Perm _ from(iu fun iS=>by simp only[map_append,map_cons,map_nil,sum_append,sum_cons,sum_nil];omega)) ?_;refine OD.alloc (ds:=[_]) an rfl rfl zeroValue25 rfl (fun b9=>?_);refine aN 0 [_] sizeOf25 ?_;refine aj 46 [3,4,5,9] ?_;refine aC 1 ?_;have rh:L.length=l.length:=(by rw[←E,length_map])
 refine OD.call (Sf:=gL b9 ad L.length cap::(Sx++L.flatMap bT)) (R:=⟨b5,35,2,[.list 1 [] 0,.v (.int .i64 0)]⟩::⟨b4,25,1,[.list 5 [] 0]⟩::⟨b3,42,12,bY s⟩::[⟨b2,25,1,[.list 5 ((l).flatMap dJ) (l).length]⟩]) an rfl rfl rfl call29 (aeY hm hw ht hG L aQ w4 (fun o ho=>⟨n,hn,g.tb _ (by rw[←E];exact mem_map_of_mem ho)⟩) s fk (by have:=hf.ok.1;omega) (by have:=hf.ok.2.1;omega) BD (by have:=hf.ok.2.2.1;omega) ho fI oM zk b9 ad cap Sx kf) ⟨ot,ot,trivial⟩ (show(gL b9 ad L.length cap::⟨b5,35,2,[.list 1 [] 0,.v (.int .i64 0)]⟩::⟨b4,25,1,[.list 5 [] 0]⟩::⟨b3,42,12,bY s⟩::⟨b2,25,1,[.list 5 ((l).flatMap dJ) (l).length]⟩::(Sx++L.flatMap bT):List ag).Perm ((gL b9 ad L.length cap::(Sx++L.flatMap bT))++(⟨b5,35,2,[.list 1 [] 0,.v (.int .i64 0)]⟩::⟨b4,25,1,[.list 5 [] 0]⟩::⟨b3,42,12,bY s⟩::[⟨b2,25,1,[.list 5 ((l).flatMap dJ) (l).length]⟩])) from(iu fun iS=>by simp only[map_append,map_cons,map_nil,sum_append,sum_cons,sum_nil];omega)) ?_;rintro _ S9 ⟨rfl,h9⟩;rw[E] at h9
 refine OD.perm (S':=⟨b5,35,2,[.list 1 [] 0,.v (.int .i64 0)]⟩::⟨b4,25,1,[.list 5 [] 0]⟩::⟨b3,42,12,bY s⟩::⟨b2,25,1,[.list 5 ((l).flatMap dJ) (l).length]⟩::S9) (show(S9++(⟨b5,35,2,[.list 1 [] 0,.v (.int .i64 0)]⟩::⟨b4,25,1,[.list 5 [] 0]⟩::⟨b3,42,12,bY s⟩::[⟨b2,25,1,[.list 5 ((l).flatMap dJ) (l).length]⟩]):List ag).Perm _ from(iu fun iS=>by simp only[map_append,map_cons,map_nil,sum_append,sum_cons,sum_nil];omega)) ?_;rw[E];unfold Dk;refine aD 3 ?_;refine OD.alloc (ds:=[_,_]) an rfl rfl zeroValue35 rfl (fun kG=>?_);refine aN 0 [_,_] sizeOf35 ?_;refine aj 46 [4,5,9,10,11] ?_;refine ae [4,5,9,10,11,39] ?_;refine aq (fun bC bW=>?_) (fun bC bW=>?_)
 ·have h3:(eo l s).2.2≠0:=(by simpa using bC)
  have aS:lW l s=([],(([],0),(eo l s).2.2)):=(by unfold lW;rw[if_neg h1,if_neg h2,if_pos h3])
  refine aC 3 ?_;refine aN 2 [_] sizeOf25 ?_;refine aN 1 [_,_] sizeOf35 ?_;exact z40
 have h3:¬(eo l s).2.2≠0:=(by simpa using bC)
 have aS:lW l s=((eo l s).1,((eo l s).2.1,0)):=(by unfold lW;rw[if_neg h1,if_neg h2,if_neg h3])
 obtain⟨L',I,kg,O,U,Z,ai7,hS⟩:=h9 (Classical.not_not.1 h3);obtain⟨Gz,tV⟩:=GC (Classical.not_not.1 h3);have wY:=Z6 (G:=G) (eo l s).1 Gz tV;refine CD.perm (S':=⟨kG,35,2,[.list 1 ((eo l s).2.1.1.flatMap hU) (eo l s).2.1.1.length,.v (.int .i64 (eo l s).2.1.2)]⟩::⟨b5,35,2,[.list 1 [] 0,.v (.int .i64 0)]⟩::⟨b4,25,1,[.list 5 [] 0]⟩::⟨b3,42,12,bY s⟩::⟨b2,25,1,[.list 5 ((l).flatMap dJ) (l).length]⟩::(gL b9 I L'.length kg::(O++L'.flatMap bT))) (show((⟨kG,35,2,[.list 1 ((eo l s).2.1.1.flatMap hU) (eo l s).2.1.1.length,.v (.int .i64 (eo l s).2.1.2)]⟩::⟨b5,35,2,[.list 1 [] 0,.v (.int .i64 0)]⟩::⟨b4,25,1,[.list 5 [] 0]⟩::⟨b3,42,12,bY s⟩::[⟨b2,25,1,[.list 5 ((l).flatMap dJ) (l).length]⟩])++S9:List ag).Perm ((⟨kG,35,2,[.list 1 ((eo l s).2.1.1.flatMap hU) (eo l s).2.1.1.length,.v (.int .i64 (eo l s).2.1.2)]⟩::⟨b5,35,2,[.list 1 [] 0,.v (.int .i64 0)]⟩::⟨b4,25,1,[.list 5 [] 0]⟩::⟨b3,42,12,bY s⟩::[⟨b2,25,1,[.list 5 ((l).flatMap dJ) (l).length]⟩])++(gL b9 I L'.length kg::(O++L'.flatMap bT))) from Perm.append_left ((⟨kG,35,2,[.list 1 ((eo l s).2.1.1.flatMap hU) (eo l s).2.1.1.length,.v (.int .i64 (eo l s).2.1.2)]⟩::⟨b5,35,2,[.list 1 [] 0,.v (.int .i64 0)]⟩::⟨b4,25,1,[.list 5 [] 0]⟩::⟨b3,42,12,bY s⟩::[⟨b2,25,1,[.list 5 ((l).flatMap dJ) (l).length]⟩]):List ag) hS) ?_
 refine CD.wk (Wk.cover (A:=gL b9 I L'.length kg) (R:=⟨kG,35,2,[.list 1 ((eo l s).2.1.1.flatMap hU) (eo l s).2.1.1.length,.v (.int .i64 (eo l s).2.1.2)]⟩::⟨b5,35,2,[.list 1 [] 0,.v (.int .i64 0)]⟩::⟨b4,25,1,[.list 5 [] 0]⟩::⟨b3,42,12,bY s⟩::[⟨b2,25,1,[.list 5 ((l).flatMap dJ) (l).length]⟩]) (Sd:=O++L'.flatMap bT) (cs':=[.list 5 (((eo l s).1).flatMap dJ) ((eo l s).1).length]) (show(⟨kG,35,2,[.list 1 ((eo l s).2.1.1.flatMap hU) (eo l s).2.1.1.length,.v (.int .i64 (eo l s).2.1.2)]⟩::⟨b5,35,2,[.list 1 [] 0,.v (.int .i64 0)]⟩::⟨b4,25,1,[.list 5 [] 0]⟩::⟨b3,42,12,bY s⟩::⟨b2,25,1,[.list 5 ((l).flatMap dJ) (l).length]⟩::(gL b9 I L'.length kg::(O++L'.flatMap bT)):List ag).Perm _ from(iu fun iS=>by simp only[map_append,map_cons,map_nil,sum_append,sum_cons,sum_nil];omega)) ⟨by rw[←ai7,length_map];exact ER U Z (fun B h=>h),trivial⟩) ?_;refine CD.skip ?_;refine CD.seq ?_;refine fF 4 (ap (eraseIdx _ 3)) ?_ (fun _ h=>(Sublist.map _ (eraseIdx_sublist _ 3)).subset h)
 refine ax 0 rfl (cH (mk:=Op.load 25) rfl ot (by first|exact pP (k:=0) (ds:=[_]) rfl rfl isAgg25 sizeOf25 rfl rfl|exact jM jL isAgg25 sizeOf25 w5|exact jM kN isAgg25 sizeOf25 w5|exact dI (k:=0) jL rfl rfl rfl isAgg25 sizeOf25 w5|exact dI (k:=1) jL rfl rfl rfl isAgg25 sizeOf25 w5|exact dI (k:=2) jL rfl rfl rfl isAgg25 sizeOf25 w5|exact dI (k:=3) jL rfl rfl rfl isAgg25 sizeOf25 w5|exact dI (k:=4) jL rfl rfl rfl isAgg25 sizeOf25 w5|exact dI (k:=5) jL rfl rfl rfl isAgg25 sizeOf25 w5|exact dI (k:=0) kN rfl rfl rfl isAgg25 sizeOf25 w5|exact dI (k:=1) kN rfl rfl rfl isAgg25 sizeOf25 w5|exact dI (k:=2) kN rfl rfl rfl isAgg25 sizeOf25 w5|exact dI (k:=3) kN rfl rfl rfl isAgg25 sizeOf25 w5|exact dI (k:=4) kN rfl rfl rfl isAgg25 sizeOf25 w5|exact dI (k:=5) kN rfl rfl rfl isAgg25 sizeOf25 w5|exact pU (ds:=[_]) isAgg25 sizeOf25 rfl rfl)) ?_
 refine ax 2 rfl (cH (mk:=Op.load 35) rfl ot (by first|exact pP (k:=1) (ds:=[_,_]) rfl rfl isAgg35 sizeOf35 rfl rfl|exact jM jL isAgg35 sizeOf35 w5|exact jM kN isAgg35 sizeOf35 w5|exact dI (k:=0) jL rfl rfl rfl isAgg35 sizeOf35 w5|exact dI (k:=1) jL rfl rfl rfl isAgg35 sizeOf35 w5|exact dI (k:=2) jL rfl rfl rfl isAgg35 sizeOf35 w5|exact dI (k:=3) jL rfl rfl rfl isAgg35 sizeOf35 w5|exact dI (k:=4) jL rfl rfl rfl isAgg35 sizeOf35 w5|exact dI (k:=5) jL rfl rfl rfl isAgg35 sizeOf35 w5|exact dI (k:=0) kN rfl rfl rfl isAgg35 sizeOf35 w5|exact dI (k:=1) kN rfl rfl rfl isAgg35 sizeOf35 w5|exact dI (k:=2) kN rfl rfl rfl isAgg35 sizeOf35 w5|exact dI (k:=3) kN rfl rfl rfl isAgg35 sizeOf35 w5|exact dI (k:=4) kN rfl rfl rfl isAgg35 sizeOf35 w5|exact dI (k:=5) kN rfl rfl rfl isAgg35 sizeOf35 w5|exact pU (ds:=[_,_]) isAgg35 sizeOf35 rfl rfl)) ?_;refine dh.later rfl ?_;refine AD.one (i:=1) ay ?_;refine ju call28 (wY) ?_;refine AD.one (i:=3) ay ?_;refine dL 3 [_] sizeOf25 ?_;refine ey ?_;refine aN 2 [_,_] sizeOf35 ?_;refine aD 1 ?_;first|refine OD.cells (k:=0) (cs':=[.list 1 [] 0,_]) rfl ⟨fY,eM,trivial⟩ rfl ?_|skip
 first|refine OD.cells (k:=1) (cs':=[.list 1 [] 0,_]) rfl ⟨fY,eM,trivial⟩ rfl ?_|skip
 first|refine OD.cells (k:=1) (cs':=[.list 5 [] 0]) rfl ⟨fY,trivial⟩ rfl ?_|skip
 first|refine OD.cells (k:=2) (cs':=[.list 5 [] 0]) rfl ⟨fY,trivial⟩ rfl ?_|skip
 refine aj 46 [4,5,6] ?_;exact tN

end Go.Proofs.YtbcmjoaggammcaaGreatDoor.Ba
namespace Go.Proofs.YtbcmjoaggammcaaGreatDoor.Ba
open List
open Go.Proofs.Tryz
open Go.RowKit V Pk Tr Vl Go.Proofs.YtbcmjoaggammcaaGreatDoor.Nm Pc Cd Ex Tw
open Pa (cN bY)
variable {t:aU} {n:Nat} {i:Int}
theorem eW.mono{t:aU}{a b:Nat}(g:eW t a)(h:a≤b):eW t b:=⟨g.nm,g.av,g.eI,g.ix.mono h,g.row,g.jn⟩
structure nj (t:aU) (n:Nat) (D:List Int):Prop where
 nm:cJ t.nm=0
 av:t.av=dG
 eI:t.rows.length≤40
 ix:iy t.ix n
 row:∀i (h:i<t.rows.length),t.rows[i]≠[]→Pc.dU dG t.rows[i]=0∧(∀v∈t.rows[i],v.Ok)∧((i:Int)∉D→(cQ t.rows[i],(i:Int))∈gD t.ix)
 jn:∀x∈gD t.ix,0≤x.2∧x.2∉D∧∃h:x.2.toNat<t.rows.length,t.rows[x.2.toNat]≠[]∧x.1=cQ t.rows[x.2.toNat]
theorem eW.d(g:eW t n):nj t n []:=⟨g.nm,g.av,g.eI,g.ix,fun i h hn=>⟨(g.row i h hn).1,(g.row i h hn).2.1,fun _=>(g.row i h hn).2.2⟩,fun x hx=>⟨(g.jn x hx).1,not_mem_nil,(g.jn x hx).2⟩⟩
theorem nj.tb(g:nj t n []):eW t n:=⟨g.nm,g.av,g.eI,g.ix,fun i h hn=>⟨(g.row i h hn).1,(g.row i h hn).2.1,(g.row i h hn).2.2 not_mem_nil⟩,fun x hx=>⟨(g.jn x hx).1,(g.jn x hx).2.2⟩⟩
theorem aah(g:eW t n)(hn:n≤300){row:List Vl}(aQ:∀v∈row,v.Ok)(h:(gi t row).2=0):eW (gi t row).1 (n+1)∧(gi t row).1.rows.length=t.rows.length+1:=by
 unfold gi at h ⊢;by_cases h1:Pc.dU t.av row=0
 ·rw[if_neg (fun e=>e h1)] at h ⊢;cases h2:gU t.ix (cQ row) (dz t.ix) with
  | true=>rw[h2,if_pos rfl] at h;cases h
  | false =>
   rw[h2,if_neg w7] at h;rw[if_neg w7];by_cases h3:t.rows.length=40
   ·rw[if_pos h3] at h;cases h
   rw[if_neg h3];have h4:Pc.dU dG row=0:=(by rw[←g.av];exact h1)
   obtain⟨g1,g2,g3⟩:=Ec g.ix hn ((Ed g.ix).1 h2) (ux h4) (Int.natCast_nonneg t.rows.length);have I:=g.eI;refine⟨⟨g.nm,g.av,by show(t.rows++[row]).length≤40;rw[length_append,length_singleton];omega,g1,fun i hi hne=>?_,fun x hx=>?_⟩,by show(t.rows++[row]).length=_;rw[length_append,length_singleton]⟩
   ·simp only at hi hne ⊢;rw[length_append,length_singleton] at hi;by_cases hl:i<t.rows.length
    ·have e:(t.rows++[row])[i]'B0=t.rows[i]:=getElem_append_left hl;rw[e] at hne ⊢;obtain⟨p1,p2,p3⟩:=g.row i hl hne;exact⟨p1,p2,(g3 _).2 (.inr p3)⟩
    have E:i=t.rows.length:=(by omega)
    subst E;have e:(t.rows++[row])[t.rows.length]'B0=row:=(by rw[getElem_append_right (Nat.le_refl _)];simp)
    rw[e] at hne ⊢;exact⟨h4,aQ,(g3 _).2 (.inl rfl)⟩
   rcases(g3 x).1 hx with rfl|hx
   ·refine⟨Int.natCast_nonneg _,by show t.rows.length<(t.rows++[row]).length;rw[length_append,length_singleton];omega,?_⟩;have e:(t.rows++[row])[t.rows.length]'B0=row:=(by rw[getElem_append_right (Nat.le_refl _)];simp)
    show(t.rows++[row])[t.rows.length]'_≠[]∧cQ row=cQ ((t.rows++[row])[t.rows.length]'_);rw[e];exact⟨fun e=>(by have:=oX h4;rw[e] at this;cases this),rfl⟩
   obtain⟨x0,x1,O,U⟩:=g.jn x hx;have e:(t.rows++[row])[x.2.toNat]'B0=t.rows[x.2.toNat]:=getElem_append_left x1;refine⟨x0,by show _<(t.rows++[row]).length;rw[length_append,length_singleton];omega,?_⟩;show(t.rows++[row])[x.2.toNat]'_≠[]∧x.1=cQ ((t.rows++[row])[x.2.toNat]'_);rw[e];exact⟨O,U⟩
 rw[if_pos h1] at h;exact absurd h h1
theorem OW{n:Nat}:∀{l:List Int} {t:aU},eW t n→l.Nodup→(∀i∈l,gg t i)→eW (qN t l) n∧(qN t l).rows.length=t.rows.length
 | [],_,g,_,_=>⟨g,rfl⟩
 | i::r,t,g,hn,hi=>by
  rw[nodup_cons] at hn;have h1:=OW (OT g (hi i mem_cons_self)) hn.2 fun j hj=>RR (hi j (mem_cons_of_mem _ hj)) (fun e=>hn.1 (e ▸ hj)) (hi i mem_cons_self).1;refine⟨h1.1,h1.2.trans ?_⟩;show(t.rows.set _ _).length=_;rw[length_set]
theorem XG(g:eW t n)(w:List aV):eW (mg t w).1 n∧(mg t w).1.rows.length=t.rows.length:=by
 unfold mg;split
 ·exact⟨g,rfl⟩
 exact OW g (DV g w) (uF g w)
theorem RX{r:List Vl}{c:Nat}(hc:c≠0)(v:Vl):cQ (r.set c v)=cQ r:=by
 unfold cQ;cases r with
 | nil=>rfl
 | cons a r=>cases c with
  | zero=>exact absurd rfl hc
  | succ c=>rfl
theorem TM{D:List Int}(g:nj t n D)(hi:gg t i){c:Nat}(hc:c<dG.length){v:Vl}(hv:jB (dG[c]'hc).k v)(fI:v.Ok)(h0:c=0→v.k≠0∧i∈D):nj (qO t i c v) n D∧(∀j,gg t j→gg (qO t i c v) j):=by
 obtain⟨q0,q1,q2⟩:=hi;obtain⟨p1,p2,p3⟩:=g.row _ q1 q2;have U:=jo (t:=t) q1;have Z:Pc.dU dG ((rowAt t i).set c v)=0:=(by rw[U];exact RS p1 hc hv fun h=>(h0 h).1)
 have jE:(rowAt t i).set c v≠[]:=fun e=>by have:=oX Z;rw[e] at this;cases this
 have hlen:(qO t i c v).rows.length=t.rows.length:=length_set;have I:∀j (h:j<t.rows.length),(qO t i c v).rows[j]'(by rw[hlen];exact h)=if i.toNat=j then (rowAt t i).set c v else t.rows[j]:=fun j h=>getElem_set ..
 refine⟨⟨g.nm,g.av,by rw[hlen];exact g.eI,g.ix,fun j hj hne=>?_,fun x hx=>?_⟩,fun j ⟨j0,j1,j2⟩=>⟨j0,by rw[hlen];exact j1,?_⟩⟩
 ·rw[hlen] at hj;rw[I j hj] at hne ⊢;by_cases E:i.toNat=j
  ·rw[if_pos E];refine⟨Z,fun w hw=>?_,fun hd=>?_⟩
   ·rcases mem_or_eq_of_mem_set hw with hw|hw
    ·rw[U] at hw;exact p2 w hw
    rw[hw];exact fI
   have q8:(j:Int)=i:=(by omega)
   by_cases O:c=0
   ·exact absurd (q8 ▸ (h0 O).2) hd
   rw[RX O,U];subst E;exact p3 hd
  rw[if_neg E] at hne ⊢;exact g.row j hj hne
 ·obtain⟨x0,xd,x1,x2,x3⟩:=g.jn x hx;refine⟨x0,xd,by rw[hlen];exact x1,?_⟩;rw[I _ x1];by_cases E:i.toNat=x.2.toNat
  ·rw[if_pos E];refine⟨jE,?_⟩;have q8:x.2=i:=(by omega)
   by_cases O:c=0
   ·exact absurd (q8 ▸ (h0 O).2) xd
   rw[RX O,U,x3];simp only[E]
  rw[if_neg E];exact⟨x2,x3⟩
 rw[I _ j1];split
 ·exact jE
 exact j2
theorem agn{x:aE}{D:List Int}(g:nj {t with ix:=x} n D)(hi:gg t i)(hd:i∉D):nj {t with ix:=gq x (dz x) (cQ (rowAt t i))} n (i::D):=by
 obtain⟨q0,q1,q2⟩:=hi;obtain⟨p1,p2,p3⟩:=g.row _ q1 q2;have E:=jo (t:=t) q1;have I:(cQ (rowAt t i),i)∈gD x:=by
  have:=p3 (by rw[Int.toNat_of_nonneg q0];exact hd);rw[Int.toNat_of_nonneg q0] at this;rw[E];exact this
 obtain⟨d1,d2⟩:=H7 g.ix ((Aq g.ix.val _).2 ⟨i,I⟩);refine⟨g.nm,g.av,g.eI,d1,fun j hj hne=>?_,fun y hy=>?_⟩
 ·obtain⟨r1,r2,U⟩:=g.row j hj hne;refine⟨r1,r2,fun hd2=>?_⟩;have O:(j:Int)≠i:=fun e=>hd2 (e ▸ mem_cons_self);refine(d2 _).2 ⟨U fun e=>hd2 (mem_cons_of_mem _ e),fun e=>O ?_⟩;have:=IZ g.ix (U fun e=>hd2 (mem_cons_of_mem _ e)) I e;simp only[Prod.mk.injEq] at this;exact this.2
 obtain⟨y1,y2⟩:=(d2 y).1 hy;obtain⟨z0,zd,z1,z2,z3⟩:=g.jn y y1;refine⟨z0,fun hm=>?_,z1,z2,z3⟩;rcases mem_cons.1 hm with e|hm
 ·refine y2 ?_;rw[z3,E];simp only[e]
 exact zd hm
theorem RY{t:aU}{n:Nat}:∀(l:List Int) (x:aE) (D:List Int),nj {t with ix:=x} n D→l.Nodup→(∀i∈l,gg t i∧i∉D)→∃D',nj {t with ix:=nO t x l} n D'∧∀i,i∈D'↔i∈l∨i∈D
 | [],x,D,g,_,_=>⟨D,g,fun i=>by simp⟩
 | i::r,x,D,g,hn,hi=>by
  rw[nodup_cons] at hn;obtain⟨D',h1,h2⟩:=RY r _ (i::D) (agn g (hi i mem_cons_self).1 (hi i mem_cons_self).2) hn.2 fun j hj=>⟨(hi j (mem_cons_of_mem _ hj)).1,fun e=>by
   rcases mem_cons.1 e with e|e
   ·exact hn.1 (e ▸ hj)
   exact(hi j (mem_cons_of_mem _ hj)).2 e⟩
  refine⟨D',h1,fun j=>(h2 j).trans ?_⟩;simp only[mem_cons];constructor
  ·rintro(h|h|h)
   ·exact .inl (.inr h)
   ·exact .inl (.inl h)
   exact .inr h
  rintro((h|h)|h)
  ·exact .inr (.inl h)
  ·exact .inl h
  exact .inr (.inr h)
theorem nj.ai8{D D':List Int}(g:nj t n D)(h:∀i,i∈D↔i∈D'):nj t n D':=⟨g.nm,g.av,g.eI,g.ix,fun i hi hne=>⟨(g.row i hi hne).1,(g.row i hi hne).2.1,fun hd=>(g.row i hi hne).2.2 fun e=>hd ((h _).1 e)⟩,fun x hx=>⟨(g.jn x hx).1,fun e=>(g.jn x hx).2.1 ((h _).2 e),(g.jn x hx).2.2⟩⟩
theorem ai9{D:List Int}(g:nj t n D)(hn:n≤300)(hi:gg t i)(hd:i∈D)(kH:gU t.ix (cQ (rowAt t i)) (dz t.ix)=false):nj {t with ix:=gp t.ix (dz t.ix) (cQ (rowAt t i)) i} (n+1) (D.filter (·≠i)):=by
 obtain⟨q0,q1,q2⟩:=hi;obtain⟨p1,p2,p3⟩:=g.row _ q1 q2;have E:=jo (t:=t) q1;obtain⟨g1,_,g3⟩:=Ec g.ix hn ((Ed g.ix).1 kH) (by rw[E];exact ux p1) q0;have hf:∀j,j∈D.filter (·≠i)↔j∈D∧j≠i:=fun j=>by rw[mem_filter];simp
 refine⟨g.nm,g.av,g.eI,g1,fun j hj hne=>?_,fun y hy=>?_⟩
 ·obtain⟨r1,r2,O⟩:=g.row j hj hne;refine⟨r1,r2,fun hd2=>(g3 _).2 ?_⟩;by_cases e:(j:Int)=i
  ·left;have I:i.toNat=j:=(by omega)
   subst I;rw[E,Int.toNat_of_nonneg q0]
  right;exact O fun hm=>hd2 ((hf _).2 ⟨hm,e⟩)
 rcases(g3 y).1 hy with rfl|hy
 ·exact⟨q0,fun hm=>((hf _).1 hm).2 rfl,q1,q2,by rw[E]⟩
 obtain⟨z0,zd,z1,z2,z3⟩:=g.jn y hy;exact⟨z0,fun hm=>zd ((hf _).1 hm).1,z1,z2,z3⟩
theorem S6:∀(l:List Int) (vs:List Vl) (t:aU) (n:Nat) (D:List Int),nj t n D→n+l.length≤300→l.Nodup→vs.length=l.length→(∀i∈l,gg t i∧i∈D)→(∀v∈vs,v.Ok∧jB (dG[0]'w7).k v∧v.k≠0)→(j9 t l vs).2=0 →
  ∃D',nj (j9 t l vs).1 (n+l.length) D'∧(j9 t l vs).1.rows.length=t.rows.length∧∀i,i∈D'↔i∈D∧i∉l
 | [],[],t,n,D,g,_,_,_,_,_,_=>⟨D,g,rfl,fun i=>by simp⟩
 | [],_::_,_,_,_,_,_,_,h,_,_,_=>by cases h
 | _::_,[],_,_,_,_,_,_,h,_,_,_=>by cases h
 | i::r,v::s,t,n,D,g,hn,hnd,hl,hi,hv,h=>by
  rw[nodup_cons] at hnd;rw[length_cons] at hn hl;rw[length_cons] at hl;obtain⟨E,hid⟩:=hi i mem_cons_self;obtain⟨v1,v2,v3⟩:=hv v mem_cons_self;obtain⟨g1,jV⟩:=TM g E (c:=0) w7 v2 v1 fun _=>⟨v3,hid⟩
  rw[j9] at h ⊢;cases iI:gU t.ix (cQ (rowAt (qO t i 0 v) i)) (dz t.ix) with
  | true=>rw[iI,if_pos rfl] at h;cases h
  | false =>
   rw[iI,if_neg w7] at h;rw[if_neg w7];have g2:=ai9 g1 w4 (jV i E) hid iI;obtain⟨D',h1,h2,h3⟩:=S6 r s _ (n+1) _ g2 w4 hnd.2 w4 (fun j hj=>⟨jV j (hi j (mem_cons_of_mem _ hj)).1,by rw[mem_filter];exact⟨(hi j (mem_cons_of_mem _ hj)).2,by simp;exact fun e=>hnd.1 (e ▸ hj)⟩⟩) (fun w hw=>hv w (mem_cons_of_mem _ hw)) h;refine⟨D',by rw[length_cons,show n+(r.length+1)=n+1+r.length by omega];exact h1,h2.trans (by show(t.rows.set _ _).length=_;rw[length_set]),fun j=>(h3 j).trans ?_⟩;rw[mem_filter,mem_cons];simp only[decide_eq_true_eq,ne_eq,not_or,and_assoc]
theorem RZ{n:Nat}{c:Nat}(hc:c<dG.length)(az:c≠0):∀(l:List Int) (vs:List Vl) (t:aU),eW t n→(∀i∈l,gg t i)→(∀v∈vs,v.Ok∧jB (dG[c]'hc).k v)→eW (mz c t l vs) n∧(mz c t l vs).rows.length=t.rows.length
 | [],_,t,g,_,_=>by unfold mz;exact⟨g,rfl⟩
 | _::_,[],t,g,_,_=>by unfold mz;exact⟨g,rfl⟩
 | i::r,v::s,t,g,hi,hv=>by
  rw[mz];obtain⟨v1,v2⟩:=hv v mem_cons_self;obtain⟨g1,jV⟩:=TM g.d (hi i mem_cons_self) hc v2 v1 fun e=>absurd e az;have h1:=RZ hc az r s _ g1.tb (fun j hj=>jV j (hi j (mem_cons_of_mem _ hj))) fun w hw=>hv w (mem_cons_of_mem _ hw);exact⟨h1.1,h1.2.trans (by show(t.rows.set _ _).length=_;rw[length_set])⟩
theorem adw{k:Int}{c:Int}{v:Vl}(h:jB k v)(hk:¬(k≠c∧k≠0)):jB c v:=by
 refine⟨h.1,?_⟩;have:=h.2;omega
theorem aai(g:eW t n)(s:cN)(kH:∀o∈s.bE,o.nm.size≤maxLen)(fI:∀o∈s.bE,o.v.Ok)(hn:n≤260):eW (gG t s).1 (n+t.rows.length)∧(gG t s).1.rows.length=t.rows.length:=by
 have hz:eW t (n+t.rows.length)∧t.rows.length=t.rows.length:=⟨g.mono w4,rfl⟩
 unfold gG;by_cases hA:bL t.av s.set<0
 ·rw[if_pos hA];exact hz
 rw[if_neg hA];by_cases hB:(dZ t.av s.bE).2≠0
 ·rw[if_pos hB];exact hz
 rw[if_neg hB];by_cases hC:(dZ t.av s.bE).1≠(t.av.getD (bL t.av s.set).toNat ⟨⟨#[]⟩,0⟩).k∧(dZ t.av s.bE).1≠0
 ·rw[if_pos hC];exact hz
 rw[if_neg hC];by_cases hD:(au t s.ah).2≠0
 ·rw[if_pos hD];exact hz
 rw[if_neg hD];by_cases hN:(iE t (bL t.av s.set) s.bE [] (au t s.ah).1).2≠0
 ·rw[if_pos hN];exact hz
 rw[if_neg hN];have Z:=Classical.not_not.1 hN;have hkz:(dZ dG s.bE).2=0:=(by rw[←g.av];exact Classical.not_not.1 hB)
 have E:=Ic g kH fI hkz (au t s.ah).1 [] (uF g s.ah) Z (fun v O=>by cases O);have hlen:=Qv (t:=t) (c:=bL t.av s.set) (e:=s.bE) (au t s.ah).1 [] Z;have W7:=(Jo (l:=t.av) (nm:=s.set)).2;have hcc:t.av.length=dG.length:=(by rw[g.av])
 have U:(bL t.av s.set).toNat<dG.length:=(by omega)
 have GG:∀v,jB (dZ dG s.bE).1 v→jB (dG[(bL t.av s.set).toNat]'U).k v:=fun v O=>by
  refine adw O ?_;rw[g.av] at hC;have e:dG.getD (bL dG s.set).toNat ⟨⟨#[]⟩,0⟩=dG[(bL t.av s.set).toNat]'U:=by
   rw[getD_eq_getElem?_getD];rw[show(bL dG s.set).toNat=(bL t.av s.set).toNat by rw[g.av]];rw[getElem?_eq_getElem U];rfl
  rw[e] at hC;exact hC
 by_cases hP:0<bL t.av s.set
 ·rw[if_pos hP];have h1:=RZ (c:=(bL t.av s.set).toNat) U w4 (au t s.ah).1 (iE t (bL t.av s.set) s.bE [] (au t s.ah).1).1 t g (uF g s.ah) fun v O=>⟨(E v O).1,GG v (E v O).2.1⟩
  exact⟨h1.1.mono w4,h1.2⟩
 rw[if_neg hP];have xO:bL t.av s.set=0:=(by omega)
 by_cases hM:(j9 {t with ix:=nO t t.ix (au t s.ah).1} (au t s.ah).1 (iE t (bL t.av s.set) s.bE [] (au t s.ah).1).1).2≠0
 ·rw[if_pos hM];exact hz
 rw[if_neg hM];have hnd:=DV g s.ah;have I:=uF g s.ah;have mw:=EC g s.ah;obtain⟨D,d1,d2⟩:=RY (au t s.ah).1 t.ix [] g.d hnd fun i hi=>⟨I i hi,not_mem_nil⟩
 obtain⟨D',e1,e2,e3⟩:=S6 (au t s.ah).1 (iE t (bL t.av s.set) s.bE [] (au t s.ah).1).1 _ n D d1 w4 hnd (by rw[hlen];simp) (fun i hi=>⟨I i hi,(d2 i).2 (.inl hi)⟩) (fun v O=>⟨(E v O).1,by have:=GG v (E v O).2.1;simp only[xO] at this;exact this,(E v O).2.2 xO⟩) (Classical.not_not.1 hM);have hD':eW _ _:=(e1.ai8 (D':=[]) fun i=>by rw[e3,d2];simp).tb;have hle:(au t s.ah).1.length≤t.rows.length:=by
  have h1:((au t s.ah).1.map Int.toNat).Nodup:=by
   rw[Nodup,pairwise_map];refine(Pairwise.and_mem.1 hnd).imp fun {a b} h e=>h.2.2 ?_;have:=(I a h.1).1;have:=(I b h.2.1).1;omega
  have h2:=h1.length_le_of_subset (l₂:=range t.rows.length) fun x hx=>by
   obtain⟨y,hy,rfl⟩:=mem_map.1 hx;exact mem_range.2 (I y hy).2.1
  rwa [length_map,length_range] at h2
 exact⟨hD'.mono w4,e2⟩

end Go.Proofs.YtbcmjoaggammcaaGreatDoor.Ba
namespace Go.Proofs.YtbcmjoaggammcaaGreatDoor.Pa
open List
open Go.Proofs.Tryz
open Go.RowKit V Pk Vl Go.Proofs.YtbcmjoaggammcaaGreatDoor.Nm Pc
variable {t:ByteArray}
theorem adA{s:ByteArray}(h:cJ s=0):nK s=true∧s.size≤8:=by
 unfold cJ at h;split at h
 ·cases h
 split at h
 ·cases h
 rename_i h1 h2;rw[Bool.or_eq_true,Bool.not_eq_true'] at h2;refine⟨?_,by omega⟩;cases hw:nK s with
 | true=>rfl
 | false=>exact absurd (.inl hw) h2
variable {G:List (Nat×List Value)}
def s5:List Vl→ByteArray
 | []=>⟨#[120]⟩
 | v::_=>v.s
def nk(s:cN):Prop:=mv s∧1≤s.kind∧s.kind≤6∧s.gK≤9223372036854775807∧gS s=0
structure M3 (w:List aV):Prop where
 l:w.length≤40
 f:nh w=0
 b:∀o∈w,o.nm.size≤maxLen∧-9223372036854775808≤o.v.n∧o.v.n≤9223372036854775807
theorem adB:M3 []:=⟨Nat.zero_le _,rfl,fun _ h=>by cases h⟩
theorem aaj(t:Tw):∀o∈gX 3 t,-20≤o.v.n∧o.v.n≤40:=by
 have hz:∀j nm,-20≤(⟨j,bP,nm⟩:aV).v.n∧(⟨j,bP,nm⟩:aV).v.n≤40:=fun _ _=>⟨by show(-20:Int)≤0;decide,by show(0:Int)≤40;decide⟩
 have uQ:∀n s,-20≤(rJ n s).v.n∧(rJ n s).v.n≤40:=fun n s=>by
  show -20≤(oT ⟨n,dW n 40-20,s⟩).n∧(oT ⟨n,dW n 40-20,s⟩).n≤40;have O:=jW n (show(1:Int)≤40 by decide);have h2:=jW (dW n 40-20) (show(1:Int)≤2 by decide);unfold oT;split
  ·dsimp only;omega
  split
  ·dsimp only;omega
  split
  ·dsimp only;omega
  exact⟨by show(-20:Int)≤0;decide,by show(0:Int)≤40;decide⟩
 have E:∀k n s,∀o∈mc k n s,-20≤o.v.n∧o.v.n≤40:=fun k n s o ho=>by
  unfold mc at ho;split at ho<;>(simp only[mem_singleton] at ho;subst ho)
  ·exact hz _ _
  exact uQ _ _
 have key:∀(r:Nat) (t:Tw),∀o∈gX r t,-20≤o.v.n∧o.v.n≤40:=by
  intro r;induction r with
  | zero=>intro t;obtain⟨k,n,s,ts⟩:=t;exact E k n s
  | succ r ih =>
   intro t o ho;obtain⟨k,n,s,ts⟩:=t;have I:∀i:Nat,∀o∈gm r ts n s i,-20≤o.v.n∧o.v.n≤40:=fun i o ho=>by
    unfold gm at ho;split at ho
    ·exact ih _ o ho
    exact E _ _ _ o ho
   rw[vF] at ho;split at ho
   ·simp only[mem_singleton] at ho;subst ho;exact uQ _ _
   split at ho
   ·simp only[mem_singleton] at ho;subst ho;exact hz _ _
   split at ho
   ·rcases mem_append.1 ho with ho|ho
    ·exact I 0 o ho
    simp only[mem_singleton] at ho;subst ho;exact hz _ _
   rcases mem_append.1 ho with ho|ho
   ·rcases mem_append.1 ho with ho|ho
    ·exact I 0 o ho
    exact I 1 o ho
   simp only[mem_singleton] at ho;subst ho;exact hz _ _
 exact key 3 t
theorem R3(t:Tw):M3 (gX 3 t):=by
 have h:=Oi t;refine⟨by omega,?_,fun o ho=>⟨aaY (aaX t) o ho,?_⟩⟩
 ·unfold nh;rw[if_neg w4];exact Oj t
 have:=aaj t o ho;omega
theorem aak(s:cN):lj s s=true:=by
 unfold lj;simp only[Bool.and_eq_true,beq_iff_eq,AF,and_self]
theorem x9{s:cN}(ht:cJ s.table=0)(he:jN s=0)(hb:iQ s=s):gS s=0:=by
 unfold gS;rw[if_neg (fun h=>h.2 ht),hb,if_neg (fun h=>by rw[aak] at h;cases h.2),he]
theorem small{x:ByteArray}(h:cJ x=0):x.size≤maxLen:=Nat.le_trans (adA h).2 w7
def r9(s:cN):Prop:=s.ah=[]∧∀w,M3 w→(4≤s.kind∨w=[])→nk {s with ah:=w}
theorem r9.wD{s:cN}(h:r9 s):nk s:=by
 have:=h.2 [] adB (.inr rfl);rw[←h.1] at this;exact this
theorem NU(ht:cJ t=0):r9 {ir with kind:=1,table:=t,av:=dG}:=⟨rfl,fun w hw h=>by
 have E:w=[]:=h.resolve_left (by show ¬(4:Int)≤1;decide);subst E;exact⟨⟨⟨by show 4≤6;decide,Nat.zero_le _,Nat.zero_le _,Nat.zero_le _,Nat.zero_le _⟩,small ht,by show ∀c∈dG,c.n.size≤maxLen;decide,(fun _ h=>by cases h),Nat.zero_le _,Nat.zero_le _,(fun _ h=>by cases h),(fun _ h=>by cases h),(fun _ h=>by cases h)⟩,by show(1:Int)≤1;decide,by show(1:Int)≤6;decide,B3,
  x9 ht (show fw dG=0 by decide +kernel) ay⟩⟩
theorem abW(ht:cJ t=0):r9 {ir with kind:=2,table:=t}:=⟨rfl,fun w hw h=>by
 have E:w=[]:=h.resolve_left (by show ¬(4:Int)≤2;decide);subst E;exact⟨⟨⟨Nat.zero_le _,Nat.zero_le _,Nat.zero_le _,Nat.zero_le _,Nat.zero_le _⟩,small ht,(fun _ h=>by cases h),(fun _ h=>by cases h),Nat.zero_le _,Nat.zero_le _,(fun _ h=>by cases h),(fun _ h=>by cases h),(fun _ h=>by cases h)⟩,by show(1:Int)≤2;decide,by show(2:Int)≤6;decide,B3,
  x9 ht ay ay⟩⟩
theorem R4{x:Int}(h0:0≤x):iG ⟨2,x,⟨#[]⟩⟩=0:=by
 unfold iG;rw[if_neg (by intro h;have:=h.2;dsimp only at this;omega)];kernel_rfl
theorem adC{s:ByteArray}(h:s.size≤20):iG ⟨3,0,s⟩=0:=by
 unfold iG;rw[if_neg (by intro h;exact absurd h.1 (by show ¬(3:Int)=2;decide))];unfold dB;rw[if_neg (by show ¬(3:Int)=0;decide),if_neg (by show ¬(3:Int)=1;decide),if_neg (by show ¬(3:Int)=2;decide),if_pos rfl,if_neg (fun h=>h rfl),if_neg (by show ¬s.size>20;omega)]
theorem aal(n:Int):iG (pS n)=0∧-9223372036854775808≤(pS n).n∧(pS n).n≤9223372036854775807:=by
 have h:=jW n (show(1:Int)≤3 by decide);unfold pS;split
 ·exact⟨by decide,by decide,by decide⟩
 have h2:dW n 3=0∨dW n 3=1:=(by omega)
 rcases h2 with h2|h2<;>rw[h2]<;>exact⟨by decide,by decide,by decide⟩
theorem YR(ht:cJ t=0){x y b:Int}(hx:0≤x∧x<12)(hy:0≤y∧y<9){u:ByteArray}(Z:u.size≤6):r9 {ir with kind:=3,table:=t,row:=[⟨2,x,⟨#[]⟩⟩,⟨2,y,⟨#[]⟩⟩,⟨3,0,u⟩,pS b]}:=⟨rfl,fun w hw h=>by
 have E:w=[]:=h.resolve_left (by show ¬(4:Int)≤3;decide);subst E;have l1:=R4 hx.1;have l2:=R4 hy.1;have l3:iG ⟨3,0,u⟩=0:=adC w4;obtain⟨l4,O,U⟩:=aal b;refine⟨⟨⟨Nat.zero_le _,by show 4≤6;decide,Nat.zero_le _,Nat.zero_le _,Nat.zero_le _⟩,small ht,(fun _ h=>by cases h),(fun _ h=>by cases h),Nat.zero_le _,Nat.zero_le _,fun v I=>?_,(fun _ h=>by cases h),(fun _ h=>by cases h)⟩,by show(1:Int)≤3;decide,by show(3:Int)≤6;decide,B3,x9 ht ?_ ay⟩
 ·simp only[mem_cons,not_mem_nil,or_false] at I;rcases I with rfl|rfl|rfl|rfl
  ·dsimp only;omega
  ·dsimp only;omega
  ·dsimp only;omega
  exact⟨O,U⟩
 show dU [⟨2,x,⟨#[]⟩⟩,⟨2,y,⟨#[]⟩⟩,⟨3,0,u⟩,pS b]=0;unfold dU;rw[if_neg bu];simp[jz,l1,l2,l3,l4]⟩
theorem YS(ht:cJ t=0){N:List ByteArray}(E:N.length≤6∧∀x∈N,cJ x=0){c:Bool}(hc:c=true→N=[]){o:ByteArray}(ho:o=⟨#[]⟩∨cJ o=0){d:Bool}(hd:o=⟨#[]⟩→d=false){m:Int}(hm:-1≤m∧m≤7):r9 {ir with kind:=4,table:=t,names:=N,count:=c,order:=o,down:=d,gK:=m}:=⟨rfl,fun w hw h=>by
 have I:o.size≤maxLen:=(by rcases ho with rfl|h;exact Nat.zero_le _;exact small h)
 refine⟨⟨⟨Nat.zero_le _,Nat.zero_le _,E.1,hw.l,Nat.zero_le _⟩,small ht,(fun _ h=>by cases h),fun x hx=>small (E.2 x hx),I,Nat.zero_le _,(fun _ h=>by cases h),hw.b,(fun _ h=>by cases h)⟩,by show(1:Int)≤4;decide,by show(4:Int)≤6;decide,(by show _≤(9223372036854775807:Int);dsimp only;omega),x9 ht ?_ ay⟩;show oo {ir with kind:=4,table:=t,names:=N,count:=c,ah:=w,order:=o,down:=d,gK:=m}=0;have gv:jz cJ N=0:=by
  have key:∀l:List ByteArray,(∀x∈l,cJ x=0)→jz cJ l=0:=by
   intro l;induction l with
   | nil=>intro _;rfl
   | cons a r ih=>intro h;rw[jz,if_neg (by rw[h a mem_cons_self];decide)];exact ih fun x hx=>h x (mem_cons_of_mem _ hx)
  exact key N E.2
 unfold oo;dsimp only;rw[if_neg w4,if_neg w4,if_neg (by
  rintro(⟨h1,h2⟩|⟨h1,h2⟩)
  ·rw[hc h1] at h2;simp at h2
  rw[hd (AF.1 h2)] at h1;cases h1),if_neg (by rw[gv];decide),if_neg (by rw[hw.f];decide)]
 split
 ·rfl
 rename_i h2;exact ho.resolve_left fun h=>h2 (AF.2 h)⟩
theorem YT(ht:cJ t=0){c:ByteArray}(hc:cJ c=0)(E:Tw):r9 {ir with kind:=5,table:=t,set:=c,bE:=gX 3 E}:=⟨rfl,fun w hw h=>by
 have ho:=R3 E;refine⟨⟨⟨Nat.zero_le _,Nat.zero_le _,Nat.zero_le _,hw.l,ho.l⟩,small ht,(fun _ h=>by cases h),(fun _ h=>by cases h),Nat.zero_le _,small hc,(fun _ h=>by cases h),hw.b,ho.b⟩,by show(1:Int)≤5;decide,by show(5:Int)≤6;decide,B3,x9 ht ?_ ay⟩;show(if cJ c=0 then (if iF (gX 3 E)=0 then nh w else iF (gX 3 E)) else cJ c)=0;rw[if_pos hc,if_pos (Oj E),hw.f]⟩
theorem YU(ht:cJ t=0):r9 {ir with kind:=6,table:=t}:=⟨rfl,fun w hw h=>by
 refine⟨⟨⟨Nat.zero_le _,Nat.zero_le _,Nat.zero_le _,hw.l,Nat.zero_le _⟩,small ht,(fun _ h=>by cases h),(fun _ h=>by cases h),Nat.zero_le _,Nat.zero_le _,(fun _ h=>by cases h),hw.b,(fun _ h=>by cases h)⟩,by show(1:Int)≤6;decide,by show(6:Int)≤6;decide,B3,x9 ht hw.f ay⟩⟩
def eT:List ByteArray:=[⟨#[116]⟩,⟨#[117]⟩]
def iA:List ByteArray:=[⟨#[]⟩,⟨#[110]⟩,⟨#[115]⟩,⟨#[105,100]⟩]
def Ac:List ByteArray:=[⟨#[110]⟩,⟨#[110]⟩,⟨#[115]⟩,⟨#[98]⟩,⟨#[105,100]⟩]
theorem Fc:∀x∈eT,cJ x=0:=by decide +kernel
theorem ago:∀x∈iA,x.size=0∨cJ x=0:=by decide +kernel
theorem J0:∀x∈Ac,cJ x=0:=by decide +kernel
theorem sL(n:Int)(h1:-9223372036854775808≤n)(h2:n≤9223372036854775807):VP Tryz.prog G 26 [.v (.int .i64 n)] (.agg [.v (.int .i64 (pS n).k),.v (.int .i64 (pS n).n),.v (.string (pS n).s)]):=by
 refine VC.body func26 rfl ntmps26 aO fun X0 w0 aZ=>?_;refine cj ?_;refine OD.alloc (ds:=[_,_,_]) an rfl rfl zeroValue30 rfl (fun b2=>?_);refine aj 10 [0,2] ?_;refine cM [0,2,5] (kM G n 3 h1 h2 w7) ?_;refine aq (fun az aG=>?_) (fun az aG=>?_)
 ·refine aC 1 ?_;refine aN 0 [_,_,_] sizeOf30 ?_;refine aj 10 [2] ?_;refine aJ [] ?_;refine⟨?_,rfl⟩;unfold pS bP;simp_all
 refine aC 1 ?_;refine dS call11 (kM G n 3 h1 h2 w7) ?_;refine aD 1 ?_;refine aN 0 [_,_,_] sizeOf30 ?_;refine aj 10 [2] ?_;refine aJ [] ?_;refine⟨?_,rfl⟩;unfold pS bP;simp_all

theorem ae0{s:ByteArray}(h:s.size=0):s=⟨#[]⟩:=by
 obtain⟨d⟩:=s;have:d = #[]:=Array.eq_empty_of_size_eq_zero h;rw[this]
theorem aam(k t a b:Int)(row:List Vl)(O U:Int)(Z:ByteArray)(E:List Tw)(y1 y2:Int)(y3:ByteArray)(I:List Tw)(bare:Bool):VP Tryz.prog G 42 [.agg [.v (.int .i64 k),.v (.int .i64 t),.v (.int .i64 a),.v (.int .i64 b),.list 3 (row.flatMap cV) row.length,.v (.int .i64 O),.v (.int .i64 U),.v (.string Z),.list 4 (Tw.l8 E) E.length,.v (.int .i64 y1),.v (.int .i64 y2),.v (.string y3),.list 4 (Tw.l8 I) I.length,.v (.bool bare)]] (.v (.string (s5 row))):=by
 refine VC.body func42 rfl ntmps42 aO fun X0 w0 aZ=>?_;refine cj ?_;refine OD.box (ds:=[_,_,_,_,_,_,_,_,_,_,_,_,_,_]) an rfl rfl ot rfl rfl (fun b1=>?_);refine aj 12 [1] ?_;refine ae [1,6] ?_;refine aq (fun az aG=>?_) (fun az aG=>?_)
 ·obtain⟨v,r,rfl⟩:∃v r,row=v::r:=(by (cases row;simp at az;exact⟨_,_,rfl⟩))
  refine cL [2] ?_;refine aP 2 ?_ (h:=by exact(qq (mk:=Op.indexAddr 73) rfl ot bH (by first|exact rC runUnderlying73 sizeOf137 (j:=0) rfl bu|exact rF runUnderlying73 sizeOf137 (j:=0) rfl bu)));refine aP 1 ?_ (h:=by exact(cH (mk:=Op.load 9) rfl ot (by exact uH (i:=0) (j:=2) e9 isAgg9 bu rfl)));refine bG ?_;refine aJ [] ?_;exact⟨rfl,rfl⟩
 obtain rfl:row=[]:=eq_nil_of_length_eq_zero (by simp at az;simp[az]);refine ae [2] ?_;exact nA
theorem Nh : ∀ w, ((#[{ name := "Kind", type := 3, offset := 0, embedded := false, tag := "", pkgPath := "", byteOffset := 0 }, { name := "Table", type := 9, offset := 1, embedded := false, tag := "", pkgPath := "", byteOffset := 8 }, { name := "Cols", type := 38, offset := 2, embedded := false, tag := "", pkgPath := "", byteOffset := 24 }, { name := "Row", type := 27, offset := 3, embedded := false, tag := "", pkgPath := "", byteOffset := 48 }, { name := "Names", type := 39, offset := 4, embedded := false, tag := "", pkgPath := "", byteOffset := 72 }, { name := "Count", type := 4, offset := 5, embedded := false, tag := "", pkgPath := "", byteOffset := 96 }, { name := "Where", type := 40, offset := 6, embedded := false, tag := "", pkgPath := "", byteOffset := 104 }, { name := "Order", type := 9, offset := 7, embedded := false, tag := "", pkgPath := "", byteOffset := 128 }, { name := "Down", type := 4, offset := 8, embedded := false, tag := "", pkgPath := "", byteOffset := 144 }, { name := "Limit", type := 3, offset := 9, embedded := false, tag := "", pkgPath := "", byteOffset := 152 }, { name := "Set", type := 9, offset := 10, embedded := false, tag := "", pkgPath := "", byteOffset := 160 }, { name := "To", type := 40, offset := 11, embedded := false, tag := "", pkgPath := "", byteOffset := 176 }] : Array Field).mapM fun f => do pure (f.offset, ← sizeOf f.type) : Sem (Array (Nat × Nat))).run Tryz.prog w = .ok #[(0, 1), (1, 1), (2, 1), (3, 1), (4, 1), (5, 1), (6, 1), (7, 1), (8, 1), (9, 1), (10, 1), (11, 1)] w := fun w => by simp [sizeOf27, sizeOf3, sizeOf38, sizeOf39, sizeOf4, sizeOf40, sizeOf9]
theorem XH(k t a b:Int)(row:List Vl)(x1 x2:Int)(x3:ByteArray)(E:List Tw)(y1 y2:Int)(y3:ByteArray)(I:List Tw)(bare:Bool)(dH:-9223372036854775808≤k)(fk:k≤9223372036854775807)(ht1:-9223372036854775808≤t)(ht2:t≤9223372036854775807)(U:-9223372036854775808≤a)(px:a≤9223372036854775807)(iT:-9223372036854775808≤b)(oJ:b≤9223372036854775807)(uY:∀v∈row,v.s.size≤maxLen)(hto:(Tw.mk x1 x2 x3 E).Ok)(Mq:(Tw.mk y1 y2 y3 I).Ok):VC Tryz.prog G 25 [.agg [.v (.int .i64 k),.v (.int .i64 t),.v (.int .i64 a),.v (.int .i64 b),.list 3 (row.flatMap cV) row.length,.v (.int .i64 x1),.v (.int .i64 x2),.v (.string x3),.list 4 (Tw.l8 E) E.length,.v (.int .i64 y1),.v (.int .i64 y2),.v (.string y3),.list 4 (Tw.l8 I) I.length,.v (.bool bare)]] [] (fun r S'=>∃s,r = .agg (bY s)∧S'=[]∧nk s∧s.kind=1+dW k 6):=by
 refine VC.body func25 rfl ntmps25 aO fun X0 w0 aZ=>?_;have aoe:=jW k (show(1:Int)≤6 by decide);have O:=kM G k 6 dH fk w7;generalize dW k 6=ki at *;have aja:=jW t (show(1:Int)≤2 by decide);have Fm:=kM G t 2 ht1 ht2 w7;generalize dW t 2=ti at *;obtain⟨tj,rfl⟩:=Int.eq_ofNat_of_zero_le aja.1;have qS:tj<eT.length:=(by show tj<2;omega)
 have Z:=Fc eT[tj] (getElem_mem qS);generalize TR:eT[tj]=tn at *;refine cj ?_;refine OD.box (ds:=[_,_,_,_,_,_,_,_,_,_,_,_,_,_]) an rfl rfl ot rfl rfl (fun b1=>?_);refine OD.alloc (ds:=[_,_,_,_,_,_,_,_,_,_,_,_]) an rfl rfl zeroValue42 rfl (fun b2=>?_);refine aj 111 [1,2] ?_;refine CD.seq ?_;refine CD.mono (Q:=fun aW aK=>aW=Exit.normal∧∃(b3:Nat),(True)∧Wk aK (⟨111,[(1,.v (.pointer (some ⟨b1,0,none⟩))),(2,.v (.pointer (some ⟨b2,0,none⟩))),(3,.v (.pointer (some ⟨b3,0,none⟩)))],[⟨b3,42,12,[.v (.int .i64 (1+ki)),.v (.string tn),.v (.slice none 0 0),.v (.slice none 0 0),.v (.slice none 0 0),.v (.bool false),.v (.slice none 0 0),.v (.string ⟨#[]⟩),.v (.bool false),.v (.int .i64 (-1)),.v (.string ⟨#[]⟩),.v (.slice none 0 0)]⟩,⟨b2,42,12,[.v (.int .i64 0),.v (.string ⟨#[]⟩),.v (.slice none 0 0),.v (.slice none 0 0),.v (.slice none 0 0),.v (.bool false),.v (.slice none 0 0),.v (.string ⟨#[]⟩),.v (.bool false),.v (.int .i64 0),.v (.string ⟨#[]⟩),.v (.slice none 0 0)]⟩,⟨b1,78,14,[.v (.int .i64 k),.v (.int .i64 t),.v (.int .i64 a),.v (.int .i64 b),.list 3 (row.flatMap cV) row.length,.v (.int .i64 x1),.v (.int .i64 x2),.v (.string x3),.list 4 (Tw.l8 E) E.length,.v (.int .i64 y1),.v (.int .i64 y2),.v (.string y3),.list 4 (Tw.l8 I) I.length,.v (.bool bare)]⟩]⟩:St)) ?_ ?_
 ·refine CD.draw (ap _) ay (fun _ h=>h) ?_;refine ax 0 rfl (cY 0) ?_;refine ax 1 rfl (dw 1) ?_;refine ax 5 rfl (cY 1) ?_;refine ax 6 rfl (dw 1) ?_;refine dh.later rfl ?_;refine AD.three (i:=2) (j:=4) (k:=11) ay ?_ ?_ ?_
  ·refine ju call11 (O) ?_;refine cq 3 rfl mE ?_;refine AD.three (i:=4) (j:=7) (k:=11) ay ?_ ?_ ?_
   ·refine jf (cc 0 [_,_]) [.string ⟨#[]⟩,.string ⟨#[]⟩] [_,_] zeroValue9 runUnderlying39 sizeOf9 (fun b8=>?_);refine jg 0 8 1 2 ?_;exact Uh
   ·refine ju call11 (Fm) ?_;refine AD.two (i:=4) (j:=11) ay ?_ ?_
    ·refine jf (cc 0 [_,_]) [.string ⟨#[]⟩,.string ⟨#[]⟩] [_,_] zeroValue9 runUnderlying39 sizeOf9 (fun b8=>?_);refine jg 0 8 1 2 ?_;exact z109
    refine bf.alloc (ds:=[_,_,_,_,_,_,_,_,_,_,_,_]) rfl an rfl rfl zeroValue42 rfl (fun b3=>?_);refine AD.one (i:=4) ay ?_;refine jf (cc 0 [_,_]) [.string ⟨#[]⟩,.string ⟨#[]⟩] [_,_] zeroValue9 runUnderlying39 sizeOf9 (fun b8=>?_);refine jg 0 8 1 2 ?_;exact T5
   refine bf.alloc (ds:=[_,_,_,_,_,_,_,_,_,_,_,_]) rfl an rfl rfl zeroValue42 rfl (fun b3=>?_);exact z139
  ·refine jf (cc 0 [_,_]) [.string ⟨#[]⟩,.string ⟨#[]⟩] [_,_] zeroValue9 runUnderlying39 sizeOf9 (fun b8=>?_);refine jg 0 8 1 2 ?_;refine AD.two (i:=2) (j:=11) ay ?_ ?_
   ·refine ju call11 (O) ?_;refine cq 3 rfl mE ?_;exact Uh
   refine bf.alloc (ds:=[_,_,_,_,_,_,_,_,_,_,_,_]) rfl an rfl rfl zeroValue42 rfl (fun b3=>?_);refine AD.one (i:=2) ay ?_;refine ju call11 (O) ?_;refine cq 3 rfl mE ?_;exact Fl
  refine bf.alloc (ds:=[_,_,_,_,_,_,_,_,_,_,_,_]) rfl an rfl rfl zeroValue42 rfl (fun b3=>?_);refine AD.two (i:=2) (j:=4) ay ?_ ?_
  ·refine ju call11 (O) ?_;refine cq 3 rfl mE ?_;exact z139
  refine jf (cc 0 [_,_]) [.string ⟨#[]⟩,.string ⟨#[]⟩] [_,_] zeroValue9 runUnderlying39 sizeOf9 (fun b8=>?_);refine jg 0 8 1 2 ?_;refine AD.one (i:=2) ay ?_;refine ju call11 (O) ?_;refine cq 3 rfl mE ?_;exact Fl
 rintro _ _ ⟨rfl,b3,_,JN⟩;refine CD.wk JN ?_;refine jI [1,2,3] (fun aW _ aK=>∃(s:cN),(r9 s)∧(s.kind=1+ki)∧aK=(⟨111,aW,[⟨b3,42,12,[.v (.int .i64 s.kind),.v (.string s.table),.list 2 (s.av.flatMap cC) s.av.length,.list 3 (s.row.flatMap cV) s.row.length,.list 1 (s.names.flatMap cS) s.names.length,.v (.bool s.count),.list 5 (s.ah.flatMap cO) s.ah.length,.v (.string s.order),.v (.bool s.down),.v (.int .i64 s.gK),.v (.string s.set),.list 5 (s.bE.flatMap cO) s.bE.length]⟩,⟨b2,42,12,[.v (.int .i64 0),.v (.string ⟨#[]⟩),.v (.slice none 0 0),.v (.slice none 0 0),.v (.slice none 0 0),.v (.bool false),.v (.slice none 0 0),.v (.string ⟨#[]⟩),.v (.bool false),.v (.int .i64 0),.v (.string ⟨#[]⟩),.v (.slice none 0 0)]⟩,⟨b1,78,14,[.v (.int .i64 k),.v (.int .i64 t),.v (.int .i64 a),.v (.int .i64 b),.list 3 (row.flatMap cV) row.length,.v (.int .i64 x1),.v (.int .i64 x2),.v (.string x3),.list 4 (Tw.l8 E) E.length,.v (.int .i64 y1),.v (.int .i64 y2),.v (.string y3),.list 4 (Tw.l8 I) I.length,.v (.bool bare)]⟩]⟩:St)) ?_ ?_
 ·refine CD.seq ?_;refine CD.cells (k:=0) (cs':=[_,_,.list 2 [] 0,.list 3 [] 0,.list 1 [] 0,_,.list 5 [] 0,_,_,_,_,.list 5 [] 0]) (S':=[_,_,_]) rfl (by repeat (first|exact trivial|exact⟨eM,trivial⟩|exact⟨fY,trivial⟩|refine⟨eM,?_⟩|refine⟨fY,?_⟩)) rfl ?_;refine cg [1,2,3,16] ?_;refine ae [1,2,3,16,17] ?_;refine aq (fun az aG=>?_) (fun az aG=>?_)
  ·obtain rfl:ki=0:=(by simp at az;omega)
   refine sF ?_;refine OD.gE an rfl rfl rfl call24 (Oo) trivial ?_;refine aD 1 ?_;refine aN 0 [_,_,_,_,_,_,_,_,_,_,_,_] sizeOf38 ?_;refine aj 111 [1,2,3] ?_;refine⟨_,aM,{ir with kind:=1+0,table:=tn,av:=dG},(NU Z),BZ,rfl⟩
  refine ae [1,2,3,16,21] ?_;refine aq (fun aH aT=>?_) (fun aH aT=>?_)
  ·obtain rfl:ki=2:=(by simp at aH;omega)
   have ajb:=jW a (show(1:Int)≤12 by decide);have ajc:=kM G a 12 U px w7;generalize dW a 12=xa at *;have ajd:=jW b (show(1:Int)≤9 by decide);have aje:=kM G b 9 iT oJ w7;generalize dW b 9=xb at *;have Gl:(s5 row).size≤maxLen:=(by (cases row;decide;exact uY _ mem_cons_self))
   have xO:(nq (s5 row) 2).size≤maxLen:=(by rw[Hh];exact Nat.le_trans (Nat.min_le_left _ _) Gl)
   have dj:((⟨#[]⟩:ByteArray)++nq (s5 row) 2).size≤maxLen:=(by rw[ByteArray.size_append];show 0+_≤_;omega)
   have su:(⟨#[]⟩:ByteArray).size+(nq (s5 row) 2).size≤9223372036854775807:=(by (have:=xO;unfold maxLen at this;show 0+_≤_;omega))
   have hu6:=(Yl ((⟨#[]⟩:ByteArray)++nq (s5 row) 2)).2;refine lX 18 [1,2,3,40] ?_;refine cU (ajc) ?_;refine cU (aje) ?_;refine cU (aam k t a b row x1 x2 x3 E y1 y2 y3 I bare) ?_;refine cU (EG (s5 row) 2 Gl) ?_;refine aP 0 ?_ (h:=by exact(cX rfl bH ot (Iq su)));refine cU (Nm.qu ((⟨#[]⟩:ByteArray)++nq (s5 row) 2) dj) ?_;refine cU (sL b iT oJ) ?_;refine bG ?_;refine aD 1 ?_;refine aN 0 [_,_,_,_,_,_,_,_,_,_,_,_] sizeOf27 ?_;refine aj 111 [1,2,3] ?_;refine⟨_,aM,{ir with kind:=1+2,table:=tn,row:=[⟨2,xa,⟨#[]⟩⟩,⟨2,xb,⟨#[]⟩⟩,⟨3,0,vY ((⟨#[]⟩:ByteArray)++nq (s5 row) 2)⟩,pS b]},(YR Z ajb ajd hu6),BZ,rfl⟩
  refine ae [1,2,3,16,42] ?_;refine aq (fun aX bw=>?_) (fun aX bw=>?_)
  ·obtain rfl:ki=3:=(by simp at aX;omega)
   refine jI [1,2,3] (fun aW _ aK=>∃(N:List ByteArray),((N.length≤6∧∀x∈N,cJ x=0))∧aK=(⟨111,aW,[⟨b3,42,12,[.v (.int .i64 (1+3)),.v (.string tn),.list 2 [] 0,.list 3 [] 0,.list 1 (N.flatMap cS) N.length,.v (.bool false),.list 5 [] 0,.v (.string ⟨#[]⟩),.v (.bool false),.v (.int .i64 (-1)),.v (.string ⟨#[]⟩),.list 5 [] 0]⟩,⟨b2,42,12,[.v (.int .i64 0),.v (.string ⟨#[]⟩),.v (.slice none 0 0),.v (.slice none 0 0),.v (.slice none 0 0),.v (.bool false),.v (.slice none 0 0),.v (.string ⟨#[]⟩),.v (.bool false),.v (.int .i64 0),.v (.string ⟨#[]⟩),.v (.slice none 0 0)]⟩,⟨b1,78,14,[.v (.int .i64 k),.v (.int .i64 t),.v (.int .i64 a),.v (.int .i64 b),.list 3 (row.flatMap cV) row.length,.v (.int .i64 x1),.v (.int .i64 x2),.v (.string x3),.list 4 (Tw.l8 E) E.length,.v (.int .i64 y1),.v (.int .i64 y2),.v (.string y3),.list 4 (Tw.l8 I) I.length,.v (.bool bare)]⟩]⟩:St)) ?_ ?_
   ·refine CD.seq ?_;have aof:=jW a (show(1:Int)≤3 by decide);have ajf:=kM G a 3 U px w7;generalize dW a 3=xc at *;refine ij [1,2,3,47] ?_;refine cU (ajf) ?_;refine bG ?_;refine aq (fun bC bW=>?_) (fun bC bW=>?_)
    ·have pyb:=jW b (show(1:Int)≤3 by decide);have M4:=kM G b 3 iT oJ w7;generalize dW b 3=yb at *;have hyb:yb=0∨yb=1∨yb=2:=(by omega)
     rcases hyb with rfl|rfl|rfl
     ·refine sF ?_;refine ei (cc 0 [_,_,_]) [.string ⟨#[]⟩,.string ⟨#[]⟩,.string ⟨#[]⟩] [_,_,_] zeroValue9 runUnderlying39 sizeOf9 (fun MS=>?_);refine fH 0 48 1 3 ?_;refine aD 2 ?_;refine dS call11 (M4) ?_;refine aD 1 ?_;refine bQ (dY (l:=0) (h:=1) rfl ot trivial ⟨_,ot⟩ K4) ?_;refine aD 1 ?_;refine aN 0 [_,_,_,_,_,_,_,_,_,_,_,_] sizeOf39 ?_;refine aj 111 [1,2,3] ?_;refine⟨_,aM,[⟨#[115]⟩],⟨by decide,by decide +kernel⟩,rfl⟩
     ·refine sF ?_;refine ei (cc 0 [_,_,_]) [.string ⟨#[]⟩,.string ⟨#[]⟩,.string ⟨#[]⟩] [_,_,_] zeroValue9 runUnderlying39 sizeOf9 (fun MS=>?_);refine fH 0 48 1 3 ?_;refine aD 2 ?_;refine dS call11 (M4) ?_;refine aD 1 ?_;refine bQ (dY (l:=0) (h:=2) rfl ot trivial ⟨_,ot⟩ K4) ?_;refine aD 1 ?_;refine aN 0 [_,_,_,_,_,_,_,_,_,_,_,_] sizeOf39 ?_;refine aj 111 [1,2,3] ?_;refine⟨_,aM,[⟨#[115]⟩,⟨#[105,100]⟩],⟨by decide,by decide +kernel⟩,rfl⟩
     refine sF ?_;refine ei (cc 0 [_,_,_]) [.string ⟨#[]⟩,.string ⟨#[]⟩,.string ⟨#[]⟩] [_,_,_] zeroValue9 runUnderlying39 sizeOf9 (fun MS=>?_);refine fH 0 48 1 3 ?_;refine aD 2 ?_;refine dS call11 (M4) ?_;refine aD 1 ?_;refine bQ (dY (l:=0) (h:=3) rfl ot trivial ⟨_,ot⟩ K4) ?_;refine aD 1 ?_;refine aN 0 [_,_,_,_,_,_,_,_,_,_,_,_] sizeOf39 ?_;refine aj 111 [1,2,3] ?_;refine⟨_,aM,[⟨#[115]⟩,⟨#[105,100]⟩,⟨#[110]⟩],⟨by decide,by decide +kernel⟩,rfl⟩
    refine CD.skip ?_;refine⟨_,aM,[],⟨by simp,fun _ h=>by cases h⟩,rfl⟩
   rintro _ ⟨N,hN,rfl⟩;refine CD.seq ?_;have aog:=jW a (show(1:Int)≤5 by decide);have ajg:=kM G a 5 U px w7;generalize dW a 5=xd at *;refine dK 2 ?_;refine dS call11 (ajg) ?_;refine aD 2 ?_;refine aN 0 [_,_,_,_,_,_,_,_,_,_,_,_] sizeOf4 ?_;refine aj 111 [1,2,3] ?_;refine jI [1,2,3] (fun aW _ aK=>∃(N:List ByteArray),∃(ct:Bool),((N.length≤6∧∀x∈N,cJ x=0))∧(ct=true→N=[])∧aK=(⟨111,aW,[⟨b3,42,12,[.v (.int .i64 (1+3)),.v (.string tn),.list 2 [] 0,.list 3 [] 0,.list 1 (N.flatMap cS) N.length,.v (.bool ct),.list 5 [] 0,.v (.string ⟨#[]⟩),.v (.bool false),.v (.int .i64 (-1)),.v (.string ⟨#[]⟩),.list 5 [] 0]⟩,⟨b2,42,12,[.v (.int .i64 0),.v (.string ⟨#[]⟩),.v (.slice none 0 0),.v (.slice none 0 0),.v (.slice none 0 0),.v (.bool false),.v (.slice none 0 0),.v (.string ⟨#[]⟩),.v (.bool false),.v (.int .i64 0),.v (.string ⟨#[]⟩),.v (.slice none 0 0)]⟩,⟨b1,78,14,[.v (.int .i64 k),.v (.int .i64 t),.v (.int .i64 a),.v (.int .i64 b),.list 3 (row.flatMap cV) row.length,.v (.int .i64 x1),.v (.int .i64 x2),.v (.string x3),.list 4 (Tw.l8 E) E.length,.v (.int .i64 y1),.v (.int .i64 y2),.v (.string y3),.list 4 (Tw.l8 I) I.length,.v (.bool bare)]⟩]⟩:St)) ?_ ?_
   ·refine ae [1,2,3,61] ?_;refine aq (fun cx c9=>?_) (fun cx c9=>?_)
    ·refine dK 1 ?_;refine aN 0 [_,_,_,_,_,_,_,_,_,_,_,_] sizeOf39 ?_;refine aj 111 [1,2,3] ?_;refine⟨_,(Wk.cells (k:=0) (cs':=[_,_,_,_,.list 1 [] 0,_,_,_,_,_,_,_]) rfl (by repeat (first|exact trivial|exact⟨eM,trivial⟩|exact⟨fY,trivial⟩|refine⟨eM,?_⟩|refine⟨fY,?_⟩)) rfl).trans (aM),[],(xd==3),⟨Nat.zero_le _,fun _ h=>by cases h⟩,(fun _=>rfl),rfl⟩
    refine CD.skip ?_;refine⟨_,aM,N,(xd==3),hN,(fun h=>absurd h (by rw[cx];decide)),rfl⟩
   rintro _ ⟨N,ct,hN,hcn,rfl⟩;refine CD.seq ?_;have ajh:=jW b (show(1:Int)≤4 by decide);have aji:=kM G b 4 iT oJ w7;generalize dW b 4=xe at *;obtain⟨ej,rfl⟩:=Int.eq_ofNat_of_zero_le ajh.1;have M5:ej<iA.length:=(by show ej<4;omega)
   have jx:=ago iA[ej] (getElem_mem M5);generalize ajj:iA[ej]=od at *;refine sF ?_;refine ei (cc 0 [_,_,_,_]) [.string ⟨#[]⟩,.string ⟨#[]⟩,.string ⟨#[]⟩,.string ⟨#[]⟩] [_,_,_,_] zeroValue9 runUnderlying39 sizeOf9 (fun Df=>?_);refine fH 0 63 1 4 ?_;refine aD 2 ?_;refine dS call11 (aji) ?_;refine aD 1 ?_;refine bQ (cH (mk:=Op.load 9) rfl ot (by exact pQ (g:=cS) (ls:=iA) (i:=ej) (d:=.v (.string od)) iX isAgg9 M5 (by show some (D.v (.string (iA[ej]'M5)))=some (D.v (.string od));rw[ajj]))) ?_;refine aD 1 ?_;refine aN 0 [_,_,_,_,_,_,_,_,_,_,_,_] sizeOf9 ?_;refine aj 111 [1,2,3] ?_;refine jI [1,2,3] (fun aW _ aK=>∃(dn:Bool),(od=⟨#[]⟩→dn=false)∧aK=(⟨111,aW,[⟨b3,42,12,[.v (.int .i64 (1+3)),.v (.string tn),.list 2 [] 0,.list 3 [] 0,.list 1 (N.flatMap cS) N.length,.v (.bool ct),.list 5 [] 0,.v (.string od),.v (.bool dn),.v (.int .i64 (-1)),.v (.string ⟨#[]⟩),.list 5 [] 0]⟩,⟨b2,42,12,[.v (.int .i64 0),.v (.string ⟨#[]⟩),.v (.slice none 0 0),.v (.slice none 0 0),.v (.slice none 0 0),.v (.bool false),.v (.slice none 0 0),.v (.string ⟨#[]⟩),.v (.bool false),.v (.int .i64 0),.v (.string ⟨#[]⟩),.v (.slice none 0 0)]⟩,⟨b1,78,14,[.v (.int .i64 k),.v (.int .i64 t),.v (.int .i64 a),.v (.int .i64 b),.list 3 (row.flatMap cV) row.length,.v (.int .i64 x1),.v (.int .i64 x2),.v (.string x3),.list 4 (Tw.l8 E) E.length,.v (.int .i64 y1),.v (.int .i64 y2),.v (.string y3),.list 4 (Tw.l8 I) I.length,.v (.bool bare)]⟩]⟩:St)) ?_ ?_
   ·have aoh:=jW a (show(1:Int)≤2 by decide);have ajk:=kM G a 2 U px w7;generalize dW a 2=xf at *;refine dK 4 ?_;refine bS 73 (fun KV agp=>?_) (fun KV agp=>?_)
    ·refine aD 2 ?_;refine OD.gE gH rfl rfl rfl call11 (ajk) ⟨ot,bH,trivial⟩ ?_;refine aD 3 ?_;refine aN 0 [_,_,_,_,_,_,_,_,_,_,_,_] sizeOf4 ?_;refine aj 111 [1,2,3] ?_;refine⟨_,aM,(xf==1),(fun h=>by rw[h] at KV;exact absurd KV (by decide +kernel)),rfl⟩
    refine xn 4 ?_;refine aD 2 ?_;refine aN 0 [_,_,_,_,_,_,_,_,_,_,_,_] sizeOf4 ?_;refine aj 111 [1,2,3] ?_;refine⟨_,aM,false,(fun _=>rfl),rfl⟩
   rintro _ ⟨dn,zM,rfl⟩;have aoi:=jW a (show(1:Int)≤9 by decide);have ajl:=kM G a 9 U px w7;generalize dW a 9=xg at *;refine dK 2 ?_;refine dS call11 (ajl) ?_;refine aD 2 ?_;refine aN 0 [_,_,_,_,_,_,_,_,_,_,_,_] sizeOf3 ?_;refine aj 111 [1,2,3] ?_;refine⟨_,aM,{ir with kind:=1+3,table:=tn,names:=N,count:=ct,order:=od,down:=dn,gK:=xg-1},(YS Z hN hcn (jx.imp (fun h=>ae0 h) id) zM w4),BZ,rfl⟩
  refine ae [1,2,3,85] ?_;refine aq (fun dN en=>?_) (fun dN en=>?_)
  ·obtain rfl:ki=4:=(by simp at dN;omega)
   refine CD.seq ?_;have ajm:=jW a (show(1:Int)≤5 by decide);have ajn:=kM G a 5 U px w7;generalize dW a 5=xh at *;obtain⟨hj,rfl⟩:=Int.eq_ofNat_of_zero_le ajm.1;have M6:hj<Ac.length:=(by show hj<5;omega)
   have hsn:=J0 Ac[hj] (getElem_mem M6);generalize ajo:Ac[hj]=sn at *;refine sF ?_;refine ei (cc 0 [_,_,_,_,_]) [.string ⟨#[]⟩,.string ⟨#[]⟩,.string ⟨#[]⟩,.string ⟨#[]⟩,.string ⟨#[]⟩] [_,_,_,_,_] zeroValue9 runUnderlying39 sizeOf9 (fun b87=>?_);refine fH 0 87 1 5 ?_;refine aD 2 ?_;refine dS call11 (ajn) ?_;refine aD 1 ?_;refine bQ (cH (mk:=Op.load 9) rfl ot (by exact pQ (g:=cS) (ls:=Ac) (i:=hj) (d:=.v (.string sn)) iX isAgg9 M6 (by show some (D.v (.string (Ac[hj]'M6)))=some (D.v (.string sn));rw[ajo]))) ?_;refine aD 1 ?_;refine aN 0 [_,_,_,_,_,_,_,_,_,_,_,_] sizeOf9 ?_;refine aj 111 [1,2,3] ?_;refine dK 2 ?_;refine dS call43 (SK (.mk x1 x2 x3 E) hto) ?_;refine aD 1 ?_;refine aN 0 [_,_,_,_,_,_,_,_,_,_,_,_] sizeOf40 ?_;refine aj 111 [1,2,3] ?_;refine⟨_,aM,{ir with kind:=1+4,table:=tn,set:=sn,bE:=gX 3 (.mk x1 x2 x3 E)},(YT Z hsn (.mk x1 x2 x3 E)),BZ,rfl⟩
  have ajp:ki=1∨ki=5:=(by simp at az aH aX dN;omega)
  refine CD.skip ?_;refine⟨_,aM,{ir with kind:=1+ki,table:=tn},(by (rcases ajp with rfl|rfl;exact abW Z;exact YU Z)),BZ,rfl⟩
 rintro _ ⟨s,KW,KX,rfl⟩;refine aC 4 ?_;refine bS 101 (fun TN ae1=>?_) (fun TN ae1=>?_)
 ·refine aY [1,2,3,105] ?_;refine aq (fun eN fT=>?_) (fun eN fT=>?_)
  ·have hg4:4≤s.kind∧bare=false:=(by (have q1:=eN;simp at q1;first|exact⟨by simpa using TN,by simpa using q1⟩|simp_all))
   have nM:=KW.2 (gX 3 (.mk y1 y2 y3 I)) (R3 _) (.inl hg4.1);refine dK 2 ?_;refine dS call43 (SK (.mk y1 y2 y3 I) Mq) ?_;refine aD 1 ?_;refine aN 0 [_,_,_,_,_,_,_,_,_,_,_,_] sizeOf40 ?_;refine aj 111 [2,3] ?_;refine aC 1 ?_;refine aN 1 [_,_,_,_,_,_,_,_,_,_,_,_] sizeOf42 ?_;refine aj 111 [2] ?_;refine aJ [] ?_;exact⟨{s with ah:=gX 3 (.mk y1 y2 y3 I)},rfl,rfl,nM,KX⟩
  have nM:=KW.wD;refine aC 1 ?_;refine aN 1 [_,_,_,_,_,_,_,_,_,_,_,_] sizeOf42 ?_;refine aj 111 [2] ?_;refine aJ [] ?_;exact⟨s,rfl,rfl,nM,KX⟩
 refine aY [1,2,3,105] ?_;refine fG ?_;have nM:=KW.wD;refine aC 1 ?_;refine aN 1 [_,_,_,_,_,_,_,_,_,_,_,_] sizeOf42 ?_;refine aj 111 [2] ?_;refine aJ [] ?_;exact⟨s,rfl,rfl,nM,KX⟩

end Go.Proofs.YtbcmjoaggammcaaGreatDoor.Pa
namespace Go.Proofs.YtbcmjoaggammcaaGreatDoor.Ba
open List
open Go.Proofs.Tryz
open Go.RowKit V Pk Tr Vl Go.Proofs.YtbcmjoaggammcaaGreatDoor.Nm Pc Cd Ex Tw
open Pa (cN bY mv jA nk gS jN lj iQ)
variable {l:List aU} {a c:Nat}
theorem J1{v:Vl}(h:dB v=0)(h1:-9223372036854775808≤v.n)(h2:v.n≤9223372036854775807):v.Ok:=by
 unfold dB at h;have hk:(0≤v.k∧v.k≤3)∧v.s.size≤20:=by
  repeat' split at h
  all_goals first|(cases h;done)|omega
 exact⟨by omega,by omega,h1,h2,Nat.le_trans hk.2 w7⟩
theorem OX{α:Type}{f:α→Int}:∀{l:List α},Pa.jz f l=0→∀a∈l,f a=0
 | [],_,a,ha=>by cases ha
 | x::r,h,a,ha=>by
  rw[Pa.jz] at h;split at h
  ·rename_i hx;exact absurd h hx
  rename_i hx;rcases mem_cons.1 ha with rfl|ha
  ·exact Classical.not_not.1 hx
  exact OX h a ha
theorem Ie{w:List aV}(h:Pa.nh w=0):∀o∈w,dB o.v=0:=fun o ho=>by
 unfold Pa.nh at h;split at h
 ·rename_i h0;rw[length_eq_zero_iff.1 h0] at ho;cases ho
 obtain⟨h',h1⟩:=Eg w 0 (vN h).2 o ho;exact DQ (vK h1).2.2.1
theorem adD{w:List aV}(h:iF w=0):∀o∈w,dB o.v=0:=fun o ho=>by
 obtain⟨h',h1⟩:=Eg w 0 (vN h).2 o ho;exact DQ (vK h1).2.2.1
structure BY (s:cN):Prop where
 fin:mv s
 row:∀v∈s.row,v.Ok
 wnm:∀o∈s.ah,o.nm.size≤maxLen
 wok:∀o∈s.ah,o.v.Ok
 Xd:∀o∈s.bE,o.nm.size≤maxLen
 Xe:∀o∈s.bE,o.v.Ok
theorem J0{s:cN}(hf:mv s)(dH:1≤s.kind)(zK:s.kind≤6)(hc:gS s=0):BY s:=by
 unfold gS at hc;split at hc
 ·rename_i h1;exact absurd hc h1.2
 split at hc
 ·cases hc
 rename_i h1 h2;have hb:lj s (iQ s)=true:=by
  cases h:lj s (iQ s) with
  | true=>rfl
  | false=>exact absurd ⟨hc,h⟩ h2
 unfold lj at hb;simp only[Bool.and_eq_true,beq_iff_eq] at hb;have hr:∀v∈s.row,dB v=0:=by
  by_cases h3:s.kind=3
  ·unfold jN at hc;rw[if_neg w4,if_pos h3] at hc;unfold Pa.dU at hc;split at hc
   ·cases hc
   exact fun v O=>DQ (OX hc v O)
  have E:(s.row.length:Int)=((iQ s).row.length:Int):=hb.2.2.1;have h0:(iQ s).row=[]:=(by unfold iQ;split;rfl;split;rfl;split;rfl;split;rfl;rfl)
  rw[h0] at E;have:s.row=[]:=length_eq_zero_iff.1 (by simpa using E);rw[this];intro v O;cases O
 have hw:∀o∈s.ah,dB o.v=0:=by
  by_cases h3:4≤s.kind
  ·unfold jN at hc;rw[if_neg w4,if_neg w4] at hc;by_cases h4:s.kind=4
   ·rw[if_pos h4] at hc;unfold Pa.oo at hc;split at hc
    ·cases hc
    split at hc
    ·cases hc
    split at hc
    ·cases hc
    split at hc
    ·rename_i I;exact absurd hc I
    split at hc
    ·rename_i I;exact absurd hc I
    rename_i I;exact Ie (Classical.not_not.1 I)
   rw[if_neg h4] at hc;by_cases h5:s.kind=5
   ·rw[if_pos h5] at hc;split at hc
    ·split at hc
     ·exact Ie hc
     rename_i I;exact absurd hc I
    rename_i I;exact absurd hc I
   rw[if_neg h5,if_pos w4] at hc;exact Ie hc
  have E:(s.ah.length:Int)=((iQ s).ah.length:Int):=hb.2.2.2.2.2.1;have h0:(iQ s).ah=[]:=(by unfold iQ;split;rfl;split;rfl;rw[if_neg w4,if_neg w4,if_neg w4];rfl)
  rw[h0] at E;have:s.ah=[]:=length_eq_zero_iff.1 (by simpa using E);rw[this];intro v O;cases O
 have hx:∀o∈s.bE,dB o.v=0:=by
  by_cases h5:s.kind=5
  ·unfold jN at hc;rw[if_neg w4,if_neg w4,if_neg w4,if_pos h5] at hc;split at hc
   ·split at hc
    ·rename_i I;exact adD I
    rename_i I;exact absurd hc I
   rename_i I;exact absurd hc I
  have E:(s.bE.length:Int)=((iQ s).bE.length:Int):=(by simpa using hb.2.2.2.2.2.2.2.2.2.2)
  have h0:(iQ s).bE=[]:=(by unfold iQ;split;rfl;split;rfl;split;rfl;split;rfl;rfl)
  rw[h0] at E;have:s.bE=[]:=length_eq_zero_iff.1 (by simpa using E);rw[this];intro v O;cases O
 exact⟨hf,fun v O=>J1 (hr v O) (hf.r v O).1 (hf.r v O).2,fun o ho=>(hf.w o ho).1,fun o ho=>J1 (hw o ho) (hf.w o ho).2.1 (hf.w o ho).2.2,fun o ho=>(hf.x o ho).1,fun o ho=>J1 (hx o ho) (hf.x o ho).2.1 (hf.x o ho).2.2⟩
theorem nk.st{s:cN}(h:nk s):BY s:=J0 h.1 h.2.1 h.2.2.1 h.2.2.2.2
structure qF (l:List aU) (a c:Nat):Prop where
 g:qE l (a*(1+c))
 r:∀t∈l,t.rows.length≤a
theorem abX(s:cN)(h:cJ s.table=0)(hc:s.av=dG):eW (gF s) 0:=⟨h,hc,Nat.zero_le _,abx,fun i h=>absurd h (Nat.not_lt_zero _),fun x hx=>by
 have:gD rV=[]:=aby;rw[show(gF s).ix=rV from rfl,this] at hx;cases hx⟩
theorem qE.mono{l:List aU}{n m:Nat}(g:qE l n)(h:n≤m):qE l m:=⟨g.eI,fun t ht=>(g.tb t ht).mono h,g.sz,g.GJ⟩
theorem qE.put{n:Nat}(g:qE l n){i:Nat}(hi:i<l.length){t:aU}(ht:eW t n)(hn:t.nm=l[i].nm):qE (l.set i t) n:=by
 refine⟨by rw[length_set];exact g.eI,fun x hx=>?_,fun x hx=>?_,?_⟩
 ·rcases mem_or_eq_of_mem_set hx with h|h
  ·exact g.tb x h
  rw[h];exact ht
 ·rcases mem_or_eq_of_mem_set hx with h|h
  ·exact g.sz x h
  rw[h,hn];exact g.sz _ (getElem_mem hi)
 have hm:(l.set i t).map aU.nm=l.map aU.nm:=by
  exact VU
 have h1:∀l:List aU,(l.Pairwise fun a b=>a.nm.toList≠b.nm.toList)↔(l.map aU.nm).Pairwise fun a b=>a.toList≠b.toList:=fun l=>by rw[pairwise_map]
 rw[h1,hm,←h1];exact g.GJ

theorem S8(t:aU)(row:List Vl):(gi t row).1.nm=t.nm:=by
 unfold gi;by_cases h1:Pc.dU t.av row≠0
 ·rw[if_pos h1]
 rw[if_neg h1];cases gU t.ix (cQ row) (dz t.ix) with
 | true=>rw[if_pos rfl]
 | false =>
  rw[if_neg w7];by_cases h3:t.rows.length=40
  ·rw[if_pos h3]
  rw[if_neg h3]
theorem R5:∀(l:List Int) (t:aU),(qN t l).nm=t.nm
 | [],_=>rfl
 | _::l,t=>(R5 l _).trans rfl
theorem Ta(t:aU)(w:List aV):(mg t w).1.nm=t.nm:=by unfold mg;split;rfl;exact R5 _ _
theorem R6{c:Nat}:∀(l:List Int) (vs:List Vl) (t:aU),(mz c t l vs).nm=t.nm
 | [],_,t=>by unfold mz;rfl
 | _::_,[],t=>by unfold mz;rfl
 | _::l,_::vs,t=>(R6 l vs _).trans rfl
theorem Qw:∀(l:List Int) (vs:List Vl) (t:aU),(j9 t l vs).1.nm=t.nm
 | [],_,t=>by unfold j9;rfl
 | _::_,[],t=>by unfold j9;rfl
 | _::l,_::vs,t=>by
  rw[j9];split
  ·rfl
  exact(Qw l vs _).trans rfl
theorem Tb(t:aU)(s:cN):(gG t s).1.nm=t.nm:=by
 unfold gG;repeat' split
 all_goals first|rfl|exact R6 _ _ _|exact(Qw _ _ _).trans rfl
theorem ae2{nm:ByteArray}(h:bA l nm<0):∀t∈l,t.nm.toList≠nm.toList:=fun t ht e=>by
 unfold bA dM at h;split at h
 ·omega
 rename_i h1;have:=findIdx?_eq_none_iff.1 h1 t ht;rw[e] at this;simp at this
theorem Qx(h:a+c≤30):a*(1+c)≤260:=by
 have key:∀a<31,∀c<31,a+c≤30→a*(1+c)≤260:=(by decide +kernel)
 exact key a w4 c w4 h
theorem TO:a*(1+c)+1≤(a+1)*(1+c):=by rw[Nat.add_mul];omega
theorem TP:a*(1+c)+a=a*(1+(c+1)):=by rw[←Nat.add_assoc,Nat.mul_add a (1+c) 1,Nat.mul_one]
theorem qF.put{l:List aU}{a c a' E:Nat}(g:qF l a c)(h:a*(1+c)≤a'*(1+E))(ha:a≤a'){i:Nat}(hi:i<l.length){t:aU}(ht:eW t (a'*(1+E)))(hr:t.rows.length≤a')(hn:t.nm=l[i].nm):qF (l.set i t) a' E:=by
 refine⟨(g.g.mono h).put hi ht hn,fun x hx=>?_⟩;rcases mem_or_eq_of_mem_set hx with hx|hx
 ·exact Nat.le_trans (g.r x hx) ha
 rw[hx];exact hr
theorem Jq{i:Nat}(hi:i<l.length){t:aU}(hn:t.nm=l[i].nm):(l.set i t).map aU.nm=l.map aU.nm:=by
 exact VU
theorem If(g:qF l a c)(O:a+c≤30){s:cN}(hs:BY s)(fk:¬s.kind=2)(qe:cJ s.table=0)(I:s.kind=1→s.av=dG)(h0:(eo l s).2.2=0) :
  ∃a' U,a'+U≤a+c+1∧qF (eo l s).1 a' U∧(s.kind=1→(eo l s).1=l++[gF s]∧a'=a∧U=c)∧(¬s.kind=1→(eo l s).1.map aU.nm=l.map aU.nm):=by
 have hb:=Qx O;have iT:=ym (fun t:aU=>t.nm.toList==s.table.toList) l;rw[show dM (fun t:aU=>t.nm.toList==s.table.toList) l=bA l s.table from rfl] at iT;unfold eo at h0 ⊢;by_cases dH:s.kind=1
 ·rw[if_pos dH] at h0 ⊢;dsimp only at h0;unfold pJ at h0 ⊢;by_cases h1:0≤bA l s.table
  ·rw[if_pos h1] at h0;cases h0
  rw[if_neg h1] at h0 ⊢;by_cases h2:l.length=4
  ·rw[if_pos h2] at h0;cases h0
  rw[if_neg h2] at h0 ⊢;have Z:=abX s qe (I dH);have hf:=g.g.eI;refine⟨a,c,by omega,⟨⟨by rw[length_append,length_singleton];omega,fun t ht=>?_,fun t ht=>?_,?_⟩,fun t ht=>?_⟩,fun _=>⟨rfl,rfl,rfl⟩,fun h=>absurd dH h⟩
  ·rcases mem_append.1 ht with ht|ht
   ·exact g.g.tb t ht
   rw[mem_singleton] at ht;rw[ht];exact Z.mono (Nat.zero_le _)
  ·rcases mem_append.1 ht with ht|ht
   ·exact g.g.sz t ht
   rw[mem_singleton] at ht;rw[ht];exact hs.fin.t
  ·refine pairwise_append.2 ⟨g.g.GJ,pairwise_singleton _ _,fun x hx y hy=>?_⟩;rw[mem_singleton] at hy;subst hy;exact ae2 (show bA l s.table<0 by omega) x hx
  rcases mem_append.1 ht with ht|ht
  ·exact g.r t ht
  rw[mem_singleton] at ht;rw[ht];exact Nat.zero_le _
 rw[if_neg dH] at h0 ⊢;by_cases h1:bA l s.table<0
 ·rw[if_pos h1] at h0;cases h0
 rw[if_neg h1] at h0 ⊢;have E:(bA l s.table).toNat<l.length:=(by omega)
 have jR:l.getD (bA l s.table).toNat (gF s)=l[(bA l s.table).toNat]:=(by rw[getD_eq_getElem?_getD,getElem?_eq_getElem E];rfl)
 rw[jR] at h0 ⊢;have gt:=g.g.tb _ (getElem_mem E);have gr:=g.r _ (getElem_mem E);by_cases h3:s.kind=3
 ·rw[if_pos h3] at h0 ⊢;obtain⟨q1,q2⟩:=aah gt w4 hs.row h0;exact⟨a+1,c,by omega,g.put (Nat.le_trans (Nat.le_succ _) TO) (Nat.le_succ _) E (q1.mono TO) w4 (S8 _ _),fun h=>absurd h dH,fun _=>Jq E (S8 _ _)⟩
 rw[if_neg h3] at h0 ⊢;by_cases h4:s.kind=4
 ·rw[if_pos h4];exact⟨a,c,by omega,g,fun h=>absurd h dH,fun _=>rfl⟩
 rw[if_neg h4] at h0 ⊢;by_cases h5:s.kind=5
 ·rw[if_pos h5];obtain⟨q1,q2⟩:=aai gt s hs.Xd hs.Xe hb;exact⟨a,c+1,by omega,g.put (by rw[←TP];omega) (Nat.le_refl _) E (q1.mono (by rw[←TP];omega)) w4 (Tb _ _),fun h=>absurd h dH,fun _=>Jq E (Tb _ _)⟩
 rw[if_neg h5];obtain⟨q1,q2⟩:=XG gt s.ah;exact⟨a,c,by omega,g.put (Nat.le_refl _) (Nat.le_refl _) E q1 w4 (Ta _ _),fun h=>absurd h dH,fun _=>Jq E (Ta _ _)⟩

end Go.Proofs.YtbcmjoaggammcaaGreatDoor.Ba

namespace Go.Proofs.YtbcmjoaggammcaaGreatDoor.Pa
open List
open Go.Proofs.Tryz
open Go.RowKit V Pk Go.Proofs.YtbcmjoaggammcaaGreatDoor.Vl Go.Proofs.YtbcmjoaggammcaaGreatDoor.Nm Go.Proofs.YtbcmjoaggammcaaGreatDoor.Pc
section
variable {H:Type} {enc:TypeId×Value→H} {P:Program} {w:World} {base:Nat} {sp:Nat→Bool} {held:Bool}
theorem YV {fuel:Nat} {t:TypeId} {f0 f1 f2 f3 f4 f5 f6 f7:Field} {E I O U Z α5 α6 α7:Type} {g0:E→List D} {k0:E→Prop} {g1:I→List D} {k1:I→Prop} {g2:O→List D} {k2:O→Prop} {g3:U→List D} {k3:U→Prop} {g4:Z→List D} {k4:Z→Prop} {g5:α5→List D} {k5:α5→Prop} {g6:α6→List D} {k6:α6→Prop} {g7:α7→List D} {k7:α7→Prop} {n0 n1 n2 n3 n4 n5 n6 n7:Nat}
  (ht:P.underlying t=some (.struct #[f0,f1,f2,f3,f4,f5,f6,f7])) (hc:P.cellsOf t=n0+n1+n2+n3+n4+n5+n6+n7) (o0:f0.offset=0) (c0:P.cellsOf f0.type=n0) (o1:f1.offset=n0) (c1:P.cellsOf f1.type=n1) (o2:f2.offset=n0+n1) (c2:P.cellsOf f2.type=n2) (o3:f3.offset=n0+n1+n2) (c3:P.cellsOf f3.type=n3) (o4:f4.offset=n0+n1+n2+n3) (c4:P.cellsOf f4.type=n4) (o5:f5.offset=n0+n1+n2+n3+n4) (c5:P.cellsOf f5.type=n5) (o6:f6.offset=n0+n1+n2+n3+n4+n5) (c6:P.cellsOf f6.type=n6) (o7:f7.offset=n0+n1+n2+n3+n4+n5+n6) (c7:P.cellsOf f7.type=n7)
  (r0:∀n,n+1=fuel→lU n enc P w base sp held f0.type g0 k0) (r1:∀n,n+1=fuel→lU n enc P w base sp held f1.type g1 k1) (r2:∀n,n+1=fuel→lU n enc P w base sp held f2.type g2 k2) (r3:∀n,n+1=fuel→lU n enc P w base sp held f3.type g3 k3) (r4:∀n,n+1=fuel→lU n enc P w base sp held f4.type g4 k4) (r5:∀n,n+1=fuel→lU n enc P w base sp held f5.type g5 k5) (r6:∀n,n+1=fuel→lU n enc P w base sp held f6.type g6 k6) (r7:∀n,n+1=fuel→lU n enc P w base sp held f7.type g7 k7) :
  lU fuel enc P w base sp held t (fun a:E × I × O × U × Z × α5 × α6 × α7=>(g0 (a.1)++(g1 (a.2.1)++(g2 (a.2.2.1)++(g3 (a.2.2.2.1)++(g4 (a.2.2.2.2.1)++(g5 (a.2.2.2.2.2.1)++(g6 (a.2.2.2.2.2.2.1)++g7 (a.2.2.2.2.2.2.2))))))))) (fun a=>k0 (a.1)∧k1 (a.2.1)∧k2 (a.2.2.1)∧k3 (a.2.2.2.1)∧k4 (a.2.2.2.2.1)∧k5 (a.2.2.2.2.2.1)∧k6 (a.2.2.2.2.2.2.1)∧k7 (a.2.2.2.2.2.2.2)):=fun cs x h=>by
 obtain⟨xs,n,hn,_,hl,fQ,hf⟩:=DataW.trod_struct ht h;have e0:=hf 0 f0 rfl;have e1:=hf 1 f1 rfl;have e2:=hf 2 f2 rfl;have e3:=hf 3 f3 rfl;have e4:=hf 4 f4 rfl;have e5:=hf 5 f5 rfl;have e6:=hf 6 f6 rfl;have e7:=hf 7 f7 rfl;rw[o0,c0,drop_zero] at e0;rw[o1,c1] at e1;rw[o2,c2] at e2;rw[o3,c3] at e3;rw[o4,c4] at e4;rw[o5,c5] at e5;rw[o6,c6] at e6;rw[o7,c7] at e7;have hx8:xs.length=8:=fQ;rw[getElem?_eq_getElem w4] at e0 e1 e2 e3 e4 e5 e6 e7;obtain⟨a0,p0,q0⟩:=r0 n hn.symm _ _ e0;obtain⟨a1,p1,q1⟩:=r1 n hn.symm _ _ e1;obtain⟨a2,p2,q2⟩:=r2 n hn.symm _ _ e2;obtain⟨a3,p3,q3⟩:=r3 n hn.symm _ _ e3;obtain⟨a4,p4,q4⟩:=r4 n hn.symm _ _ e4;obtain⟨a5,p5,q5⟩:=r5 n hn.symm _ _ e5;obtain⟨a6,p6,q6⟩:=r6 n hn.symm _ _ e6;obtain⟨a7,p7,q7⟩:=r7 n hn.symm _ _ e7;refine⟨(a0,a1,a2,a3,a4,a5,a6,a7),?_,q0,q1,q2,q3,q4,q5,q6,q7⟩;have dj:cs=(cs.take n0++((cs.drop (n0)).take n1++((cs.drop (n0+n1)).take n2++((cs.drop (n0+n1+n2)).take n3++((cs.drop (n0+n1+n2+n3)).take n4++((cs.drop (n0+n1+n2+n3+n4)).take n5++((cs.drop (n0+n1+n2+n3+n4+n5)).take n6++((cs.drop (n0+n1+n2+n3+n4+n5+n6)).take n7)))))))):=by
  rw[take_of_length_le (l:=drop (n0+n1+n2+n3+n4+n5+n6) cs) (by rw[length_drop];omega)];have d2:cs.drop (n0+n1)=(cs.drop (n0)).drop n1:=(by rw[drop_drop])
  have d3:cs.drop (n0+n1+n2)=(cs.drop (n0+n1)).drop n2:=(by rw[drop_drop])
  have d4:cs.drop (n0+n1+n2+n3)=(cs.drop (n0+n1+n2)).drop n3:=(by rw[drop_drop])
  have d5:cs.drop (n0+n1+n2+n3+n4)=(cs.drop (n0+n1+n2+n3)).drop n4:=(by rw[drop_drop])
  have d6:cs.drop (n0+n1+n2+n3+n4+n5)=(cs.drop (n0+n1+n2+n3+n4)).drop n5:=(by rw[drop_drop])
  have d7:cs.drop (n0+n1+n2+n3+n4+n5+n6)=(cs.drop (n0+n1+n2+n3+n4+n5)).drop n6:=(by rw[drop_drop])
  rw[d7,take_append_drop,d6,take_append_drop,d5,take_append_drop,d4,take_append_drop,d3,take_append_drop,d2,take_append_drop,take_append_drop]
 rw[dj];exact(p0.append (p1.append (p2.append (p3.append (p4.append (p5.append (p6.append p7)))))))
end


structure Ph where
 k:Int
 t:Int
 a:Int
 b:Int
 row:List Vl
 bE:Tw
 wh:Tw
 bare:Bool
def Ph.cs(p:Ph):List D:=[.v (.int .i64 p.k)]++([.v (.int .i64 p.t)]++([.v (.int .i64 p.a)]++([.v (.int .i64 p.b)]++([.list 3 (p.row.flatMap cV) p.row.length]++(p.bE.cs++(p.wh.cs++[.v (.bool p.bare)]))))))
structure Ph.Ok (p:Ph):Prop where
 k:-9223372036854775808≤p.k∧p.k≤9223372036854775807
 t:-9223372036854775808≤p.t∧p.t≤9223372036854775807
 a:-9223372036854775808≤p.a∧p.a≤9223372036854775807
 b:-9223372036854775808≤p.b∧p.b≤9223372036854775807
 row:∀v∈p.row,v.s.size≤maxLen
 bE:p.bE.Ok
 wh:p.wh.Ok
theorem adE{H:Type}{enc:TypeId×Value→H}{w:World}{base:Nat}{sp:Nat→Bool}{held:Bool}:oF enc Tryz.prog w base sp held 137 cV (fun v:Vl=>v.s.size≤maxLen) :=
 (Yd (n0:=1) (n1:=1) (n2:=1) underlying137 ay rfl rfl rfl ay ay ay (uC underlying3) (uC underlying3) (N2 underlying9)).map (fun a=>(⟨a.1,a.2.1,a.2.2⟩:Vl)) (fun _=>rfl) (fun _ h=>h.2.2)
theorem YW{H:Type}{enc:TypeId×Value→H}{w:World}{base:Nat}{sp:Nat→Bool}{held:Bool}(n:Nat):lU n enc Tryz.prog w base sp held 78 Ph.cs Ph.Ok:=fun cs x h=>by
 obtain⟨⟨a0,a1,a2,a3,a4,a5,a6,a7⟩,h1,q0,q1,q2,E,I,O,U,_⟩:=YV (fuel:=n) (n0:=1) (n1:=1) (n2:=1) (n3:=1) (n4:=1) (n5:=4) (n6:=4) (n7:=1) underlying78 ay rfl ay rfl ay rfl ay rfl ay rfl ay rfl ay rfl ay rfl ay
  (fun q _=>(uC underlying3).at q) (fun q _=>(uC underlying3).at q) (fun q _=>(uC underlying3).at q) (fun q _=>(uC underlying3).at q) (fun q _=>N6 (sz:=3) underlying73 ay w7 (fun z _=>adE.at z) e9) (fun q _=>PO q) (fun q _=>PO q) (fun q _=>(ab6 underlying4).at q) cs x h
 exact⟨⟨a0,a1,a2,a3,a4,a5,a6,a7⟩,h1,⟨q0,q1,q2,E,I.1,O,U⟩⟩
end Go.Proofs.YtbcmjoaggammcaaGreatDoor.Pa

namespace Go.Proofs.YtbcmjoaggammcaaGreatDoor.Ba
open List
open Go.Proofs.Tryz
open Go.RowKit V Pk Tr Vl Go.Proofs.YtbcmjoaggammcaaGreatDoor.Nm Pc Cd Ex Tw
open Pa (cN bY mv jA nk gS jN lj iQ ir eT Ph)
variable {G:List (Nat×List Value)} {m:Int}
theorem VC.Vd{P:Program}{f:FuncId}{args args':List D}{S:List ag}{post:D→List ag→Prop}(h:VC P G f args S post)(k:pD args' args):VC P G f args' S post:=by
 obtain⟨h1,h2⟩:=k.spec;exact h.args h1.symm fun w L i q1 q2 v hr=>h2 i q2 q1 _ _ _ hr
theorem Se(hm:(3,marksC)∈G)(hw:(2,wordsC)∈G)(ht:(0,typesC)∈G)(hG:(1,[Value.int .i64 m])∈G)(p:Ph)(h:p.Ok):VC Tryz.prog G 25 [.agg p.cs] [] (fun r S'=>∃s,r = .agg (bY s)∧S'=[]∧nk s∧s.kind=1+dW p.k 6):=by
 obtain⟨k,t,a,b,row,⟨x1,O,U,E⟩,⟨y1,y2,y3,I⟩,bare⟩:=p;exact Pa.XH k t a b row x1 O U E y1 y2 y3 I bare h.k.1 h.k.2 h.t.1 h.t.2 h.a.1 h.a.2 h.b.1 h.b.2 h.row h.bE h.wh
theorem TQ(hm:(3,marksC)∈G)(hw:(2,wordsC)∈G)(ht:(0,typesC)∈G)(hG:(1,[Value.int .i64 m])∈G){l:List aU}{a c:Nat}(g:qF l a c)(E:a+c≤30){s:cN}(hs:BY s)(fk:¬s.kind=2)(qe:s.kind≤6→cJ s.table=0)(zK:s.kind≤6)(I:s.kind=1→s.av=dG):VP Tryz.prog G 12 [.agg [.list 5 ((l).flatMap dJ) (l).length],.agg (bY s)] (GK (lW l s)):=by
 refine aeZ hm hw ht hG l (Qx E) g.g s hs.fin fk hs.row hs.wnm hs.wok hs.Xd hs.Xe fun h0=>?_;obtain⟨a',c',_,g',_⟩:=If g E hs fk (qe zK) I h0;exact⟨Nat.le_trans g'.g.eI w7,fun t ht=>(g'.g.tb t ht).small⟩
theorem R7{l:List aU}{s:cN}(h:(lW l s).2.2=0):(eo l s).2.2=0∧(lW l s).1=(eo l s).1:=by
 unfold lW at h ⊢;by_cases h1:jA s≠0
 ·rw[if_pos h1] at h;exact absurd h h1
 rw[if_neg h1] at h ⊢;by_cases h2:7≤s.kind
 ·rw[if_pos h2] at h;cases h
 rw[if_neg h2] at h ⊢;by_cases h3:(eo l s).2.2≠0
 ·rw[if_pos h3] at h;exact absurd h h3
 rw[if_neg h3];exact⟨Classical.not_not.1 h3,rfl⟩
def jJ(x:ByteArray):cN:={ir with kind:=1,table:=x,av:=dG}
theorem abY:∀x∈eT,jA (jJ x)=0:=by decide +kernel
theorem R8{x:ByteArray}(hx:x∈eT):BY (jJ x):=nk.st (Pa.r9.wD (Pa.NU (Pa.Fc x hx)))
def U3:List aU:=eT.map fun x=>gF (jJ x)
theorem Tc:∀i (h:i<eT.length),lW ((eT.take i).map fun x=>gF (jJ x)) (jJ eT[i])=((eT.take (i+1)).map (fun x=>gF (jJ x)),(([],0),0)):=by
 intro i h;have hx:eT[i]∈eT:=getElem_mem h;unfold lW;rw[if_neg (by rw[abY _ hx];decide),if_neg (by show ¬(7:Int)≤1;decide)];have h1:eo ((eT.take i).map fun x=>gF (jJ x)) (jJ eT[i])=((eT.take (i+1)).map (fun x=>gF (jJ x)),(([],0),0)):=by
  have h2:i=0∨i=1:=(by have:eT.length=2:=rfl;omega)
  rcases h2 with rfl|rfl
  ·exact(show eo ((eT.take 0).map fun x=>gF (jJ x)) (jJ (eT[0]'w7))=((eT.take 1).map (fun x=>gF (jJ x)),(([],0),0)) by kernel_rfl)
  exact(show eo ((eT.take 1).map fun x=>gF (jJ x)) (jJ (eT[1]'w7))=((eT.take 2).map (fun x=>gF (jJ x)),(([],0),0)) by kernel_rfl)
 rw[h1];rfl
theorem yp(p:Ph):p.cs.length=14:=by
 obtain⟨k,t,a,b,row,⟨x1,O,U,E⟩,⟨y1,y2,y3,I⟩,bare⟩:=p;rfl
theorem aan:qF [] 0 0:=⟨⟨by decide,(fun t h=>by cases h),(fun t h=>by cases h),Pairwise.nil⟩,(fun t h=>by cases h)⟩
theorem Si:(Nm.Tw.mk 0 0 ⟨#[]⟩ []).Ok:=by constructor<;>first|decide|(simp;done)|trivial
theorem adF{s:cN}(h:nk s):cJ s.table=0:=by
 have hc:=h.2.2.2.2;have h6:=h.2.2.1;unfold gS at hc;split at hc
 ·rename_i h1;exact absurd hc h1.2
 rename_i h1;exact Classical.not_not.1 fun e=>h1 ⟨by omega,e⟩
theorem U4:∀i,i≤2→qF ((eT.take i).map fun x=>gF (jJ x)) 0 0:=by
 intro i;induction i with
 | zero=>intro _;exact aan
 | succ i ih =>
  intro hi;have aa:i<eT.length:=(by have:eT.length=2:=rfl;omega)
  have hr:=Tc i aa;have h0:(lW ((eT.take i).map fun x=>gF (jJ x)) (jJ eT[i])).2.2=0:=(by rw[hr])
  obtain⟨h1,h2⟩:=R7 h0;obtain⟨a',c',_,g',h4,_⟩:=If (ih w4) w7 (R8 (getElem_mem aa)) (show ¬(1:Int)=2 by decide) (Pa.Fc _ (getElem_mem aa)) (fun _=>rfl) h1;obtain⟨_,rfl,rfl⟩:=h4 rfl;rw[←h2,hr] at g';exact g'
theorem adG(hm:(3,marksC)∈G)(hw:(2,wordsC)∈G)(ht:(0,typesC)∈G)(hG:(1,[Value.int .i64 m])∈G)(ps:List Ph)(gI:∀p∈ps,p.Ok)(fC:ps.length≤maxLen):VC Tryz.prog G 9 [.list 14 (ps.flatMap Ph.cs) ps.length] [] (fun r S=>∃l a c,r = .agg [.list 5 ((l).flatMap dJ) (l).length]∧S=[]∧qF l a c∧a+c≤30∧l.map aU.nm=eT):=by
 refine VC.body func9 rfl ntmps9 aO fun X0 w0 aZ=>?_;have dr:maxLen=9223372036854775807:=rfl;have ox:eT.length=2:=rfl;skip;refine cj ?_;refine OD.alloc (ds:=[_]) an rfl rfl zeroValue25 rfl (fun b2=>?_);refine aj 88 [0,2] ?_;refine cj ?_;refine OD.alloc (ds:=[_]) an rfl rfl zeroValue25 rfl (fun b3=>?_);refine OD.cells (k:=0) (cs':=[.list 5 [] 0]) rfl ⟨fY,trivial⟩ rfl ?_;refine aj 88 [0,2,3] ?_;refine ae [0,2,3,4] ?_;refine eH [0,2,3] (fun aW _ (i:Nat) aK=>(i≤2)∧aK=(⟨88,(4,.v (.int .i64 (i:Nat)))::aW,[⟨b3,25,1,[.list 5 ((((eT.take i).map fun x=>gF (jJ x))).flatMap dJ) (((eT.take i).map fun x=>gF (jJ x))).length]⟩,⟨b2,25,1,[.v (.slice none 0 0)]⟩]⟩:St)) (fun (i:Nat)=>2-i) 0 ⟨(Nat.zero_le _),rfl⟩ ?_;rintro i _ ⟨hi,rfl⟩;refine ae [0,2,3,4,14] ?_;refine aq (fun az aG=>?_) (fun az aG=>?_)
 ·have aa:i<eT.length:=(by omega)
  have O:=VC.Vd (TQ hm hw ht hG (l:=((eT.take i).map fun x=>gF (jJ x))) (a:=0) (c:=0) (s:=jJ (eT[i]'aa)) (U4 i w4) w7 (R8 (getElem_mem aa)) (show ¬(1:Int)=2 by decide) (fun _=>Pa.Fc _ (getElem_mem aa)) (show(1:Int)≤6 by decide) (fun _=>rfl)) (args':=[.agg [.list 5 ((((eT.take i).map fun x=>gF (jJ x))).flatMap dJ) (((eT.take i).map fun x=>gF (jJ x))).length],.agg [.v (.int .i64 1),.v (.string (eT[i]'aa)),.list 2 (dG.flatMap cC) dG.length,.v (.slice none 0 0),.v (.slice none 0 0),.v (.bool false),.v (.slice none 0 0),.v (.string ⟨#[]⟩),.v (.bool false),.v (.int .i64 (-1)),.v (.string ⟨#[]⟩),.v (.slice none 0 0)]]) ⟨eM,I4 ⟨eM,eM,eM,fY,fY,eM,fY,eM,eM,eM,eM,fY,trivial⟩,trivial⟩;rw[Tc i aa] at O;unfold GK at O;refine CD.skip ?_;refine CD.seq ?_;refine CD.block ?_;refine CD.seq ?_;refine dv_ 14 13 12 [0,2,3,4,5,6,26,27,28] ?_;refine mX 1 ?_;refine L8 (g:=cS) (eT) ?_;refine cU (Oo) ?_;refine cU (O) ?_;refine mX 4 ?_;refine qW ?_;refine qW ?_;refine jQ ?_;refine⟨rfl,rfl,fun b6 b5=>?_⟩;refine aN 1 [_] sizeOf25 ?_;refine aN 0 [_,_] sizeOf35 ?_;refine aj 88 [0,2,3,4,5,7] ?_;refine ae [0,2,3,4,5,30] ?_;refine aq (fun aH aT=>?_) (fun aH aT=>?_)
  ·refine dK 1 ?_;refine aN 2 [_] sizeOf25 ?_;refine aj 88 [0,2,3,4] ?_;refine cg [0,2,3,4] ?_;refine⟨(i+1),_,cz,aM,w4,rfl⟩
  exact absurd aH (by simp at aH)
 have lI:i=2:=(by omega)
 subst lI;have htw:((eT.take 2).map fun x=>gF (jJ x))=U3:=rfl;refine ae [0,2,3,8] ?_;refine eH [0,2,3] (fun aW _ (U:Nat×List aU×Nat×Nat) aK=>match U with|(k,l,a,c)=>(k≤30)∧(k≤ps.length)∧(a+c≤k)∧(qF l a c)∧((l).map aU.nm=eT)∧aK=(⟨88,(8,.v (.int .i64 (k:Nat)))::aW,[⟨b3,25,1,[.list 5 ((l).flatMap dJ) (l).length]⟩,⟨b2,25,1,[.v (.slice none 0 0)]⟩]⟩:St)) (fun (U:Nat×List aU×Nat×Nat)=>match U with|(k,l,a,c)=>30-k) (0,U3,0,0) ⟨(Nat.zero_le _),(Nat.zero_le _),(Nat.le_refl _),(U4 2 (Nat.le_refl _)),rfl,rfl⟩ ?_;rintro⟨k,l,a,c⟩ _ ⟨lF,hkp,hac,gn,I,rfl⟩;refine aC 5 ?_;refine bS 36 (fun ajq agq=>?_) (fun ajq agq=>?_)
 ·refine aY [0,2,3,8,39] ?_;refine aq (fun aX bw=>?_) (fun aX bw=>?_)
  ·have aa:k<ps.length:=(by first|omega|(simp at *;omega))
   have aoj:k<30:=(by first|omega|(simp at *;omega))
   have qV:=gI (ps[k]'aa) (getElem_mem aa);refine aC 3 ?_;refine bQ (cH (mk:=Op.load 78) rfl ot (jM (g:=Ph.cs) (ls:=ps) (i:=k) yp isAgg78 sizeOf78 aa)) ?_;refine OD.call an rfl rfl rfl call25 (Se hm hw ht hG (ps[k]'aa) qV) ⟨ot,trivial⟩ (eK _) ?_;rintro _ _ ⟨s,rfl,rfl,Z,GA⟩;refine OD.alloc (ds:=[_,_,_,_,_,_,_,_,_,_,_,_]) an rfl rfl zeroValue42 rfl (fun b9=>?_);refine aN 0 [_,_,_,_,_,_,_,_,_,_,_,_] sizeOf42 ?_;refine aj 88 [0,2,3,8,9] ?_;refine jI [0,2,3,8,9] (fun aW _ aK=>∃(s:cN),(nk s)∧(¬s.kind=1∧¬s.kind=2)∧aK=(⟨88,aW,[⟨b9,42,12,bY s⟩,⟨b3,25,1,[.list 5 ((l).flatMap dJ) (l).length]⟩,⟨b2,25,1,[.v (.slice none 0 0)]⟩]⟩:St)) ?_ ?_
   ·refine aC 4 ?_;refine bS 50 (fun U5 agr=>?_) (fun U5 agr=>?_)
    ·refine aY [0,2,3,8,9,54] ?_;refine ez ?_;exact Vc
    refine aY [0,2,3,8,9,54] ?_;refine aq (fun bC bW=>?_) (fun bC bW=>?_)
    ·exact Vc
    have E:¬s.kind=1∧¬s.kind=2:=(by first|exact⟨by simpa using U5,by simpa using bC⟩|(simp at *;omega))
    refine CD.skip ?_;refine⟨_,aM,s,Z,E,rfl⟩
   rintro _ ⟨s,Z,E,rfl⟩;refine CD.seq ?_;have Ab:=nk.st Z;have qe:=adF Z;have O:=TQ hm hw ht hG gn w4 Ab E.2 (fun _=>qe) Z.2.2.1 (fun h=>absurd h E.1);unfold GK at O;refine dK 2 ?_;refine dS call12 (O) ?_;refine aD 4 ?_;refine OD.alloc (ds:=[_]) an rfl rfl zeroValue25 rfl (fun kG=>?_);refine OD.alloc (ds:=[_,_]) an rfl rfl zeroValue35 rfl (fun kE=>?_);refine aN 1 [_] sizeOf25 ?_;refine aN 0 [_,_] sizeOf35 ?_;refine aj 88 [0,2,3,8,10,12] ?_;refine ae [0,2,3,8,10,85] ?_;refine aq (fun cx c9=>?_) (fun cx c9=>?_)
   ·have h0:(lW l s).2.2=0:=(by simpa using cx)
    obtain⟨h1,h2⟩:=R7 h0;obtain⟨a',c',aok,gn1,_,gb⟩:=If gn w4 Ab E.2 qe (fun h=>absurd h E.1) h1;have gn2:qF (lW l s).1 a' c':=(by rw[h2];exact gn1)
    have ags:(lW l s).1.map aU.nm=eT:=(by rw[h2,gb E.1];exact I)
    refine dK 1 ?_;refine aN 3 [_] sizeOf25 ?_;refine aj 88 [0,2,3,8] ?_;refine cg [0,2,3,8] ?_;refine⟨((k+1),(lW l s).1,a',c'),_,cz,aM,w4,w4,w4,gn2,ags,rfl⟩
   refine cg [0,2,3,8] ?_;refine⟨((k+1),l,a,c),_,cz,aM,w4,w4,w4,gn,I,rfl⟩
  refine aC 1 ?_;refine aN 1 [_] sizeOf25 ?_;refine aj 88 [2] ?_;refine aJ [] ?_;exact⟨l,a,c,rfl,rfl,gn,by omega,I⟩
 refine aY [0,2,3,8,39] ?_;refine fG ?_;refine aC 1 ?_;refine aN 1 [_] sizeOf25 ?_;refine aj 88 [2] ?_;refine aJ [] ?_;exact⟨l,a,c,rfl,rfl,gn,by omega,I⟩

end Go.Proofs.YtbcmjoaggammcaaGreatDoor.Ba
namespace Go.Proofs.YtbcmjoaggammcaaGreatDoor.Ba

open List
open Go.Proofs.Tryz
open Go.RowKit V Pk Tr Vl Go.Proofs.YtbcmjoaggammcaaGreatDoor.Nm Pc Cd Ex Tw
open Pa (Ph)
variable {m:Int}
def Ad(m:Int):List (Nat×List Value):=[(3,marksC),(2,wordsC),(0,typesC),(1,[Value.int .i64 m])]
theorem tm1:(3,marksC)∈Ad m:=mem_cons_self
theorem tm2:(2,wordsC)∈Ad m:=mem_cons_of_mem _ mem_cons_self
theorem tm3:(0,typesC)∈Ad m:=mem_cons_of_mem _ (mem_cons_of_mem _ mem_cons_self)
theorem tm4:(1,[Value.int .i64 m])∈Ad m:=mem_cons_of_mem _ (mem_cons_of_mem _ (mem_cons_of_mem _ mem_cons_self))
theorem ajr{w:World}(h1:MarksTab w)(h2:WordsTab w)(h3:TypesTab w)(h4:Tab.mj w 1 [Value.int .i64 m]):∀g∈Ad m,g.2≠[]∧Bw w g.1 g.2:=fun g hg=>by
 rcases mem_cons.1 hg with rfl|hg
 ·exact⟨by decide,.of h1 rfl⟩
 rcases mem_cons.1 hg with rfl|hg
 ·exact⟨by decide,.of h2 rfl⟩
 rcases mem_cons.1 hg with rfl|hg
 ·exact⟨by decide,.of h3 rfl⟩
 rw[mem_singleton] at hg;subst hg;exact⟨by simp,.of h4 rfl⟩
theorem rd_phrases{H:Type}{enc:TypeId×Value→H}{w:World}{base E:Nat}{sp:Nat→Bool}{held:Bool}{v:Value}{d:DataW H}{p:List MemPlace}(hval:Value.okWide Tryz.prog w .any E 22 v)(h:DataW.Trod enc Tryz.prog w base sp held 22 v d p) :
  ∃l:List Ph,cl w (fun _=>False) (.list 14 (l.flatMap Ph.cs) l.length) v∧((∀x∈l,x.Ok)∧l.length≤maxLen)∧True:=by
 obtain⟨l,h1,h2,h3⟩:=aaA (g:=Ph.cs) (ok:=Ph.Ok) (sz:=14) underlying22 ay w7 (fun n cs x hn=>Pa.YW n cs x hn) yp hval h;exact⟨l,h1,⟨h2,h3⟩,trivial⟩

end Go.Proofs.YtbcmjoaggammcaaGreatDoor.Ba
namespace Go.Proofs.YtbcmjoaggammcaaGreatDoor.Ba
open List
open Go.Proofs.Tryz
open Go.RowKit V Pk Tr Vl Go.Proofs.YtbcmjoaggammcaaGreatDoor.Nm Pc Cd Ex Tw
open Pa (cN bY mv jA nk gS jN lj iQ ir eT Ph)
variable {G:List (Nat×List Value)} {m:Int}
theorem R9{v:Vl}(h:dB v=0)(hk:v.k=2):fL [v]=(fP [v],0):=by
 unfold fL;rw[if_neg bu,Eo (fun x hx=>by rw[mem_singleton] at hx;rw[hx];exact h),if_neg bu,if_neg];show ¬(fP [v]).length>100;unfold fP Cd.uP rS;simp[hk,mA]
theorem aao{t:aU}{n:Nat}(g:eW t n){i:Int}(h:gg t i):∃(v:Vl) (r:List Vl),rowAt t i=v::r∧r.length=3∧v.k=2∧v.s.size=0∧v.Ok∧dB v=0∧cQ (rowAt t i)=fP [v]:=by
 obtain⟨h4,aQ⟩:=gg.ok g h;obtain⟨h0,h1,h2⟩:=h;have hf:=(g.row _ h1 h2).1;rw[←jo h1] at hf;match hr:rowAt t i,h4 with
 | v::r,h4 =>
  rw[hr] at hf aQ;obtain⟨hv,hc⟩:=aQ v mem_cons_self;have hk:v.k=2:=by
   unfold Pc.dU at hf;rw[if_neg Bm,if_neg yR] at hf;unfold dG Pc.ph at hf;split at hf
   ·rename_i h1;exact absurd hf h1
   rename_i h1;have h1:=Decidable.not_not.1 h1;unfold Pc.lS at h1;rw[if_neg (by rw[hc];decide)] at h1;split at h1
   ·cases h1
   rename_i h3;exact Decidable.not_not.1 fun e=>h3 ⟨e,.inl rfl⟩
  refine⟨v,r,rfl,by simpa using h4,hk,?_,hv,hc,?_⟩
  ·unfold dB at hc;rw[if_neg w4,if_neg w4,if_pos hk] at hc;split at hc
   ·cases hc
   rename_i h3;exact Decidable.not_not.1 h3
  unfold cQ;rw[show(v::r).take 1=[v] from rfl,R9 hc hk]
theorem ajs{l:List aU}(h:l.map aU.nm=eT):l.length=2:=by have:=congrArg length h;rw[length_map] at this;rw[this];decide

theorem XI(hm:(3,marksC)∈G)(hw:(2,wordsC)∈G)(ht:(0,typesC)∈G)(hG:(1,[Value.int .i64 m])∈G)(ps:List Ph)(gI:∀p∈ps,p.Ok)(fC:ps.length≤maxLen):VP Tryz.prog G 4 [.list 14 (ps.flatMap Ph.cs) ps.length] (.v (.bool true)):=by
 refine VC.body func4 rfl ntmps4 aO fun X0 w0 aZ=>?_;have dr:maxLen=9223372036854775807:=rfl;refine ae [0] ?_;refine aC 1 ?_;refine OD.call an rfl rfl rfl call9 (adG hm hw ht hG ps gI fC) ⟨ot,trivial⟩ (eK _) ?_;rintro _ _ ⟨l,a,c,rfl,rfl,gn,hac,ajt⟩;refine OD.alloc (ds:=[_]) an rfl rfl zeroValue25 rfl (fun b3=>?_);refine aN 0 [_] sizeOf25 ?_;refine aj 87 [3] ?_;have iB:=ajs ajt;have M7:0<l.length:=(by omega)
 refine ae [3,18] ?_;refine aq (fun az aG=>?_) (fun az aG=>?_)
 ·exact absurd az (by (simp at az;omega))
 refine aC 2 ?_;refine bQ (qq (mk:=Op.indexAddr 23) rfl ot bH (by first|exact rC runUnderlying23 sizeOf48 (j:=0) rfl M7|exact rF runUnderlying23 sizeOf48 (j:=0) rfl M7)) ?_;refine aD 1 ?_;refine OD.alloc (ds:=[_,_,_,_,_]) an rfl rfl zeroValue48 rfl (fun b4=>?_);refine aN 0 [_,_,_,_,_] sizeOf48 ?_;refine aj 87 [4] ?_;refine CD.seq ?_;have g:=gn.g.tb _ (getElem_mem M7);generalize l[0]=t at g;have mw:=g.eI;have rp:=RC (G:=G) g.ix;have zZ:=RD (G:=G) g.ix;rw[Qk] at zZ;unfold Tw.cT at rp zZ;have GI:=RW g;refine cg [4,5] ?_;refine ae [4,5,6] ?_;refine CD.block ?_;refine l5 (fun (i:Nat) aK=>(i≤t.rows.length)∧aK=(⟨87,[(4,.v (.pointer (some ⟨b4,0,none⟩))),(5,.v (.int .i64 (tH t i:Nat))),(6,.v (.int .i64 (i:Nat)))],[⟨b4,48,5,dJ t⟩]⟩:St)) (fun (i:Nat)=>t.rows.length-i) 0 ⟨(Nat.zero_le _),rfl⟩ (aM (h:=by repeat (first|exact trivial|refine⟨K0,?_⟩))) ?_;rintro i _ ⟨hi,rfl⟩;refine ae [4,5,6,27] ?_;refine aq (fun aH aT=>?_) (fun aH aT=>?_)
 ·have aa:i<t.rows.length:=(by omega)
  have jR:t.rows.getD i []=(t.rows[i]'aa):=Eh aa;have kJ:=S5 t i;refine ae [4,5,6,36] ?_;refine aq (fun aX bw=>?_) (fun aX bw=>?_)
  ·have wj:¬(t.rows.getD i []).length≠0:=(by rw[jR];simpa using aX)
   refine cg [4,5,6] ?_;exact F2
  have wj:(t.rows.getD i []).length≠0:=(by rw[jR];simpa using aX)
  have hne:(t.rows[i]'aa)≠[]:=fun h=>wj (by rw[jR,h];rfl);obtain⟨p1,p2,p3⟩:=g.row i aa hne;have p4:=oX p1;have Z:=SG (G:=G) hG ((t.rows[i]'aa).take 1) nT (fun v hv=>p2 v (mem_of_mem_take hv));have jV:gg t (i:Int):=⟨Int.natCast_nonneg i,aa,hne⟩
  obtain⟨v,r,ev,_,kv,_,ov,cv,_⟩:=aao g jV;have MT:(t.rows[i]'aa)=v::r:=(by rw[←ev,jo (i:=(i:Int)) aa];rfl)
  have tZ:fL ((t.rows[i]'aa).take 1)=(cQ (t.rows[i]'aa),0):=(by unfold cQ;rw[MT,show(v::r).take 1=[v] from rfl,R9 cv kv])
  rw[tZ] at Z;unfold Fv at Z;dsimp only at Z;have fj:=EQ (G:=G) g.ix (cQ (t.rows[i]'aa));rw[H8 g.ix (ux p1) p3] at fj;unfold Tw.cT at fj;refine cL [4,5,6,7,8] ?_;refine aP 5 ?_ (h:=by exact(dY (h:=1) rfl ot trivial ⟨_,bH⟩ (by exact nH e9 (fun h=>by cases h) runUnderlying27 sizeOf30 w4)));refine cU (Z) ?_;refine bG ?_;refine cM [4,5,6,8,9,10] (fj) ?_;refine aC 3 ?_;refine bS 56 (fun E agt=>?_) (fun E agt=>?_)
  ·exact absurd E (by simp at E)
  refine aD 4 ?_;refine bS 60 (fun I A6=>?_) (fun I A6=>?_)
  ·exact absurd I (by simp at I)
  refine aY [4,5,6,64] ?_;refine aq (fun bC bW=>?_) (fun bC bW=>?_)
  ·exact absurd bC (by (simp at bC))
  refine cg [4,5,6] ?_;refine cg [4,5,6] ?_;exact F2
 have qQ:i=t.rows.length:=(by omega)
 subst qQ;refine cM [4,5,11,12] (zZ) ?_;refine aC 3 ?_;refine bS 75 (fun O agu=>?_) (fun O agu=>?_)
 ·refine aD 6 ?_;refine bS 81 (fun U JH=>?_) (fun U JH=>?_)
  ·refine aD 2 ?_;refine OD.gE gH rfl rfl rfl call16 (rp) ⟨ot,trivial⟩ ?_;refine aj 87 [2] ?_;refine aJ [] ?_;refine⟨?_,rfl⟩;first|rfl|(simp[GI];done)
  exact absurd U (by (simp[GI] at U))
 exact absurd O (by simp at O)
theorem walkIndexRows(l:List Ph)(v:Value)(ok:(∀x∈l,x.Ok)∧l.length≤maxLen)(w:World)(h1:MarksTab w)(h2:WordsTab w)(h3:TypesTab w){m:Int}(hm:Tab.mj w 1 [Value.int .i64 m])(E:cl w (fun _=>False) (.list 14 (l.flatMap Ph.cs) l.length) v):Calls Tryz.prog 4 #[v] w fun e w'=>e = .returned (.bool true)∧Below w.heap.size w w' :=
 (XI (G:=Ad m) tm1 tm2 tm3 tm4 l ok.1 ok.2).agK (ajr h1 h2 h3 hm) (vs:=[v]) (cG.cons E (cG.vs w _ []))

end Go.Proofs.YtbcmjoaggammcaaGreatDoor.Ba
