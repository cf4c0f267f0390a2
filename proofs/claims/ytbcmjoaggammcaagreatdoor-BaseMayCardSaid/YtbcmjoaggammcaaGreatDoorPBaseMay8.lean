/-
  What the proof of BaseMay leans on, part 8 of 8: walks of the program's functions at the level of values, and plain facts of what they compute.
-/
import Derived.Test.YtbcmjoaggammcaaGreatDoorPBaseMay7
set_option linter.unusedVariables false
set_option linter.unusedSimpArgs false
set_option maxRecDepth 100000
set_option maxHeartbeats 4000000
namespace Go.Proofs.YtbcmjoaggammcaaGreatDoor.Ba
open List
open Go.Proofs.Tryz
open Go.RowKit V Pk Tr Vl Go.Proofs.YtbcmjoaggammcaaGreatDoor.Nm Pc Cd Ex Tw
open Pa (cQ cg)
variable {G:List (Nat×List Value)} {m:Int}
variable {t:aP} {L:List cf} {ad:Option Addr} {cap i n:Nat} {E S:List ag} {o:cf} {p:(List (List Vl)×Int)×Int}
def FX(t:aP)(L:List cf)(ad:Option Addr)(cap:Nat)(Sr:List ag):Prop:=L.map cf.r=t.rows∧(∀o∈L,nG o)∧sj L ad cap Sr
theorem QY(h:FX t L ad cap E)(hs:∀B∈E++L.flatMap bR,B∈S):View S (.agg (tC t ad cap)) (.agg (dG t)) :=
 Sk (o:=⟨t,L.flatMap gR,ad,cap,E,L.flatMap bR⟩) (qA.w ⟨L,rfl,rfl,h.2.1,h.1,h.2.2⟩) hs
theorem QZ(aS:∀o∈L,nG o)(hi:i<L.length)(hs:∀B∈L.flatMap bR,B∈S):View S (.v (.slice L[i].ad L[i].r.length L[i].cap)) (.list 3 (L[i].r.flatMap cV) L[i].r.length) :=
 lj (aS _ (getElem_mem hi)) (cq fh _) (fun B E=>hs B (mem_flatMap.2 ⟨_,getElem_mem hi,E⟩))
theorem Jk(f:ag→Nat):∀(L:List cf) (i:Nat) (o:cf) (h:i<L.length),(((L.set i o).flatMap bR).map f).sum=(o.S.map f).sum+(((L.eraseIdx i).flatMap bR).map f).sum
 | [],_,_,h=>absurd h (Nat.not_lt_zero _)
 | x::L,0,o,_=>by simp[bR]
 | x::L,i+1,o,h=>by
  have:=Jk f L i o (Nat.lt_of_succ_lt_succ h);simp only[set_cons_succ,flatMap_cons,map_append,sum_append,eraseIdx_cons_succ,this];omega
theorem Q0{A B C X:ag}(h:i<L.length)(hS:L[i].S=[X]):(A::B::([C]++L.flatMap bR)).Perm (X::A::B::C::(L.eraseIdx i).flatMap bR):=iv fun f=>by
 have:=Jk f L i L[i] h;rw[set_getElem_self,hS] at this;simp only[map_cons,sum_cons,map_append,sum_append,map_nil,sum_nil,this];omega
theorem SL{A B C X:ag}(h:i<L.length)(hS:o.S=[X]):(X::A::B::C::(L.eraseIdx i).flatMap bR).Perm (A::B::([C]++(L.set i o).flatMap bR)):=iv fun f=>by
 have:=Jk f L i o h;rw[hS] at this;simp only[map_cons,sum_cons,map_append,sum_append,map_nil,sum_nil,this];omega
theorem Q1{t:aP}{c:Int}{e:List aX}:∀(l:List Int) (acc:List Vl),(iF t c e acc l).2=0→(iF t c e acc l).1.length=acc.length+l.length
 | [],acc,_=>rfl
 | i::r,acc,h=>by
  rw[iF] at h ⊢;split
  ·rename_i h1;rw[if_pos h1] at h;exact absurd h h1
  rename_i h1;rw[if_neg h1] at h;split
  ·rename_i h2;rw[if_pos h2] at h;cases h
  rename_i h2;rw[if_neg h2] at h;rw[Q1 r _ h,length_append,length_cons,length_cons,length_nil];omega
theorem Iy{t:aP}{n:Nat}(g:eO t n){c:Int}{e:List aX}(kN:∀o∈e,o.nm.size≤maxLen)(fM:∀o∈e,o.v.Ok)(hk:(ec dH e).2=0):∀(l:List Int) (acc:List Vl),(∀i∈l,gk t i)→(iF t c e acc l).2=0 →
  (∀v∈acc,v.Ok∧jC (ec dH e).1 v∧(c=0→v.k≠0))→∀v∈(iF t c e acc l).1,v.Ok∧jC (ec dH e).1 v∧(c=0→v.k≠0)
 | [],acc,_,_,ha=>ha
 | i::r,acc,hl,h,ha=>by
  rw[iF] at h ⊢;have hi:=hl i mem_cons_self;obtain⟨h0,h1,h2⟩:=id hi;obtain⟨p1,p2,_⟩:=g.row _ h1 h2;rw[←iZ h1] at p1 p2;split
  ·rename_i h1;rw[if_pos h1] at h;exact absurd h h1
  rename_i hne;rw[if_neg hne] at h;split
  ·rename_i h2;rw[if_pos h2] at h;cases h
  rename_i h3;rw[if_neg h3] at h;refine Iy g kN fM hk r _ (fun j hj=>hl j (mem_cons_of_mem _ hj)) h fun v E=>?_;rcases mem_append.1 E with E|E
  ·exact ha v E
  rw[mem_singleton] at E;subst E;rw[g.av] at hne h3 ⊢;exact⟨ad6 p2 fM,acq kN fM p1 hk (Classical.not_not.1 hne),fun hc hz=>h3 ⟨hc,hz⟩⟩
theorem Jl{g:cf→List D}:∀(M:List cf) (i:Nat) (h:i<M.length) (o:cf),g o=g M[i]→(M.set i o).flatMap g=M.flatMap g
 | [],_,h,_,_=>absurd h (Nat.not_lt_zero _)
 | x::M,0,_,o,e=>by
  rw[set_cons_zero,flatMap_cons,flatMap_cons,e];rfl
 | x::M,i+1,h,o,e=>by
  rw[set_cons_succ,flatMap_cons,flatMap_cons,Jl M i (Nat.lt_of_succ_lt_succ h) o e]
theorem Pr{x:aE}{M:List cf}{i:Int}(h:i.toNat<M.length):rowAt {t with rows:=M.map cf.r,ix:=x} i=M[i.toNat].r:=by
 rw[iZ (by show _<(M.map cf.r).length;rw[length_map];exact h)];exact getElem_map ..
theorem SM{x:aE}{M:List cf}{i:Int}(h:i.toNat<M.length){c:Nat}{v:Vl}(ho:o.r=M[i.toNat].r.set c v):qY {t with rows:=M.map cf.r,ix:=x} i c v={t with rows:=(M.set i.toNat o).map cf.r,ix:=x}:=by
 unfold qY;rw[Pr h,map_set,ho]
theorem acr{c:Nat}{l:List Vl}:mD c t [] l=t:=by unfold mD;rfl
theorem aaK{l:List Vl}:j9 t [] l=(t,0):=by unfold j9;rfl
theorem FY{l:List (List Vl)}(h:L.map cf.r=l)(h1:i<L.length)(h2:i<l.length):L[i].r=l[i]:=by subst h;rw[getElem_map]
theorem Zj:(Tryz.prog.info? 30).map (fun i=>(i.zero,i.size,i.bytes))=some (some (.agg #[.int .i64 0,.int .i64 0,.string ⟨#[]⟩]),3,32):=by kernel_rfl
theorem aaL(hm:(3,marksC)∈G)(hw:(2,wordsC)∈G)(ht:(0,typesC)∈G)(hG:(1,[Value.int .i64 m])∈G)(t:aP)(g:eO t n)(s:cQ)(ho:∀o∈s.ah,o.nm.size≤maxLen)(fM:∀o∈s.ah,o.v.Ok)(oT:∀o∈s.bE,o.nm.size≤maxLen)(zB:∀o∈s.bE,o.v.Ok)(hn:n≤260)(bt off pP:Nat)(pre post:List D)(hp:pre.length=off)(L:List cf)(ad:Option Addr)(cap:Nat)(Sr:List ag)(hL:L.map cf.r=t.rows)(aS:∀o∈L,nG o)(kf:sj L ad cap Sr):VC Tryz.prog G 51 [.v (.pointer (some ⟨bt,off,none⟩)),.agg (cg s)] (⟨bt,48,pP,pre++(tC t ad cap++post)⟩::(Sr++L.flatMap bR)) (fun r S=>r = .dz [.v (.int .i64 (gK t s).2.1),.v (.int .i64 (gK t s).2.2)]∧((gK t s).2.2=0→∃L' nF kg om,FX (gK t s).1 L' nF kg om∧S=⟨bt,48,pP,pre++(tC (gK t s).1 nF kg++post)⟩::(om++L'.flatMap bR))):=by
 refine VC.body func51 rfl ntmps51 aO fun X0 w0 aZ=>?_;have dy:maxLen=9223372036854775807:=rfl;have GQ:FX t L ad cap Sr:=⟨hL,aS,kf⟩
 have rA:L.length=t.rows.length:=(by rw[←hL,length_map])
 have mB:=g.eK;have Dx:=EQ g s.ah;have mi:=uR g s.ah;have hnd:=D7 g s.ah;have ajo:t.av.length=4:=(by rw[g.av];rfl)
 have agG:=HO (G:=G) t w4 s.set;have vI:=IY (G:=G) hm hw ht t.av xu xq s.bE oT;unfold pB at vI;have XD:=vZ (fun c:cu=>c.n.toList==s.set.toList) t.av;rw[show dM (fun c:cu=>c.n.toList==s.set.toList) t.av=(bM t.av s.set) from rfl] at XD;unfold tC;unfold cg;refine bX ?_;refine OD.box (ds:=[_,_,_,_,_,_,_,_,_,_,_,_]) an rfl rfl ot rfl rfl (fun b3=>?_);refine aj 205 [0,3] ?_;refine cN [0,3,6] ?_;refine aQ 2 ?_ (h:=by exact(Lb 1));refine ni 2 ?_;refine zj (agG) (ha:=by exact⟨⟨_,ot,(QY GQ (fun B U=>by repeat (first|exact U|apply mem_append_right|apply mem_cons_of_mem)):View _ (.agg (tC t ad cap)) _)⟩,⟨_,ot,eP⟩,trivial⟩) (K:=?_);refine bH ?_;refine ae [0,3,6,30] ?_;refine aq (fun az aH=>?_) (fun az aH=>?_)
 ·have hA:(bM t.av s.set)<0:=(by simpa using az)
  have aT:gK t s=(t,0,8):=(by unfold gK;rw[if_pos hA])
  exact wP
 have hA:¬(bM t.av s.set)<0:=(by simpa using az)
 have kP:(bM t.av s.set).toNat<t.av.length:=(by omega)
 refine cN [0,3,6,7,8] ?_;refine aQ 3 ?_ (h:=by exact(oh 1));refine cU (vI) ?_;refine bH ?_;refine ae [0,3,6,7,8,42] ?_;refine aq (fun aG aV=>?_) (fun aG aV=>?_)
 ·have U:(ec t.av s.bE).2≠0:=(by simpa using aG)
  have aT:gK t s=(t,0,(ec t.av s.bE).2):=(by unfold gK;rw[if_neg hA,if_pos U])
  exact wP
 have U:¬(ec t.av s.bE).2≠0:=(by simpa using aG)
 have kM:t.av.getD (bM t.av s.set).toNat ⟨⟨#[]⟩,0⟩=t.av[(bM t.av s.set).toNat]:=(by rw[getD_eq_getElem?_getD,getElem?_eq_getElem kP];rfl)
 refine CD.skip ?_;refine jJ [0,3,6] (fun aW rz aK=>(¬((ec t.av s.bE).1≠(t.av.getD (bM t.av s.set).toNat ⟨⟨#[]⟩,0⟩).k∧(ec t.av s.bE).1≠0))∧aK=(⟨205,aW,rz⟩:St)) ?_ ?_
 ·refine aC 4 ?_;refine bN (oh 1) ?_;refine aD 1 ?_;refine bN (c9 2 (h:=by first|exact .l (j:=(bM t.av s.set).toNat) (Int.toNat_of_nonneg w4).symm kP|exact .r (j:=(bM t.av s.set).toNat) (Int.toNat_of_nonneg w4).symm kP)) ?_;refine aD 4 ?_;refine bS 54 (fun rX uW=>?_) (fun rX uW=>?_)
  ·refine aj 205 [0,3,6,57] ?_;refine aq (fun aY bz=>?_) (fun aY bz=>?_)
   ·have hC:(ec t.av s.bE).1≠(t.av.getD (bM t.av s.set).toNat ⟨⟨#[]⟩,0⟩).k∧(ec t.av s.bE).1≠0:=(by rw[kM];exact⟨by simpa using rX,by simpa using aY⟩)
    have aT:gK t s=(t,0,4):=(by unfold gK;rw[if_neg hA,if_neg U,if_pos hC])
    exact wP
   exact Wd
  refine aj 205 [0,3,6,57] ?_;refine fL ?_;exact Wd
 rintro _ ⟨hC,rfl⟩;refine cN [0,3,6,8,9] ?_;refine aQ 2 ?_ (h:=by exact(Lb 1));refine ni 2 ?_;refine zi (JM hm hw ht hG t g s.ah ho fM) (fun r S h=>h.flat) (fun r S h=>h.view) (ha:=by exact⟨⟨_,ot,(QY GQ (fun B U=>by repeat (first|exact U|apply mem_append_right|apply mem_cons_of_mem)):View _ (.agg (tC t ad cap)) _)⟩,⟨_,ot,eP⟩,trivial⟩) (K:=?_);refine bH ?_;refine ae [0,3,6,8,9,68] ?_;refine aq (fun bC bY=>?_) (fun bC bY=>?_)
 ·have hD:(au t s.ah).2≠0:=(by simpa using bC)
  have aT:gK t s=(t,0,(au t s.ah).2):=(by unfold gK;rw[if_neg hA,if_neg U,if_neg hC,if_pos hD])
  exact wP
 have hD:¬(au t s.ah).2≠0:=(by simpa using bC)
 refine bX ?_;refine bf [0,3,6,9,10] ?_;refine ae [0,3,6,9,10,70,71,72] ?_;refine eB [0,3,6,9,70,71] (fun aW _ (E:Nat×List Vl×Option Addr×Nat×List ag) aK=>match E with|(k,acc,dK,cY,Sx)=>(k≤(au t s.ah).1.length)∧((acc).length=k)∧((iF t (bM t.av s.set) s.bE [] (au t s.ah).1)=iF t (bM t.av s.set) s.bE acc ((au t s.ah).1.drop k))∧(bw 30 3 ((acc).flatMap cV) (acc).length dK cY Sx)∧aK=(⟨205,(10,.v (.slice dK (acc).length cY))::(72,.v (.int .i64 (k:Nat)))::aW,(⟨b3,42,12,cg s⟩::⟨bt,48,pP,pre++([.v (.string t.nm),.list 2 (t.av.flatMap cC) t.av.length,.v (.slice ad t.rows.length cap),.list 5 (t.ix.af.flatMap cP) t.ix.af.length,.v (.int .i64 t.ix.root)]++post)⟩::(Sr++(Sx++L.flatMap bR)))⟩:St)) (fun (E:Nat×List Vl×Option Addr×Nat×List ag)=>match E with|(k,acc,dK,cY,Sx)=>(au t s.ah).1.length-k) (0,([]:List Vl),none,0,[]) ⟨(Nat.zero_le _),rfl,rfl,iw,rfl⟩ ?_;rintro⟨k,acc,dK,cY,Sx⟩ _ ⟨hk,qW,zW,dU,rfl⟩;refine ae [0,3,6,9,10,70,71,72,73] ?_;refine aq (fun cy de=>?_) (fun cy de=>?_)
 ·have aa:k<(au t s.ah).1.length:=(by omega)
  have jl:(au t s.ah).1.drop k=((au t s.ah).1[k]'aa)::(au t s.ah).1.drop (k+1):=drop_eq_getElem_cons aa;have rD:gk t ((au t s.ah).1[k]'aa):=mi _ (getElem_mem aa);obtain⟨gp,O,nH⟩:=id rD;have fT:((au t s.ah).1[k]'aa).toNat<L.length:=(by rw[rA];exact O)
  obtain⟨br,rfl,uj,uk,rfl⟩:=kf.pos w4;have vJ:L[((au t s.ah).1[k]'aa).toNat].r=rowAt t ((au t s.ah).1[k]'aa):=(by rw[iZ O];exact(FY hL fT O))
  obtain⟨XC,Dy⟩:=gk.ok g rD;have Lc:=RU (G:=G) hm hw ht t.av xu xq L[((au t s.ah).1[k]'aa).toNat].r (by rw[vJ];omega) (by rw[vJ];exact fun v hv=>(Dy v hv).1) s.bE oT zB;rw[show fj t.av L[((au t s.ah).1[k]'aa).toNat].r s.bE=(fj t.av (rowAt t ((au t s.ah).1[k]'aa)) s.bE) from by rw[vJ]] at Lc;unfold mL at Lc;refine ae [0,3,6,9,10,12,70,71,72] ?_;refine CD.seq ?_;refine uf 18 17 [0,3,6,9,10,13,70,71,72,91,92] ?_;refine aQ 3 ?_ (h:=by exact(oh 1));refine aQ 3 ?_ (h:=by exact(oh 1));refine aQ 1 ?_ (h:=by exact(c9 1 (h:=by first|exact .l (j:=((au t s.ah).1[k]'aa).toNat) (Int.toNat_of_nonneg gp).symm O|exact .r (j:=((au t s.ah).1[k]'aa).toNat) (Int.toNat_of_nonneg gp).symm O)));refine aQ 0 ?_ (h:=by exact(cJ (mk:=Op.load 27) rfl ot (iO (k:=2) (i:=((au t s.ah).1[k]'aa).toNat) (ls:=L) uQ rfl rfl rfl isAgg27 fT rfl)));refine ni 2 ?_;refine zj (Lc) (ha:=by exact⟨⟨_,ot,eP⟩,⟨_,ot,(QZ aS fT (fun B U=>by repeat (first|exact U|apply mem_append_right|apply mem_cons_of_mem)))⟩,⟨_,ot,eP⟩,trivial⟩) (K:=?_);refine ni 3 ?_;refine rj ?_;refine jR ?_;refine⟨rfl,fun mh=>?_⟩;refine aN 0 [_,_,_] sizeOf30 ?_;refine aj 205 [0,3,6,9,10,13,14,70,71,72] ?_;refine ae [0,3,6,9,10,13,14,70,71,72,94] ?_;refine aq (fun dO eo=>?_) (fun dO eo=>?_)
  ·have hE:(fj t.av (rowAt t ((au t s.ah).1[k]'aa)) s.bE).2≠0:=(by simpa using dO)
   have iK:(iF t (bM t.av s.set) s.bE [] (au t s.ah).1)=([],(fj t.av (rowAt t ((au t s.ah).1[k]'aa)) s.bE).2):=(by rw[zW,jl,iF,if_pos hE])
   have aT:gK t s=(t,0,(fj t.av (rowAt t ((au t s.ah).1[k]'aa)) s.bE).2):=(by unfold gK;rw[if_neg hA,if_neg U,if_neg hC,if_neg hD,iK,if_pos hE])
   exact wP
  have hE:¬(fj t.av (rowAt t ((au t s.ah).1[k]'aa)) s.bE).2≠0:=(by simpa using dO)
  refine CD.skip ?_;refine jJ [0,3,6,9,10,13,70,71,72] (fun aW rz aK=>((iF t (bM t.av s.set) s.bE [] (au t s.ah).1)=iF t (bM t.av s.set) s.bE (acc++[(fj t.av (rowAt t ((au t s.ah).1[k]'aa)) s.bE).1]) ((au t s.ah).1.drop (k+1)))∧aK=(⟨205,aW,rz⟩:St)) ?_ ?_
  ·refine aC 3 ?_;refine bS 98 (fun zb Fp=>?_) (fun zb Fp=>?_)
   ·refine bf [0,3,6,9,10,13,70,71,72,102] ?_;refine aq (fun eS fW=>?_) (fun eS fW=>?_)
    ·have hF:(bM t.av s.set)=0∧(fj t.av (rowAt t ((au t s.ah).1[k]'aa)) s.bE).1.k=0:=⟨Fp,by simpa using eS⟩
     have iK:(iF t (bM t.av s.set) s.bE [] (au t s.ah).1)=([],4):=(by rw[zW,jl,iF,if_neg hE,if_pos hF])
     have aT:gK t s=(t,0,4):=(by unfold gK;rw[if_neg hA,if_neg U,if_neg hC,if_neg hD,iK,if_pos w7])
     exact wP
    exact V4
   refine bf [0,3,6,9,10,13,70,71,72,102] ?_;refine fL ?_;exact V4
  rintro _ ⟨nE,rfl⟩;refine dL 2 ?_;refine ee (bZ 0 [_]) [.int .i64 0,.int .i64 0,.string ⟨#[]⟩] [_,_,_] zeroValue30 runUnderlying27 sizeOf30 (fun aoG=>?_);refine fG 0 105 3 1 ?_;refine OD.dZ (ls:=acc) (new:=[(fj t.av (rowAt t ((au t s.ah).1[k]'aa)) s.bE).1]) (Sq:=Sx) fh ER an rfl rfl underlying27 Zj rfl w7 ot dU (sX (A:=[_,_,_]) (S1:=[⟨br,27,cap*1,L.flatMap gR⟩]) (S2:=Sx) (S3:=L.flatMap bR)) ot bq mZ nc (fun Ld Kk agH agI=>?_);refine OD.perm (vT (S2:=[⟨Ld,30,Kk*3,flatMap cV (acc++[(fj t.av (rowAt t ((au t s.ah).1[k]'aa)) s.bE).1])⟩]) (A:=[_,_,_])) ?_;refine aj 205 [0,3,6,9,10,70,71,72] ?_;refine cj [0,3,6,9,10,70,71,72] ?_;refine⟨((k+1),(acc++[(fj t.av (rowAt t ((au t s.ah).1[k]'aa)) s.bE).1]),(some ⟨Ld,0,none⟩),Kk,[⟨Ld,30,Kk*3,flatMap cV (acc++[(fj t.av (rowAt t ((au t s.ah).1[k]'aa)) s.bE).1])⟩]),_,cx,aM,w4,Cf,nE,(bI agH agI),rfl⟩
 have Dz:(iF t (bM t.av s.set) s.bE [] (au t s.ah).1)=(acc,0):=(by rw[zW,drop_of_length_le w4];rfl)
 have hN:¬(iF t (bM t.av s.set) s.bE [] (au t s.ah).1).2≠0:=(by rw[Dz];exact fun h=>h rfl)
 have qw:acc.length=(au t s.ah).1.length:=(by omega)
 have Vp:=Iy g oT zB (c:=(bM t.av s.set)) (by rw[←g.av];exact Classical.not_not.1 U) (au t s.ah).1 [] mi (Classical.not_not.1 hN) (fun v hv=>by cases hv);rw[Dz] at Vp;have hl4:∀i∈(au t s.ah).1,∃h:i.toNat<L.length,L[i.toNat].r.length=4:=fun i hi=>by obtain⟨h0,h1,h2⟩:=mi i hi;have:=(gk.ok g (mi i hi)).1;rw[iZ h1] at this;exact⟨by omega,by rw[FY hL w4 h1];exact this⟩
 have hl5:∀i∈(au t s.ah).1,∃h:i.toNat<L.length,Pc.dW dH L[i.toNat].r=0∧∀v∈L[i.toNat].r,v.Ok:=fun i hi=>by obtain⟨h0,h1,h2⟩:=mi i hi;obtain⟨p1,p2,_⟩:=g.row _ h1 h2;exact⟨by omega,by rw[FY hL w4 h1];exact⟨p1,p2⟩⟩
 refine CD.exit ?_;refine CD.seq ?_;refine CD.seq ?_;refine CD.gP (t:=10) (Sq:=Sx) lk dU (cq fh _) (sX (A:=[_,_])) ?_;refine sN ?_;refine bf [0,6,9,10,109] ?_;refine aq (fun eL gg=>?_) (fun eL gg=>?_)
 ·have hP:0<(bM t.av s.set):=(by simpa using eL)
  refine ae [0,6,9,10,110,111,112] ?_;refine eB [0,6,9,10,110,111] (fun aW _ (E:Nat×List cf) aK=>match E with|(k,M)=>(k≤(au t s.ah).1.length)∧(mD (bM t.av s.set).toNat {t with rows:=M.map cf.r} ((au t s.ah).1.drop k) (acc.drop k)=mD (bM t.av s.set).toNat t (au t s.ah).1 acc)∧(∀o∈M,nG o)∧(sj M ad cap Sr)∧(M.length=t.rows.length)∧(∀i∈(au t s.ah).1,∃h:i.toNat<M.length,M[i.toNat].r.length=4)∧aK=(⟨205,(112,.v (.int .i64 (k:Nat)))::aW,(⟨b3,42,12,cg s⟩::⟨bt,48,pP,pre++([.v (.string t.nm),.list 2 (t.av.flatMap cC) t.av.length,.v (.slice ad t.rows.length cap),.list 5 (t.ix.af.flatMap cP) t.ix.af.length,.v (.int .i64 t.ix.root)]++post)⟩::(Sr++M.flatMap bR))⟩:St)) (fun (E:Nat×List cf)=>match E with|(k,M)=>(au t s.ah).1.length-k) (0,L) ⟨(Nat.zero_le _),(by rw[hL];rfl),aS,kf,rA,hl4,rfl⟩ ?_;rintro⟨k,M⟩ _ ⟨dI,Vq,Z,vH,xp,XE,rfl⟩;refine ae [0,6,9,10,110,111,112,113] ?_;refine aq (fun kY tT=>?_) (fun kY tT=>?_)
  ·have aa:k<(au t s.ah).1.length:=(by omega)
   have dr:k<acc.length:=(by omega)
   have jl:(au t s.ah).1.drop k=((au t s.ah).1[k]'aa)::(au t s.ah).1.drop (k+1):=drop_eq_getElem_cons aa;have lf:acc.drop k=(acc[k]'dr)::acc.drop (k+1):=drop_eq_getElem_cons dr;obtain⟨gp,O,nH⟩:=mi _ (getElem_mem aa);obtain⟨fT,rE⟩:=XE _ (getElem_mem aa);obtain⟨br,rfl,uj,uk,rfl⟩:=vH.pos w4;obtain⟨I,x7,Ch,DA,Np⟩:=(Z _ (getElem_mem fT)).pos w4;have jE:∀o∈(M.set ((au t s.ah).1[k]'aa).toNat (⟨M[((au t s.ah).1[k]'aa).toNat].r.set (bM t.av s.set).toNat (acc[k]'dr),some ⟨I,0,none⟩,M[((au t s.ah).1[k]'aa).toNat].cap,[⟨I,30,M[((au t s.ah).1[k]'aa).toNat].cap*3,(M[((au t s.ah).1[k]'aa).toNat].r.set (bM t.av s.set).toNat (acc[k]'dr)).flatMap cV⟩]⟩:cf)),nG o:=fun o ho=>by rcases mem_or_eq_of_mem_set ho with h|h;exact Z o h;rw[h];exact bI (g:=cV) F9 DA
   have Nq:(M.set ((au t s.ah).1[k]'aa).toNat (⟨M[((au t s.ah).1[k]'aa).toNat].r.set (bM t.av s.set).toNat (acc[k]'dr),some ⟨I,0,none⟩,M[((au t s.ah).1[k]'aa).toNat].cap,[⟨I,30,M[((au t s.ah).1[k]'aa).toNat].cap*3,(M[((au t s.ah).1[k]'aa).toNat].r.set (bM t.av s.set).toNat (acc[k]'dr)).flatMap cV⟩]⟩:cf)).flatMap gR=M.flatMap gR:=Jl M _ fT _ (by show[D.v (.slice _ (M[((au t s.ah).1[k]'aa).toNat].r.set (bM t.av s.set).toNat (acc[k]'dr)).length _)]=[D.v (.slice _ _ _)];rw[length_set,x7]);have Ca:sj (M.set ((au t s.ah).1[k]'aa).toNat (⟨M[((au t s.ah).1[k]'aa).toNat].r.set (bM t.av s.set).toNat (acc[k]'dr),some ⟨I,0,none⟩,M[((au t s.ah).1[k]'aa).toNat].cap,[⟨I,30,M[((au t s.ah).1[k]'aa).toNat].cap*3,(M[((au t s.ah).1[k]'aa).toNat].r.set (bM t.av s.set).toNat (acc[k]'dr)).flatMap cV⟩]⟩:cf)) (some ⟨br,0,none⟩) cap [⟨br,27,cap*1,M.flatMap gR⟩]:=(by rw[←Nq];exact bI (by rw[length_set];exact uj) uk)
   have ajp:∀i∈(au t s.ah).1,∃h:i.toNat<(M.set ((au t s.ah).1[k]'aa).toNat (⟨M[((au t s.ah).1[k]'aa).toNat].r.set (bM t.av s.set).toNat (acc[k]'dr),some ⟨I,0,none⟩,M[((au t s.ah).1[k]'aa).toNat].cap,[⟨I,30,M[((au t s.ah).1[k]'aa).toNat].cap*3,(M[((au t s.ah).1[k]'aa).toNat].r.set (bM t.av s.set).toNat (acc[k]'dr)).flatMap cV⟩]⟩:cf)).length,(M.set ((au t s.ah).1[k]'aa).toNat (⟨M[((au t s.ah).1[k]'aa).toNat].r.set (bM t.av s.set).toNat (acc[k]'dr),some ⟨I,0,none⟩,M[((au t s.ah).1[k]'aa).toNat].cap,[⟨I,30,M[((au t s.ah).1[k]'aa).toNat].cap*3,(M[((au t s.ah).1[k]'aa).toNat].r.set (bM t.av s.set).toNat (acc[k]'dr)).flatMap cV⟩]⟩:cf))[i.toNat].r.length=4:=fun i hi=>by obtain⟨h1,h2⟩:=XE i hi;refine⟨by rw[length_set];exact h1,?_⟩;rw[getElem_set];split;(show(M[((au t s.ah).1[k]'aa).toNat].r.set (bM t.av s.set).toNat (acc[k]'dr)).length=4;rw[length_set];exact rE);exact h2
   have agJ:mD (bM t.av s.set).toNat {t with rows:=(M.set ((au t s.ah).1[k]'aa).toNat (⟨M[((au t s.ah).1[k]'aa).toNat].r.set (bM t.av s.set).toNat (acc[k]'dr),some ⟨I,0,none⟩,M[((au t s.ah).1[k]'aa).toNat].cap,[⟨I,30,M[((au t s.ah).1[k]'aa).toNat].cap*3,(M[((au t s.ah).1[k]'aa).toNat].r.set (bM t.av s.set).toNat (acc[k]'dr)).flatMap cV⟩]⟩:cf)).map cf.r} ((au t s.ah).1.drop (k+1)) (acc.drop (k+1))=mD (bM t.av s.set).toNat t (au t s.ah).1 acc:=(by rw[←Vq,jl,lf,mD];congr 1;exact(SM (x:=t.ix) fT rfl).symm)
   refine CD.perm (Q0 fT Np) ?_;refine ae [0,6,9,10,15,16,110,111,112] ?_;refine l8 12 [0,6,9,10,110,111,112,123,124,128] ?_;refine aQ 3 ?_ (h:=by exact(oh 2));refine aQ 1 ?_ (h:=by exact(c9 1 (h:=by first|exact .l (j:=((au t s.ah).1[k]'aa).toNat) (Int.toNat_of_nonneg gp).symm vo|exact .r (j:=((au t s.ah).1[k]'aa).toNat) (Int.toNat_of_nonneg gp).symm vo)));refine aQ 0 ?_ (h:=by exact(cJ (mk:=Op.load 27) rfl ot (iO (k:=3) (i:=((au t s.ah).1[k]'aa).toNat) (ls:=M) (d:=.v (.slice (some ⟨I,0,none⟩) M[((au t s.ah).1[k]'aa).toNat].r.length M[((au t s.ah).1[k]'aa).toNat].cap)) uQ rfl rfl rfl isAgg27 fT (by rw[←x7];rfl))));refine bH ?_;refine bN (c9 3 (h:=by first|exact .l (j:=(bM t.av s.set).toNat) (Int.toNat_of_nonneg w4).symm (by rw[rE];omega)|exact .r (j:=(bM t.av s.set).toNat) (Int.toNat_of_nonneg w4).symm (by rw[rE];omega))) ?_;refine OD.storeAt (k:=0) (cs':=(M[((au t s.ah).1[k]'aa).toNat].r.set (bM t.av s.set).toNat (acc[k]'dr)).flatMap cV) an rfl rfl ot rfl rfl ot rfl rfl sizeOf30 rfl (by show 0+(bM t.av s.set).toNat*3+3≤(M[((au t s.ah).1[k]'aa).toNat].r.flatMap cV).length;rw[cq fh,rE];omega) (by show da (M[((au t s.ah).1[k]'aa).toNat].r.flatMap cV) (0+(bM t.av s.set).toNat*3) (cV (acc[k]'dr))=_;rw[Nat.zero_add];exact ox fh _ _ (by rw[rE];omega)) ?_;refine aj 205 [0,6,9,10,110,111,112] ?_;refine dL 1 ?_
   refine OD.perm (SL fT (o:=(⟨M[((au t s.ah).1[k]'aa).toNat].r.set (bM t.av s.set).toNat (acc[k]'dr),some ⟨I,0,none⟩,M[((au t s.ah).1[k]'aa).toNat].cap,[⟨I,30,M[((au t s.ah).1[k]'aa).toNat].cap*3,(M[((au t s.ah).1[k]'aa).toNat].r.set (bM t.av s.set).toNat (acc[k]'dr)).flatMap cV⟩]⟩:cf)) rfl) ?_;refine aj 205 [0,6,9,10,110,111,112] ?_;refine⟨((k+1),(M.set ((au t s.ah).1[k]'aa).toNat (⟨M[((au t s.ah).1[k]'aa).toNat].r.set (bM t.av s.set).toNat (acc[k]'dr),some ⟨I,0,none⟩,M[((au t s.ah).1[k]'aa).toNat].cap,[⟨I,30,M[((au t s.ah).1[k]'aa).toNat].cap*3,(M[((au t s.ah).1[k]'aa).toNat].r.set (bM t.av s.set).toNat (acc[k]'dr)).flatMap cV⟩]⟩:cf))),_,cx,aM,w4,agJ,jE,Ca,(by rw[length_set];exact xp),ajp,rfl⟩
  have agK:mD (bM t.av s.set).toNat t (au t s.ah).1 acc={t with rows:=M.map cf.r}:=(by rw[←Vq,drop_of_length_le (l:=(au t s.ah).1) w4,acr])
  have aT:gK t s=({t with rows:=M.map cf.r},((au t s.ah).1.length:Int),0):=(by unfold gK;rw[if_neg hA,if_neg U,if_neg hC,if_neg hD,if_neg hN,if_pos hP,Dz,agK])
  refine ae [4,5] ?_;refine aJ (⟨bt,48,pP,pre++(_++post)⟩::(Sr++M.flatMap bR)) ?_;rw[aT];exact⟨rfl,fun _=>⟨M,ad,cap,Sr,⟨rfl,Z,vH⟩,by simp only[tC,length_map,xp]⟩⟩
 have hP:¬0<(bM t.av s.set):=(by simpa using eL)
 have x8:(bM t.av s.set)=0:=(by omega)
 refine ae [0,9,10,133,134,135] ?_;refine eB [0,9,10,133,134] (fun aW _ (E:Nat×aE) aK=>match E with|(k,x)=>(k≤(au t s.ah).1.length)∧(nS t x ((au t s.ah).1.drop k)=nS t t.ix (au t s.ah).1)∧(iB x n)∧(∀i∈(au t s.ah).1.drop k,(cX (rowAt t i),i)∈en x)∧aK=(⟨205,(135,.v (.int .i64 (k:Nat)))::aW,(⟨b3,42,12,cg s⟩::⟨bt,48,pP,pre++([.v (.string t.nm),.list 2 (t.av.flatMap cC) t.av.length,.v (.slice ad t.rows.length cap),.list 5 (x.af.flatMap cP) x.af.length,.v (.int .i64 x.root)]++post)⟩::(Sr++L.flatMap bR))⟩:St)) (fun (E:Nat×aE)=>match E with|(k,x)=>(au t s.ah).1.length-k) (0,t.ix) ⟨(Nat.zero_le _),rfl,g.ix,(fun i hi=>(mi i hi).iN g),rfl⟩ ?_;rintro⟨k,x⟩ _ ⟨fq,Le,gx,xT,rfl⟩;refine ae [0,9,10,133,134,135,136] ?_;refine aq (fun sQ wY=>?_) (fun sQ wY=>?_)
 ·have aa:k<(au t s.ah).1.length:=(by omega)
  have jl:(au t s.ah).1.drop k=((au t s.ah).1[k]'aa)::(au t s.ah).1.drop (k+1):=drop_eq_getElem_cons aa;have rD:gk t ((au t s.ah).1[k]'aa):=mi _ (getElem_mem aa);obtain⟨gp,O,nH⟩:=id rD;have fT:((au t s.ah).1[k]'aa).toNat<L.length:=(by rw[rA];exact O)
  obtain⟨br,rfl,uj,uk,rfl⟩:=kf.pos w4;have vJ:L[((au t s.ah).1[k]'aa).toNat].r=rowAt t ((au t s.ah).1[k]'aa):=(by rw[iZ O];exact(FY hL fT O))
  obtain⟨XC,Dy⟩:=gk.ok g rD;have Vr:=JK (G:=G) hG L[((au t s.ah).1[k]'aa).toNat].r (by rw[vJ];omega) (by rw[vJ];omega) (by rw[vJ];exact fun v hv=>(Dy v hv).1);rw[show cX L[((au t s.ah).1[k]'aa).toNat].r=cX (rowAt t ((au t s.ah).1[k]'aa)) from by rw[vJ]] at Vr;have iJ:=xT _ (by rw[jl];exact mem_cons_self);have XF:=Is gx ((AF gx.val _).2 ⟨_,iJ⟩);have x6:=QM (G:=G) gx (cX (rowAt t ((au t s.ah).1[k]'aa)));rw[Si gx (v8 (by rw[iZ O];exact(g.row _ O nH).1)) ((AG gx _).2 ⟨_,iJ⟩)] at x6;unfold Tw.cT at x6;have agL:nS t (gA x (dD x) (cX (rowAt t ((au t s.ah).1[k]'aa)))) ((au t s.ah).1.drop (k+1))=nS t t.ix (au t s.ah).1:=(by rw[←Le,jl];rfl)
  have ajq:∀i∈(au t s.ah).1.drop (k+1),(cX (rowAt t i),i)∈en (gA x (dD x) (cX (rowAt t ((au t s.ah).1[k]'aa)))):=fun i hi=>by refine(XF.2 _).2 ⟨xT i (by rw[jl];exact mem_cons_of_mem _ hi),fun e=>?_⟩;have h9:=hnd.sublist (drop_sublist k _);rw[jl,nodup_cons] at h9;have h8:=Ji g.ix ((mi i (mem_of_mem_drop hi)).iN g) (rD.iN g) e;simp only[Prod.mk.injEq] at h8;exact h9.1 (h8.2 ▸ hi)
  refine ae [0,9,10,18,133,134,135] ?_;refine l8 17 [0,9,10,133,134,135,140,154] ?_;refine aQ 4 ?_ (h:=by exact(xk 1));refine aQ 3 ?_ (h:=by exact(oh 1));refine aQ 1 ?_ (h:=by exact(c9 1 (h:=by first|exact .l (j:=((au t s.ah).1[k]'aa).toNat) (Int.toNat_of_nonneg gp).symm O|exact .r (j:=((au t s.ah).1[k]'aa).toNat) (Int.toNat_of_nonneg gp).symm O)));refine aQ 0 ?_ (h:=by exact(cJ (mk:=Op.load 27) rfl ot (iO (k:=2) (i:=((au t s.ah).1[k]'aa).toNat) (ls:=L) uQ rfl rfl rfl isAgg27 fT rfl)));refine zi (Vr) (fun r S h=>h.flat) (fun r S h=>h.view) (ha:=by exact⟨⟨_,ot,(QZ aS fT (fun B U=>by repeat (first|exact U|apply mem_append_right|apply mem_cons_of_mem)))⟩,trivial⟩) (K:=?_);refine cU (x6) ?_;refine bH ?_;refine aD 2 ?_
  refine OD.storeAt (k:=1) (cs':=pre++([.v (.string t.nm),.list 2 (t.av.flatMap cC) t.av.length,.v (.slice (some ⟨br,0,none⟩) t.rows.length cap),.list 5 ((gA x (dD x) (cX (rowAt t ((au t s.ah).1[k]'aa)))).af.flatMap cP) (gA x (dD x) (cX (rowAt t ((au t s.ah).1[k]'aa)))).af.length,.v (.int .i64 (gA x (dD x) (cX (rowAt t ((au t s.ah).1[k]'aa)))).root)]++post)) an rfl rfl ot rfl rfl ot rfl rfl sizeOf46 rfl (by show off+3+2≤(pre++(([.v (.string t.nm),.list 2 (t.av.flatMap cC) t.av.length,.v (.slice (some ⟨br,0,none⟩) t.rows.length cap),.list 5 (x.af.flatMap cP) x.af.length,.v (.int .i64 x.root)]:List D)++post)).length;simp only[length_append,length_cons,length_nil];omega) (by exact A6 (j:=3) hp aO rfl) ?_;refine aj 205 [0,9,10,133,134,135] ?_;refine cj [0,9,10,133,134,135] ?_;refine⟨((k+1),(gA x (dD x) (cX (rowAt t ((au t s.ah).1[k]'aa))))),_,cx,aM,w4,agL,XF.1,ajq,rfl⟩
 have xX:nS t t.ix (au t s.ah).1=x:=(by rw[←Le,drop_of_length_le w4];rfl)
 clear Le xT;skip;refine ae [0,9,10,159,160,161] ?_;refine eB [0,9,10,159,160] (fun aW _ (E:Nat×List cf×aE) aK=>match E with|(k,M,y)=>(k≤(au t s.ah).1.length)∧(j9 {t with rows:=M.map cf.r,ix:=y} ((au t s.ah).1.drop k) (acc.drop k)=j9 {t with ix:=nS t t.ix (au t s.ah).1} (au t s.ah).1 acc)∧(∀o∈M,nG o)∧(sj M ad cap Sr)∧(M.length=t.rows.length)∧(∀i∈(au t s.ah).1,∃h:i.toNat<M.length,Pc.dW dH M[i.toNat].r=0∧∀v∈M[i.toNat].r,v.Ok)∧(iB y (n+k))∧aK=(⟨205,(161,.v (.int .i64 (k:Nat)))::aW,(⟨b3,42,12,cg s⟩::⟨bt,48,pP,pre++([.v (.string t.nm),.list 2 (t.av.flatMap cC) t.av.length,.v (.slice ad t.rows.length cap),.list 5 (y.af.flatMap cP) y.af.length,.v (.int .i64 y.root)]++post)⟩::(Sr++M.flatMap bR))⟩:St)) (fun (E:Nat×List cf×aE)=>match E with|(k,M,y)=>(au t s.ah).1.length-k) (0,L,x) ⟨(Nat.zero_le _),(by rw[hL,xX];rfl),aS,kf,rA,hl5,gx,rfl⟩ ?_;rintro⟨k,M,y⟩ _ ⟨dI,An,Z,vH,xp,XG,gy,rfl⟩;refine ae [0,9,10,159,160,161,162] ?_;refine aq (fun tM rO=>?_) (fun tM rO=>?_)
 ·have aa:k<(au t s.ah).1.length:=(by omega)
  have dr:k<acc.length:=(by omega)
  have jl:(au t s.ah).1.drop k=((au t s.ah).1[k]'aa)::(au t s.ah).1.drop (k+1):=drop_eq_getElem_cons aa;have lf:acc.drop k=(acc[k]'dr)::acc.drop (k+1):=drop_eq_getElem_cons dr;obtain⟨gp,O,nH⟩:=mi _ (getElem_mem aa);obtain⟨fT,XH,hx6⟩:=XG _ (getElem_mem aa);have rE:=pi XH;obtain⟨ajr,Vs,ajs⟩:=Vp _ (getElem_mem dr);have x5:(acc[k]'dr).k≠0∧jC (dH[0]'w7).k (acc[k]'dr):=(by have h1:=ajs x8;refine⟨h1,Vs.1,?_⟩;have h2:=Vs.2;have ajt:bM dH s.set=0:=(by rw[←g.av];exact x8);have XI:=hC;simp only[g.av,ajt] at XI;have h3:(ec dH s.bE).1=(dH[0]'w7).k∨(ec dH s.bE).1=0:=(Classical.em ((ec dH s.bE).1=(dH[0]'w7).k)).imp id fun h=>Classical.not_not.1 fun h'=>XI ⟨h,h'⟩;omega)
  obtain⟨br,rfl,uj,uk,rfl⟩:=vH.pos w4;obtain⟨I,x7,Ch,DA,Np⟩:=(Z _ (getElem_mem fT)).pos w4;have jE:∀o∈(M.set ((au t s.ah).1[k]'aa).toNat (⟨M[((au t s.ah).1[k]'aa).toNat].r.set 0 (acc[k]'dr),some ⟨I,0,none⟩,M[((au t s.ah).1[k]'aa).toNat].cap,[⟨I,30,M[((au t s.ah).1[k]'aa).toNat].cap*3,(M[((au t s.ah).1[k]'aa).toNat].r.set 0 (acc[k]'dr)).flatMap cV⟩]⟩:cf)),nG o:=fun o ho=>by rcases mem_or_eq_of_mem_set ho with h|h;exact Z o h;rw[h];exact bI (g:=cV) F9 DA
  have Nq:(M.set ((au t s.ah).1[k]'aa).toNat (⟨M[((au t s.ah).1[k]'aa).toNat].r.set 0 (acc[k]'dr),some ⟨I,0,none⟩,M[((au t s.ah).1[k]'aa).toNat].cap,[⟨I,30,M[((au t s.ah).1[k]'aa).toNat].cap*3,(M[((au t s.ah).1[k]'aa).toNat].r.set 0 (acc[k]'dr)).flatMap cV⟩]⟩:cf)).flatMap gR=M.flatMap gR:=Jl M _ fT _ (by show[D.v (.slice _ (M[((au t s.ah).1[k]'aa).toNat].r.set 0 (acc[k]'dr)).length _)]=[D.v (.slice _ _ _)];rw[length_set,x7]);have Ca:sj (M.set ((au t s.ah).1[k]'aa).toNat (⟨M[((au t s.ah).1[k]'aa).toNat].r.set 0 (acc[k]'dr),some ⟨I,0,none⟩,M[((au t s.ah).1[k]'aa).toNat].cap,[⟨I,30,M[((au t s.ah).1[k]'aa).toNat].cap*3,(M[((au t s.ah).1[k]'aa).toNat].r.set 0 (acc[k]'dr)).flatMap cV⟩]⟩:cf)) (some ⟨br,0,none⟩) cap [⟨br,27,cap*1,M.flatMap gR⟩]:=(by rw[←Nq];exact bI (by rw[length_set];exact uj) uk)
  have Uh:Pc.dW dH (M[((au t s.ah).1[k]'aa).toNat].r.set 0 (acc[k]'dr))=0:=SK XH w7 x5.2 (fun _=>x5.1);have xj:∀v∈M[((au t s.ah).1[k]'aa).toNat].r.set 0 (acc[k]'dr),v.Ok:=fun v hv=>by rcases mem_or_eq_of_mem_set hv with h|h;exact hx6 v h;rw[h];exact ajr
  have aju:∀i∈(au t s.ah).1,∃h:i.toNat<(M.set ((au t s.ah).1[k]'aa).toNat (⟨M[((au t s.ah).1[k]'aa).toNat].r.set 0 (acc[k]'dr),some ⟨I,0,none⟩,M[((au t s.ah).1[k]'aa).toNat].cap,[⟨I,30,M[((au t s.ah).1[k]'aa).toNat].cap*3,(M[((au t s.ah).1[k]'aa).toNat].r.set 0 (acc[k]'dr)).flatMap cV⟩]⟩:cf)).length,Pc.dW dH (M.set ((au t s.ah).1[k]'aa).toNat (⟨M[((au t s.ah).1[k]'aa).toNat].r.set 0 (acc[k]'dr),some ⟨I,0,none⟩,M[((au t s.ah).1[k]'aa).toNat].cap,[⟨I,30,M[((au t s.ah).1[k]'aa).toNat].cap*3,(M[((au t s.ah).1[k]'aa).toNat].r.set 0 (acc[k]'dr)).flatMap cV⟩]⟩:cf))[i.toNat].r=0∧∀v∈(M.set ((au t s.ah).1[k]'aa).toNat (⟨M[((au t s.ah).1[k]'aa).toNat].r.set 0 (acc[k]'dr),some ⟨I,0,none⟩,M[((au t s.ah).1[k]'aa).toNat].cap,[⟨I,30,M[((au t s.ah).1[k]'aa).toNat].cap*3,(M[((au t s.ah).1[k]'aa).toNat].r.set 0 (acc[k]'dr)).flatMap cV⟩]⟩:cf))[i.toNat].r,v.Ok:=fun i hi=>by obtain⟨h1,h2⟩:=XG i hi;refine⟨by rw[length_set];exact h1,?_⟩;rw[getElem_set];split;exact⟨Uh,xj⟩;exact h2
  have dS:=v8 Uh;have Vt:=JK (G:=G) hG (M[((au t s.ah).1[k]'aa).toNat].r.set 0 (acc[k]'dr)) vn vn xj;have DB:=QL (G:=G) gy (cX (M[((au t s.ah).1[k]'aa).toNat].r.set 0 (acc[k]'dr))) ((au t s.ah).1[k]'aa);unfold Tw.cT at DB
  have Vu:j9 {t with ix:=nS t t.ix (au t s.ah).1} (au t s.ah).1 acc=if gZ y (cX (M[((au t s.ah).1[k]'aa).toNat].r.set 0 (acc[k]'dr))) (dD y)=true then ({t with rows:=M.map cf.r,ix:=y},9) else j9 {t with rows:=(M.set ((au t s.ah).1[k]'aa).toNat (⟨M[((au t s.ah).1[k]'aa).toNat].r.set 0 (acc[k]'dr),some ⟨I,0,none⟩,M[((au t s.ah).1[k]'aa).toNat].cap,[⟨I,30,M[((au t s.ah).1[k]'aa).toNat].cap*3,(M[((au t s.ah).1[k]'aa).toNat].r.set 0 (acc[k]'dr)).flatMap cV⟩]⟩:cf)).map cf.r,ix:=(gz y (dD y) (cX (M[((au t s.ah).1[k]'aa).toNat].r.set 0 (acc[k]'dr))) ((au t s.ah).1[k]'aa))} ((au t s.ah).1.drop (k+1)) (acc.drop (k+1)):=by rw[←An,jl,lf,j9,SM (o:=(⟨M[((au t s.ah).1[k]'aa).toNat].r.set 0 (acc[k]'dr),some ⟨I,0,none⟩,M[((au t s.ah).1[k]'aa).toNat].cap,[⟨I,30,M[((au t s.ah).1[k]'aa).toNat].cap*3,(M[((au t s.ah).1[k]'aa).toNat].r.set 0 (acc[k]'dr)).flatMap cV⟩]⟩:cf)) fT rfl,Pr qZ,show((M.set ((au t s.ah).1[k]'aa).toNat (⟨M[((au t s.ah).1[k]'aa).toNat].r.set 0 (acc[k]'dr),some ⟨I,0,none⟩,M[((au t s.ah).1[k]'aa).toNat].cap,[⟨I,30,M[((au t s.ah).1[k]'aa).toNat].cap*3,(M[((au t s.ah).1[k]'aa).toNat].r.set 0 (acc[k]'dr)).flatMap cV⟩]⟩:cf))[((au t s.ah).1[k]'aa).toNat]'qZ)=(⟨M[((au t s.ah).1[k]'aa).toNat].r.set 0 (acc[k]'dr),some ⟨I,0,none⟩,M[((au t s.ah).1[k]'aa).toNat].cap,[⟨I,30,M[((au t s.ah).1[k]'aa).toNat].cap*3,(M[((au t s.ah).1[k]'aa).toNat].r.set 0 (acc[k]'dr)).flatMap cV⟩]⟩:cf) from getElem_set_self _]
  refine CD.perm (Q0 fT Np) ?_;refine ae [0,9,10,19,20,159,160,161] ?_;refine CD.seq ?_;refine l8 11 [0,9,10,20,159,160,161,172,176] ?_;refine aQ 3 ?_ (h:=by exact(oh 2));refine aQ 1 ?_ (h:=by exact(c9 1 (h:=by first|exact .l (j:=((au t s.ah).1[k]'aa).toNat) (Int.toNat_of_nonneg gp).symm vo|exact .r (j:=((au t s.ah).1[k]'aa).toNat) (Int.toNat_of_nonneg gp).symm vo)));refine aQ 0 ?_ (h:=by exact(cJ (mk:=Op.load 27) rfl ot (iO (k:=3) (i:=((au t s.ah).1[k]'aa).toNat) (ls:=M) (d:=.v (.slice (some ⟨I,0,none⟩) M[((au t s.ah).1[k]'aa).toNat].r.length M[((au t s.ah).1[k]'aa).toNat].cap)) uQ rfl rfl rfl isAgg27 fT (by rw[←x7];rfl))));refine bH ?_;refine bN (pV (mk:=Op.indexAddr 27) rfl ot bJ (by first|exact s8 runUnderlying27 sizeOf30 (j:=0) rfl (by rw[rE];decide)|exact tv runUnderlying27 sizeOf30 (j:=0) rfl (by rw[rE];decide))) ?_;refine OD.storeAt (k:=0) (cs':=(M[((au t s.ah).1[k]'aa).toNat].r.set 0 (acc[k]'dr)).flatMap cV) an rfl rfl ot rfl rfl ot rfl rfl sizeOf30 rfl (by show 0+0*3+3≤(M[((au t s.ah).1[k]'aa).toNat].r.flatMap cV).length;rw[cq fh,rE];omega) (by show da (M[((au t s.ah).1[k]'aa).toNat].r.flatMap cV) (0+0*3) (cV (acc[k]'dr))=_;rw[Nat.zero_add];exact ox fh _ _ (by rw[rE];omega)) ?_;refine aj 205 [0,9,10,20,159,160,161] ?_;refine CD.seq ?_
  rcases iJ:gZ y (cX (M[((au t s.ah).1[k]'aa).toNat].r.set 0 (acc[k]'dr))) (dD y) with _|_
  ·rw[TG gy w4 dS gp iJ] at DB;have gy2:iB (gz y (dD y) (cX (M[((au t s.ah).1[k]'aa).toNat].r.set 0 (acc[k]'dr))) ((au t s.ah).1[k]'aa)) (n+(k+1)):=(Eo gy w4 ((Ep gy).1 iJ) dS gp).1;have ajv:j9 {t with rows:=(M.set ((au t s.ah).1[k]'aa).toNat (⟨M[((au t s.ah).1[k]'aa).toNat].r.set 0 (acc[k]'dr),some ⟨I,0,none⟩,M[((au t s.ah).1[k]'aa).toNat].cap,[⟨I,30,M[((au t s.ah).1[k]'aa).toNat].cap*3,(M[((au t s.ah).1[k]'aa).toNat].r.set 0 (acc[k]'dr)).flatMap cV⟩]⟩:cf)).map cf.r,ix:=(gz y (dD y) (cX (M[((au t s.ah).1[k]'aa).toNat].r.set 0 (acc[k]'dr))) ((au t s.ah).1[k]'aa))} ((au t s.ah).1.drop (k+1)) (acc.drop (k+1))=j9 {t with ix:=nS t t.ix (au t s.ah).1} (au t s.ah).1 acc:=(by rw[Vu,if_neg xw])
   refine uf 18 17 [0,9,10,21,159,160,161,193,194] ?_;refine aQ 3 ?_ (h:=by exact(xk 2));refine aQ 3 ?_ (h:=by exact(oh 2));refine aQ 1 ?_ (h:=by exact(c9 1 (h:=by first|exact .l (j:=((au t s.ah).1[k]'aa).toNat) (Int.toNat_of_nonneg gp).symm vo|exact .r (j:=((au t s.ah).1[k]'aa).toNat) (Int.toNat_of_nonneg gp).symm vo)));refine aQ 0 ?_ (h:=by exact(cJ (mk:=Op.load 27) rfl ot (iO (k:=3) (i:=((au t s.ah).1[k]'aa).toNat) (ls:=M) (d:=.v (.slice (some ⟨I,0,none⟩) (M[((au t s.ah).1[k]'aa).toNat].r.set 0 (acc[k]'dr)).length M[((au t s.ah).1[k]'aa).toNat].cap)) uQ rfl rfl rfl isAgg27 fT (by rw[←x7,length_set];rfl))));refine zi (Vt) (fun r S h=>h.flat) (fun r S h=>h.view) (ha:=by exact⟨⟨_,ot,(lj (bI (g:=cV) F9 DA) (cq fh _) (fun B U=>by rw[mem_singleton] at U;rw[U];exact mem_cons_self))⟩,trivial⟩) (K:=?_);refine cU (DB) ?_;refine ni 3 ?_;refine rj ?_;refine jR ?_;refine⟨rfl,fun CK=>?_⟩;refine aN 0 [_,_] sizeOf46 ?_;refine aj 205 [0,9,10,21,22,159,160,161] ?_;refine ae [0,9,10,21,22,159,160,161,196] ?_;refine aq (fun pu tF=>?_) (fun pu tF=>?_)
   ·exact absurd pu (by simp at pu)
   refine dL 4 ?_;refine OD.storeAt (k:=3) (cs':=pre++([.v (.string t.nm),.list 2 (t.av.flatMap cC) t.av.length,.v (.slice (some ⟨br,0,none⟩) t.rows.length cap),.list 5 ((gz y (dD y) (cX (M[((au t s.ah).1[k]'aa).toNat].r.set 0 (acc[k]'dr))) ((au t s.ah).1[k]'aa)).af.flatMap cP) (gz y (dD y) (cX (M[((au t s.ah).1[k]'aa).toNat].r.set 0 (acc[k]'dr))) ((au t s.ah).1[k]'aa)).af.length,.v (.int .i64 (gz y (dD y) (cX (M[((au t s.ah).1[k]'aa).toNat].r.set 0 (acc[k]'dr))) ((au t s.ah).1[k]'aa)).root)]++post)) an rfl rfl ot rfl rfl ot rfl rfl sizeOf46 rfl (by show off+3+2≤(pre++(([.v (.string t.nm),.list 2 (t.av.flatMap cC) t.av.length,.v (.slice (some ⟨br,0,none⟩) t.rows.length cap),.list 5 (y.af.flatMap cP) y.af.length,.v (.int .i64 y.root)]:List D)++post)).length;simp only[length_append,length_cons,length_nil];omega) (by exact A6 (j:=3) hp aO rfl) ?_;refine aj 205 [0,9,10,159,160,161] ?_;refine dL 1 ?_;refine OD.perm ((SL fT (o:=(⟨M[((au t s.ah).1[k]'aa).toNat].r.set 0 (acc[k]'dr),some ⟨I,0,none⟩,M[((au t s.ah).1[k]'aa).toNat].cap,[⟨I,30,M[((au t s.ah).1[k]'aa).toNat].cap*3,(M[((au t s.ah).1[k]'aa).toNat].r.set 0 (acc[k]'dr)).flatMap cV⟩]⟩:cf)) rfl).cons _) ?_;refine aj 205 [0,9,10,159,160,161] ?_
   refine⟨((k+1),(M.set ((au t s.ah).1[k]'aa).toNat (⟨M[((au t s.ah).1[k]'aa).toNat].r.set 0 (acc[k]'dr),some ⟨I,0,none⟩,M[((au t s.ah).1[k]'aa).toNat].cap,[⟨I,30,M[((au t s.ah).1[k]'aa).toNat].cap*3,(M[((au t s.ah).1[k]'aa).toNat].r.set 0 (acc[k]'dr)).flatMap cV⟩]⟩:cf)),(gz y (dD y) (cX (M[((au t s.ah).1[k]'aa).toNat].r.set 0 (acc[k]'dr))) ((au t s.ah).1[k]'aa))),_,cx,aM,w4,ajv,jE,Ca,(by rw[length_set];exact xp),aju,gy2,rfl⟩
  rw[adN gy dS gp iJ] at DB;have aT:gK t s=(t,0,9):=(by unfold gK;rw[if_neg hA,if_neg U,if_neg hC,if_neg hD,if_neg hN,if_neg hP,Dz,Vu,if_pos iJ];exact if_pos (show(9:Int)≠0 by decide))
  refine uf 18 17 [0,9,10,21,159,160,161,193,194] ?_;refine aQ 3 ?_ (h:=by exact(xk 2));refine aQ 3 ?_ (h:=by exact(oh 2));refine aQ 1 ?_ (h:=by exact(c9 1 (h:=by first|exact .l (j:=((au t s.ah).1[k]'aa).toNat) (Int.toNat_of_nonneg gp).symm vo|exact .r (j:=((au t s.ah).1[k]'aa).toNat) (Int.toNat_of_nonneg gp).symm vo)));refine aQ 0 ?_ (h:=by exact(cJ (mk:=Op.load 27) rfl ot (iO (k:=3) (i:=((au t s.ah).1[k]'aa).toNat) (ls:=M) (d:=.v (.slice (some ⟨I,0,none⟩) (M[((au t s.ah).1[k]'aa).toNat].r.set 0 (acc[k]'dr)).length M[((au t s.ah).1[k]'aa).toNat].cap)) uQ rfl rfl rfl isAgg27 fT (by rw[←x7,length_set];rfl))));refine zi (Vt) (fun r S h=>h.flat) (fun r S h=>h.view) (ha:=by exact⟨⟨_,ot,(lj (bI (g:=cV) F9 DA) (cq fh _) (fun B U=>by rw[mem_singleton] at U;rw[U];exact mem_cons_self))⟩,trivial⟩) (K:=?_);refine cU (DB) ?_;refine ni 3 ?_;refine rj ?_;refine jR ?_;refine⟨rfl,fun CK=>?_⟩;refine aN 0 [_,_] sizeOf46 ?_;refine aj 205 [0,9,10,21,22,159,160,161] ?_;refine ae [0,9,10,21,22,159,160,161,196] ?_;refine aq (fun pu tF=>?_) (fun pu tF=>?_)
  ·exact wP
  exact absurd pu (by simp at pu)
 have agM:j9 {t with ix:=nS t t.ix (au t s.ah).1} (au t s.ah).1 acc=({t with rows:=M.map cf.r,ix:=y},0):=(by rw[←An,drop_of_length_le (l:=(au t s.ah).1) w4,aaK])
 have aT:gK t s=({t with rows:=M.map cf.r,ix:=y},((au t s.ah).1.length:Int),0):=(by unfold gK;rw[if_neg hA,if_neg U,if_neg hC,if_neg hD,if_neg hN,if_neg hP,Dz,agM];exact if_neg (fun h=>h rfl))
 refine ae [4,5] ?_;refine aJ (⟨bt,48,pP,pre++(_++post)⟩::(Sr++M.flatMap bR)) ?_;rw[aT];exact⟨rfl,fun _=>⟨M,ad,cap,Sr,⟨rfl,Z,vH⟩,by simp only[tC,length_map,xp]⟩⟩

open Go.Proofs.YtbcmjoaggammcaaGreatDoor.So
def Bx(p:(List (List Vl)×Int)×Int)(r:D)(S:List ag):Prop:=∃(L:List cf) (ad:Option Addr) (cap:Nat) (Sx:List ag),r = .dz [.agg [.v (.slice ad L.length cap),.v (.int .i64 p.1.2)],.v (.int .i64 p.2)]∧sj L ad cap Sx∧(∀o∈L,nG o)∧L.map cf.r=p.1.1∧S=Sx++L.flatMap bR
theorem Bx.view{r:D}(h:Bx p r S):View S r (Dw p):=by
 obtain⟨L,ad,cap,Sx,rfl,ho,aS,hL,rfl⟩:=h;unfold Dw;rw[←hL,length_map];exact Ef ⟨uD ⟨Ay ho (EM aS fun B E=>mem_append_right _ E) (by rw[cq jZ,length_map]) (fun B E=>mem_append_left _ E),eP,trivial⟩,eP,trivial⟩
theorem afs(l:List Vl):∀d∈l.flatMap cV,kC d=true:=fun d hd=>by
 obtain⟨v,_,hv⟩:=mem_flatMap.1 hd;unfold cV at hv;simp only[mem_cons,not_mem_nil,or_false] at hv;rcases hv with rfl|rfl|rfl<;>rfl
theorem aft(l:List cf):∀d∈l.flatMap gR,kC d=true:=fun d hd=>by
 obtain⟨v,_,hv⟩:=mem_flatMap.1 hd;unfold gR at hv;rw[mem_singleton] at hv;subst hv;rfl
theorem Bx.flat{r:D}(h:Bx p r S):kC r=true∧∀B∈S,∀d∈B.cs,kC d=true:=by
 obtain⟨L,ad,cap,Sx,rfl,ho,aS,hL,rfl⟩:=h;refine⟨rfl,fun B E=>?_⟩;rcases mem_append.1 E with E|E
 ·rcases ho with ⟨_,_,_,_,rfl⟩|⟨b,_,_,_,rfl⟩
  ·cases E
  rw[mem_singleton] at E;subst E;exact aft L
 obtain⟨o,I,E⟩:=mem_flatMap.1 E;have h1:=aS o I;unfold bR at E;rcases h1 with ⟨_,_,_,_,h2⟩|⟨b,_,_,_,h2⟩
 ·rw[h2] at E;cases E
 rw[h2,mem_singleton] at E;subst E;exact afs o.r
theorem afu(g:eO t n)(s:cQ):su t s<4:=by
 unfold su;split
 ·decide
 have:=(JN (l:=t.av) (nm:=s.order)).2;rw[g.av] at this ⊢;exact this
theorem agN(g:eO t n){names:List ByteArray}(h:∀n∈names,0≤bM t.av n):∀c∈vG t names,0≤c∧c.toNat<4:=fun c hc=>by
 have h4:t.av.length=4:=(by rw[g.av];rfl)
 unfold vG at hc;split at hc
 ·obtain⟨i,hi,rfl⟩:=mem_map.1 hc;have:=mem_range.1 hi;constructor
  ·exact Int.natCast_nonneg i
  show i<4;omega
 obtain⟨x,hx,rfl⟩:=mem_map.1 hc;have:=(JN (l:=t.av) (nm:=x)).2;have:=h x hx;omega
theorem agO(f:ag→Nat):(((L++[o]).flatMap bR).map f).sum=((L.flatMap bR).map f).sum+(o.S.map f).sum:=by
 rw[Ss];simp only[bR,map_append,sum_append]
theorem Ps:(Tryz.prog.info? 3).map (fun i=>(i.zero,i.size,i.bytes))=some (some (.int .i64 0),1,8):=by kernel_rfl
theorem Zk:(Tryz.prog.info? 27).map (fun i=>(i.zero,i.size,i.bytes))=some (some (.slice none 0 0),1,24):=by kernel_rfl
theorem Zl:(Tryz.prog.info? 30).map (fun i=>(i.zero,i.size,i.bytes))=some (some (.agg #[.int .i64 0,.int .i64 0,.string ⟨#[]⟩]),3,32):=by kernel_rfl
theorem ad8(hm:(3,marksC)∈G)(hw:(2,wordsC)∈G)(ht:(0,typesC)∈G)(hG:(1,[Value.int .i64 m])∈G)(t:aP)(g:eO t n)(s:cQ)(sF:s.names.length≤1000)(ho:∀o∈s.ah,o.nm.size≤maxLen)(fM:∀o∈s.ah,o.v.Ok):VC Tryz.prog G 50 [.agg (dG t),.agg (cg s)] [] (Bx (qf t s)):=by
 refine VC.body func50 rfl ntmps50 aO fun X0 w0 aZ=>?_;have dy:maxLen=9223372036854775807:=rfl;have An:=JM (G:=G) hm hw ht hG t g s.ah ho fM;have Dx:=EQ g s.ah;have mi:=uR g s.ah;have Nr:=Iv g s.ah;obtain⟨M,hM⟩:∃M,M=au t s.ah:=⟨_,rfl⟩
 rw[←hM] at An Dx mi Nr;obtain⟨sl,em⟩:=M;dsimp only at Dx mi Nr;have mB:=g.eK;have ajo:t.av.length=4:=(by rw[g.av];rfl)
 unfold dG at An;unfold dG cg;refine bX ?_;refine OD.box (ds:=[_,_,_,_,_]) an rfl rfl ot rfl rfl (fun b2=>?_);refine OD.box (ds:=[_,_,_,_,_,_,_,_,_,_,_,_]) an rfl rfl ot rfl rfl (fun b3=>?_);refine OD.alloc (ds:=[_,_]) an rfl rfl zeroValue35 rfl (fun b4=>?_);refine aj 135 [2,3,4] ?_;refine bX ?_;refine bf [2,3,4,6] ?_;refine ae [2,3,4,6,21,22,23] ?_;refine eB [2,3,4,21,22] (fun aW _ (O:Nat×List Int×Option Addr×Nat×List ag) aK=>match O with|(i,acc,Z,nI,Sa)=>(i≤s.names.length)∧(acc=(s.names.take i).map (bM t.av))∧(∀x∈s.names.take i,0≤bM t.av x)∧(bw 3 1 ((acc).flatMap Tw.cI) (acc).length Z nI Sa)∧aK=(⟨135,(6,.v (.slice Z (acc).length nI))::(23,.v (.int .i64 (i:Nat)))::aW,(⟨b4,35,2,[.v (.slice none 0 0),.v (.int .i64 0)]⟩::⟨b3,42,12,cg s⟩::⟨b2,48,5,dG t⟩::Sa)⟩:St)) (fun (O:Nat×List Int×Option Addr×Nat×List ag)=>match O with|(i,acc,Z,nI,Sa)=>s.names.length-i) (0,([]:List Int),none,0,[]) ⟨(Nat.zero_le _),rfl,(fun x h=>by cases h),(bw.cast iw kJ),rfl⟩ ?_;rintro⟨i,acc,Z,nI,Sa⟩ _ ⟨hi,qW,jQ,oe,rfl⟩;refine ae [2,3,4,6,21,22,23,24] ?_;refine aq (fun az aH=>?_) (fun az aH=>?_)
 ·have aa:i<s.names.length:=(by omega)
  have eY:=HO (G:=G) t w4 s.names[i];unfold dG at eY;have qw:acc.length=i:=(by rw[qW,length_map,length_take];omega)
  refine ae [2,3,4,6,8,21,22,23] ?_;refine cL [2,3,4,6,9,21,22,23] (eY) ?_;refine ae [2,3,4,6,9,21,22,23,31] ?_;refine aq (fun aG aV=>?_) (fun aG aV=>?_)
  ·have Cb:bM t.av s.names[i]<0:=(by simpa using aG)
   have aT:qf t s=(([],0),8):=if_pos (any_eq_true.2 ⟨s.names[i],getElem_mem _,decide_eq_true Cb⟩);refine aC 1 ?_;refine aN 0 [_,_] sizeOf35 ?_;exact L9
  have Cb:¬bM t.av s.names[i]<0:=(by simpa using aG)
  have ajw:∀x∈s.names.take (i+1),0≤bM t.av x:=fun x hx=>by rw[take_succ_eq_append_getElem aa] at hx;rcases mem_append.1 hx with hx|hx;exact jQ x hx;rw[mem_singleton] at hx;subst hx;omega
  refine dL 2 ?_;refine ee (bZ 0 [_]) [.int .i64 0] [_] zeroValue3 runUnderlying91 sizeOf3 (fun b35=>?_);refine fG 0 35 1 1 ?_;refine OD.dZ (ls:=(acc)) (new:=[bM t.av s.names[i]]) (Sq:=Sa) Tw.ey Tw.nr an rfl rfl underlying91 Ps rfl w7 ot oe (dx (A:=[_,_,_])) ot bq mZ nc (fun GC Lf ajx ajy=>?_);refine OD.perm (dV (S1:=[⟨GC,3,Lf*1,flatMap Tw.cI ((acc)++[bM t.av s.names[i]])⟩]) (A:=[_,_,_])) ?_;refine aj 135 [2,3,4,6,21,22,23] ?_;refine cj [2,3,4,6,21,22,23] ?_;refine⟨((i+1),(acc++[bM t.av s.names[i]]),(some ⟨GC,0,none⟩),Lf,[⟨GC,3,Lf*1,flatMap Tw.cI ((acc)++[bM t.av s.names[i]])⟩]),_,cx,aM,w4,(by rw[qW,←oU aa,map_append];rfl),ajw,(bw.cast (bI ajx ajy) kJ),rfl⟩
 have vB:s.names.take i=s.names:=take_of_length_le w4;rw[vB] at qW jQ;have FZ:¬(s.names.any fun n=>decide (bM t.av n<0))=true:=fun h=>by obtain⟨x,h1,h2⟩:=any_eq_true.1 h;have:=jQ x h1;have:=of_decide_eq_true h2;omega
 refine CD.exit ?_;refine jJ [2,3,4] (fun aW _ aK=>∃(acc:List Int),∃(Z:Option Addr),∃(nI:Nat),∃(Sa:List ag),(acc=vG t s.names)∧(bw 3 1 (acc.flatMap Tw.cI) acc.length Z nI Sa)∧aK=(⟨135,(6,.v (.slice Z acc.length nI))::aW,(⟨b4,35,2,[.v (.slice none 0 0),.v (.int .i64 0)]⟩::⟨b3,42,12,cg s⟩::⟨b2,48,5,dG t⟩::Sa)⟩:St)) ?_ ?_
 ·refine ae [2,3,4,6,41] ?_;refine aq (fun aY bz=>?_) (fun aY bz=>?_)
  ·have gC:s.names.length=0:=(by simpa using aY)
   have ajz:acc=[]:=(by rw[qW,length_eq_zero_iff.1 gC];rfl)
   refine ae [2,3,4,6,44,45] ?_;refine eB [2,3,4,44] (fun aW _ (O:Nat×List Int×Option Addr×Nat×List ag) aK=>match O with|(j,U,Z,nI,Sa)=>(j≤t.av.length)∧(U=(range j).map Int.ofNat)∧(bw 3 1 ((U).flatMap Tw.cI) (U).length Z nI Sa)∧aK=(⟨135,(6,.v (.slice Z (U).length nI))::(45,.v (.int .i64 (j:Nat)))::aW,(⟨b4,35,2,[.v (.slice none 0 0),.v (.int .i64 0)]⟩::⟨b3,42,12,cg s⟩::⟨b2,48,5,dG t⟩::Sa)⟩:St)) (fun (O:Nat×List Int×Option Addr×Nat×List ag)=>match O with|(j,U,Z,nI,Sa)=>t.av.length-j) (0,acc,Z,nI,Sa) ⟨(Nat.zero_le _),ajz,(bw.cast oe kJ),rfl⟩ ?_;rintro⟨j,U,Z,nI,Sa⟩ _ ⟨hj,Kl,oe,rfl⟩;refine ae [2,3,4,6,44,45,46] ?_;refine aq (fun bC bY=>?_) (fun bC bY=>?_)
   ·have aoH:j<t.av.length:=(by omega)
    have aoI:U.length=j:=(by rw[Kl,length_map,length_range])
    refine ae [2,3,4,6,10,44,45] ?_;refine dL 2 ?_;refine ee (bZ 0 [_]) [.int .i64 0] [_] zeroValue3 runUnderlying91 sizeOf3 (fun Aj=>?_);refine fG 0 50 1 1 ?_;refine OD.dZ (ls:=(U)) (new:=[(j:Int)]) (Sq:=Sa) Tw.ey Tw.nr an rfl rfl underlying91 Ps rfl w7 ot oe (dx (A:=[_,_,_])) ot bq mZ nc (fun x9 Lg Lh Li=>?_);refine OD.perm (dV (S1:=[⟨x9,3,Lg*1,flatMap Tw.cI ((U)++[(j:Int)])⟩]) (A:=[_,_,_])) ?_;refine aj 135 [2,3,4,6,44,45] ?_;refine cj [2,3,4,6,44,45] ?_;refine⟨((j+1),(U++[(j:Int)]),(some ⟨x9,0,none⟩),Lg,[⟨x9,3,Lg*1,flatMap Tw.cI ((U)++[(j:Int)])⟩]),_,cx,aM,w4,(by rw[Kl,range_succ,map_append];rfl),(bw.cast (bI Lh Li) kJ),rfl⟩
   have hjf:U=vG t s.names:=(by unfold vG;rw[if_pos gC,Kl,show j=t.av.length by omega])
   refine CD.exit ?_;refine⟨_,aM,(U),Z,nI,Sa,hjf,oe,rfl⟩
  have gC:¬s.names.length=0:=(by simpa using aY)
  refine CD.skip ?_;refine⟨_,aM,(acc),Z,nI,Sa,(by unfold vG;rw[if_neg gC];exact qW),oe,rfl⟩
 rintro _ ⟨acc,Z,nI,Sa,uu,oe,rfl⟩;refine CD.seq ?_;refine CD.gP (t:=6) (Sq:=Sa) lk oe (cq Tw.ey _) (dx (A:=[_,_,_])) ?_;refine sN ?_;refine OD.alloc (ds:=[_]) an rfl rfl zeroValue3 rfl (fun kK=>?_);refine aN 0 [_] sizeOf3 ?_;refine aj 135 [2,3,4,6,11] ?_;refine jJ [2,3,4,6,11] (fun aW _ aK=>∃(ov:Int),(0≤ov)∧(ov=su t s)∧aK=(⟨135,aW,[⟨kK,3,1,[.v (.int .i64 ov)]⟩,⟨b4,35,2,[.v (.slice none 0 0),.v (.int .i64 0)]⟩,⟨b3,42,12,cg s⟩,⟨b2,48,5,dG t⟩]⟩:St)) ?_ ?_
 ·refine ae [2,3,4,6,11,55] ?_;refine aq (fun cy de=>?_) (fun cy de=>?_)
  ·have Ao:¬(s.order.toList==(⟨#[]⟩:ByteArray).toList)=true:=(by rw[de];decide)
   have Vv:=HO (G:=G) t w4 s.order;unfold dG at Vv;have DC:su t s=bM t.av s.order:=if_neg Ao;refine aC 3 ?_;refine dR call86 (Vv) ?_;refine aN 0 [_] sizeOf3 ?_;refine aj 135 [2,3,4,6,11] ?_;refine ae [2,3,4,6,11,61] ?_;refine aq (fun dO eo=>?_) (fun dO eo=>?_)
   ·have Cb:su t s<0:=(by rw[DC];simpa using dO)
    have aT:qf t s=(([],0),8):=(by unfold qf;rw[if_neg FZ,if_pos Cb])
    refine aC 1 ?_;refine aN 1 [_,_] sizeOf35 ?_;exact L9
   have Cb:¬su t s<0:=(by rw[DC];simpa using dO)
   refine CD.skip ?_;refine⟨_,aM,(bM t.av s.order),w4,DC.symm,rfl⟩
  have Ao:(s.order.toList==(⟨#[]⟩:ByteArray).toList)=true:=de;have DC:su t s=0:=if_pos Ao;refine CD.skip ?_;refine⟨_,aM,0,(Int.le_refl 0),DC.symm,rfl⟩
 rintro _ ⟨ov,ajA,mG,rfl⟩;refine aC 3 ?_;refine OD.call an rfl rfl rfl call87 An ⟨ot,ot,trivial⟩ (eN _) ?_;rintro _ Sx ⟨dK,cY,rfl,dU⟩;refine OD.perm (dV (A:=[_,_,_,_])) ?_;refine aj 135 [2,3,4,6,11,12,13] ?_;refine ae [2,3,4,6,11,12,13,71] ?_;refine aq (fun eS fW=>?_) (fun eS fW=>?_)
 ·have GW:em≠0:=(by simpa using eS)
  have aT:qf t s=(([],0),em):=(by unfold qf;rw[if_neg FZ,if_neg w4,←hM];exact if_pos GW)
  refine aC 2 ?_;refine aN 1 [_,_] sizeOf35 ?_;exact L9
 have GW:¬em≠0:=(by simpa using eS)
 refine CD.skip ?_;refine jJ [2,3,4,6] (fun aW _ aK=>∃(on:Nat),∃(lz:List Int),((on:Int)=su t s)∧(lz=Kj t s.down on sl)∧(lz.length=sl.length)∧(∀x∈lz,gk t x)∧aK=(⟨135,(12,.list 1 (lz.flatMap Tw.cI) lz.length)::aW,[⟨kK,3,1,[.v (.int .i64 (on:Nat))]⟩,⟨b4,35,2,[.v (.slice none 0 0),.v (.int .i64 0)]⟩,⟨b3,42,12,cg s⟩,⟨b2,48,5,dG t⟩]⟩:St)) ?_ ?_
 ·obtain⟨on,rfl⟩:=Int.eq_ofNat_of_zero_le ajA;have jy:on<4:=(by have:=afu g s;omega)
  rcases dU with ⟨hn,dw,rfl,rfl,rfl⟩|⟨bx,rfl,pQ,nH,rfl⟩
  ·obtain rfl:=length_eq_zero_iff.1 hn;refine dL 1 ?_;refine bN (oW (ds:=[_,_,_]) rfl ⟨ot,ot,ot,trivial⟩) ?_;refine dR call88 (acp _) ?_;refine OD.wk (Wk.tg (t:=12) (sz:=1) lk) ?_;refine aj 135 [2,3,4,6,12] ?_;refine⟨_,aM,on,[],mG,(SI ⟨Perm.refl _,Pairwise.nil⟩),rfl,(fun x h=>by cases h),rfl⟩
  refine dL 1 ?_;refine bN (oW (ds:=[_,_,_]) rfl ⟨ot,ot,ot,trivial⟩) ?_;refine OD.call (Sf:=⟨bx,3,cY*1,sl.flatMap Tw.cI⟩::[⟨b2,48,5,dG t⟩,⟨kK,3,1,[.v (.int .i64 (on:Nat))]⟩,⟨b3,42,12,cg s⟩]) (R:=[⟨b4,35,2,[.v (.slice none 0 0),.v (.int .i64 0)]⟩]) an rfl rfl rfl call88 (adW sl.length cY bx 89 [.v (.pointer (some ⟨b2,0,none⟩)),.v (.pointer (some ⟨kK,0,none⟩)),.v (.pointer (some ⟨b3,0,none⟩))] [⟨b2,48,5,dG t⟩,⟨kK,3,1,[.v (.int .i64 (on:Nat))]⟩,⟨b3,42,12,cg s⟩] (lE t s.down on) (gk t) (GU t) (fun x y hx hy=>adZ t g s on jy b2 kK b3 x y hx hy) call89 (fun h1 h2=>afp t s.down on h1 h2) (fun x y h=>by have:=Po t s.down on x y;omega) pQ nH Dx sl Nr rfl mi) ⟨ot,ot,trivial⟩ (show([⟨kK,3,1,[.v (.int .i64 (on:Nat))]⟩,⟨b4,35,2,[.v (.slice none 0 0),.v (.int .i64 0)]⟩,⟨b3,42,12,cg s⟩,⟨b2,48,5,dG t⟩]++[⟨bx,3,cY*1,sl.flatMap Tw.cI⟩]:List ag).Perm ((⟨bx,3,cY*1,sl.flatMap Tw.cI⟩::[⟨b2,48,5,dG t⟩,⟨kK,3,1,[.v (.int .i64 (on:Nat))]⟩,⟨b3,42,12,cg s⟩])++[⟨b4,35,2,[.v (.slice none 0 0),.v (.int .i64 0)]⟩]) from(iv fun iU=>by simp only[map_append,map_cons,map_nil,sum_append,sum_cons,sum_nil];omega)) ?_;rintro _ _ ⟨rfl,lz,xU,rfl⟩;have lP:=xU.1.length_eq
  refine OD.perm (S':=⟨kK,3,1,[.v (.int .i64 (on:Nat))]⟩::⟨b4,35,2,[.v (.slice none 0 0),.v (.int .i64 0)]⟩::⟨b3,42,12,cg s⟩::⟨b2,48,5,dG t⟩::[⟨bx,3,cY*1,lz.flatMap Tw.cI⟩]) (show((⟨bx,3,cY*1,lz.flatMap Tw.cI⟩::[⟨b2,48,5,dG t⟩,⟨kK,3,1,[.v (.int .i64 (on:Nat))]⟩,⟨b3,42,12,cg s⟩])++[⟨b4,35,2,[.v (.slice none 0 0),.v (.int .i64 0)]⟩]:List ag).Perm _ from(iv fun iU=>by simp only[map_append,map_cons,map_nil,sum_append,sum_cons,sum_nil];omega)) ?_;rw[←lP];refine OD.gP (t:=12) (Sq:=[⟨bx,3,cY*1,lz.flatMap Tw.cI⟩]) lk (bI (by rw[lP];exact pQ) nH) (cq Tw.ey _) (dx (A:=[_,_,_,_])) ?_;refine aj 135 [2,3,4,6,12] ?_;refine⟨_,aM,on,lz,mG,(SI xU),(by first|exact lP|rfl),(fun x hx=>mi x (xU.1.subset hx)),rfl⟩
 rintro _ ⟨on,lz,mG,Ur,lP,Us,rfl⟩;refine jJ [2,3,4,6] (fun aW rz aK=>∃(E:List Int),(E=wi t s)∧(∀x∈E,gk t x)∧(E.length≤40)∧aK=(⟨135,(12,.list 1 (E.flatMap Tw.cI) E.length)::aW,rz⟩:St)) ?_ ?_
 ·refine aC 4 ?_;refine bS 80 (fun Kr E8=>?_) (fun Kr E8=>?_)
  ·refine bf [2,3,4,6,12,86] ?_;refine aq (fun eL gg=>?_) (fun eL gg=>?_)
   ·have mF:0≤s.gN∧s.gN<lz.length:=⟨E8,gg⟩
    refine gW [2,3,4,6,12] ?_;refine aQ 3 ?_ (h:=by exact(ei (l:=0) (h:=s.gN.toNat) rfl ot trivial ⟨_,by rw[Int.toNat_of_nonneg mF.1];exact ot⟩ (by exact ow Tw.ey (fun h=>by cases h) runUnderlying91 sizeOf3 w4)));refine bH ?_;refine⟨_,aM,(lz.take s.gN.toNat),(by unfold wi u7;rw[←mG,Int.toNat_natCast,←hM,←Ur,if_pos mF]),(fun x hx=>Us x (mem_of_mem_take hx)),oH,rfl⟩
   exact We
  refine bf [2,3,4,6,12,86] ?_;refine fL ?_;exact We
 rintro _ ⟨E,Vw,xQ,aoJ,rfl⟩;refine aC 3 ?_;refine OD.alloc (ds:=[_,_]) an rfl rfl zeroValue35 rfl (fun zY=>?_);refine aN 0 [_,_] sizeOf35 ?_;refine aj 135 [2,3,4,6,12,14] ?_;refine ae [2,4,6,12,14,95] ?_;refine aq (fun kY tT=>?_) (fun kY tT=>?_)
 ·have BS:s.count=true:=kY;have aT:qf t s=(([[⟨2,((E.length:Nat):Int),⟨#[]⟩⟩]],((E.length:Nat):Int)),0):=(by unfold qf;rw[if_neg FZ,if_neg w4,←hM,if_neg GW,if_pos BS,←Vw])
  refine aC 3 ?_;refine ee (bZ 0 [_]) [.int .i64 0,.int .i64 0,.string ⟨#[]⟩] [_,_,_] zeroValue30 runUnderlying27 sizeOf30 (fun Ns=>?_);refine ee (bZ 0 [_]) [.slice none 0 0] [_] zeroValue27 runUnderlying33 sizeOf27 (fun Vx=>?_);refine aD 1 ?_;refine aN 2 [_,_] sizeOf33 ?_;refine aj 135 [4,14] ?_;refine aC 1 ?_;refine aN 4 [_,_] sizeOf35 ?_;refine aj 135 [4,5] ?_;refine aJ [_,_] ?_;rw[aT];exact⟨[⟨[⟨2,(E.length:Nat),⟨#[]⟩⟩],some ⟨Ns,0,none⟩,1,[⟨Ns,30,1*3,[⟨2,(E.length:Nat),⟨#[]⟩⟩].flatMap cV⟩]⟩],some ⟨Vx,0,none⟩,1,[_],rfl,.inr ⟨Vx,rfl,Nat.le_refl _,(show 1≤maxLen by decide),rfl⟩,(fun o ho=>by rw[mem_singleton] at ho;subst ho;exact .inr ⟨Ns,rfl,Nat.le_refl _,(show 1≤maxLen by decide),rfl⟩),rfl,rfl⟩
 have BS:¬s.count=true:=(by rw[kY];decide)
 have aT:qf t s=((E.map (zA t acc),((E.length:Nat):Int)),0):=(by unfold qf;rw[if_neg FZ,if_neg w4,←hM,if_neg GW,if_neg BS,←Vw,←uu])
 have Vy:=agN g jQ;rw[←uu] at Vy;have aoK:acc.length≤1000:=(by rw[uu];unfold vG;split;(rw[length_map,length_range];omega);(rw[length_map];omega))
 refine ae [2,4,6,14,103,104,105] ?_;refine eB [2,4,6,14,103,104] (fun aW _ (O:Nat×List cf×Option Addr×Nat×List ag) aK=>match O with|(i,L,dK,cY,Sx)=>(i≤E.length)∧(L.map cf.r=(E.take i).map (zA t acc))∧(∀o∈L,nG o)∧(sj L dK cY Sx)∧aK=(⟨135,(105,.v (.int .i64 (i:Nat)))::aW,(⟨zY,35,2,[.v (.slice dK L.length cY),.v (.int .i64 (E.length:Nat))]⟩::⟨kK,3,1,[.v (.int .i64 (on:Nat))]⟩::⟨b4,35,2,[.v (.slice none 0 0),.v (.int .i64 0)]⟩::⟨b3,42,12,cg s⟩::⟨b2,48,5,dG t⟩::(Sx++L.flatMap bR))⟩:St)) (fun (O:Nat×List cf×Option Addr×Nat×List ag)=>match O with|(i,L,dK,cY,Sx)=>E.length-i) (0,([]:List cf),none,0,[]) ⟨(Nat.zero_le _),rfl,(fun o h=>by cases h),iw,rfl⟩ ?_;rintro⟨i,L,dK,cY,Sx⟩ _ ⟨hi,hL,aS,dU,rfl⟩;refine ae [2,4,6,14,103,104,105,106] ?_;refine aq (fun sQ wY=>?_) (fun sQ wY=>?_)
 ·have aa:i<E.length:=(by omega)
  obtain⟨gp,pQ,nH⟩:=xQ _ (getElem_mem aa);have rE:=pi (g.row _ pQ nH).1;have rA:L.length=i:=(by have:=congrArg length hL;rw[length_map,length_map,length_take] at this;omega)
  refine ae [2,4,6,14,16,103,104,105] ?_;refine bX ?_;refine bf [2,4,6,14,16,17,103,104,105] ?_;refine ae [2,4,6,14,16,17,103,104,105,109,110,111] ?_;refine eB [2,4,6,14,16,103,104,105,109,110] (fun aW _ (O:Nat×List Vl×Option Addr×Nat×List ag) aK=>match O with|(j,I,ij,ik,Sy)=>(j≤acc.length)∧(I=(acc.take j).map fun c=>(rowAt t (E[i]'aa)).getD c.toNat bQ)∧(bw 30 3 (I.flatMap cV) I.length ij ik Sy)∧aK=(⟨135,(17,.v (.slice ij I.length ik))::(111,.v (.int .i64 (j:Nat)))::aW,(⟨zY,35,2,[.v (.slice dK L.length cY),.v (.int .i64 (E.length:Nat))]⟩::⟨kK,3,1,[.v (.int .i64 (on:Nat))]⟩::⟨b4,35,2,[.v (.slice none 0 0),.v (.int .i64 0)]⟩::⟨b3,42,12,cg s⟩::⟨b2,48,5,dG t⟩::(Sy++(Sx++L.flatMap bR)))⟩:St)) (fun (O:Nat×List Vl×Option Addr×Nat×List ag)=>match O with|(j,I,ij,ik,Sy)=>acc.length-j) (0,([]:List Vl),none,0,[]) ⟨(Nat.zero_le _),rfl,iw,rfl⟩ ?_;rintro⟨j,I,ij,ik,Sy⟩ _ ⟨hj,Km,Ds,rfl⟩;refine ae [2,4,6,14,16,17,103,104,105,109,110,111,112] ?_;refine aq (fun tM rO=>?_) (fun tM rO=>?_)
  ·have lM:j<acc.length:=(by omega)
   obtain⟨Vz,aoL⟩:=Vy _ (getElem_mem lM);have Nt:(acc[j]'lM).toNat<(t.rows[(E[i]'aa).toNat]'pQ).length:=(by omega)
   have agP:(rowAt t (E[i]'aa)).getD (acc[j]'lM).toNat bQ=(t.rows[(E[i]'aa).toNat]'pQ)[(acc[j]'lM).toNat]:=(by rw[iZ pQ,getD_eq_getElem?_getD,getElem?_eq_getElem Nt];rfl)
   have aoM:I.length=j:=(by rw[Km,length_map,length_take];omega)
   refine ae [2,4,6,14,16,17,19,103,104,105,109,110,111] ?_;refine dL 4 ?_;refine bN (c9 1 (h:=by first|exact .l (j:=(E[i]'aa).toNat) (Int.toNat_of_nonneg gp).symm pQ|exact .r (j:=(E[i]'aa).toNat) (Int.toNat_of_nonneg gp).symm pQ)) ?_;refine aD 2 ?_;refine bN (c9 3 (h:=by first|exact .l (j:=(acc[j]'lM).toNat) (Int.toNat_of_nonneg Vz).symm Nt|exact .r (j:=(acc[j]'lM).toNat) (Int.toNat_of_nonneg Vz).symm Nt)) ?_;refine aD 1 ?_;refine ee (bZ 0 [_]) [.int .i64 0,.int .i64 0,.string ⟨#[]⟩] [_,_,_] zeroValue30 runUnderlying27 sizeOf30 (fun aoN=>?_);refine fG 0 124 3 1 ?_;refine OD.dZ (ls:=I) (new:=[(t.rows[(E[i]'aa).toNat]'pQ)[(acc[j]'lM).toNat]]) (Sq:=Sy) fh ER an rfl rfl underlying27 Zl rfl w7 ot Ds (H8 (A:=[_,_,_,_,_])) ot bq mZ nc (fun Lj Kn agR agS=>?_);refine OD.perm (PR (S1:=[⟨Lj,30,Kn*3,flatMap cV (I++[(t.rows[(E[i]'aa).toNat]'pQ)[(acc[j]'lM).toNat]])⟩]) (A:=[_,_,_,_,_])) ?_;refine aj 135 [2,4,6,14,16,17,103,104,105,109,110,111] ?_;refine cj [2,4,6,14,16,17,103,104,105,109,110,111] ?_;refine⟨((j+1),(I++[(t.rows[(E[i]'aa).toNat]'pQ)[(acc[j]'lM).toNat]]),(some ⟨Lj,0,none⟩),Kn,[⟨Lj,30,Kn*3,flatMap cV (I++[(t.rows[(E[i]'aa).toNat]'pQ)[(acc[j]'lM).toNat]])⟩]),_,cx,aM,w4,(by rw[Km,←agP,←oU lM,map_append];rfl),(bI agR agS),rfl⟩
  have vu:(L++[(⟨I,ij,ik,Sy⟩:cf)]).map cf.r=(E.take (i+1)).map (zA t acc):=(by rw[map_append,hL,←oU aa,map_append];congr 1;show[I]=[zA t acc (E[i]'aa)];rw[Km,take_of_length_le w4];rfl)
  have jE:∀o∈L++[(⟨I,ij,ik,Sy⟩:cf)],nG o:=fun o ho=>by rcases mem_append.1 ho with ho|ho;exact aS o ho;rw[mem_singleton] at ho;subst ho;exact Ds
  refine dL 3 ?_;refine ee (bZ 0 [_]) [.slice none 0 0] [_] zeroValue27 runUnderlying33 sizeOf27 (fun aoO=>?_);refine fG 0 130 1 1 ?_;refine OD.dZ (ls:=L) (new:=[(⟨I,ij,ik,Sy⟩:cf)]) (Sq:=Sx) uQ TI an rfl rfl underlying33 Zk rfl w7 ot dU (sX (A:=[_,_,_,_,_])) ot bq mZ nc (fun F0 Fu agT agU=>?_);refine OD.perm (vT (S2:=[⟨F0,27,Fu*1,flatMap gR (L++[(⟨I,ij,ik,Sy⟩:cf)])⟩]) (A:=[_,_,_,_,_])) ?_;refine OD.perm (S':=⟨zY,35,2,[.v (.slice dK L.length cY),.v (.int .i64 (E.length:Nat))]⟩::⟨kK,3,1,[.v (.int .i64 (on:Nat))]⟩::⟨b4,35,2,[.v (.slice none 0 0),.v (.int .i64 0)]⟩::⟨b3,42,12,cg s⟩::⟨b2,48,5,dG t⟩::([⟨F0,27,Fu*1,flatMap gR (L++[(⟨I,ij,ik,Sy⟩:cf)])⟩]++(L++[(⟨I,ij,ik,Sy⟩:cf)]).flatMap bR)) (iv fun iU=>by simp only[map_append,map_cons,map_nil,sum_append,sum_cons,sum_nil,agO];omega) ?_;refine aD 1 ?_;refine aN 0 [_,_] sizeOf33 ?_;refine aj 135 [2,4,6,14,103,104,105] ?_;refine cj [2,4,6,14,103,104,105] ?_;refine⟨((i+1),(L++[(⟨I,ij,ik,Sy⟩:cf)]),(some ⟨F0,0,none⟩),Fu,[⟨F0,27,Fu*1,flatMap gR (L++[(⟨I,ij,ik,Sy⟩:cf)])⟩]),_,cx,aM,w4,vu,jE,(bI agT agU),rfl⟩
 have uy:L.map cf.r=E.map (zA t acc):=(by rw[hL,take_of_length_le w4])
 refine aC 1 ?_;refine aN 2 [_,_] sizeOf35 ?_;refine aj 135 [4,5] ?_;refine aJ (Sx++L.flatMap bR) ?_;rw[aT];exact⟨L,dK,cY,Sx,rfl,dU,aS,uy,rfl⟩

abbrev gQ(bo:Nat)(ad:Option Addr)(n cap:Nat):ag:=⟨bo,25,1,[.v (.slice ad n cap)]⟩
def gJ(s:cQ):aP:=⟨s.table,s.av,[],pC⟩
def xm(s:cQ):aU:=⟨gJ s,[],none,0,[],[]⟩
theorem ad9(s:cQ):qA (xm s):=⟨[],rfl,rfl,(fun o h=>by cases h),rfl,iw⟩
def pR(l:List aP)(s:cQ):List aP×Int:=if 0≤aR l s.table then (l,9) else if l.length=4 then (l,10) else (l++[gJ s],0)
def Ko(l:List aP)(bo:Nat)(S:List ag):Prop:=∃(L:List aU) (ad:Option Addr) (cap:Nat) (Sx:List ag),zz L ad cap Sx∧(∀o∈L,okW o)∧L.map aU.t=l∧S.Perm (gQ bo ad L.length cap::(Sx++L.flatMap bT))
theorem Zm:(Tryz.prog.info? 48).map (fun i=>(i.zero,i.size,i.bytes))=some (some (.agg #[.string ⟨#[]⟩,.slice none 0 0,.slice none 0 0,.slice none 0 0,.int .i64 0]),5,96):=by kernel_rfl
theorem aaM(L:List aU)(aS:∀o∈L,qA o)(hL:L.length≤4)(s:cQ)(kP:s.av.length≤1000)(bo:Nat)(ad:Option Addr)(cap:Nat)(Sx:List ag)(O:zz L ad cap Sx):VC Tryz.prog G 47 [.v (.pointer (some ⟨bo,0,none⟩)),.agg (cg s)] (gQ bo ad L.length cap::(Sx++L.flatMap bT)) (fun r S=>r = .v (.int .i64 (pR (L.map aU.t) s).2)∧((pR (L.map aU.t) s).2=0→Ko (pR (L.map aU.t) s).1 bo S)):=by
 refine VC.body func47 rfl ntmps47 aO fun X0 w0 aZ=>?_;have dy:maxLen=9223372036854775807:=rfl;have U:=fun o ho=>(aS o ho).w;have fI:=pY (G:=G) (L.map aU.t) Fw s.table;rw[length_map] at fI;unfold cg;refine bX ?_;refine OD.box (ds:=[_,_,_,_,_,_,_,_,_,_,_,_]) an rfl rfl ot rfl rfl (fun b3=>?_);refine aj 37 [0,3] ?_;refine cN [0,3,5] ?_;refine ni 6 ?_;refine zj (fI) (ha:=by exact⟨⟨_,ot,(E3 O U (fun B hB=>by repeat (first|exact hB|apply mem_append_right|apply mem_cons_of_mem)))⟩,⟨_,ot,eP⟩,trivial⟩) (K:=?_);refine bH ?_;refine aq (fun az aH=>?_) (fun az aH=>?_)
 ·have h0:0≤aR (L.map aU.t) s.table:=(by simpa using az)
  have aT:pR (L.map aU.t) s=(L.map aU.t,9):=if_pos h0;refine ae [4] ?_;exact Gi
 have h0:¬0≤aR (L.map aU.t) s.table:=(by simpa using az)
 refine ae [0,3,14] ?_;refine aq (fun aG aV=>?_) (fun aG aV=>?_)
 ·have h4:L.length=4:=(by have:=aG;simp at this;omega)
  have aT:pR (L.map aU.t) s=(L.map aU.t,10):=(by unfold pR;rw[if_neg h0,if_pos (by rw[length_map];exact h4)])
  refine ae [4] ?_;exact Gi
 have h4:¬L.length=4:=(by have:=aG;simp at this;omega)
 have aT:pR (L.map aU.t) s=(L.map aU.t++[gJ s],0):=(by unfold pR;rw[if_neg h0,if_neg (by rw[length_map];exact h4)])
 have nf:=ae9 (G:=G);refine CD.skip ?_;refine CD.seq ?_;refine l8 13 [21,25,33] ?_;refine cU (Pe s.av w4) ?_;refine cU (nf) ?_;refine bH ?_;refine OD.dZ (ls:=L) (new:=[xm s]) (Sq:=Sx) uJ TJ an rfl rfl underlying23 Zm rfl w7 ot O (ou (A:=[_,_])) ot bq mZ nc (fun I E Z ajB=>?_);refine OD.perm (iY (S1:=[⟨I,48,E*5,flatMap gT (L++[xm s])⟩]) (A:=[_,_])) ?_;refine aD 2 ?_;refine aN 1 [_] sizeOf23 ?_;refine aj 37 [] ?_;refine ae [4] ?_;refine aJ (⟨bo,25,1,[_]⟩::([⟨I,48,E*5,flatMap gT (L++[xm s])⟩]++L.flatMap bT)) ?_;rw[aT];exact⟨rfl,fun _=>⟨L++[xm s],some ⟨I,0,none⟩,E,[⟨I,48,E*5,flatMap gT (L++[xm s])⟩],bI Z ajB,(fun o ho=>by rcases mem_append.1 ho with ho|ho;exact U o ho;rw[mem_singleton] at ho;subst ho;exact(ad9 s).w),by rw[map_append];rfl,by rw[Su,show bT (xm s)=[] from rfl,append_nil]⟩⟩

noncomputable def er(l:List aP)(s:cQ):List aP×((List (List Vl)×Int)×Int) :=
 if s.kind=1 then ((pR l s).1,(([],0),(pR l s).2))
 else if aR l s.table<0 then (l,(([],0),8))
 else if s.kind=3 then (l.set (aR l s.table).toNat (gm (l.getD (aR l s.table).toNat (gJ s)) s.row).1,(([],1),(gm (l.getD (aR l s.table).toNat (gJ s)) s.row).2))
 else if s.kind=4 then (l,qf (l.getD (aR l s.table).toNat (gJ s)) s)
 else if s.kind=5 then (l.set (aR l s.table).toNat (gK (l.getD (aR l s.table).toNat (gJ s)) s).1,(([],(gK (l.getD (aR l s.table).toNat (gJ s)) s).2.1),(gK (l.getD (aR l s.table).toNat (gJ s)) s).2.2))
 else (l.set (aR l s.table).toNat (mr (l.getD (aR l s.table).toNat (gJ s)) s.ah).1,(([],(mr (l.getD (aR l s.table).toNat (gJ s)) s.ah).2.1),(mr (l.getD (aR l s.table).toNat (gJ s)) s.ah).2.2))
theorem Og:∀(c:List D) {S:List ag},gv S c c
 | [],_=>trivial
 | _::c,_=>⟨eP,Og c⟩
theorem acs(L:List aU)(h:i<L.length):L.flatMap gT=(L.take i).flatMap gT++(gT L[i]++(L.drop (i+1)).flatMap gT):=by
 conv=>lhs;rw[←take_append_drop i L,drop_eq_getElem_cons h]
 rw[flatMap_append,flatMap_cons]
theorem afv(L:List aU)(h:i<L.length)(o:aU):(L.set i o).flatMap gT=(L.take i).flatMap gT++(gT o++(L.drop (i+1)).flatMap gT):=by
 rw[set_eq_take_append_cons_drop,if_pos h,flatMap_append,flatMap_cons]
theorem JO(f:ag→Nat):∀(L:List aU) (i:Nat) (o:aU) (h:i<L.length),(((L.set i o).flatMap bT).map f).sum=((bT o).map f).sum+(((L.eraseIdx i).flatMap bT).map f).sum
 | [],_,_,h=>absurd h (Nat.not_lt_zero _)
 | x::L,0,o,_=>by simp
 | x::L,i+1,o,h=>by
  have:=JO f L i o (Nat.lt_of_succ_lt_succ h);simp only[set_cons_succ,flatMap_cons,map_append,sum_append,eraseIdx_cons_succ,this];omega
theorem HS{A:List ag}{L:List aU}{bx z:Nat}(h:i<L.length):(A++([(⟨bx,48,z,L.flatMap gT⟩:ag)]++L.flatMap bT)).Perm (A++((⟨bx,48,z,(L.take i).flatMap gT++(gT L[i]++(L.drop (i+1)).flatMap gT)⟩:ag)::(bT L[i]++(L.eraseIdx i).flatMap bT))):=by
 rw[←acs L h];exact iv fun f=>by
  have:=JO f L i L[i] h;rw[set_getElem_self] at this;simp only[map_cons,sum_cons,map_append,sum_append,map_nil,sum_nil,this];omega
theorem Jm{L:List aU}{bx E:Nat}(h:i<L.length)(h1:L.length≤cap)(h2:cap≤maxLen)(aS:∀o∈L,okW o){o:aU}(ho:okW o)(hS:S.Perm (gQ E (some ⟨bx,0,none⟩) L.length cap::((⟨bx,48,cap*5,(L.take i).flatMap gT++(gT o++(L.drop (i+1)).flatMap gT)⟩::bT o)++(L.eraseIdx i).flatMap bT))):Ko ((L.map aU.t).set i o.t) E S:=by
 refine⟨L.set i o,some ⟨bx,0,none⟩,cap,[⟨bx,48,cap*5,(L.set i o).flatMap gT⟩],bI (by rw[length_set];exact h1) h2,fun x hx=>?_,by rw[map_set],?_⟩
 ·rcases mem_or_eq_of_mem_set hx with hx|hx
  ·exact aS x hx
  rw[hx];exact ho
 rw[length_set,afv L h];refine hS.trans (iv fun f=>?_);have:=JO f L i o h;simp only[map_cons,sum_cons,map_append,sum_append,map_nil,sum_nil,this];omega
theorem SN(h:vg t ad cap E):okW ⟨t,t.rows.flatMap gB,ad,cap,E,[]⟩:=⟨h,fun S _=>Og _⟩
theorem acu(h:FX t L ad cap E):okW ⟨t,L.flatMap gR,ad,cap,E,L.flatMap bR⟩:=qA.w ⟨L,rfl,rfl,h.2.1,h.1,h.2.2⟩
theorem Oh{o:aU}(h:qA o):∃U,vg o.t o.ad o.cap U∧∀(n:Nat) (env:List (Nat×D)) (A R:List ag),Wk ⟨n,env,A++(bT o++R)⟩ ⟨n,env,A++(U++R)⟩:=by
 obtain⟨L,h1,h2,h3,h4,h5⟩:=h;have Z:=EM (S:=L.flatMap bR) h3 (fun B h=>h);have E:L.length=o.t.rows.length:=(by rw[←h4,length_map])
 rcases h5 with ⟨e1,e2,I,O,e5⟩|⟨b,e1,e2,I,O⟩
 ·have hL:L=[]:=length_eq_zero_iff.1 e1;subst hL;have hr:o.t.rows=[]:=(by rw[←h4];rfl)
  refine⟨[],.inl ⟨by rw[hr];rfl,by rw[hr];rfl,I,O,rfl⟩,fun n env A R=>?_⟩;have hb:bT o=[]:=(by unfold bT;rw[e5,h2];rfl)
  rw[hb];exact Wk.refl _
 refine⟨[⟨b,27,o.cap*1,o.t.rows.flatMap gB⟩],.inr ⟨b,e1,by rw[←E];exact e2,I,rfl⟩,fun n env A R=>?_⟩;have hb:bT o=⟨b,27,o.cap*1,L.flatMap gR⟩::L.flatMap bR:=(by unfold bT;rw[O,h2];rfl)
 rw[hb,←h4];have hc:=Wk.cover (n:=n) (l:=env) (S:=A++((⟨b,27,o.cap*1,L.flatMap gR⟩::L.flatMap bR)++R)) (A:=⟨b,27,o.cap*1,L.flatMap gR⟩) (R:=A++R) (Sd:=L.flatMap bR) (cs':=(L.map cf.r).flatMap gB) (iv fun f=>by simp only[map_cons,sum_cons,map_append,sum_append,map_nil,sum_nil];omega) Z;refine hc.trans (Wk.perm (iv fun f=>by simp only[map_cons,sum_cons,map_append,sum_append,map_nil,sum_nil];omega))
theorem afw(hm:(3,marksC)∈G)(hw:(2,wordsC)∈G)(ht:(0,typesC)∈G)(hG:(1,[Value.int .i64 m])∈G)(L:List aU)(aS:∀o∈L,qA o)(hL:L.length≤4)(hg:∀o∈L,∃n,n≤260∧eO o.t n)(s:cQ)(fq:¬s.kind=2)(kP:s.av.length≤1000)(ry:s.row.length≤1000)(BQ:∀v∈s.row,v.Ok)(sF:s.names.length≤1000)(ho:∀o∈s.ah,o.nm.size≤maxLen)(fM:∀o∈s.ah,o.v.Ok)(oT:∀o∈s.bE,o.nm.size≤maxLen)(zB:∀o∈s.bE,o.v.Ok)(I:Nat)(ad:Option Addr)(cap:Nat)(Sx:List ag)(Z:zz L ad cap Sx):VC Tryz.prog G 29 [.v (.pointer (some ⟨I,0,none⟩)),.agg (cg s)] (gQ I ad L.length cap::(Sx++L.flatMap bT)) (fun r S=>r=Dw (er (L.map aU.t) s).2∧((er (L.map aU.t) s).2.2=0→Ko (er (L.map aU.t) s).1 I S)):=by
 refine VC.body func29 rfl ntmps29 aO fun X0 w0 aZ=>?_;have dy:maxLen=9223372036854775807:=rfl;have O:=fun o ho=>(aS o ho).w;have fI:=pY (G:=G) (L.map aU.t) Fw s.table;rw[length_map] at fI;have sC:=vZ (fun t:aP=>t.nm.toList==s.table.toList) (L.map aU.t);rw[show dM (fun t:aP=>t.nm.toList==s.table.toList) (L.map aU.t)=(aR (L.map aU.t) s.table) from rfl,length_map] at sC;refine bX ?_;refine OD.box (ds:=[_,_,_,_,_,_,_,_,_,_,_,_]) an rfl rfl ot rfl rfl (fun b3=>?_);refine OD.alloc (ds:=[_,_]) an rfl rfl zeroValue35 rfl (fun b4=>?_);refine aD 1 ?_;first|refine OD.cells (k:=0) (cs':=[.list 1 [] 0,_]) rfl ⟨gd,eR,trivial⟩ rfl ?_|skip
 refine aj 87 [0,3,4] ?_;refine ae [0,3,4,14] ?_;refine aq (fun az aH=>?_) (fun az aH=>?_)
 ·have dI:s.kind=1:=(by simpa using az)
  have aT:er (L.map aU.t) s=((pR (L.map aU.t) s).1,(([],0),(pR (L.map aU.t) s).2)):=(by unfold er;rw[if_pos dI])
  refine aC 3 ?_;refine OD.call (Sf:=gQ I ad L.length cap::(Sx++L.flatMap bT)) (R:=[⟨b4,35,2,[.list 1 [] 0,.v (.int .i64 0)]⟩,⟨b3,42,12,cg s⟩]) an rfl rfl rfl call47 (aaM L aS hL s kP I ad cap Sx Z) ⟨ot,ot,trivial⟩ (show(⟨b4,35,2,[.list 1 [] 0,.v (.int .i64 0)]⟩::⟨b3,42,12,cg s⟩::gQ I ad L.length cap::(Sx++L.flatMap bT):List ag).Perm (gQ I ad L.length cap::(Sx++L.flatMap bT)++[⟨b4,35,2,[.list 1 [] 0,.v (.int .i64 0)]⟩,⟨b3,42,12,cg s⟩]) from(iv fun iU=>by simp only[map_append,map_cons,map_nil,sum_append,sum_cons,sum_nil];omega)) ?_;rintro _ U ⟨rfl,h9⟩;refine OD.perm (S':=⟨b4,35,2,[.list 1 [] 0,.v (.int .i64 0)]⟩::⟨b3,42,12,cg s⟩::U) (show(U++[⟨b4,35,2,[.list 1 [] 0,.v (.int .i64 0)]⟩,⟨b3,42,12,cg s⟩]:List ag).Perm _ from(iv fun iU=>by simp only[map_append,map_cons,map_nil,sum_append,sum_cons,sum_nil];omega)) ?_;refine aN 0 [_,_] sizeOf35 ?_;refine aD 1 ?_;first|refine OD.cells (k:=0) (cs':=[.list 1 [] 0,_]) rfl ⟨gd,eR,trivial⟩ rfl ?_|skip
  refine aj 87 [4,5] ?_;refine aJ U ?_;rw[aT];exact⟨rfl,fun h=>h9 h⟩
 have dI:¬s.kind=1:=(by simpa using az)
 refine cN [0,3,4,6] ?_;refine ni 6 ?_;refine zj (fI) (ha:=by exact⟨⟨_,ot,(E3 Z O (fun B hB=>by repeat (first|exact hB|apply mem_append_right|apply mem_cons_of_mem)))⟩,⟨_,ot,eP⟩,trivial⟩) (K:=?_);refine bH ?_;refine ae [0,3,4,6,27] ?_;refine aq (fun aG aV=>?_) (fun aG aV=>?_)
 ·have h0:(aR (L.map aU.t) s.table)<0:=(by simpa using aG)
  have aT:er (L.map aU.t) s=(L.map aU.t,(([],0),8)):=(by unfold er;rw[if_neg dI,if_pos h0])
  refine aC 1 ?_;refine aN 0 [_,_] sizeOf35 ?_;refine aD 1 ?_;first|refine OD.cells (k:=0) (cs':=[.list 1 [] 0,_]) rfl ⟨gd,eR,trivial⟩ rfl ?_|skip
  refine aj 87 [4,5] ?_;exact Gi
 have h0:¬(aR (L.map aU.t) s.table)<0:=(by simpa using aG)
 have E:(aR (L.map aU.t) s.table).toNat<L.length:=(by omega)
 obtain⟨bx,rfl,iV,oQ,rfl⟩:=Z.pos w4;have kM:(L.map aU.t).getD (aR (L.map aU.t) s.table).toNat (gJ s)=(L[(aR (L.map aU.t) s.table).toNat]'E).t:=(by rw[getD_eq_getElem?_getD,getElem?_map,getElem?_eq_getElem E];rfl)
 refine cN [0,3,4,6,7] ?_;refine aQ 5 ?_ (h:=by exact(c9 5 (h:=by first|exact .l (j:=(aR (L.map aU.t) s.table).toNat) (Int.toNat_of_nonneg w4).symm E|exact .r (j:=(aR (L.map aU.t) s.table).toNat) (Int.toNat_of_nonneg w4).symm E)));refine bH ?_;refine ae [0,3,4,6,7,36] ?_;refine ae [0,3,4,6,7,36,37] ?_;refine aq (fun aY bz=>?_) (fun aY bz=>?_)
 ·exact absurd aY (by exact absurd (by simpa using aY) fq)
 refine ae [3,4,7,36,51] ?_;refine aq (fun bC bY=>?_) (fun bC bY=>?_)
 ·have lJ:s.kind=3:=(by simpa using bC)
  have aT:er (L.map aU.t) s=((L.map aU.t).set (aR (L.map aU.t) s.table).toNat (gm (L[(aR (L.map aU.t) s.table).toNat]'E).t s.row).1,(([],1),(gm (L[(aR (L.map aU.t) s.table).toNat]'E).t s.row).2)):=(by unfold er;rw[kM,if_neg dI,if_neg h0,if_pos lJ])
  obtain⟨n,hn,g⟩:=hg (L[(aR (L.map aU.t) s.table).toNat]'E) (getElem_mem E);obtain⟨Sg,Nu,jx⟩:=Oh (aS (L[(aR (L.map aU.t) s.table).toNat]'E) (getElem_mem E));refine CD.perm (HS (A:=[_,_,_]) E) ?_;refine CD.wk (jx _ _ [_,_,_,_] _) ?_;refine aC 4 ?_
  refine OD.call (Sf:=(⟨bx,48,cap*5,(L.take (aR (L.map aU.t) s.table).toNat).flatMap gT++(gT (L[(aR (L.map aU.t) s.table).toNat]'E)++(L.drop ((aR (L.map aU.t) s.table).toNat+1)).flatMap gT)⟩:ag)::Sg) (R:=⟨b4,35,2,[.list 1 [] 0,.v (.int .i64 0)]⟩::⟨b3,42,12,cg s⟩::gQ I (some ⟨bx,0,none⟩) L.length cap::((L.eraseIdx (aR (L.map aU.t) s.table).toNat).flatMap bT)) an rfl rfl rfl call49 (HN hm hw ht hG (L[(aR (L.map aU.t) s.table).toNat]'E).t g w4 s.row ry BQ bx (0+(aR (L.map aU.t) s.table).toNat*5) (cap*5) ((L.take (aR (L.map aU.t) s.table).toNat).flatMap gT) ((L.drop ((aR (L.map aU.t) s.table).toNat+1)).flatMap gT) LW (L[(aR (L.map aU.t) s.table).toNat]'E).ad (L[(aR (L.map aU.t) s.table).toNat]'E).cap Sg Nu) ⟨ot,ot,trivial⟩ (show(⟨b4,35,2,[.list 1 [] 0,.v (.int .i64 0)]⟩::⟨b3,42,12,cg s⟩::gQ I (some ⟨bx,0,none⟩) L.length cap::(⟨bx,48,cap*5,(L.take (aR (L.map aU.t) s.table).toNat).flatMap gT++(gT (L[(aR (L.map aU.t) s.table).toNat]'E)++(L.drop ((aR (L.map aU.t) s.table).toNat+1)).flatMap gT)⟩:ag)::(Sg++(L.eraseIdx (aR (L.map aU.t) s.table).toNat).flatMap bT):List ag).Perm (((⟨bx,48,cap*5,(L.take (aR (L.map aU.t) s.table).toNat).flatMap gT++(gT (L[(aR (L.map aU.t) s.table).toNat]'E)++(L.drop ((aR (L.map aU.t) s.table).toNat+1)).flatMap gT)⟩:ag)::Sg)++(⟨b4,35,2,[.list 1 [] 0,.v (.int .i64 0)]⟩::⟨b3,42,12,cg s⟩::gQ I (some ⟨bx,0,none⟩) L.length cap::((L.eraseIdx (aR (L.map aU.t) s.table).toNat).flatMap bT))) from(iv fun iU=>by simp only[map_append,map_cons,map_nil,sum_append,sum_cons,sum_nil];omega)) ?_
  rintro _ U ⟨rfl,h9⟩;refine OD.perm (S':=⟨b4,35,2,[.list 1 [] 0,.v (.int .i64 0)]⟩::⟨b3,42,12,cg s⟩::gQ I (some ⟨bx,0,none⟩) L.length cap::(U++(L.eraseIdx (aR (L.map aU.t) s.table).toNat).flatMap bT)) (show(U++(⟨b4,35,2,[.list 1 [] 0,.v (.int .i64 0)]⟩::⟨b3,42,12,cg s⟩::gQ I (some ⟨bx,0,none⟩) L.length cap::((L.eraseIdx (aR (L.map aU.t) s.table).toNat).flatMap bT)):List ag).Perm _ from(iv fun iU=>by simp only[map_append,map_cons,map_nil,sum_append,sum_cons,sum_nil];omega)) ?_;refine aN 0 [_,_] sizeOf35 ?_;refine aD 1 ?_;first|refine OD.cells (k:=0) (cs':=[.list 1 [] 0,_]) rfl ⟨gd,eR,trivial⟩ rfl ?_|skip
  refine aj 87 [4,5] ?_;refine aJ (gQ I (some ⟨bx,0,none⟩) L.length cap::(U++(L.eraseIdx (aR (L.map aU.t) s.table).toNat).flatMap bT)) ?_;rw[aT];refine⟨rfl,fun h=>?_⟩;obtain⟨nF,kg,om,Ll,rfl⟩:=h9 h;exact Jm E iV oQ O (SN Ll) (by rw[show bT (⟨_,_,nF,kg,om,[]⟩:aU)=om from append_nil _];exact Perm.refl _)
 have lJ:¬s.kind=3:=(by simpa using bC)
 refine ae [3,4,7,36,58] ?_;refine aq (fun cy de=>?_) (fun cy de=>?_)
 ·have xF:s.kind=4:=(by simpa using cy)
  have aT:er (L.map aU.t) s=(L.map aU.t,(qf (L[(aR (L.map aU.t) s.table).toNat]'E).t s)):=(by unfold er;rw[kM,if_neg dI,if_neg h0,if_neg lJ,if_pos xF])
  obtain⟨n,hn,g⟩:=hg (L[(aR (L.map aU.t) s.table).toNat]'E) (getElem_mem E);refine CD.seq ?_;refine l8 7 [4,65,66] ?_;refine aQ 2 ?_ (h:=by exact(cJ (mk:=Op.load 48) rfl ot (dJ (k:=3) (i:=(aR (L.map aU.t) s.table).toNat) (ls:=L) uJ rfl rfl rfl isAgg48 sizeOf48 E)));refine ni 1 ?_;refine zi (ad8 hm hw ht hG (L[(aR (L.map aU.t) s.table).toNat]'E).t g s sF ho fM) (fun r S h=>h.flat) (fun r S h=>(by have h9:=h.view;unfold Dw at h9;exact h9)) (ha:=by exact⟨⟨_,ot,(Sk (O _ (getElem_mem E)) (fun B hB=>by have h9:=mem_flatMap.2 ⟨_,getElem_mem E,hB⟩;repeat (first|exact h9|apply mem_append_right|apply mem_cons_of_mem)):View _ (.agg (gT (L[(aR (L.map aU.t) s.table).toNat]'E))) _)⟩,⟨_,ot,eP⟩,trivial⟩) (K:=?_);refine bH ?_;refine aN 0 [_,_] sizeOf35 ?_;refine aD 1 ?_;first|refine OD.cells (k:=0) (cs':=[.list 1 [] 0,_]) rfl ⟨gd,eR,trivial⟩ rfl ?_|skip
  refine aj 87 [4,5] ?_;refine aJ (gQ I (some ⟨bx,0,none⟩) L.length cap::([⟨bx,48,cap*5,L.flatMap gT⟩]++L.flatMap bT)) ?_;rw[aT];exact⟨rfl,fun _=>⟨L,_,cap,_,Z,O,rfl,Perm.refl _⟩⟩
 have xF:¬s.kind=4:=(by simpa using cy)
 refine ae [3,4,7,67] ?_;refine aq (fun dO eo=>?_) (fun dO eo=>?_)
 ·have CO:s.kind=5:=(by simpa using dO)
  have aT:er (L.map aU.t) s=((L.map aU.t).set (aR (L.map aU.t) s.table).toNat (gK (L[(aR (L.map aU.t) s.table).toNat]'E).t s).1,(([],(gK (L[(aR (L.map aU.t) s.table).toNat]'E).t s).2.1),(gK (L[(aR (L.map aU.t) s.table).toNat]'E).t s).2.2)):=(by unfold er;rw[kM,if_neg dI,if_neg h0,if_neg lJ,if_neg xF,if_pos CO])
  obtain⟨n,hn,g⟩:=hg (L[(aR (L.map aU.t) s.table).toNat]'E) (getElem_mem E);obtain⟨LR,q1,q2,q3,q4,q5⟩:=aS (L[(aR (L.map aU.t) s.table).toNat]'E) (getElem_mem E);refine CD.perm (HS (A:=[_,_,_]) E) ?_;refine aC 2 ?_
  refine OD.call (Sf:=(⟨bx,48,cap*5,(L.take (aR (L.map aU.t) s.table).toNat).flatMap gT++(gT (L[(aR (L.map aU.t) s.table).toNat]'E)++(L.drop ((aR (L.map aU.t) s.table).toNat+1)).flatMap gT)⟩:ag)::((L[(aR (L.map aU.t) s.table).toNat]'E).sr++LR.flatMap bR)) (R:=⟨b4,35,2,[.list 1 [] 0,.v (.int .i64 0)]⟩::⟨b3,42,12,cg s⟩::gQ I (some ⟨bx,0,none⟩) L.length cap::((L.eraseIdx (aR (L.map aU.t) s.table).toNat).flatMap bT)) an rfl rfl rfl call51 (aaL hm hw ht hG (L[(aR (L.map aU.t) s.table).toNat]'E).t g s ho fM oT zB hn bx (0+(aR (L.map aU.t) s.table).toNat*5) (cap*5) ((L.take (aR (L.map aU.t) s.table).toNat).flatMap gT) ((L.drop ((aR (L.map aU.t) s.table).toNat+1)).flatMap gT) LW LR (L[(aR (L.map aU.t) s.table).toNat]'E).ad (L[(aR (L.map aU.t) s.table).toNat]'E).cap (L[(aR (L.map aU.t) s.table).toNat]'E).sr q4 q3 q5) ⟨ot,ot,trivial⟩ (show(⟨b4,35,2,[.list 1 [] 0,.v (.int .i64 0)]⟩::⟨b3,42,12,cg s⟩::gQ I (some ⟨bx,0,none⟩) L.length cap::(⟨bx,48,cap*5,(L.take (aR (L.map aU.t) s.table).toNat).flatMap gT++(gT (L[(aR (L.map aU.t) s.table).toNat]'E)++(L.drop ((aR (L.map aU.t) s.table).toNat+1)).flatMap gT)⟩:ag)::((bT (L[(aR (L.map aU.t) s.table).toNat]'E))++(L.eraseIdx (aR (L.map aU.t) s.table).toNat).flatMap bT):List ag).Perm (((⟨bx,48,cap*5,(L.take (aR (L.map aU.t) s.table).toNat).flatMap gT++(gT (L[(aR (L.map aU.t) s.table).toNat]'E)++(L.drop ((aR (L.map aU.t) s.table).toNat+1)).flatMap gT)⟩:ag)::((L[(aR (L.map aU.t) s.table).toNat]'E).sr++LR.flatMap bR))++(⟨b4,35,2,[.list 1 [] 0,.v (.int .i64 0)]⟩::⟨b3,42,12,cg s⟩::gQ I (some ⟨bx,0,none⟩) L.length cap::((L.eraseIdx (aR (L.map aU.t) s.table).toNat).flatMap bT))) from by rw[show bT (L[(aR (L.map aU.t) s.table).toNat]'E)=((L[(aR (L.map aU.t) s.table).toNat]'E).sr++LR.flatMap bR) from by unfold bT;rw[q2]];exact(iv fun iU=>by simp only[map_append,map_cons,map_nil,sum_append,sum_cons,sum_nil];omega)) ?_
  rintro _ U ⟨rfl,h9⟩;refine OD.perm (S':=⟨b4,35,2,[.list 1 [] 0,.v (.int .i64 0)]⟩::⟨b3,42,12,cg s⟩::gQ I (some ⟨bx,0,none⟩) L.length cap::(U++(L.eraseIdx (aR (L.map aU.t) s.table).toNat).flatMap bT)) (show(U++(⟨b4,35,2,[.list 1 [] 0,.v (.int .i64 0)]⟩::⟨b3,42,12,cg s⟩::gQ I (some ⟨bx,0,none⟩) L.length cap::((L.eraseIdx (aR (L.map aU.t) s.table).toNat).flatMap bT)):List ag).Perm _ from(iv fun iU=>by simp only[map_append,map_cons,map_nil,sum_append,sum_cons,sum_nil];omega)) ?_;refine aj 87 [4,8,9] ?_;refine aC 3 ?_;refine aN 0 [_,_] sizeOf35 ?_;refine aD 1 ?_;first|refine OD.cells (k:=0) (cs':=[.list 1 [] 0,_]) rfl ⟨gd,eR,trivial⟩ rfl ?_|skip
  refine aj 87 [4,5] ?_;refine aJ (gQ I (some ⟨bx,0,none⟩) L.length cap::(U++(L.eraseIdx (aR (L.map aU.t) s.table).toNat).flatMap bT)) ?_;rw[aT];refine⟨rfl,fun h=>?_⟩;obtain⟨L',nF,kg,om,ajC,rfl⟩:=h9 h;exact Jm E iV oQ O (acu ajC) (Perm.refl _)
 have CO:¬s.kind=5:=(by simpa using dO)
 have aT:er (L.map aU.t) s=((L.map aU.t).set (aR (L.map aU.t) s.table).toNat (mr (L[(aR (L.map aU.t) s.table).toNat]'E).t s.ah).1,(([],(mr (L[(aR (L.map aU.t) s.table).toNat]'E).t s.ah).2.1),(mr (L[(aR (L.map aU.t) s.table).toNat]'E).t s.ah).2.2)):=(by unfold er;rw[kM,if_neg dI,if_neg h0,if_neg lJ,if_neg xF,if_neg CO])
 obtain⟨n,hn,g⟩:=hg (L[(aR (L.map aU.t) s.table).toNat]'E) (getElem_mem E);obtain⟨Sg,Nu,jx⟩:=Oh (aS (L[(aR (L.map aU.t) s.table).toNat]'E) (getElem_mem E));refine CD.perm (HS (A:=[_,_,_]) E) ?_;refine CD.wk (jx _ _ [_,_,_,_] _) ?_;refine aC 2 ?_
 refine OD.call (Sf:=(⟨bx,48,cap*5,(L.take (aR (L.map aU.t) s.table).toNat).flatMap gT++(gT (L[(aR (L.map aU.t) s.table).toNat]'E)++(L.drop ((aR (L.map aU.t) s.table).toNat+1)).flatMap gT)⟩:ag)::Sg) (R:=⟨b4,35,2,[.list 1 [] 0,.v (.int .i64 0)]⟩::⟨b3,42,12,cg s⟩::gQ I (some ⟨bx,0,none⟩) L.length cap::((L.eraseIdx (aR (L.map aU.t) s.table).toNat).flatMap bT)) an rfl rfl rfl call52 (aaI hm hw ht hG (L[(aR (L.map aU.t) s.table).toNat]'E).t g s ho fM bx (0+(aR (L.map aU.t) s.table).toNat*5) (cap*5) ((L.take (aR (L.map aU.t) s.table).toNat).flatMap gT) ((L.drop ((aR (L.map aU.t) s.table).toNat+1)).flatMap gT) LW (L[(aR (L.map aU.t) s.table).toNat]'E).ad (L[(aR (L.map aU.t) s.table).toNat]'E).cap Sg Nu) ⟨ot,ot,trivial⟩ (show(⟨b4,35,2,[.list 1 [] 0,.v (.int .i64 0)]⟩::⟨b3,42,12,cg s⟩::gQ I (some ⟨bx,0,none⟩) L.length cap::(⟨bx,48,cap*5,(L.take (aR (L.map aU.t) s.table).toNat).flatMap gT++(gT (L[(aR (L.map aU.t) s.table).toNat]'E)++(L.drop ((aR (L.map aU.t) s.table).toNat+1)).flatMap gT)⟩:ag)::(Sg++(L.eraseIdx (aR (L.map aU.t) s.table).toNat).flatMap bT):List ag).Perm (((⟨bx,48,cap*5,(L.take (aR (L.map aU.t) s.table).toNat).flatMap gT++(gT (L[(aR (L.map aU.t) s.table).toNat]'E)++(L.drop ((aR (L.map aU.t) s.table).toNat+1)).flatMap gT)⟩:ag)::Sg)++(⟨b4,35,2,[.list 1 [] 0,.v (.int .i64 0)]⟩::⟨b3,42,12,cg s⟩::gQ I (some ⟨bx,0,none⟩) L.length cap::((L.eraseIdx (aR (L.map aU.t) s.table).toNat).flatMap bT))) from(iv fun iU=>by simp only[map_append,map_cons,map_nil,sum_append,sum_cons,sum_nil];omega)) ?_
 rintro _ U ⟨rfl,h9⟩;refine OD.perm (S':=⟨b4,35,2,[.list 1 [] 0,.v (.int .i64 0)]⟩::⟨b3,42,12,cg s⟩::gQ I (some ⟨bx,0,none⟩) L.length cap::(U++(L.eraseIdx (aR (L.map aU.t) s.table).toNat).flatMap bT)) (show(U++(⟨b4,35,2,[.list 1 [] 0,.v (.int .i64 0)]⟩::⟨b3,42,12,cg s⟩::gQ I (some ⟨bx,0,none⟩) L.length cap::((L.eraseIdx (aR (L.map aU.t) s.table).toNat).flatMap bT)):List ag).Perm _ from(iv fun iU=>by simp only[map_append,map_cons,map_nil,sum_append,sum_cons,sum_nil];omega)) ?_;refine aj 87 [4,10,11] ?_;refine aC 3 ?_;refine aN 0 [_,_] sizeOf35 ?_;refine aD 1 ?_;first|refine OD.cells (k:=0) (cs':=[.list 1 [] 0,_]) rfl ⟨gd,eR,trivial⟩ rfl ?_|skip
 refine aj 87 [4,5] ?_;refine aJ (gQ I (some ⟨bx,0,none⟩) L.length cap::(U++(L.eraseIdx (aR (L.map aU.t) s.table).toNat).flatMap bT)) ?_;rw[aT];refine⟨rfl,fun h=>?_⟩;obtain⟨nF,kg,om,Ll,rfl⟩:=h9 h;exact Jm E iV oQ O (SN Ll) (by rw[show bT (⟨_,_,nF,kg,om,[]⟩:aU)=om from append_nil _];exact Perm.refl _)

end Go.Proofs.YtbcmjoaggammcaaGreatDoor.Ba
namespace Go.Proofs.YtbcmjoaggammcaaGreatDoor.Ba
open List
open Go.Proofs.Tryz
open Go.RowKit V Pk Tr Vl Go.Proofs.YtbcmjoaggammcaaGreatDoor.Nm Pc Cd Ex Tw
open Pa (cQ cg)
variable {G:List (Nat×List Value)} {m:Int}
variable {n:Nat}
def vh(t:aP)(i:Nat):Nat:=((range i).filter fun j=>decide ((t.rows.getD j []).length≠0)).length
theorem Ea(t:aP)(i:Nat):vh t (i+1)=vh t i+if (t.rows.getD i []).length≠0 then 1 else 0:=by
 unfold vh;rw[range_succ,filter_append,length_append];congr 1;by_cases h:(t.rows.getD i []).length≠0
 ·rw[if_pos h,filter_cons_of_pos oJ];rfl
 rw[if_neg h,filter_cons_of_neg oJ];rfl
theorem TM(t:aP)(i:Nat):vh t i≤i:=by
 unfold vh;exact Nat.le_trans (length_filter_le _ _) (by rw[length_range];exact Nat.le_refl _)
theorem Iz{t:aP}{i:Nat}(h:i<t.rows.length):t.rows.getD i []=t.rows[i]:=by rw[getD_eq_getElem?_getD,getElem?_eq_getElem h];rfl
theorem SO{t:aP}(g:eO t n):vh t t.rows.length=(en t.ix).length:=by
 unfold vh;have hA:((en t.ix).map fun x=>x.2.toNat).Nodup:=by
  have hr:(en t.ix).Pairwise (fun a b=>bF a.1 b.1):=D4 g.ix.val;rw[Nodup,pairwise_map];refine hr.imp_of_mem fun {a b} ha hb h e=>?_;obtain⟨a0,a1,a2,a3⟩:=g.iN a ha;obtain⟨b0,b1,b2,b3⟩:=g.iN b hb;refine jA a.1 ?_;have:a.1=b.1:=(by rw[a3,b3];simp only[e])
  rw[←this] at h;exact h
 have Z:((range t.rows.length).filter fun j=>decide ((t.rows.getD j []).length≠0)).Nodup:=List.nodup_range.filter _;have h1:=hA.length_le_of_subset (l₂:=(range t.rows.length).filter fun j=>decide ((t.rows.getD j []).length≠0)) fun i hi=>by
  obtain⟨x,hx,rfl⟩:=mem_map.1 hi;obtain⟨x0,x1,x2,x3⟩:=g.iN x hx;refine mem_filter.2 ⟨mem_range.2 x1,decide_eq_true ?_⟩;rw[Iz x1];exact fun h=>x2 (length_eq_zero_iff.1 h)
 have h2:=Z.length_le_of_subset (l₂:=(en t.ix).map fun x=>x.2.toNat) fun i hi=>by
  obtain⟨O,U⟩:=mem_filter.1 hi;have E:=mem_range.1 O;have I:=of_decide_eq_true U;rw[Iz E] at I;exact mem_map.2 ⟨_,(g.row i E (fun h=>I (by rw[h];rfl))).2.2,by simp⟩
 rw[length_map] at h1 h2;omega
theorem acv(hm:(3,marksC)∈G)(hw:(2,wordsC)∈G)(ht:(0,typesC)∈G)(hG:(1,[Value.int .i64 m])∈G)(t:aP)(g:eO t n)(sF:t.nm.size≤maxLen):VP Tryz.prog G 40 [.agg (dG t)] (.v (.bool true)):=by
 refine VC.body func40 rfl ntmps40 aO fun X0 w0 aZ=>?_;have dy:maxLen=9223372036854775807:=rfl;have mB:=g.eK;have nf:=td (G:=G) hm hw t.nm sF;rw[g.nm] at nf;have eY:=Pc.EH (G:=G) hm hw ht t.av xu xq;have hco:Pc.fB t.av=0:=(by rw[g.av];exact IC)
 rw[hco] at eY;have vI:=adP (G:=G) g.ix;have Z:=Sj (G:=G) g.ix;rw[It] at Z;unfold Tw.cT at vI Z;have XJ:=SO g;unfold dG;refine bX ?_;refine OD.box (ds:=[_,_,_,_,_]) an rfl rfl ot rfl rfl (fun b1=>?_);refine aj 76 [1] ?_;refine aC 2 ?_;refine dR call63 (nf) ?_;refine aD 2 ?_;refine bS 14 (fun E agV=>?_) (fun E agV=>?_)
 ·exact absurd E (by simp at E)
 refine aD 2 ?_;refine OD.gI gL rfl rfl rfl call64 (eY) ⟨ot,trivial⟩ ?_;refine aD 3 ?_;refine bS 20 (fun I agW=>?_) (fun I agW=>?_)
 ·exact absurd I (by simp at I)
 refine aD 6 ?_;refine bS 26 (fun O Kc=>?_) (fun O Kc=>?_)
 ·exact absurd O (by (simp at O;omega))
 refine aD 2 ?_;refine OD.gI gL rfl rfl rfl call16 (vI) ⟨ot,trivial⟩ ?_;refine aj 76 [1,31] ?_;refine aq (fun az aH=>?_) (fun az aH=>?_)
 ·exact absurd az (by simp at az)
 refine ae [1,3] ?_;refine ae [1,3,33,34,35] ?_;refine CD.block ?_;refine mJ (fun (i:Nat) aK=>(i≤t.rows.length)∧aK=(⟨76,[(1,.v (.pointer (some ⟨b1,0,none⟩))),(3,.v (.int .i64 (vh t i:Nat))),(33,.list 1 (t.rows.flatMap gB) t.rows.length),(34,.v (.int .i64 (t.rows.length:Nat))),(35,.v (.int .i64 (i:Nat)))],[⟨b1,48,5,dG t⟩]⟩:St)) (fun (i:Nat)=>t.rows.length-i) 0 ⟨(Nat.zero_le _),rfl⟩ (aM (h:=by repeat (first|exact trivial|refine⟨(by (repeat (first|exact fw|(apply fP;focus (first|rfl|(rw[Ea,if_neg zg];rfl)|(rw[Ea,if_pos zg];rfl)|(simp;done)|(congr 2;omega)))|(apply fA;focus rfl)));done),?_⟩))) ?_;rintro i _ ⟨hi,rfl⟩;refine ae [1,3,33,34,35,36] ?_;refine aq (fun aG aV=>?_) (fun aG aV=>?_)
 ·have aa:i<t.rows.length:=(by omega)
  have kM:t.rows.getD i []=(t.rows[i]'aa):=Iz aa;have kP:=TM t i;refine ae [1,3,4,5,33,34,35] ?_;refine ae [1,3,4,5,33,34,35,42] ?_;refine aq (fun aY bz=>?_) (fun aY bz=>?_)
  ·have zg:¬(t.rows.getD i []).length≠0:=(by rw[kM];simpa using aY)
   exact z72
  have zg:(t.rows.getD i []).length≠0:=(by rw[kM];simpa using aY)
  have hne:(t.rows[i]'aa)≠[]:=fun h=>zg (by rw[kM,h];rfl);obtain⟨p1,p2,p3⟩:=g.row i aa hne;have p4:=pi p1;have x5:=JB (G:=G) hm hw ht t.av xu xq (t.rows[i]'aa) w4;have XB:Pc.dW t.av (t.rows[i]'aa)=0:=(by rw[g.av];exact p1)
  rw[XB] at x5;have hyv:=yN (G:=G) hG (t.rows[i]'aa) w4 w4 p2;have fI:=JJ (G:=G) g.ix (cX (t.rows[i]'aa));rw[QK g.ix (v8 p1) p3] at fI;unfold Tw.cT at fI;refine ae [1,3,4,5,33,34,35] ?_;refine cL [1,3,4,5,33,34,35,49] (x5) ?_;refine aq (fun bC bY=>?_) (fun bC bY=>?_)
  ·exact absurd bC (by simp at bC)
  refine cN [1,3,4,6,7,33,34,35] ?_;refine cU (hyv) ?_;refine cU (fI) ?_;refine bH ?_;refine aC 3 ?_;refine bS 60 (fun U J5=>?_) (fun U J5=>?_)
  ·exact absurd U (by simp at U)
  refine bf [1,3,33,34,35,64] ?_;refine aq (fun cy de=>?_) (fun cy de=>?_)
  ·exact absurd cy (by simp at cy)
  exact z72
 have tX:i=t.rows.length:=(by omega)
 subst tX;refine cL [3,8] (Z) ?_;refine ae [2] ?_;refine aJ [] ?_;refine⟨?_,rfl⟩;first|rfl|(rw[XJ];simp)

structure qg (l:List aP) (n:Nat):Prop where
 eK:l.length≤4
 tb:∀t∈l,eO t n
 sz:∀t∈l,t.nm.size≤maxLen
 GX:l.Pairwise fun a b=>a.nm.toList≠b.nm.toList
theorem qg.no{l:List aP}(g:qg l n){i:Nat}(h:i<l.length):aR (l.take i) l[i].nm<0:=by
 unfold aR;rw[uz (k:=(l.take i).length) w4 (fun x hx=>?_)]
 ·decide
 rw[take_of_length_le (Nat.le_refl _)] at hx;obtain⟨j,hj,rfl⟩:=mem_iff_getElem.1 hx;rw[length_take] at hj;rw[getElem_take];have:=pairwise_iff_getElem.1 g.GX j i w4 h w4;simpa using this
noncomputable def tK(l:List aP)(nm:ByteArray):List (List Vl)×Int:=if aR l nm<0 then ([],8) else ((en (l.getD (aR l nm).toNat ⟨nm,[],[],pC⟩).ix).map fun x=>rowAt (l.getD (aR l nm).toNat ⟨nm,[],[],pC⟩) x.2,0)
theorem HT(hm:(3,marksC)∈G)(hw:(2,wordsC)∈G)(ht:(0,typesC)∈G)(hG:(1,[Value.int .i64 m])∈G)(l:List aP)(g:qg l n):VP Tryz.prog G 20 [.agg [.list 5 ((l).flatMap dG) (l).length]] (.v (.int .i64 0)):=by
 refine VC.body func20 rfl ntmps20 aO fun X0 w0 aZ=>?_;have dy:maxLen=9223372036854775807:=rfl;have U:=g.eK;refine bX ?_;refine OD.box (ds:=[_]) an rfl rfl ot rfl rfl (fun b1=>?_);refine aj 31 [1] ?_;refine ae [1,8] ?_;refine aq (fun az aH=>?_) (fun az aH=>?_)
 ·exact absurd az (by (simp at az;omega))
 refine ae [1,10,11,12] ?_;refine eB [1,10,11] (fun aW _ (i:Nat) aK=>(i≤l.length)∧aK=(⟨31,(12,.v (.int .i64 (i:Nat)))::aW,[⟨b1,25,1,[.list 5 ((l).flatMap dG) (l).length]⟩]⟩:St)) (fun (i:Nat)=>l.length-i) 0 ⟨(Nat.zero_le _),rfl⟩ ?_;rintro i _ ⟨hi,rfl⟩;refine ae [1,10,11,12,13] ?_;refine aq (fun aG aV=>?_) (fun aG aV=>?_)
 ·have aa:i<l.length:=(by omega)
  have O:=acv hm hw ht hG (l[i]'aa) (g.tb _ (getElem_mem aa)) (g.sz _ (getElem_mem aa));have fI:=pY (G:=G) (l.take i) oH (l[i]'aa).nm;have kN:=g.no aa;unfold dG at O;refine aC 3 ?_;refine OD.alloc (ds:=[_,_,_,_,_]) an rfl rfl zeroValue48 rfl (fun b4=>?_);refine aD 1 ?_;refine aN 0 [_,_,_,_,_] sizeOf48 ?_;refine aj 31 [1,3,4,10,11,12] ?_;refine CD.seq ?_;refine fK 10 (ap _) ?_ (fun _ h=>h);refine ax 0 rfl (cJ (mk:=Op.load 48) rfl ot (by first|exact pX (k:=0) (ds:=[_,_,_,_,_]) rfl rfl isAgg48 sizeOf48 rfl rfl|exact jN jM isAgg48 sizeOf48 w5|exact dJ (k:=0) jM rfl rfl rfl isAgg48 sizeOf48 w5|exact dJ (k:=1) jM rfl rfl rfl isAgg48 sizeOf48 w5|exact qb (ds:=[_,_,_,_,_]) isAgg48 sizeOf48 rfl rfl)) ?_;refine dm.later rfl ?_;refine AD.one (i:=1) ay ?_;refine jv call40 (O) ?_;refine cr 2 rfl kO ?_;refine cr 3 rfl bj ?_;refine AD.split (t:=20) lk (fun E=>?_) (fun E=>?_)
  ·exact absurd E (by simp at E)
  have I:=E;(try simp only[V.ng,ne_eq] at I)
  refine cr 4 rfl (c8 0) ?_;refine cr 6 rfl bj ?_;refine cr 8 rfl (c8 0) ?_;refine AD.two (i:=5) (j:=9) ay ?_ ?_
  ·refine at_ rfl (dB 1) ?_;refine cr 7 rfl (ei (l:=0) (h:=i) rfl ot trivial ⟨_,ot⟩ (by exact ow jM (fun h=>by cases h) runUnderlying23 sizeOf48 w4)) ?_;refine AD.one (i:=9) ay ?_;refine at_ rfl (dB 0) ?_;exact Wc
  refine at_ rfl (dB 0) ?_;refine AD.one (i:=5) ay ?_;refine at_ rfl (dB 1) ?_;refine cr 7 rfl (ei (l:=0) (h:=i) rfl ot trivial ⟨_,ot⟩ (by exact ow jM (fun h=>by cases h) runUnderlying23 sizeOf48 w4)) ?_;exact Wc
 refine ae [2] ?_;exact z51
theorem Zn:(Tryz.prog.info? 27).map (fun i=>(i.zero,i.size,i.bytes))=some (some (.slice none 0 0),1,24):=by kernel_rfl
theorem SP(hm:(3,marksC)∈G)(hw:(2,wordsC)∈G)(ht:(0,typesC)∈G)(hG:(1,[Value.int .i64 m])∈G)(l:List aP)(g:qg l n)(nm:ByteArray):VP Tryz.prog G 19 [.agg [.list 5 ((l).flatMap dG) (l).length],.v (.string nm)] (.dz [.list 1 ((tK l nm).1.flatMap gB) (tK l nm).1.length,.v (.int .i64 (tK l nm).2)]):=by
 refine VC.body func19 rfl ntmps19 aO fun X0 w0 aZ=>?_;have dy:maxLen=9223372036854775807:=rfl;have mB:=g.eK;have nZ:=HT hm hw ht hG l g;have fI:=pY (G:=G) l w4 nm;have sC:=vZ (fun t:aP=>t.nm.toList==nm.toList) l;rw[show dM (fun t:aP=>t.nm.toList==nm.toList) l=aR l nm from rfl] at sC;refine bX ?_;refine OD.box (ds:=[_]) an rfl rfl ot rfl rfl (fun b2=>?_);refine aj 54 [1,2] ?_;refine cL [1,2,6] (nZ) ?_;refine ae [1,2,6,17] ?_;refine aq (fun az aH=>?_) (fun az aH=>?_)
 ·exact absurd az (by simp at az)
 refine cL [2,7] (fI) ?_;refine ae [2,7,24] ?_;refine aq (fun aG aV=>?_) (fun aG aV=>?_)
 ·have h0:aR l nm<0:=(by simpa using aG)
  have aT:tK l nm=([],8):=if_pos h0;refine ae [4,5] ?_;refine CD.wk (Wk.tg (t:=4) (sz:=1) lk) ?_;exact n8
 have h0:¬aR l nm<0:=(by simpa using aG)
 have E:(aR l nm).toNat<l.length:=(by omega)
 have O:=g.tb (l[(aR l nm).toNat]'E) (getElem_mem E);have kM:l.getD (aR l nm).toNat ⟨nm,[],[],pC⟩=(l[(aR l nm).toNat]'E):=(by rw[getD_eq_getElem?_getD,getElem?_eq_getElem E];rfl)
 have aT:tK l nm=((en (l[(aR l nm).toNat]'E).ix).map fun x=>rowAt (l[(aR l nm).toNat]'E) x.2,0):=(by unfold tK;rw[if_neg h0,kM])
 have Am:=Sj (G:=G) O.ix;rw[It] at Am;unfold Tw.cT at Am;have XJ:=SO O;have kP:=TM (l[(aR l nm).toNat]'E) (l[(aR l nm).toNat]'E).rows.length;have M9:=O.eK;refine aC 3 ?_;refine bN (c9 5 (h:=by first|exact .l (j:=(aR l nm).toNat) (Int.toNat_of_nonneg w4).symm E|exact .r (j:=(aR l nm).toNat) (Int.toNat_of_nonneg w4).symm E)) ?_;refine aD 1 ?_;refine OD.alloc (ds:=[_,_,_,_,_]) an rfl rfl zeroValue48 rfl (fun b8=>?_);refine aN 0 [_,_,_,_,_] sizeOf48 ?_;refine aj 54 [8] ?_;refine cL [8,9] (Am) ?_;refine bX ?_;refine bf [8,9,11] ?_;refine ae [8,11,36,37,38] ?_;refine eB [8,36,37] (fun aW _ (U:Nat×List (List Vl)×Option Addr×Nat×List ag) aK=>match U with|(i,acc,dK,cY,Sx)=>(i≤(en (l[(aR l nm).toNat]'E).ix).length)∧(acc=((en (l[(aR l nm).toNat]'E).ix).take i).map fun x=>rowAt (l[(aR l nm).toNat]'E) x.2)∧(bw 27 1 ((acc).flatMap gB) (acc).length dK cY Sx)∧aK=(⟨54,(11,.v (.slice dK (acc).length cY))::(38,.v (.int .i64 (i:Nat)))::aW,(⟨b8,48,5,dG (l[(aR l nm).toNat]'E)⟩::⟨b2,25,1,[.list 5 ((l).flatMap dG) (l).length]⟩::Sx)⟩:St)) (fun (U:Nat×List (List Vl)×Option Addr×Nat×List ag)=>match U with|(i,acc,dK,cY,Sx)=>(en (l[(aR l nm).toNat]'E).ix).length-i) (0,([]:List (List Vl)),none,0,[]) ⟨(Nat.zero_le _),rfl,(bw.cast iw kJ),rfl⟩ ?_;rintro⟨i,acc,dK,cY,Sx⟩ _ ⟨hi,qW,dU,rfl⟩;refine ae [8,11,36,37,38,39] ?_
 refine aq (fun aY bz=>?_) (fun aY bz=>?_)
 ·have aa:i<(en (l[(aR l nm).toNat]'E).ix).length:=(by omega)
  obtain⟨gp,I,nH,Mj⟩:=O.iN _ (getElem_mem aa);have hra:rowAt (l[(aR l nm).toNat]'E) ((en (l[(aR l nm).toNat]'E).ix)[i]'aa).2=((l[(aR l nm).toNat]'E).rows[((en (l[(aR l nm).toNat]'E).ix)[i]'aa).2.toNat]'I):=iZ I;have h4:=pi (O.row _ I nH).1;have eY:=Pd (G:=G) ((l[(aR l nm).toNat]'E).rows[((en (l[(aR l nm).toNat]'E).ix)[i]'aa).2.toNat]'I) w4;have qw:acc.length=i:=(by rw[qW,length_map,length_take];omega)
  refine aC 2 ?_;refine OD.alloc (ds:=[_,_]) an rfl rfl zeroValue97 rfl (fun mh=>?_);refine aN 0 [_,_] sizeOf97 ?_;refine aj 54 [8,11,13,36,37,38] ?_;refine dL 5 ?_;refine bN (c9 1 (h:=by first|exact .l (j:=((en (l[(aR l nm).toNat]'E).ix)[i]'aa).2.toNat) (Int.toNat_of_nonneg gp).symm I|exact .r (j:=((en (l[(aR l nm).toNat]'E).ix)[i]'aa).2.toNat) (Int.toNat_of_nonneg gp).symm I)) ?_;refine aD 1 ?_;refine dR call39 (eY) ?_;refine ee (bZ 0 [_]) [.slice none 0 0] [_] zeroValue27 runUnderlying33 sizeOf27 (fun Aj=>?_);refine fG 0 50 1 1 ?_;refine OD.dZ (ls:=(acc)) (new:=[((l[(aR l nm).toNat]'E).rows[((en (l[(aR l nm).toNat]'E).ix)[i]'aa).2.toNat]'I)]) (Sq:=Sx) jZ QN an rfl rfl underlying33 Zn rfl w7 ot dU (dx (A:=[_,_,_])) ot bq mZ nc (fun x9 Z Lh Li=>?_);refine OD.perm (dV (S1:=[⟨x9,27,Z*1,flatMap gB ((acc)++[((l[(aR l nm).toNat]'E).rows[((en (l[(aR l nm).toNat]'E).ix)[i]'aa).2.toNat]'I)])⟩]) (A:=[_,_,_])) ?_;refine aj 54 [8,11,36,37,38] ?_;refine cj [8,11,36,37,38] ?_
  refine⟨((i+1),(acc++[((l[(aR l nm).toNat]'E).rows[((en (l[(aR l nm).toNat]'E).ix)[i]'aa).2.toNat]'I)]),(some ⟨x9,0,none⟩),Z,[⟨x9,27,Z*1,flatMap gB ((acc)++[((l[(aR l nm).toNat]'E).rows[((en (l[(aR l nm).toNat]'E).ix)[i]'aa).2.toNat]'I)])⟩]),_,cx,aM,w4,(by rw[qW,←hra,←oU aa,map_append];rfl),(bw.cast (bI Lh Li) kJ),rfl⟩
 have mW:acc=(en (l[(aR l nm).toNat]'E).ix).map fun x=>rowAt (l[(aR l nm).toNat]'E) x.2:=(by rw[qW,take_of_length_le w4])
 refine ae [4,5] ?_;refine CD.gP (t:=4) (Sq:=Sx) lk dU (cq jZ _) (dx (A:=[_,_])) ?_;refine aJ [] ?_;rw[aT,←mW];exact⟨rfl,rfl⟩

end Go.Proofs.YtbcmjoaggammcaaGreatDoor.Ba
namespace Go.Proofs.YtbcmjoaggammcaaGreatDoor.Ba
open List
open Go.Proofs.Tryz
open Go.RowKit V Pk Tr Vl Go.Proofs.YtbcmjoaggammcaaGreatDoor.Nm Pc Cd Ex Tw
open Pa (cQ cg mX jO)
variable {G:List (Nat×List Value)} {m:Int}
noncomputable def l7(l:List aP)(s:cQ):List aP×((List (List Vl)×Int)×Int) :=
 if jO s≠0 then ([],(([],0),jO s)) else if 7≤s.kind then ([],(([],0),2)) else if (er l s).2.2≠0 then ([],(([],0),(er l s).2.2)) else ((er l s).1,((er l s).2.1,0))
def GY(p:List aP×((List (List Vl)×Int)×Int)):D:=.dz [.agg [.list 5 (p.1.flatMap dG) p.1.length],.agg [.list 1 (p.2.1.1.flatMap gB) p.2.1.1.length,.v (.int .i64 p.2.1.2)],.v (.int .i64 p.2.2)]
theorem afx(hm:(3,marksC)∈G)(hw:(2,wordsC)∈G)(ht:(0,typesC)∈G)(hG:(1,[Value.int .i64 m])∈G)(l:List aP){n:Nat}(hn:n≤260)(g:qg l n)(s:cQ)(hf:mX s)(fq:¬s.kind=2)(BQ:∀v∈s.row,v.Ok)(ho:∀o∈s.ah,o.nm.size≤maxLen)(fM:∀o∈s.ah,o.v.Ok)(oT:∀o∈s.bE,o.nm.size≤maxLen)(zB:∀o∈s.bE,o.v.Ok)(GR:(er l s).2.2=0→(er l s).1.length≤1000∧∀t∈(er l s).1,Be t):VP Tryz.prog G 12 [.agg [.list 5 ((l).flatMap dG) (l).length],.agg (cg s)] (GY (l7 l s)):=by
 refine VC.body func12 rfl ntmps12 aO fun X0 w0 aZ=>?_;have dy:maxLen=9223372036854775807:=rfl;have mB:=g.eK;have nZ:=HT hm hw ht hG l g;have eY:=Pa.Qb (G:=G) hm hw ht s hf;refine bX ?_;refine OD.box (ds:=[_]) an rfl rfl ot rfl rfl (fun b2=>?_);refine OD.box (ds:=[_,_,_,_,_,_,_,_,_,_,_,_]) an rfl rfl ot rfl rfl (fun b3=>?_);refine OD.alloc (ds:=[_]) an rfl rfl zeroValue25 rfl (fun b4=>?_);refine OD.alloc (ds:=[_,_]) an rfl rfl zeroValue35 rfl (fun b5=>?_);refine aD 1 ?_;first|refine OD.cells (k:=0) (cs':=[.list 1 [] 0,_]) rfl ⟨gd,eR,trivial⟩ rfl ?_|skip
 first|refine OD.cells (k:=1) (cs':=[.list 1 [] 0,_]) rfl ⟨gd,eR,trivial⟩ rfl ?_|skip
 first|refine OD.cells (k:=1) (cs':=[.list 5 [] 0]) rfl ⟨gd,trivial⟩ rfl ?_|skip
 first|refine OD.cells (k:=2) (cs':=[.list 5 [] 0]) rfl ⟨gd,trivial⟩ rfl ?_|skip
 refine aj 46 [2,3,4,5] ?_;refine cL [2,3,4,5,7] (nZ) ?_;refine ae [2,3,4,5,7,15] ?_;refine aq (fun az aH=>?_) (fun az aH=>?_)
 ·exact absurd az (by simp at az)
 refine cL [2,3,4,5,8] (eY) ?_;refine ae [2,3,4,5,8,22] ?_;refine aq (fun aG aV=>?_) (fun aG aV=>?_)
 ·have h1:jO s≠0:=(by simpa using aG)
  have aT:l7 l s=([],(([],0),jO s)):=if_pos h1;refine aC 3 ?_;refine aN 1 [_] sizeOf25 ?_;refine aN 0 [_,_] sizeOf35 ?_;exact z40
 have h1:¬jO s≠0:=(by simpa using aG)
 refine ae [2,3,4,5,28] ?_;refine aq (fun aY bz=>?_) (fun aY bz=>?_)
 ·have h2:7≤s.kind:=(by simpa using aY)
  have aT:l7 l s=([],(([],0),2)):=(by unfold l7;rw[if_neg h1,if_pos h2])
  refine aC 2 ?_;refine aN 1 [_] sizeOf25 ?_;refine aN 0 [_,_] sizeOf35 ?_;exact z40
 have h2:¬7≤s.kind:=(by simpa using aY)
 refine aC 1 ?_;refine OD.call an rfl rfl rfl call28 (Pg l w4 (fun t h=>(g.tb t h).small)) ⟨ot,trivial⟩ (eN _) ?_;rintro _ _ ⟨L,ad,cap,Sx,rfl,kf,aS,E,rfl⟩;refine OD.perm (S':=⟨b5,35,2,[.list 1 [] 0,.v (.int .i64 0)]⟩::⟨b4,25,1,[.list 5 [] 0]⟩::⟨b3,42,12,cg s⟩::⟨b2,25,1,[.list 5 ((l).flatMap dG) (l).length]⟩::(Sx++L.flatMap bT)) (show((Sx++L.flatMap bT)++(⟨b5,35,2,[.list 1 [] 0,.v (.int .i64 0)]⟩::⟨b4,25,1,[.list 5 [] 0]⟩::⟨b3,42,12,cg s⟩::[⟨b2,25,1,[.list 5 ((l).flatMap dG) (l).length]⟩]):List ag).Perm _ from(iv fun iU=>by simp only[map_append,map_cons,map_nil,sum_append,sum_cons,sum_nil];omega)) ?_;refine OD.alloc (ds:=[_]) an rfl rfl zeroValue25 rfl (fun b9=>?_);refine aN 0 [_] sizeOf25 ?_;refine aj 46 [3,4,5,9] ?_;refine aC 1 ?_;have rA:L.length=l.length:=(by rw[←E,length_map])
 refine OD.call (Sf:=gQ b9 ad L.length cap::(Sx++L.flatMap bT)) (R:=⟨b5,35,2,[.list 1 [] 0,.v (.int .i64 0)]⟩::⟨b4,25,1,[.list 5 [] 0]⟩::⟨b3,42,12,cg s⟩::[⟨b2,25,1,[.list 5 ((l).flatMap dG) (l).length]⟩]) an rfl rfl rfl call29 (afw hm hw ht hG L aS w4 (fun o ho=>⟨n,hn,g.tb _ (by rw[←E];exact mem_map_of_mem ho)⟩) s fq (by have:=hf.ok.1;omega) (by have:=hf.ok.2.1;omega) BQ (by have:=hf.ok.2.2.1;omega) ho fM oT zB b9 ad cap Sx kf) ⟨ot,ot,trivial⟩ (show(gQ b9 ad L.length cap::⟨b5,35,2,[.list 1 [] 0,.v (.int .i64 0)]⟩::⟨b4,25,1,[.list 5 [] 0]⟩::⟨b3,42,12,cg s⟩::⟨b2,25,1,[.list 5 ((l).flatMap dG) (l).length]⟩::(Sx++L.flatMap bT):List ag).Perm ((gQ b9 ad L.length cap::(Sx++L.flatMap bT))++(⟨b5,35,2,[.list 1 [] 0,.v (.int .i64 0)]⟩::⟨b4,25,1,[.list 5 [] 0]⟩::⟨b3,42,12,cg s⟩::[⟨b2,25,1,[.list 5 ((l).flatMap dG) (l).length]⟩])) from(iv fun iU=>by simp only[map_append,map_cons,map_nil,sum_append,sum_cons,sum_nil];omega)) ?_;rintro _ S9 ⟨rfl,h9⟩;rw[E] at h9
 refine OD.perm (S':=⟨b5,35,2,[.list 1 [] 0,.v (.int .i64 0)]⟩::⟨b4,25,1,[.list 5 [] 0]⟩::⟨b3,42,12,cg s⟩::⟨b2,25,1,[.list 5 ((l).flatMap dG) (l).length]⟩::S9) (show(S9++(⟨b5,35,2,[.list 1 [] 0,.v (.int .i64 0)]⟩::⟨b4,25,1,[.list 5 [] 0]⟩::⟨b3,42,12,cg s⟩::[⟨b2,25,1,[.list 5 ((l).flatMap dG) (l).length]⟩]):List ag).Perm _ from(iv fun iU=>by simp only[map_append,map_cons,map_nil,sum_append,sum_cons,sum_nil];omega)) ?_;rw[E];unfold Dw;refine aD 3 ?_;refine OD.alloc (ds:=[_,_]) an rfl rfl zeroValue35 rfl (fun kL=>?_);refine aN 0 [_,_] sizeOf35 ?_;refine aj 46 [4,5,9,10,11] ?_;refine ae [4,5,9,10,11,39] ?_;refine aq (fun bC bY=>?_) (fun bC bY=>?_)
 ·have h3:(er l s).2.2≠0:=(by simpa using bC)
  have aT:l7 l s=([],(([],0),(er l s).2.2)):=(by unfold l7;rw[if_neg h1,if_neg h2,if_pos h3])
  refine aC 3 ?_;refine aN 2 [_] sizeOf25 ?_;refine aN 1 [_,_] sizeOf35 ?_;exact z40
 have h3:¬(er l s).2.2≠0:=(by simpa using bC)
 have aT:l7 l s=((er l s).1,((er l s).2.1,0)):=(by unfold l7;rw[if_neg h1,if_neg h2,if_neg h3])
 obtain⟨L',I,kg,O,U,Z,ajD,hS⟩:=h9 (Classical.not_not.1 h3);obtain⟨GO,um⟩:=GR (Classical.not_not.1 h3);have xB:=aaD (G:=G) (er l s).1 GO um;refine CD.perm (S':=⟨kL,35,2,[.list 1 ((er l s).2.1.1.flatMap gB) (er l s).2.1.1.length,.v (.int .i64 (er l s).2.1.2)]⟩::⟨b5,35,2,[.list 1 [] 0,.v (.int .i64 0)]⟩::⟨b4,25,1,[.list 5 [] 0]⟩::⟨b3,42,12,cg s⟩::⟨b2,25,1,[.list 5 ((l).flatMap dG) (l).length]⟩::(gQ b9 I L'.length kg::(O++L'.flatMap bT))) (show((⟨kL,35,2,[.list 1 ((er l s).2.1.1.flatMap gB) (er l s).2.1.1.length,.v (.int .i64 (er l s).2.1.2)]⟩::⟨b5,35,2,[.list 1 [] 0,.v (.int .i64 0)]⟩::⟨b4,25,1,[.list 5 [] 0]⟩::⟨b3,42,12,cg s⟩::[⟨b2,25,1,[.list 5 ((l).flatMap dG) (l).length]⟩])++S9:List ag).Perm ((⟨kL,35,2,[.list 1 ((er l s).2.1.1.flatMap gB) (er l s).2.1.1.length,.v (.int .i64 (er l s).2.1.2)]⟩::⟨b5,35,2,[.list 1 [] 0,.v (.int .i64 0)]⟩::⟨b4,25,1,[.list 5 [] 0]⟩::⟨b3,42,12,cg s⟩::[⟨b2,25,1,[.list 5 ((l).flatMap dG) (l).length]⟩])++(gQ b9 I L'.length kg::(O++L'.flatMap bT))) from Perm.append_left ((⟨kL,35,2,[.list 1 ((er l s).2.1.1.flatMap gB) (er l s).2.1.1.length,.v (.int .i64 (er l s).2.1.2)]⟩::⟨b5,35,2,[.list 1 [] 0,.v (.int .i64 0)]⟩::⟨b4,25,1,[.list 5 [] 0]⟩::⟨b3,42,12,cg s⟩::[⟨b2,25,1,[.list 5 ((l).flatMap dG) (l).length]⟩]):List ag) hS) ?_
 refine CD.wk (Wk.cover (A:=gQ b9 I L'.length kg) (R:=⟨kL,35,2,[.list 1 ((er l s).2.1.1.flatMap gB) (er l s).2.1.1.length,.v (.int .i64 (er l s).2.1.2)]⟩::⟨b5,35,2,[.list 1 [] 0,.v (.int .i64 0)]⟩::⟨b4,25,1,[.list 5 [] 0]⟩::⟨b3,42,12,cg s⟩::[⟨b2,25,1,[.list 5 ((l).flatMap dG) (l).length]⟩]) (Sd:=O++L'.flatMap bT) (cs':=[.list 5 (((er l s).1).flatMap dG) ((er l s).1).length]) (show(⟨kL,35,2,[.list 1 ((er l s).2.1.1.flatMap gB) (er l s).2.1.1.length,.v (.int .i64 (er l s).2.1.2)]⟩::⟨b5,35,2,[.list 1 [] 0,.v (.int .i64 0)]⟩::⟨b4,25,1,[.list 5 [] 0]⟩::⟨b3,42,12,cg s⟩::⟨b2,25,1,[.list 5 ((l).flatMap dG) (l).length]⟩::(gQ b9 I L'.length kg::(O++L'.flatMap bT)):List ag).Perm _ from(iv fun iU=>by simp only[map_append,map_cons,map_nil,sum_append,sum_cons,sum_nil];omega)) ⟨by rw[←ajD,length_map];exact E3 U Z (fun B h=>h),trivial⟩) ?_;refine CD.skip ?_;refine CD.seq ?_;refine fK 4 (ap (eraseIdx _ 3)) ?_ (fun _ h=>(Sublist.map _ (eraseIdx_sublist _ 3)).subset h)
 refine ax 0 rfl (cJ (mk:=Op.load 25) rfl ot (by first|exact pX (k:=0) (ds:=[_]) rfl rfl isAgg25 sizeOf25 rfl rfl|exact jN jM isAgg25 sizeOf25 w5|exact jN jZ isAgg25 sizeOf25 w5|exact dJ (k:=0) jM rfl rfl rfl isAgg25 sizeOf25 w5|exact dJ (k:=1) jM rfl rfl rfl isAgg25 sizeOf25 w5|exact dJ (k:=2) jM rfl rfl rfl isAgg25 sizeOf25 w5|exact dJ (k:=3) jM rfl rfl rfl isAgg25 sizeOf25 w5|exact dJ (k:=4) jM rfl rfl rfl isAgg25 sizeOf25 w5|exact dJ (k:=5) jM rfl rfl rfl isAgg25 sizeOf25 w5|exact dJ (k:=0) jZ rfl rfl rfl isAgg25 sizeOf25 w5|exact dJ (k:=1) jZ rfl rfl rfl isAgg25 sizeOf25 w5|exact dJ (k:=2) jZ rfl rfl rfl isAgg25 sizeOf25 w5|exact dJ (k:=3) jZ rfl rfl rfl isAgg25 sizeOf25 w5|exact dJ (k:=4) jZ rfl rfl rfl isAgg25 sizeOf25 w5|exact dJ (k:=5) jZ rfl rfl rfl isAgg25 sizeOf25 w5|exact qb (ds:=[_]) isAgg25 sizeOf25 rfl rfl)) ?_
 refine ax 2 rfl (cJ (mk:=Op.load 35) rfl ot (by first|exact pX (k:=1) (ds:=[_,_]) rfl rfl isAgg35 sizeOf35 rfl rfl|exact jN jM isAgg35 sizeOf35 w5|exact jN jZ isAgg35 sizeOf35 w5|exact dJ (k:=0) jM rfl rfl rfl isAgg35 sizeOf35 w5|exact dJ (k:=1) jM rfl rfl rfl isAgg35 sizeOf35 w5|exact dJ (k:=2) jM rfl rfl rfl isAgg35 sizeOf35 w5|exact dJ (k:=3) jM rfl rfl rfl isAgg35 sizeOf35 w5|exact dJ (k:=4) jM rfl rfl rfl isAgg35 sizeOf35 w5|exact dJ (k:=5) jM rfl rfl rfl isAgg35 sizeOf35 w5|exact dJ (k:=0) jZ rfl rfl rfl isAgg35 sizeOf35 w5|exact dJ (k:=1) jZ rfl rfl rfl isAgg35 sizeOf35 w5|exact dJ (k:=2) jZ rfl rfl rfl isAgg35 sizeOf35 w5|exact dJ (k:=3) jZ rfl rfl rfl isAgg35 sizeOf35 w5|exact dJ (k:=4) jZ rfl rfl rfl isAgg35 sizeOf35 w5|exact dJ (k:=5) jZ rfl rfl rfl isAgg35 sizeOf35 w5|exact qb (ds:=[_,_]) isAgg35 sizeOf35 rfl rfl)) ?_;refine dm.later rfl ?_;refine AD.one (i:=1) ay ?_;refine jv call28 (xB) ?_;refine AD.one (i:=3) ay ?_;refine dN 3 [_] sizeOf25 ?_;refine eA ?_;refine aN 2 [_,_] sizeOf35 ?_;refine aD 1 ?_;first|refine OD.cells (k:=0) (cs':=[.list 1 [] 0,_]) rfl ⟨gd,eR,trivial⟩ rfl ?_|skip
 first|refine OD.cells (k:=1) (cs':=[.list 1 [] 0,_]) rfl ⟨gd,eR,trivial⟩ rfl ?_|skip
 first|refine OD.cells (k:=1) (cs':=[.list 5 [] 0]) rfl ⟨gd,trivial⟩ rfl ?_|skip
 first|refine OD.cells (k:=2) (cs':=[.list 5 [] 0]) rfl ⟨gd,trivial⟩ rfl ?_|skip
 refine aj 46 [4,5,6] ?_;exact ue

end Go.Proofs.YtbcmjoaggammcaaGreatDoor.Ba
namespace Go.Proofs.YtbcmjoaggammcaaGreatDoor.Ba
open List
open Go.Proofs.Tryz
open Go.RowKit V Pk Tr Vl Go.Proofs.YtbcmjoaggammcaaGreatDoor.Nm Pc Cd Ex Tw
open Pa (cQ cg)
variable {t:aP} {n:Nat} {i:Int}
theorem eO.mono{t:aP}{a b:Nat}(g:eO t a)(h:a≤b):eO t b:=⟨g.nm,g.av,g.eK,g.ix.mono h,g.row,g.iN⟩
structure nw (t:aP) (n:Nat) (D:List Int):Prop where
 nm:cM t.nm=0
 av:t.av=dH
 eK:t.rows.length≤40
 ix:iB t.ix n
 row:∀i (h:i<t.rows.length),t.rows[i]≠[]→Pc.dW dH t.rows[i]=0∧(∀v∈t.rows[i],v.Ok)∧((i:Int)∉D→(cX t.rows[i],(i:Int))∈en t.ix)
 iN:∀x∈en t.ix,0≤x.2∧x.2∉D∧∃h:x.2.toNat<t.rows.length,t.rows[x.2.toNat]≠[]∧x.1=cX t.rows[x.2.toNat]
theorem eO.d(g:eO t n):nw t n []:=⟨g.nm,g.av,g.eK,g.ix,fun i h hn=>⟨(g.row i h hn).1,(g.row i h hn).2.1,fun _=>(g.row i h hn).2.2⟩,fun x hx=>⟨(g.iN x hx).1,not_mem_nil,(g.iN x hx).2⟩⟩
theorem nw.tb(g:nw t n []):eO t n:=⟨g.nm,g.av,g.eK,g.ix,fun i h hn=>⟨(g.row i h hn).1,(g.row i h hn).2.1,(g.row i h hn).2.2 not_mem_nil⟩,fun x hx=>⟨(g.iN x hx).1,(g.iN x hx).2.2⟩⟩
theorem aaN(g:eO t n)(hn:n≤300){row:List Vl}(aS:∀v∈row,v.Ok)(h:(gm t row).2=0):eO (gm t row).1 (n+1)∧(gm t row).1.rows.length=t.rows.length+1:=by
 unfold gm at h ⊢;by_cases h1:Pc.dW t.av row=0
 ·rw[if_neg (fun e=>e h1)] at h ⊢;cases h2:gZ t.ix (cX row) (dD t.ix) with
  | true=>rw[h2,if_pos rfl] at h;cases h
  | false =>
   rw[h2,if_neg w7] at h;rw[if_neg w7];by_cases h3:t.rows.length=40
   ·rw[if_pos h3] at h;cases h
   rw[if_neg h3];have h4:Pc.dW dH row=0:=(by rw[←g.av];exact h1)
   obtain⟨g1,g2,g3⟩:=Eo g.ix hn ((Ep g.ix).1 h2) (v8 h4) (Int.natCast_nonneg t.rows.length);have I:=g.eK;refine⟨⟨g.nm,g.av,by show(t.rows++[row]).length≤40;rw[length_append,length_singleton];omega,g1,fun i hi hne=>?_,fun x hx=>?_⟩,by show(t.rows++[row]).length=_;rw[length_append,length_singleton]⟩
   ·simp only at hi hne ⊢;rw[length_append,length_singleton] at hi;by_cases hl:i<t.rows.length
    ·have e:(t.rows++[row])[i]'Cf=t.rows[i]:=getElem_append_left hl;rw[e] at hne ⊢;obtain⟨p1,p2,p3⟩:=g.row i hl hne;exact⟨p1,p2,(g3 _).2 (.inr p3)⟩
    have E:i=t.rows.length:=(by omega)
    subst E;have e:(t.rows++[row])[t.rows.length]'Cf=row:=(by rw[getElem_append_right (Nat.le_refl _)];simp)
    rw[e] at hne ⊢;exact⟨h4,aS,(g3 _).2 (.inl rfl)⟩
   rcases(g3 x).1 hx with rfl|hx
   ·refine⟨Int.natCast_nonneg _,by show t.rows.length<(t.rows++[row]).length;rw[length_append,length_singleton];omega,?_⟩;have e:(t.rows++[row])[t.rows.length]'Cf=row:=(by rw[getElem_append_right (Nat.le_refl _)];simp)
    show(t.rows++[row])[t.rows.length]'_≠[]∧cX row=cX ((t.rows++[row])[t.rows.length]'_);rw[e];exact⟨fun e=>(by have:=pi h4;rw[e] at this;cases this),rfl⟩
   obtain⟨x0,x1,O,U⟩:=g.iN x hx;have e:(t.rows++[row])[x.2.toNat]'Cf=t.rows[x.2.toNat]:=getElem_append_left x1;refine⟨x0,by show _<(t.rows++[row]).length;rw[length_append,length_singleton];omega,?_⟩;show(t.rows++[row])[x.2.toNat]'_≠[]∧x.1=cX ((t.rows++[row])[x.2.toNat]'_);rw[e];exact⟨O,U⟩
 rw[if_pos h1] at h;exact absurd h h1
theorem Pt{n:Nat}:∀{l:List Int} {t:aP},eO t n→l.Nodup→(∀i∈l,gk t i)→eO (qX t l) n∧(qX t l).rows.length=t.rows.length
 | [],_,g,_,_=>⟨g,rfl⟩
 | i::r,t,g,hn,hi=>by
  rw[nodup_cons] at hn;have h1:=Pt (Pq g (hi i mem_cons_self)) hn.2 fun j hj=>SJ (hi j (mem_cons_of_mem _ hj)) (fun e=>hn.1 (e ▸ hj)) (hi i mem_cons_self).1;refine⟨h1.1,h1.2.trans ?_⟩;show(t.rows.set _ _).length=_;rw[length_set]
theorem Ye(g:eO t n)(w:List aX):eO (mr t w).1 n∧(mr t w).1.rows.length=t.rows.length:=by
 unfold mr;split
 ·exact⟨g,rfl⟩
 exact Pt g (D7 g w) (uR g w)
theorem SQ{r:List Vl}{c:Nat}(hc:c≠0)(v:Vl):cX (r.set c v)=cX r:=by
 unfold cX;cases r with
 | nil=>rfl
 | cons a r=>cases c with
  | zero=>exact absurd rfl hc
  | succ c=>rfl
theorem Ui{D:List Int}(g:nw t n D)(hi:gk t i){c:Nat}(hc:c<dH.length){v:Vl}(hv:jC (dH[c]'hc).k v)(fM:v.Ok)(h0:c=0→v.k≠0∧i∈D):nw (qY t i c v) n D∧(∀j,gk t j→gk (qY t i c v) j):=by
 obtain⟨q0,q1,q2⟩:=hi;obtain⟨p1,p2,p3⟩:=g.row _ q1 q2;have U:=iZ (t:=t) q1;have Z:Pc.dW dH ((rowAt t i).set c v)=0:=(by rw[U];exact SK p1 hc hv fun h=>(h0 h).1)
 have jF:(rowAt t i).set c v≠[]:=fun e=>by have:=pi Z;rw[e] at this;cases this
 have hlen:(qY t i c v).rows.length=t.rows.length:=length_set;have I:∀j (h:j<t.rows.length),(qY t i c v).rows[j]'(by rw[hlen];exact h)=if i.toNat=j then (rowAt t i).set c v else t.rows[j]:=fun j h=>getElem_set ..
 refine⟨⟨g.nm,g.av,by rw[hlen];exact g.eK,g.ix,fun j hj hne=>?_,fun x hx=>?_⟩,fun j ⟨j0,j1,j2⟩=>⟨j0,by rw[hlen];exact j1,?_⟩⟩
 ·rw[hlen] at hj;rw[I j hj] at hne ⊢;by_cases E:i.toNat=j
  ·rw[if_pos E];refine⟨Z,fun w hw=>?_,fun hd=>?_⟩
   ·rcases mem_or_eq_of_mem_set hw with hw|hw
    ·rw[U] at hw;exact p2 w hw
    rw[hw];exact fM
   have rq:(j:Int)=i:=(by omega)
   by_cases O:c=0
   ·exact absurd (rq ▸ (h0 O).2) hd
   rw[SQ O,U];subst E;exact p3 hd
  rw[if_neg E] at hne ⊢;exact g.row j hj hne
 ·obtain⟨x0,xd,x1,x2,x3⟩:=g.iN x hx;refine⟨x0,xd,by rw[hlen];exact x1,?_⟩;rw[I _ x1];by_cases E:i.toNat=x.2.toNat
  ·rw[if_pos E];refine⟨jF,?_⟩;have rq:x.2=i:=(by omega)
   by_cases O:c=0
   ·exact absurd (rq ▸ (h0 O).2) xd
   rw[SQ O,U,x3];simp only[E]
  rw[if_neg E];exact⟨x2,x3⟩
 rw[I _ j1];split
 ·exact jF
 exact j2
theorem agX{x:aE}{D:List Int}(g:nw {t with ix:=x} n D)(hi:gk t i)(hd:i∉D):nw {t with ix:=gA x (dD x) (cX (rowAt t i))} n (i::D):=by
 obtain⟨q0,q1,q2⟩:=hi;obtain⟨p1,p2,p3⟩:=g.row _ q1 q2;have E:=iZ (t:=t) q1;have I:(cX (rowAt t i),i)∈en x:=by
  have:=p3 (by rw[Int.toNat_of_nonneg q0];exact hd);rw[Int.toNat_of_nonneg q0] at this;rw[E];exact this
 obtain⟨d1,d2⟩:=Is g.ix ((AF g.ix.val _).2 ⟨i,I⟩);refine⟨g.nm,g.av,g.eK,d1,fun j hj hne=>?_,fun y hy=>?_⟩
 ·obtain⟨r1,r2,U⟩:=g.row j hj hne;refine⟨r1,r2,fun hd2=>?_⟩;have O:(j:Int)≠i:=fun e=>hd2 (e ▸ mem_cons_self);refine(d2 _).2 ⟨U fun e=>hd2 (mem_cons_of_mem _ e),fun e=>O ?_⟩;have:=Ji g.ix (U fun e=>hd2 (mem_cons_of_mem _ e)) I e;simp only[Prod.mk.injEq] at this;exact this.2
 obtain⟨y1,y2⟩:=(d2 y).1 hy;obtain⟨z0,zd,z1,z2,z3⟩:=g.iN y y1;refine⟨z0,fun hm=>?_,z1,z2,z3⟩;rcases mem_cons.1 hm with e|hm
 ·refine y2 ?_;rw[z3,E];simp only[e]
 exact zd hm
theorem SR{t:aP}{n:Nat}:∀(l:List Int) (x:aE) (D:List Int),nw {t with ix:=x} n D→l.Nodup→(∀i∈l,gk t i∧i∉D)→∃D',nw {t with ix:=nS t x l} n D'∧∀i,i∈D'↔i∈l∨i∈D
 | [],x,D,g,_,_=>⟨D,g,fun i=>by simp⟩
 | i::r,x,D,g,hn,hi=>by
  rw[nodup_cons] at hn;obtain⟨D',h1,h2⟩:=SR r _ (i::D) (agX g (hi i mem_cons_self).1 (hi i mem_cons_self).2) hn.2 fun j hj=>⟨(hi j (mem_cons_of_mem _ hj)).1,fun e=>by
   rcases mem_cons.1 e with e|e
   ·exact hn.1 (e ▸ hj)
   exact(hi j (mem_cons_of_mem _ hj)).2 e⟩
  refine⟨D',h1,fun j=>(h2 j).trans ?_⟩;simp only[mem_cons];constructor
  ·rintro(h|h|h)
   ·exact .inl (.inr h)
   ·exact .inl (.inl h)
   exact .inr h
  rintro((h|h)|h)
  ·exact .inr (.inl h)
  ·exact .inl h
  exact .inr (.inr h)
theorem nw.ajE{D D':List Int}(g:nw t n D)(h:∀i,i∈D↔i∈D'):nw t n D':=⟨g.nm,g.av,g.eK,g.ix,fun i hi hne=>⟨(g.row i hi hne).1,(g.row i hi hne).2.1,fun hd=>(g.row i hi hne).2.2 fun e=>hd ((h _).1 e)⟩,fun x hx=>⟨(g.iN x hx).1,fun e=>(g.iN x hx).2.1 ((h _).2 e),(g.iN x hx).2.2⟩⟩
theorem ajF{D:List Int}(g:nw t n D)(hn:n≤300)(hi:gk t i)(hd:i∈D)(kN:gZ t.ix (cX (rowAt t i)) (dD t.ix)=false):nw {t with ix:=gz t.ix (dD t.ix) (cX (rowAt t i)) i} (n+1) (D.filter (·≠i)):=by
 obtain⟨q0,q1,q2⟩:=hi;obtain⟨p1,p2,p3⟩:=g.row _ q1 q2;have E:=iZ (t:=t) q1;obtain⟨g1,_,g3⟩:=Eo g.ix hn ((Ep g.ix).1 kN) (by rw[E];exact v8 p1) q0;have hf:∀j,j∈D.filter (·≠i)↔j∈D∧j≠i:=fun j=>by rw[mem_filter];simp
 refine⟨g.nm,g.av,g.eK,g1,fun j hj hne=>?_,fun y hy=>?_⟩
 ·obtain⟨r1,r2,O⟩:=g.row j hj hne;refine⟨r1,r2,fun hd2=>(g3 _).2 ?_⟩;by_cases e:(j:Int)=i
  ·left;have I:i.toNat=j:=(by omega)
   subst I;rw[E,Int.toNat_of_nonneg q0]
  right;exact O fun hm=>hd2 ((hf _).2 ⟨hm,e⟩)
 rcases(g3 y).1 hy with rfl|hy
 ·exact⟨q0,fun hm=>((hf _).1 hm).2 rfl,q1,q2,by rw[E]⟩
 obtain⟨z0,zd,z1,z2,z3⟩:=g.iN y hy;exact⟨z0,fun hm=>zd ((hf _).1 hm).1,z1,z2,z3⟩
theorem TN:∀(l:List Int) (vs:List Vl) (t:aP) (n:Nat) (D:List Int),nw t n D→n+l.length≤300→l.Nodup→vs.length=l.length→(∀i∈l,gk t i∧i∈D)→(∀v∈vs,v.Ok∧jC (dH[0]'w7).k v∧v.k≠0)→(j9 t l vs).2=0 →
  ∃D',nw (j9 t l vs).1 (n+l.length) D'∧(j9 t l vs).1.rows.length=t.rows.length∧∀i,i∈D'↔i∈D∧i∉l
 | [],[],t,n,D,g,_,_,_,_,_,_=>⟨D,g,rfl,fun i=>by simp⟩
 | [],_::_,_,_,_,_,_,_,h,_,_,_=>by cases h
 | _::_,[],_,_,_,_,_,_,h,_,_,_=>by cases h
 | i::r,v::s,t,n,D,g,hn,hnd,hl,hi,hv,h=>by
  rw[nodup_cons] at hnd;rw[length_cons] at hn hl;rw[length_cons] at hl;obtain⟨E,hid⟩:=hi i mem_cons_self;obtain⟨v1,v2,v3⟩:=hv v mem_cons_self;obtain⟨g1,jV⟩:=Ui g E (c:=0) w7 v2 v1 fun _=>⟨v3,hid⟩
  rw[j9] at h ⊢;cases iJ:gZ t.ix (cX (rowAt (qY t i 0 v) i)) (dD t.ix) with
  | true=>rw[iJ,if_pos rfl] at h;cases h
  | false =>
   rw[iJ,if_neg w7] at h;rw[if_neg w7];have g2:=ajF g1 w4 (jV i E) hid iJ;obtain⟨D',h1,h2,h3⟩:=TN r s _ (n+1) _ g2 w4 hnd.2 w4 (fun j hj=>⟨jV j (hi j (mem_cons_of_mem _ hj)).1,by rw[mem_filter];exact⟨(hi j (mem_cons_of_mem _ hj)).2,by simp;exact fun e=>hnd.1 (e ▸ hj)⟩⟩) (fun w hw=>hv w (mem_cons_of_mem _ hw)) h;refine⟨D',by rw[length_cons,show n+(r.length+1)=n+1+r.length by omega];exact h1,h2.trans (by show(t.rows.set _ _).length=_;rw[length_set]),fun j=>(h3 j).trans ?_⟩;rw[mem_filter,mem_cons];simp only[decide_eq_true_eq,ne_eq,not_or,and_assoc]
theorem SS{n:Nat}{c:Nat}(hc:c<dH.length)(az:c≠0):∀(l:List Int) (vs:List Vl) (t:aP),eO t n→(∀i∈l,gk t i)→(∀v∈vs,v.Ok∧jC (dH[c]'hc).k v)→eO (mD c t l vs) n∧(mD c t l vs).rows.length=t.rows.length
 | [],_,t,g,_,_=>by unfold mD;exact⟨g,rfl⟩
 | _::_,[],t,g,_,_=>by unfold mD;exact⟨g,rfl⟩
 | i::r,v::s,t,g,hi,hv=>by
  rw[mD];obtain⟨v1,v2⟩:=hv v mem_cons_self;obtain⟨g1,jV⟩:=Ui g.d (hi i mem_cons_self) hc v2 v1 fun e=>absurd e az;have h1:=SS hc az r s _ g1.tb (fun j hj=>jV j (hi j (mem_cons_of_mem _ hj))) fun w hw=>hv w (mem_cons_of_mem _ hw);exact⟨h1.1,h1.2.trans (by show(t.rows.set _ _).length=_;rw[length_set])⟩
theorem aea{k:Int}{c:Int}{v:Vl}(h:jC k v)(hk:¬(k≠c∧k≠0)):jC c v:=by
 refine⟨h.1,?_⟩;have:=h.2;omega
theorem aaO(g:eO t n)(s:cQ)(kN:∀o∈s.bE,o.nm.size≤maxLen)(fM:∀o∈s.bE,o.v.Ok)(hn:n≤260):eO (gK t s).1 (n+t.rows.length)∧(gK t s).1.rows.length=t.rows.length:=by
 have hz:eO t (n+t.rows.length)∧t.rows.length=t.rows.length:=⟨g.mono w4,rfl⟩
 unfold gK;by_cases hA:bM t.av s.set<0
 ·rw[if_pos hA];exact hz
 rw[if_neg hA];by_cases hB:(ec t.av s.bE).2≠0
 ·rw[if_pos hB];exact hz
 rw[if_neg hB];by_cases hC:(ec t.av s.bE).1≠(t.av.getD (bM t.av s.set).toNat ⟨⟨#[]⟩,0⟩).k∧(ec t.av s.bE).1≠0
 ·rw[if_pos hC];exact hz
 rw[if_neg hC];by_cases hD:(au t s.ah).2≠0
 ·rw[if_pos hD];exact hz
 rw[if_neg hD];by_cases hN:(iF t (bM t.av s.set) s.bE [] (au t s.ah).1).2≠0
 ·rw[if_pos hN];exact hz
 rw[if_neg hN];have Z:=Classical.not_not.1 hN;have hkz:(ec dH s.bE).2=0:=(by rw[←g.av];exact Classical.not_not.1 hB)
 have E:=Iy g kN fM hkz (au t s.ah).1 [] (uR g s.ah) Z (fun v O=>by cases O);have hlen:=Q1 (t:=t) (c:=bM t.av s.set) (e:=s.bE) (au t s.ah).1 [] Z;have XD:=(JN (l:=t.av) (nm:=s.set)).2;have hcc:t.av.length=dH.length:=(by rw[g.av])
 have U:(bM t.av s.set).toNat<dH.length:=(by omega)
 have GV:∀v,jC (ec dH s.bE).1 v→jC (dH[(bM t.av s.set).toNat]'U).k v:=fun v O=>by
  refine aea O ?_;rw[g.av] at hC;have e:dH.getD (bM dH s.set).toNat ⟨⟨#[]⟩,0⟩=dH[(bM t.av s.set).toNat]'U:=by
   rw[getD_eq_getElem?_getD];rw[show(bM dH s.set).toNat=(bM t.av s.set).toNat by rw[g.av]];rw[getElem?_eq_getElem U];rfl
  rw[e] at hC;exact hC
 by_cases hP:0<bM t.av s.set
 ·rw[if_pos hP];have h1:=SS (c:=(bM t.av s.set).toNat) U w4 (au t s.ah).1 (iF t (bM t.av s.set) s.bE [] (au t s.ah).1).1 t g (uR g s.ah) fun v O=>⟨(E v O).1,GV v (E v O).2.1⟩
  exact⟨h1.1.mono w4,h1.2⟩
 rw[if_neg hP];have x8:bM t.av s.set=0:=(by omega)
 by_cases hM:(j9 {t with ix:=nS t t.ix (au t s.ah).1} (au t s.ah).1 (iF t (bM t.av s.set) s.bE [] (au t s.ah).1).1).2≠0
 ·rw[if_pos hM];exact hz
 rw[if_neg hM];have hnd:=D7 g s.ah;have I:=uR g s.ah;have mB:=EQ g s.ah;obtain⟨D,d1,d2⟩:=SR (au t s.ah).1 t.ix [] g.d hnd fun i hi=>⟨I i hi,not_mem_nil⟩
 obtain⟨D',e1,e2,e3⟩:=TN (au t s.ah).1 (iF t (bM t.av s.set) s.bE [] (au t s.ah).1).1 _ n D d1 w4 hnd (by rw[hlen];simp) (fun i hi=>⟨I i hi,(d2 i).2 (.inl hi)⟩) (fun v O=>⟨(E v O).1,by have:=GV v (E v O).2.1;simp only[x8] at this;exact this,(E v O).2.2 x8⟩) (Classical.not_not.1 hM);have hD':eO _ _:=(e1.ajE (D':=[]) fun i=>by rw[e3,d2];simp).tb;have hle:(au t s.ah).1.length≤t.rows.length:=by
  have h1:((au t s.ah).1.map Int.toNat).Nodup:=by
   rw[Nodup,pairwise_map];refine(Pairwise.and_mem.1 hnd).imp fun {a b} h e=>h.2.2 ?_;have:=(I a h.1).1;have:=(I b h.2.1).1;omega
  have h2:=h1.length_le_of_subset (l₂:=range t.rows.length) fun x hx=>by
   obtain⟨y,hy,rfl⟩:=mem_map.1 hx;exact mem_range.2 (I y hy).2.1
  rwa [length_map,length_range] at h2
 exact⟨hD'.mono w4,e2⟩

end Go.Proofs.YtbcmjoaggammcaaGreatDoor.Ba
namespace Go.Proofs.YtbcmjoaggammcaaGreatDoor.Pa
open List
open Go.Proofs.Tryz
open Go.RowKit V Pk Vl Go.Proofs.YtbcmjoaggammcaaGreatDoor.Nm Pc
variable {t:ByteArray}
theorem aeb{s:ByteArray}(h:cM s=0):nO s=true∧s.size≤8:=by
 unfold cM at h;split at h
 ·cases h
 split at h
 ·cases h
 rename_i h1 h2;rw[Bool.or_eq_true,Bool.not_eq_true'] at h2;refine⟨?_,by omega⟩;cases hw:nO s with
 | true=>rfl
 | false=>exact absurd (.inl hw) h2
variable {G:List (Nat×List Value)}
def tu:List Vl→ByteArray
 | []=>⟨#[120]⟩
 | v::_=>v.s
def nT(s:cQ):Prop:=mX s∧1≤s.kind∧s.kind≤6∧s.gN≤9223372036854775807∧iz s=0
structure Nv (w:List aX):Prop where
 l:w.length≤40
 f:nu w=0
 b:∀o∈w,o.nm.size≤maxLen∧-9223372036854775808≤o.v.n∧o.v.n≤9223372036854775807
theorem aec:Nv []:=⟨Nat.zero_le _,rfl,fun _ h=>by cases h⟩
theorem aaP(t:Tw):∀o∈hU 3 t,-20≤o.v.n∧o.v.n≤40:=by
 have hz:∀j nm,-20≤(⟨j,bQ,nm⟩:aX).v.n∧(⟨j,bQ,nm⟩:aX).v.n≤40:=fun _ _=>⟨by show(-20:Int)≤0;decide,by show(0:Int)≤40;decide⟩
 have u3:∀n s,-20≤(rQ n s).v.n∧(rQ n s).v.n≤40:=fun n s=>by
  show -20≤(o8 ⟨n,dX n 40-20,s⟩).n∧(o8 ⟨n,dX n 40-20,s⟩).n≤40;have O:=jW n (show(1:Int)≤40 by decide);have h2:=jW (dX n 40-20) (show(1:Int)≤2 by decide);unfold o8;split
  ·dsimp only;omega
  split
  ·dsimp only;omega
  split
  ·dsimp only;omega
  exact⟨by show(-20:Int)≤0;decide,by show(0:Int)≤40;decide⟩
 have E:∀k n s,∀o∈mo k n s,-20≤o.v.n∧o.v.n≤40:=fun k n s o ho=>by
  unfold mo at ho;split at ho<;>(simp only[mem_singleton] at ho;subst ho)
  ·exact hz _ _
  exact u3 _ _
 have key:∀(r:Nat) (t:Tw),∀o∈hU r t,-20≤o.v.n∧o.v.n≤40:=by
  intro r;induction r with
  | zero=>intro t;obtain⟨k,n,s,ts⟩:=t;exact E k n s
  | succ r ih =>
   intro t o ho;obtain⟨k,n,s,ts⟩:=t;have I:∀i:Nat,∀o∈gw r ts n s i,-20≤o.v.n∧o.v.n≤40:=fun i o ho=>by
    unfold gw at ho;split at ho
    ·exact ih _ o ho
    exact E _ _ _ o ho
   rw[vR] at ho;split at ho
   ·simp only[mem_singleton] at ho;subst ho;exact u3 _ _
   split at ho
   ·simp only[mem_singleton] at ho;subst ho;exact hz _ _
   split at ho
   ·rcases mem_append.1 ho with ho|ho
    ·exact I 0 o ho
    simp only[mem_singleton] at ho;subst ho;exact hz _ _
   rcases mem_append.1 ho with ho|ho
   ·rcases mem_append.1 ho with ho|ho
    ·exact I 0 o ho
    exact I 1 o ho
   simp only[mem_singleton] at ho;subst ho;exact hz _ _
 exact key 3 t
theorem SU(t:Tw):Nv (hU 3 t):=by
 have h:=ON t;refine⟨by omega,?_,fun o ho=>⟨abw (abv t) o ho,?_⟩⟩
 ·unfold nu;rw[if_neg w4];exact OO t
 have:=aaP t o ho;omega
theorem aaQ(s:cQ):lV s s=true:=by
 unfold lV;simp only[Bool.and_eq_true,beq_iff_eq,AV,and_self]
theorem yt{s:cQ}(ht:cM s.table=0)(he:ko s=0)(hb:jf s=s):iz s=0:=by
 unfold iz;rw[if_neg (fun h=>h.2 ht),hb,if_neg (fun h=>by rw[aaQ] at h;cases h.2),he]
theorem small{x:ByteArray}(h:cM x=0):x.size≤maxLen:=Nat.le_trans (aeb h).2 w7
def sy(s:cQ):Prop:=s.ah=[]∧∀w,Nv w→(4≤s.kind∨w=[])→nT {s with ah:=w}
theorem sy.wS{s:cQ}(h:sy s):nT s:=by
 have:=h.2 [] aec (.inr rfl);rw[←h.1] at this;exact this
theorem Oi(ht:cM t=0):sy {iD with kind:=1,table:=t,av:=dH}:=⟨rfl,fun w hw h=>by
 have E:w=[]:=h.resolve_left (by show ¬(4:Int)≤1;decide);subst E;exact⟨⟨⟨by show 4≤6;decide,Nat.zero_le _,Nat.zero_le _,Nat.zero_le _,Nat.zero_le _⟩,small ht,by show ∀c∈dH,c.n.size≤maxLen;decide,(fun _ h=>by cases h),Nat.zero_le _,Nat.zero_le _,(fun _ h=>by cases h),(fun _ h=>by cases h),(fun _ h=>by cases h)⟩,by show(1:Int)≤1;decide,by show(1:Int)≤6;decide,Cg,
  yt ht (show fB dH=0 by decide +kernel) ay⟩⟩
theorem acw(ht:cM t=0):sy {iD with kind:=2,table:=t}:=⟨rfl,fun w hw h=>by
 have E:w=[]:=h.resolve_left (by show ¬(4:Int)≤2;decide);subst E;exact⟨⟨⟨Nat.zero_le _,Nat.zero_le _,Nat.zero_le _,Nat.zero_le _,Nat.zero_le _⟩,small ht,(fun _ h=>by cases h),(fun _ h=>by cases h),Nat.zero_le _,Nat.zero_le _,(fun _ h=>by cases h),(fun _ h=>by cases h),(fun _ h=>by cases h)⟩,by show(1:Int)≤2;decide,by show(2:Int)≤6;decide,Cg,
  yt ht ay ay⟩⟩
theorem SV{x:Int}(h0:0≤x):iH ⟨2,x,⟨#[]⟩⟩=0:=by
 unfold iH;rw[if_neg (by intro h;have:=h.2;dsimp only at this;omega)];kernel_rfl
theorem aed{s:ByteArray}(h:s.size≤20):iH ⟨3,0,s⟩=0:=by
 unfold iH;rw[if_neg (by intro h;exact absurd h.1 (by show ¬(3:Int)=2;decide))];unfold cA;rw[if_neg (by show ¬(3:Int)=0;decide),if_neg (by show ¬(3:Int)=1;decide),if_neg (by show ¬(3:Int)=2;decide),if_pos rfl,if_neg (fun h=>h rfl),if_neg (by show ¬s.size>20;omega)]
theorem aaR(n:Int):iH (p9 n)=0∧-9223372036854775808≤(p9 n).n∧(p9 n).n≤9223372036854775807:=by
 have h:=jW n (show(1:Int)≤3 by decide);unfold p9;split
 ·exact⟨by decide,by decide,by decide⟩
 have h2:dX n 3=0∨dX n 3=1:=(by omega)
 rcases h2 with h2|h2<;>rw[h2]<;>exact⟨by decide,by decide,by decide⟩
theorem Zo(ht:cM t=0){x y b:Int}(hx:0≤x∧x<12)(hy:0≤y∧y<9){u:ByteArray}(Z:u.size≤6):sy {iD with kind:=3,table:=t,row:=[⟨2,x,⟨#[]⟩⟩,⟨2,y,⟨#[]⟩⟩,⟨3,0,u⟩,p9 b]}:=⟨rfl,fun w hw h=>by
 have E:w=[]:=h.resolve_left (by show ¬(4:Int)≤3;decide);subst E;have l1:=SV hx.1;have l2:=SV hy.1;have l3:iH ⟨3,0,u⟩=0:=aed w4;obtain⟨l4,O,U⟩:=aaR b;refine⟨⟨⟨Nat.zero_le _,by show 4≤6;decide,Nat.zero_le _,Nat.zero_le _,Nat.zero_le _⟩,small ht,(fun _ h=>by cases h),(fun _ h=>by cases h),Nat.zero_le _,Nat.zero_le _,fun v I=>?_,(fun _ h=>by cases h),(fun _ h=>by cases h)⟩,by show(1:Int)≤3;decide,by show(3:Int)≤6;decide,Cg,yt ht ?_ ay⟩
 ·simp only[mem_cons,not_mem_nil,or_false] at I;rcases I with rfl|rfl|rfl|rfl
  ·dsimp only;omega
  ·dsimp only;omega
  ·dsimp only;omega
  exact⟨O,U⟩
 show dW [⟨2,x,⟨#[]⟩⟩,⟨2,y,⟨#[]⟩⟩,⟨3,0,u⟩,p9 b]=0;unfold dW;rw[if_neg bq];simp[jB,l1,l2,l3,l4]⟩
theorem Zp(ht:cM t=0){N:List ByteArray}(E:N.length≤6∧∀x∈N,cM x=0){c:Bool}(hc:c=true→N=[]){o:ByteArray}(ho:o=⟨#[]⟩∨cM o=0){d:Bool}(hd:o=⟨#[]⟩→d=false){m:Int}(hm:-1≤m∧m≤7):sy {iD with kind:=4,table:=t,names:=N,count:=c,order:=o,down:=d,gN:=m}:=⟨rfl,fun w hw h=>by
 have I:o.size≤maxLen:=(by rcases ho with rfl|h;exact Nat.zero_le _;exact small h)
 refine⟨⟨⟨Nat.zero_le _,Nat.zero_le _,E.1,hw.l,Nat.zero_le _⟩,small ht,(fun _ h=>by cases h),fun x hx=>small (E.2 x hx),I,Nat.zero_le _,(fun _ h=>by cases h),hw.b,(fun _ h=>by cases h)⟩,by show(1:Int)≤4;decide,by show(4:Int)≤6;decide,(by show _≤(9223372036854775807:Int);dsimp only;omega),yt ht ?_ ay⟩;show oC {iD with kind:=4,table:=t,names:=N,count:=c,ah:=w,order:=o,down:=d,gN:=m}=0;have gC:jB cM N=0:=by
  have key:∀l:List ByteArray,(∀x∈l,cM x=0)→jB cM l=0:=by
   intro l;induction l with
   | nil=>intro _;rfl
   | cons a r ih=>intro h;rw[jB,if_neg (by rw[h a mem_cons_self];decide)];exact ih fun x hx=>h x (mem_cons_of_mem _ hx)
  exact key N E.2
 unfold oC;dsimp only;rw[if_neg w4,if_neg w4,if_neg (by
  rintro(⟨h1,h2⟩|⟨h1,h2⟩)
  ·rw[hc h1] at h2;simp at h2
  rw[hd (AV.1 h2)] at h1;cases h1),if_neg (by rw[gC];decide),if_neg (by rw[hw.f];decide)]
 split
 ·rfl
 rename_i h2;exact ho.resolve_left fun h=>h2 (AV.2 h)⟩
theorem Zq(ht:cM t=0){c:ByteArray}(hc:cM c=0)(E:Tw):sy {iD with kind:=5,table:=t,set:=c,bE:=hU 3 E}:=⟨rfl,fun w hw h=>by
 have ho:=SU E;refine⟨⟨⟨Nat.zero_le _,Nat.zero_le _,Nat.zero_le _,hw.l,ho.l⟩,small ht,(fun _ h=>by cases h),(fun _ h=>by cases h),Nat.zero_le _,small hc,(fun _ h=>by cases h),hw.b,ho.b⟩,by show(1:Int)≤5;decide,by show(5:Int)≤6;decide,Cg,yt ht ?_ ay⟩;show(if cM c=0 then (if iG (hU 3 E)=0 then nu w else iG (hU 3 E)) else cM c)=0;rw[if_pos hc,if_pos (OO E),hw.f]⟩
theorem Zr(ht:cM t=0):sy {iD with kind:=6,table:=t}:=⟨rfl,fun w hw h=>by
 refine⟨⟨⟨Nat.zero_le _,Nat.zero_le _,Nat.zero_le _,hw.l,Nat.zero_le _⟩,small ht,(fun _ h=>by cases h),(fun _ h=>by cases h),Nat.zero_le _,Nat.zero_le _,(fun _ h=>by cases h),hw.b,(fun _ h=>by cases h)⟩,by show(1:Int)≤6;decide,by show(6:Int)≤6;decide,Cg,yt ht hw.f ay⟩⟩
def eI:List ByteArray:=[⟨#[116]⟩,⟨#[117]⟩]
def fX:List ByteArray:=[⟨#[]⟩,⟨#[110]⟩,⟨#[115]⟩,⟨#[105,100]⟩]
def Ap:List ByteArray:=[⟨#[110]⟩,⟨#[110]⟩,⟨#[115]⟩,⟨#[98]⟩,⟨#[105,100]⟩]
theorem Fv:∀x∈eI,cM x=0:=by decide +kernel
theorem agY:∀x∈fX,x.size=0∨cM x=0:=by decide +kernel
theorem Kp:∀x∈Ap,cM x=0:=by decide +kernel
theorem sV(n:Int)(h1:-9223372036854775808≤n)(h2:n≤9223372036854775807):VP Tryz.prog G 26 [.v (.int .i64 n)] (.agg [.v (.int .i64 (p9 n).k),.v (.int .i64 (p9 n).n),.v (.string (p9 n).s)]):=by
 refine VC.body func26 rfl ntmps26 aO fun X0 w0 aZ=>?_;refine bX ?_;refine OD.alloc (ds:=[_,_,_]) an rfl rfl zeroValue30 rfl (fun b2=>?_);refine aj 10 [0,2] ?_;refine cL [0,2,5] (kS G n 3 h1 h2 w7) ?_;refine aq (fun az aH=>?_) (fun az aH=>?_)
 ·refine aC 1 ?_;refine aN 0 [_,_,_] sizeOf30 ?_;refine aj 10 [2] ?_;refine aJ [] ?_;refine⟨?_,rfl⟩;unfold p9 bQ;simp_all
 refine aC 1 ?_;refine dR call11 (kS G n 3 h1 h2 w7) ?_;refine aD 1 ?_;refine aN 0 [_,_,_] sizeOf30 ?_;refine aj 10 [2] ?_;refine aJ [] ?_;refine⟨?_,rfl⟩;unfold p9 bQ;simp_all

theorem afy{s:ByteArray}(h:s.size=0):s=⟨#[]⟩:=by
 obtain⟨d⟩:=s;have:d = #[]:=Array.eq_empty_of_size_eq_zero h;rw[this]
theorem aaS(k t a b:Int)(row:List Vl)(O U:Int)(Z:ByteArray)(E:List Tw)(y1 y2:Int)(y3:ByteArray)(I:List Tw)(bare:Bool):VP Tryz.prog G 42 [.agg [.v (.int .i64 k),.v (.int .i64 t),.v (.int .i64 a),.v (.int .i64 b),.list 3 (row.flatMap cV) row.length,.v (.int .i64 O),.v (.int .i64 U),.v (.string Z),.list 4 (Tw.mg E) E.length,.v (.int .i64 y1),.v (.int .i64 y2),.v (.string y3),.list 4 (Tw.mg I) I.length,.v (.bool bare)]] (.v (.string (tu row))):=by
 refine VC.body func42 rfl ntmps42 aO fun X0 w0 aZ=>?_;refine bX ?_;refine OD.box (ds:=[_,_,_,_,_,_,_,_,_,_,_,_,_,_]) an rfl rfl ot rfl rfl (fun b1=>?_);refine aj 12 [1] ?_;refine ae [1,6] ?_;refine aq (fun az aH=>?_) (fun az aH=>?_)
 ·obtain⟨v,r,rfl⟩:∃v r,row=v::r:=(by (cases row;simp at az;exact⟨_,_,rfl⟩))
  refine cN [2] ?_;refine aQ 2 ?_ (h:=by exact(pV (mk:=Op.indexAddr 73) rfl ot bJ (by first|exact s8 runUnderlying73 sizeOf137 (j:=0) rfl bq|exact tv runUnderlying73 sizeOf137 (j:=0) rfl bq)));refine aQ 1 ?_ (h:=by exact(cJ (mk:=Op.load 9) rfl ot (by exact uT (i:=0) (j:=2) fh isAgg9 bq rfl)));refine bH ?_;refine aJ [] ?_;exact⟨rfl,rfl⟩
 obtain rfl:row=[]:=eq_nil_of_length_eq_zero (by simp at az;simp[az]);refine ae [2] ?_;exact z51
theorem NH : ∀ w, ((#[{ name := "Kind", type := 3, offset := 0, embedded := false, tag := "", pkgPath := "", byteOffset := 0 }, { name := "Table", type := 9, offset := 1, embedded := false, tag := "", pkgPath := "", byteOffset := 8 }, { name := "Cols", type := 38, offset := 2, embedded := false, tag := "", pkgPath := "", byteOffset := 24 }, { name := "Row", type := 27, offset := 3, embedded := false, tag := "", pkgPath := "", byteOffset := 48 }, { name := "Names", type := 39, offset := 4, embedded := false, tag := "", pkgPath := "", byteOffset := 72 }, { name := "Count", type := 4, offset := 5, embedded := false, tag := "", pkgPath := "", byteOffset := 96 }, { name := "Where", type := 40, offset := 6, embedded := false, tag := "", pkgPath := "", byteOffset := 104 }, { name := "Order", type := 9, offset := 7, embedded := false, tag := "", pkgPath := "", byteOffset := 128 }, { name := "Down", type := 4, offset := 8, embedded := false, tag := "", pkgPath := "", byteOffset := 144 }, { name := "Limit", type := 3, offset := 9, embedded := false, tag := "", pkgPath := "", byteOffset := 152 }, { name := "Set", type := 9, offset := 10, embedded := false, tag := "", pkgPath := "", byteOffset := 160 }, { name := "To", type := 40, offset := 11, embedded := false, tag := "", pkgPath := "", byteOffset := 176 }] : Array Field).mapM fun f => do pure (f.offset, ← sizeOf f.type) : Sem (Array (Nat × Nat))).run Tryz.prog w = .ok #[(0, 1), (1, 1), (2, 1), (3, 1), (4, 1), (5, 1), (6, 1), (7, 1), (8, 1), (9, 1), (10, 1), (11, 1)] w := fun w => by simp [sizeOf27, sizeOf3, sizeOf38, sizeOf39, sizeOf4, sizeOf40, sizeOf9]
theorem Yf(k t a b:Int)(row:List Vl)(x1 x2:Int)(x3:ByteArray)(E:List Tw)(y1 y2:Int)(y3:ByteArray)(I:List Tw)(bare:Bool)(dI:-9223372036854775808≤k)(fq:k≤9223372036854775807)(ht1:-9223372036854775808≤t)(ht2:t≤9223372036854775807)(U:-9223372036854775808≤a)(pF:a≤9223372036854775807)(iV:-9223372036854775808≤b)(oQ:b≤9223372036854775807)(ve:∀v∈row,v.s.size≤maxLen)(hto:(Tw.mk x1 x2 x3 E).Ok)(MS:(Tw.mk y1 y2 y3 I).Ok):VC Tryz.prog G 25 [.agg [.v (.int .i64 k),.v (.int .i64 t),.v (.int .i64 a),.v (.int .i64 b),.list 3 (row.flatMap cV) row.length,.v (.int .i64 x1),.v (.int .i64 x2),.v (.string x3),.list 4 (Tw.mg E) E.length,.v (.int .i64 y1),.v (.int .i64 y2),.v (.string y3),.list 4 (Tw.mg I) I.length,.v (.bool bare)]] [] (fun r S'=>∃s,r = .agg (cg s)∧S'=[]∧nT s∧s.kind=1+dX k 6):=by
 refine VC.body func25 rfl ntmps25 aO fun X0 w0 aZ=>?_;have aoP:=jW k (show(1:Int)≤6 by decide);have O:=kS G k 6 dI fq w7;generalize dX k 6=ki at *;have ajG:=jW t (show(1:Int)≤2 by decide);have FF:=kS G t 2 ht1 ht2 w7;generalize dX t 2=ti at *;obtain⟨tj,rfl⟩:=Int.eq_ofNat_of_zero_le ajG.1;have q9:tj<eI.length:=(by show tj<2;omega)
 have Z:=Fv eI[tj] (getElem_mem q9);generalize Un:eI[tj]=tn at *;refine bX ?_;refine OD.box (ds:=[_,_,_,_,_,_,_,_,_,_,_,_,_,_]) an rfl rfl ot rfl rfl (fun b1=>?_);refine OD.alloc (ds:=[_,_,_,_,_,_,_,_,_,_,_,_]) an rfl rfl zeroValue42 rfl (fun b2=>?_);refine aj 111 [1,2] ?_;refine CD.seq ?_;refine CD.mono (Q:=fun aW aK=>aW=Exit.normal∧∃(b3:Nat),(True)∧Wk aK (⟨111,[(1,.v (.pointer (some ⟨b1,0,none⟩))),(2,.v (.pointer (some ⟨b2,0,none⟩))),(3,.v (.pointer (some ⟨b3,0,none⟩)))],[⟨b3,42,12,[.v (.int .i64 (1+ki)),.v (.string tn),.v (.slice none 0 0),.v (.slice none 0 0),.v (.slice none 0 0),.v (.bool false),.v (.slice none 0 0),.v (.string ⟨#[]⟩),.v (.bool false),.v (.int .i64 (-1)),.v (.string ⟨#[]⟩),.v (.slice none 0 0)]⟩,⟨b2,42,12,[.v (.int .i64 0),.v (.string ⟨#[]⟩),.v (.slice none 0 0),.v (.slice none 0 0),.v (.slice none 0 0),.v (.bool false),.v (.slice none 0 0),.v (.string ⟨#[]⟩),.v (.bool false),.v (.int .i64 0),.v (.string ⟨#[]⟩),.v (.slice none 0 0)]⟩,⟨b1,78,14,[.v (.int .i64 k),.v (.int .i64 t),.v (.int .i64 a),.v (.int .i64 b),.list 3 (row.flatMap cV) row.length,.v (.int .i64 x1),.v (.int .i64 x2),.v (.string x3),.list 4 (Tw.mg E) E.length,.v (.int .i64 y1),.v (.int .i64 y2),.v (.string y3),.list 4 (Tw.mg I) I.length,.v (.bool bare)]⟩]⟩:St)) ?_ ?_
 ·refine CD.draw (ap _) ay (fun _ h=>h) ?_;refine ax 0 rfl (c8 0) ?_;refine ax 1 rfl (dB 1) ?_;refine ax 5 rfl (c8 1) ?_;refine ax 6 rfl (dB 1) ?_;refine dm.later rfl ?_;refine AD.three (i:=2) (j:=4) (k:=11) ay ?_ ?_ ?_
  ·refine jv call11 (O) ?_;refine cr 3 rfl mH ?_;refine AD.three (i:=4) (j:=7) (k:=11) ay ?_ ?_ ?_
   ·refine jj (bZ 0 [_,_]) [.string ⟨#[]⟩,.string ⟨#[]⟩] [_,_] zeroValue9 runUnderlying39 sizeOf9 (fun b8=>?_);refine jk 0 8 1 2 ?_;exact UN
   ·refine jv call11 (FF) ?_;refine AD.two (i:=4) (j:=11) ay ?_ ?_
    ·refine jj (bZ 0 [_,_]) [.string ⟨#[]⟩,.string ⟨#[]⟩] [_,_] zeroValue9 runUnderlying39 sizeOf9 (fun b8=>?_);refine jk 0 8 1 2 ?_;exact z109
    refine bg.alloc (ds:=[_,_,_,_,_,_,_,_,_,_,_,_]) rfl an rfl rfl zeroValue42 rfl (fun b3=>?_);refine AD.one (i:=4) ay ?_;refine jj (bZ 0 [_,_]) [.string ⟨#[]⟩,.string ⟨#[]⟩] [_,_] zeroValue9 runUnderlying39 sizeOf9 (fun b8=>?_);refine jk 0 8 1 2 ?_;exact UB
   refine bg.alloc (ds:=[_,_,_,_,_,_,_,_,_,_,_,_]) rfl an rfl rfl zeroValue42 rfl (fun b3=>?_);exact z139
  ·refine jj (bZ 0 [_,_]) [.string ⟨#[]⟩,.string ⟨#[]⟩] [_,_] zeroValue9 runUnderlying39 sizeOf9 (fun b8=>?_);refine jk 0 8 1 2 ?_;refine AD.two (i:=2) (j:=11) ay ?_ ?_
   ·refine jv call11 (O) ?_;refine cr 3 rfl mH ?_;exact UN
   refine bg.alloc (ds:=[_,_,_,_,_,_,_,_,_,_,_,_]) rfl an rfl rfl zeroValue42 rfl (fun b3=>?_);refine AD.one (i:=2) ay ?_;refine jv call11 (O) ?_;refine cr 3 rfl mH ?_;exact FE
  refine bg.alloc (ds:=[_,_,_,_,_,_,_,_,_,_,_,_]) rfl an rfl rfl zeroValue42 rfl (fun b3=>?_);refine AD.two (i:=2) (j:=4) ay ?_ ?_
  ·refine jv call11 (O) ?_;refine cr 3 rfl mH ?_;exact z139
  refine jj (bZ 0 [_,_]) [.string ⟨#[]⟩,.string ⟨#[]⟩] [_,_] zeroValue9 runUnderlying39 sizeOf9 (fun b8=>?_);refine jk 0 8 1 2 ?_;refine AD.one (i:=2) ay ?_;refine jv call11 (O) ?_;refine cr 3 rfl mH ?_;exact FE
 rintro _ _ ⟨rfl,b3,_,Kb⟩;refine CD.wk Kb ?_;refine jJ [1,2,3] (fun aW _ aK=>∃(s:cQ),(sy s)∧(s.kind=1+ki)∧aK=(⟨111,aW,[⟨b3,42,12,[.v (.int .i64 s.kind),.v (.string s.table),.list 2 (s.av.flatMap cC) s.av.length,.list 3 (s.row.flatMap cV) s.row.length,.list 1 (s.names.flatMap cS) s.names.length,.v (.bool s.count),.list 5 (s.ah.flatMap cO) s.ah.length,.v (.string s.order),.v (.bool s.down),.v (.int .i64 s.gN),.v (.string s.set),.list 5 (s.bE.flatMap cO) s.bE.length]⟩,⟨b2,42,12,[.v (.int .i64 0),.v (.string ⟨#[]⟩),.v (.slice none 0 0),.v (.slice none 0 0),.v (.slice none 0 0),.v (.bool false),.v (.slice none 0 0),.v (.string ⟨#[]⟩),.v (.bool false),.v (.int .i64 0),.v (.string ⟨#[]⟩),.v (.slice none 0 0)]⟩,⟨b1,78,14,[.v (.int .i64 k),.v (.int .i64 t),.v (.int .i64 a),.v (.int .i64 b),.list 3 (row.flatMap cV) row.length,.v (.int .i64 x1),.v (.int .i64 x2),.v (.string x3),.list 4 (Tw.mg E) E.length,.v (.int .i64 y1),.v (.int .i64 y2),.v (.string y3),.list 4 (Tw.mg I) I.length,.v (.bool bare)]⟩]⟩:St)) ?_ ?_
 ·refine CD.seq ?_;refine CD.cells (k:=0) (cs':=[_,_,.list 2 [] 0,.list 3 [] 0,.list 1 [] 0,_,.list 5 [] 0,_,_,_,_,.list 5 [] 0]) (S':=[_,_,_]) rfl (by repeat (first|exact trivial|exact⟨eR,trivial⟩|exact⟨gd,trivial⟩|refine⟨eR,?_⟩|refine⟨gd,?_⟩)) rfl ?_;refine cj [1,2,3,16] ?_;refine ae [1,2,3,16,17] ?_;refine aq (fun az aH=>?_) (fun az aH=>?_)
  ·obtain rfl:ki=0:=(by simp at az;omega)
   refine sN ?_;refine OD.gI an rfl rfl rfl call24 (OS) trivial ?_;refine aD 1 ?_;refine aN 0 [_,_,_,_,_,_,_,_,_,_,_,_] sizeOf38 ?_;refine aj 111 [1,2,3] ?_;refine⟨_,aM,{iD with kind:=1+0,table:=tn,av:=dH},(Oi Z),Ce,rfl⟩
  refine ae [1,2,3,16,21] ?_;refine aq (fun aG aV=>?_) (fun aG aV=>?_)
  ·obtain rfl:ki=2:=(by simp at aG;omega)
   have ajH:=jW a (show(1:Int)≤12 by decide);have ajI:=kS G a 12 U pF w7;generalize dX a 12=xa at *;have ajJ:=jW b (show(1:Int)≤9 by decide);have ajK:=kS G b 9 iV oQ w7;generalize dX b 9=xb at *;have GB:(tu row).size≤maxLen:=(by (cases row;decide;exact ve _ mem_cons_self))
   have x8:(nA (tu row) 2).size≤maxLen:=(by rw[Hz];exact Nat.le_trans (Nat.min_le_left _ _) GB)
   have dw:((⟨#[]⟩:ByteArray)++nA (tu row) 2).size≤maxLen:=(by rw[ByteArray.size_append];show 0+_≤_;omega)
   have sG:(⟨#[]⟩:ByteArray).size+(nA (tu row) 2).size≤9223372036854775807:=(by (have:=x8;unfold maxLen at this;show 0+_≤_;omega))
   have hu6:=(YR ((⟨#[]⟩:ByteArray)++nA (tu row) 2)).2;refine l8 18 [1,2,3,40] ?_;refine cU (ajI) ?_;refine cU (ajK) ?_;refine cU (aaS k t a b row x1 x2 x3 E y1 y2 y3 I bare) ?_;refine cU (ET (tu row) 2 GB) ?_;refine aQ 0 ?_ (h:=by exact(cZ rfl bJ ot (IL sG)));refine cU (Nm.qF ((⟨#[]⟩:ByteArray)++nA (tu row) 2) dw) ?_;refine cU (sV b iV oQ) ?_;refine bH ?_;refine aD 1 ?_;refine aN 0 [_,_,_,_,_,_,_,_,_,_,_,_] sizeOf27 ?_;refine aj 111 [1,2,3] ?_;refine⟨_,aM,{iD with kind:=1+2,table:=tn,row:=[⟨2,xa,⟨#[]⟩⟩,⟨2,xb,⟨#[]⟩⟩,⟨3,0,wA ((⟨#[]⟩:ByteArray)++nA (tu row) 2)⟩,p9 b]},(Zo Z ajH ajJ hu6),Ce,rfl⟩
  refine ae [1,2,3,16,42] ?_;refine aq (fun aY bz=>?_) (fun aY bz=>?_)
  ·obtain rfl:ki=3:=(by simp at aY;omega)
   refine jJ [1,2,3] (fun aW _ aK=>∃(N:List ByteArray),((N.length≤6∧∀x∈N,cM x=0))∧aK=(⟨111,aW,[⟨b3,42,12,[.v (.int .i64 (1+3)),.v (.string tn),.list 2 [] 0,.list 3 [] 0,.list 1 (N.flatMap cS) N.length,.v (.bool false),.list 5 [] 0,.v (.string ⟨#[]⟩),.v (.bool false),.v (.int .i64 (-1)),.v (.string ⟨#[]⟩),.list 5 [] 0]⟩,⟨b2,42,12,[.v (.int .i64 0),.v (.string ⟨#[]⟩),.v (.slice none 0 0),.v (.slice none 0 0),.v (.slice none 0 0),.v (.bool false),.v (.slice none 0 0),.v (.string ⟨#[]⟩),.v (.bool false),.v (.int .i64 0),.v (.string ⟨#[]⟩),.v (.slice none 0 0)]⟩,⟨b1,78,14,[.v (.int .i64 k),.v (.int .i64 t),.v (.int .i64 a),.v (.int .i64 b),.list 3 (row.flatMap cV) row.length,.v (.int .i64 x1),.v (.int .i64 x2),.v (.string x3),.list 4 (Tw.mg E) E.length,.v (.int .i64 y1),.v (.int .i64 y2),.v (.string y3),.list 4 (Tw.mg I) I.length,.v (.bool bare)]⟩]⟩:St)) ?_ ?_
   ·refine CD.seq ?_;have aoQ:=jW a (show(1:Int)≤3 by decide);have ajL:=kS G a 3 U pF w7;generalize dX a 3=xc at *;refine gW [1,2,3,47] ?_;refine cU (ajL) ?_;refine bH ?_;refine aq (fun bC bY=>?_) (fun bC bY=>?_)
    ·have pyb:=jW b (show(1:Int)≤3 by decide);have Nw:=kS G b 3 iV oQ w7;generalize dX b 3=yb at *;have hyb:yb=0∨yb=1∨yb=2:=(by omega)
     rcases hyb with rfl|rfl|rfl
     ·refine sN ?_;refine ee (bZ 0 [_,_,_]) [.string ⟨#[]⟩,.string ⟨#[]⟩,.string ⟨#[]⟩] [_,_,_] zeroValue9 runUnderlying39 sizeOf9 (fun Nn=>?_);refine fG 0 48 1 3 ?_;refine aD 2 ?_;refine dR call11 (Nw) ?_;refine aD 1 ?_;refine bN (ei (l:=0) (h:=1) rfl ot trivial ⟨_,ot⟩ Lw) ?_;refine aD 1 ?_;refine aN 0 [_,_,_,_,_,_,_,_,_,_,_,_] sizeOf39 ?_;refine aj 111 [1,2,3] ?_;refine⟨_,aM,[⟨#[115]⟩],⟨by decide,by decide +kernel⟩,rfl⟩
     ·refine sN ?_;refine ee (bZ 0 [_,_,_]) [.string ⟨#[]⟩,.string ⟨#[]⟩,.string ⟨#[]⟩] [_,_,_] zeroValue9 runUnderlying39 sizeOf9 (fun Nn=>?_);refine fG 0 48 1 3 ?_;refine aD 2 ?_;refine dR call11 (Nw) ?_;refine aD 1 ?_;refine bN (ei (l:=0) (h:=2) rfl ot trivial ⟨_,ot⟩ Lw) ?_;refine aD 1 ?_;refine aN 0 [_,_,_,_,_,_,_,_,_,_,_,_] sizeOf39 ?_;refine aj 111 [1,2,3] ?_;refine⟨_,aM,[⟨#[115]⟩,⟨#[105,100]⟩],⟨by decide,by decide +kernel⟩,rfl⟩
     refine sN ?_;refine ee (bZ 0 [_,_,_]) [.string ⟨#[]⟩,.string ⟨#[]⟩,.string ⟨#[]⟩] [_,_,_] zeroValue9 runUnderlying39 sizeOf9 (fun Nn=>?_);refine fG 0 48 1 3 ?_;refine aD 2 ?_;refine dR call11 (Nw) ?_;refine aD 1 ?_;refine bN (ei (l:=0) (h:=3) rfl ot trivial ⟨_,ot⟩ Lw) ?_;refine aD 1 ?_;refine aN 0 [_,_,_,_,_,_,_,_,_,_,_,_] sizeOf39 ?_;refine aj 111 [1,2,3] ?_;refine⟨_,aM,[⟨#[115]⟩,⟨#[105,100]⟩,⟨#[110]⟩],⟨by decide,by decide +kernel⟩,rfl⟩
    refine CD.skip ?_;refine⟨_,aM,[],⟨by simp,fun _ h=>by cases h⟩,rfl⟩
   rintro _ ⟨N,hN,rfl⟩;refine CD.seq ?_;have aoR:=jW a (show(1:Int)≤5 by decide);have ajM:=kS G a 5 U pF w7;generalize dX a 5=xd at *;refine dL 2 ?_;refine dR call11 (ajM) ?_;refine aD 2 ?_;refine aN 0 [_,_,_,_,_,_,_,_,_,_,_,_] sizeOf4 ?_;refine aj 111 [1,2,3] ?_;refine jJ [1,2,3] (fun aW _ aK=>∃(N:List ByteArray),∃(ct:Bool),((N.length≤6∧∀x∈N,cM x=0))∧(ct=true→N=[])∧aK=(⟨111,aW,[⟨b3,42,12,[.v (.int .i64 (1+3)),.v (.string tn),.list 2 [] 0,.list 3 [] 0,.list 1 (N.flatMap cS) N.length,.v (.bool ct),.list 5 [] 0,.v (.string ⟨#[]⟩),.v (.bool false),.v (.int .i64 (-1)),.v (.string ⟨#[]⟩),.list 5 [] 0]⟩,⟨b2,42,12,[.v (.int .i64 0),.v (.string ⟨#[]⟩),.v (.slice none 0 0),.v (.slice none 0 0),.v (.slice none 0 0),.v (.bool false),.v (.slice none 0 0),.v (.string ⟨#[]⟩),.v (.bool false),.v (.int .i64 0),.v (.string ⟨#[]⟩),.v (.slice none 0 0)]⟩,⟨b1,78,14,[.v (.int .i64 k),.v (.int .i64 t),.v (.int .i64 a),.v (.int .i64 b),.list 3 (row.flatMap cV) row.length,.v (.int .i64 x1),.v (.int .i64 x2),.v (.string x3),.list 4 (Tw.mg E) E.length,.v (.int .i64 y1),.v (.int .i64 y2),.v (.string y3),.list 4 (Tw.mg I) I.length,.v (.bool bare)]⟩]⟩:St)) ?_ ?_
   ·refine ae [1,2,3,61] ?_;refine aq (fun cy de=>?_) (fun cy de=>?_)
    ·refine dL 1 ?_;refine aN 0 [_,_,_,_,_,_,_,_,_,_,_,_] sizeOf39 ?_;refine aj 111 [1,2,3] ?_;refine⟨_,(Wk.cells (k:=0) (cs':=[_,_,_,_,.list 1 [] 0,_,_,_,_,_,_,_]) rfl (by repeat (first|exact trivial|exact⟨eR,trivial⟩|exact⟨gd,trivial⟩|refine⟨eR,?_⟩|refine⟨gd,?_⟩)) rfl).trans (aM),[],(xd==3),⟨Nat.zero_le _,fun _ h=>by cases h⟩,(fun _=>rfl),rfl⟩
    refine CD.skip ?_;refine⟨_,aM,N,(xd==3),hN,(fun h=>absurd h (by rw[cy];decide)),rfl⟩
   rintro _ ⟨N,ct,hN,hcn,rfl⟩;refine CD.seq ?_;have ajN:=jW b (show(1:Int)≤4 by decide);have ajO:=kS G b 4 iV oQ w7;generalize dX b 4=xe at *;obtain⟨ej,rfl⟩:=Int.eq_ofNat_of_zero_le ajN.1;have Nx:ej<fX.length:=(by show ej<4;omega)
   have jy:=agY fX[ej] (getElem_mem Nx);generalize ajP:fX[ej]=od at *;refine sN ?_;refine ee (bZ 0 [_,_,_,_]) [.string ⟨#[]⟩,.string ⟨#[]⟩,.string ⟨#[]⟩,.string ⟨#[]⟩] [_,_,_,_] zeroValue9 runUnderlying39 sizeOf9 (fun Dr=>?_);refine fG 0 63 1 4 ?_;refine aD 2 ?_;refine dR call11 (ajO) ?_;refine aD 1 ?_;refine bN (cJ (mk:=Op.load 9) rfl ot (by exact pZ (g:=cS) (ls:=fX) (i:=ej) (d:=.v (.string od)) ja isAgg9 Nx (by show some (D.v (.string (fX[ej]'Nx)))=some (D.v (.string od));rw[ajP]))) ?_;refine aD 1 ?_;refine aN 0 [_,_,_,_,_,_,_,_,_,_,_,_] sizeOf9 ?_;refine aj 111 [1,2,3] ?_;refine jJ [1,2,3] (fun aW _ aK=>∃(dn:Bool),(od=⟨#[]⟩→dn=false)∧aK=(⟨111,aW,[⟨b3,42,12,[.v (.int .i64 (1+3)),.v (.string tn),.list 2 [] 0,.list 3 [] 0,.list 1 (N.flatMap cS) N.length,.v (.bool ct),.list 5 [] 0,.v (.string od),.v (.bool dn),.v (.int .i64 (-1)),.v (.string ⟨#[]⟩),.list 5 [] 0]⟩,⟨b2,42,12,[.v (.int .i64 0),.v (.string ⟨#[]⟩),.v (.slice none 0 0),.v (.slice none 0 0),.v (.slice none 0 0),.v (.bool false),.v (.slice none 0 0),.v (.string ⟨#[]⟩),.v (.bool false),.v (.int .i64 0),.v (.string ⟨#[]⟩),.v (.slice none 0 0)]⟩,⟨b1,78,14,[.v (.int .i64 k),.v (.int .i64 t),.v (.int .i64 a),.v (.int .i64 b),.list 3 (row.flatMap cV) row.length,.v (.int .i64 x1),.v (.int .i64 x2),.v (.string x3),.list 4 (Tw.mg E) E.length,.v (.int .i64 y1),.v (.int .i64 y2),.v (.string y3),.list 4 (Tw.mg I) I.length,.v (.bool bare)]⟩]⟩:St)) ?_ ?_
   ·have aoS:=jW a (show(1:Int)≤2 by decide);have ajQ:=kS G a 2 U pF w7;generalize dX a 2=xf at *;refine dL 4 ?_;refine bS 73 (fun Lm agZ=>?_) (fun Lm agZ=>?_)
    ·refine aD 2 ?_;refine OD.gI gL rfl rfl rfl call11 (ajQ) ⟨ot,bJ,trivial⟩ ?_;refine aD 3 ?_;refine aN 0 [_,_,_,_,_,_,_,_,_,_,_,_] sizeOf4 ?_;refine aj 111 [1,2,3] ?_;refine⟨_,aM,(xf==1),(fun h=>by rw[h] at Lm;exact absurd Lm (by decide +kernel)),rfl⟩
    refine xG 4 ?_;refine aD 2 ?_;refine aN 0 [_,_,_,_,_,_,_,_,_,_,_,_] sizeOf4 ?_;refine aj 111 [1,2,3] ?_;refine⟨_,aM,false,(fun _=>rfl),rfl⟩
   rintro _ ⟨dn,zX,rfl⟩;have aoT:=jW a (show(1:Int)≤9 by decide);have ajR:=kS G a 9 U pF w7;generalize dX a 9=xg at *;refine dL 2 ?_;refine dR call11 (ajR) ?_;refine aD 2 ?_;refine aN 0 [_,_,_,_,_,_,_,_,_,_,_,_] sizeOf3 ?_;refine aj 111 [1,2,3] ?_;refine⟨_,aM,{iD with kind:=1+3,table:=tn,names:=N,count:=ct,order:=od,down:=dn,gN:=xg-1},(Zp Z hN hcn (jy.imp (fun h=>afy h) id) zX w4),Ce,rfl⟩
  refine ae [1,2,3,85] ?_;refine aq (fun dO eo=>?_) (fun dO eo=>?_)
  ·obtain rfl:ki=4:=(by simp at dO;omega)
   refine CD.seq ?_;have ajS:=jW a (show(1:Int)≤5 by decide);have ajT:=kS G a 5 U pF w7;generalize dX a 5=xh at *;obtain⟨hj,rfl⟩:=Int.eq_ofNat_of_zero_le ajS.1;have Ny:hj<Ap.length:=(by show hj<5;omega)
   have hsn:=Kp Ap[hj] (getElem_mem Ny);generalize ajU:Ap[hj]=sn at *;refine sN ?_;refine ee (bZ 0 [_,_,_,_,_]) [.string ⟨#[]⟩,.string ⟨#[]⟩,.string ⟨#[]⟩,.string ⟨#[]⟩,.string ⟨#[]⟩] [_,_,_,_,_] zeroValue9 runUnderlying39 sizeOf9 (fun b87=>?_);refine fG 0 87 1 5 ?_;refine aD 2 ?_;refine dR call11 (ajT) ?_;refine aD 1 ?_;refine bN (cJ (mk:=Op.load 9) rfl ot (by exact pZ (g:=cS) (ls:=Ap) (i:=hj) (d:=.v (.string sn)) ja isAgg9 Ny (by show some (D.v (.string (Ap[hj]'Ny)))=some (D.v (.string sn));rw[ajU]))) ?_;refine aD 1 ?_;refine aN 0 [_,_,_,_,_,_,_,_,_,_,_,_] sizeOf9 ?_;refine aj 111 [1,2,3] ?_;refine dL 2 ?_;refine dR call43 (Tv (.mk x1 x2 x3 E) hto) ?_;refine aD 1 ?_;refine aN 0 [_,_,_,_,_,_,_,_,_,_,_,_] sizeOf40 ?_;refine aj 111 [1,2,3] ?_;refine⟨_,aM,{iD with kind:=1+4,table:=tn,set:=sn,bE:=hU 3 (.mk x1 x2 x3 E)},(Zq Z hsn (.mk x1 x2 x3 E)),Ce,rfl⟩
  have ajV:ki=1∨ki=5:=(by simp at az aG aY dO;omega)
  refine CD.skip ?_;refine⟨_,aM,{iD with kind:=1+ki,table:=tn},(by (rcases ajV with rfl|rfl;exact acw Z;exact Zr Z)),Ce,rfl⟩
 rintro _ ⟨s,Ln,Lo,rfl⟩;refine aC 4 ?_;refine bS 101 (fun Uj afz=>?_) (fun Uj afz=>?_)
 ·refine bf [1,2,3,105] ?_;refine aq (fun eS fW=>?_) (fun eS fW=>?_)
  ·have hg4:4≤s.kind∧bare=false:=(by (have q1:=eS;simp at q1;first|exact⟨by simpa using Uj,by simpa using q1⟩|simp_all))
   have nQ:=Ln.2 (hU 3 (.mk y1 y2 y3 I)) (SU _) (.inl hg4.1);refine dL 2 ?_;refine dR call43 (Tv (.mk y1 y2 y3 I) MS) ?_;refine aD 1 ?_;refine aN 0 [_,_,_,_,_,_,_,_,_,_,_,_] sizeOf40 ?_;refine aj 111 [2,3] ?_;refine aC 1 ?_;refine aN 1 [_,_,_,_,_,_,_,_,_,_,_,_] sizeOf42 ?_;refine aj 111 [2] ?_;refine aJ [] ?_;exact⟨{s with ah:=hU 3 (.mk y1 y2 y3 I)},rfl,rfl,nQ,Lo⟩
  have nQ:=Ln.wS;refine aC 1 ?_;refine aN 1 [_,_,_,_,_,_,_,_,_,_,_,_] sizeOf42 ?_;refine aj 111 [2] ?_;refine aJ [] ?_;exact⟨s,rfl,rfl,nQ,Lo⟩
 refine bf [1,2,3,105] ?_;refine fL ?_;have nQ:=Ln.wS;refine aC 1 ?_;refine aN 1 [_,_,_,_,_,_,_,_,_,_,_,_] sizeOf42 ?_;refine aj 111 [2] ?_;refine aJ [] ?_;exact⟨s,rfl,rfl,nQ,Lo⟩

end Go.Proofs.YtbcmjoaggammcaaGreatDoor.Pa
namespace Go.Proofs.YtbcmjoaggammcaaGreatDoor.Ba
open List
open Go.Proofs.Tryz
open Go.RowKit V Pk Tr Vl Go.Proofs.YtbcmjoaggammcaaGreatDoor.Nm Pc Cd Ex Tw
open Pa (cQ cg mX jO nT iz ko lV jf)
variable {l:List aP} {a c:Nat}
theorem Kq{v:Vl}(h:cA v=0)(h1:-9223372036854775808≤v.n)(h2:v.n≤9223372036854775807):v.Ok:=by
 unfold cA at h;have hk:(0≤v.k∧v.k≤3)∧v.s.size≤20:=by
  repeat' split at h
  all_goals first|(cases h;done)|omega
 exact⟨by omega,by omega,h1,h2,Nat.le_trans hk.2 w7⟩
theorem Pu{α:Type}{f:α→Int}:∀{l:List α},Pa.jB f l=0→∀a∈l,f a=0
 | [],_,a,ha=>by cases ha
 | x::r,h,a,ha=>by
  rw[Pa.jB] at h;split at h
  ·rename_i hx;exact absurd h hx
  rename_i hx;rcases mem_cons.1 ha with rfl|ha
  ·exact Classical.not_not.1 hx
  exact Pu h a ha
theorem IA{w:List aX}(h:Pa.nu w=0):∀o∈w,cA o.v=0:=fun o ho=>by
 unfold Pa.nu at h;split at h
 ·rename_i h0;rw[length_eq_zero_iff.1 h0] at ho;cases ho
 obtain⟨h',h1⟩:=Et w 0 (v7 h).2 o ho;exact D0 (vW h1).2.2.1
theorem aee{w:List aX}(h:iG w=0):∀o∈w,cA o.v=0:=fun o ho=>by
 obtain⟨h',h1⟩:=Et w 0 (v7 h).2 o ho;exact D0 (vW h1).2.2.1
structure Cc (s:cQ):Prop where
 fin:mX s
 row:∀v∈s.row,v.Ok
 wnm:∀o∈s.ah,o.nm.size≤maxLen
 wok:∀o∈s.ah,o.v.Ok
 XK:∀o∈s.bE,o.nm.size≤maxLen
 XL:∀o∈s.bE,o.v.Ok
theorem Kp{s:cQ}(hf:mX s)(dI:1≤s.kind)(zV:s.kind≤6)(hc:iz s=0):Cc s:=by
 unfold iz at hc;split at hc
 ·rename_i h1;exact absurd hc h1.2
 split at hc
 ·cases hc
 rename_i h1 h2;have hb:lV s (jf s)=true:=by
  cases h:lV s (jf s) with
  | true=>rfl
  | false=>exact absurd ⟨hc,h⟩ h2
 unfold lV at hb;simp only[Bool.and_eq_true,beq_iff_eq] at hb;have hr:∀v∈s.row,cA v=0:=by
  by_cases h3:s.kind=3
  ·unfold ko at hc;rw[if_neg w4,if_pos h3] at hc;unfold Pa.dW at hc;split at hc
   ·cases hc
   exact fun v O=>D0 (Pu hc v O)
  have E:(s.row.length:Int)=((jf s).row.length:Int):=hb.2.2.1;have h0:(jf s).row=[]:=(by unfold jf;split;rfl;split;rfl;split;rfl;split;rfl;rfl)
  rw[h0] at E;have:s.row=[]:=length_eq_zero_iff.1 (by simpa using E);rw[this];intro v O;cases O
 have hw:∀o∈s.ah,cA o.v=0:=by
  by_cases h3:4≤s.kind
  ·unfold ko at hc;rw[if_neg w4,if_neg w4] at hc;by_cases h4:s.kind=4
   ·rw[if_pos h4] at hc;unfold Pa.oC at hc;split at hc
    ·cases hc
    split at hc
    ·cases hc
    split at hc
    ·cases hc
    split at hc
    ·rename_i I;exact absurd hc I
    split at hc
    ·rename_i I;exact absurd hc I
    rename_i I;exact IA (Classical.not_not.1 I)
   rw[if_neg h4] at hc;by_cases h5:s.kind=5
   ·rw[if_pos h5] at hc;split at hc
    ·split at hc
     ·exact IA hc
     rename_i I;exact absurd hc I
    rename_i I;exact absurd hc I
   rw[if_neg h5,if_pos w4] at hc;exact IA hc
  have E:(s.ah.length:Int)=((jf s).ah.length:Int):=hb.2.2.2.2.2.1;have h0:(jf s).ah=[]:=(by unfold jf;split;rfl;split;rfl;rw[if_neg w4,if_neg w4,if_neg w4];rfl)
  rw[h0] at E;have:s.ah=[]:=length_eq_zero_iff.1 (by simpa using E);rw[this];intro v O;cases O
 have hx:∀o∈s.bE,cA o.v=0:=by
  by_cases h5:s.kind=5
  ·unfold ko at hc;rw[if_neg w4,if_neg w4,if_neg w4,if_pos h5] at hc;split at hc
   ·split at hc
    ·rename_i I;exact aee I
    rename_i I;exact absurd hc I
   rename_i I;exact absurd hc I
  have E:(s.bE.length:Int)=((jf s).bE.length:Int):=(by simpa using hb.2.2.2.2.2.2.2.2.2.2)
  have h0:(jf s).bE=[]:=(by unfold jf;split;rfl;split;rfl;split;rfl;split;rfl;rfl)
  rw[h0] at E;have:s.bE=[]:=length_eq_zero_iff.1 (by simpa using E);rw[this];intro v O;cases O
 exact⟨hf,fun v O=>Kq (hr v O) (hf.r v O).1 (hf.r v O).2,fun o ho=>(hf.w o ho).1,fun o ho=>Kq (hw o ho) (hf.w o ho).2.1 (hf.w o ho).2.2,fun o ho=>(hf.x o ho).1,fun o ho=>Kq (hx o ho) (hf.x o ho).2.1 (hf.x o ho).2.2⟩
theorem nT.st{s:cQ}(h:nT s):Cc s:=Kp h.1 h.2.1 h.2.2.1 h.2.2.2.2
structure qO (l:List aP) (a c:Nat):Prop where
 g:qg l (a*(1+c))
 r:∀t∈l,t.rows.length≤a
theorem acy(s:cQ)(h:cM s.table=0)(hc:s.av=dH):eO (gJ s) 0:=⟨h,hc,Nat.zero_le _,ab4,fun i h=>absurd h (Nat.not_lt_zero _),fun x hx=>by
 have:en pC=[]:=ab5;rw[show(gJ s).ix=pC from rfl,this] at hx;cases hx⟩
theorem qg.mono{l:List aP}{n m:Nat}(g:qg l n)(h:n≤m):qg l m:=⟨g.eK,fun t ht=>(g.tb t ht).mono h,g.sz,g.GX⟩
theorem qg.put{n:Nat}(g:qg l n){i:Nat}(hi:i<l.length){t:aP}(ht:eO t n)(hn:t.nm=l[i].nm):qg (l.set i t) n:=by
 refine⟨by rw[length_set];exact g.eK,fun x hx=>?_,fun x hx=>?_,?_⟩
 ·rcases mem_or_eq_of_mem_set hx with h|h
  ·exact g.tb x h
  rw[h];exact ht
 ·rcases mem_or_eq_of_mem_set hx with h|h
  ·exact g.sz x h
  rw[h,hn];exact g.sz _ (getElem_mem hi)
 have hm:(l.set i t).map aP.nm=l.map aP.nm:=by
  exact Wr
 have h1:∀l:List aP,(l.Pairwise fun a b=>a.nm.toList≠b.nm.toList)↔(l.map aP.nm).Pairwise fun a b=>a.toList≠b.toList:=fun l=>by rw[pairwise_map]
 rw[h1,hm,←h1];exact g.GX

theorem TO(t:aP)(row:List Vl):(gm t row).1.nm=t.nm:=by
 unfold gm;by_cases h1:Pc.dW t.av row≠0
 ·rw[if_pos h1]
 rw[if_neg h1];cases gZ t.ix (cX row) (dD t.ix) with
 | true=>rw[if_pos rfl]
 | false =>
  rw[if_neg w7];by_cases h3:t.rows.length=40
  ·rw[if_pos h3]
  rw[if_neg h3]
theorem SX:∀(l:List Int) (t:aP),(qX t l).nm=t.nm
 | [],_=>rfl
 | _::l,t=>(SX l _).trans rfl
theorem TP(t:aP)(w:List aX):(mr t w).1.nm=t.nm:=by unfold mr;split;rfl;exact SX _ _
theorem SY{c:Nat}:∀(l:List Int) (vs:List Vl) (t:aP),(mD c t l vs).nm=t.nm
 | [],_,t=>by unfold mD;rfl
 | _::_,[],t=>by unfold mD;rfl
 | _::l,_::vs,t=>(SY l vs _).trans rfl
theorem Q2:∀(l:List Int) (vs:List Vl) (t:aP),(j9 t l vs).1.nm=t.nm
 | [],_,t=>by unfold j9;rfl
 | _::_,[],t=>by unfold j9;rfl
 | _::l,_::vs,t=>by
  rw[j9];split
  ·rfl
  exact(Q2 l vs _).trans rfl
theorem TQ(t:aP)(s:cQ):(gK t s).1.nm=t.nm:=by
 unfold gK;repeat' split
 all_goals first|rfl|exact SY _ _ _|exact(Q2 _ _ _).trans rfl
theorem afA{nm:ByteArray}(h:aR l nm<0):∀t∈l,t.nm.toList≠nm.toList:=fun t ht e=>by
 unfold aR dM at h;split at h
 ·omega
 rename_i h1;have:=findIdx?_eq_none_iff.1 h1 t ht;rw[e] at this;simp at this
theorem Q3(h:a+c≤30):a*(1+c)≤260:=by
 have key:∀a<31,∀c<31,a+c≤30→a*(1+c)≤260:=(by decide +kernel)
 exact key a w4 c w4 h
theorem Uk:a*(1+c)+1≤(a+1)*(1+c):=by rw[Nat.add_mul];omega
theorem Ul:a*(1+c)+a=a*(1+(c+1)):=by rw[←Nat.add_assoc,Nat.mul_add a (1+c) 1,Nat.mul_one]
theorem qO.put{l:List aP}{a c a' E:Nat}(g:qO l a c)(h:a*(1+c)≤a'*(1+E))(ha:a≤a'){i:Nat}(hi:i<l.length){t:aP}(ht:eO t (a'*(1+E)))(hr:t.rows.length≤a')(hn:t.nm=l[i].nm):qO (l.set i t) a' E:=by
 refine⟨(g.g.mono h).put hi ht hn,fun x hx=>?_⟩;rcases mem_or_eq_of_mem_set hx with hx|hx
 ·exact Nat.le_trans (g.r x hx) ha
 rw[hx];exact hr
theorem JP{i:Nat}(hi:i<l.length){t:aP}(hn:t.nm=l[i].nm):(l.set i t).map aP.nm=l.map aP.nm:=by
 exact Wr
theorem IB(g:qO l a c)(O:a+c≤30){s:cQ}(hs:Cc s)(fq:¬s.kind=2)(qp:cM s.table=0)(I:s.kind=1→s.av=dH)(h0:(er l s).2.2=0) :
  ∃a' U,a'+U≤a+c+1∧qO (er l s).1 a' U∧(s.kind=1→(er l s).1=l++[gJ s]∧a'=a∧U=c)∧(¬s.kind=1→(er l s).1.map aP.nm=l.map aP.nm):=by
 have hb:=Q3 O;have iV:=vZ (fun t:aP=>t.nm.toList==s.table.toList) l;rw[show dM (fun t:aP=>t.nm.toList==s.table.toList) l=aR l s.table from rfl] at iV;unfold er at h0 ⊢;by_cases dI:s.kind=1
 ·rw[if_pos dI] at h0 ⊢;dsimp only at h0;unfold pR at h0 ⊢;by_cases h1:0≤aR l s.table
  ·rw[if_pos h1] at h0;cases h0
  rw[if_neg h1] at h0 ⊢;by_cases h2:l.length=4
  ·rw[if_pos h2] at h0;cases h0
  rw[if_neg h2] at h0 ⊢;have Z:=acy s qp (I dI);have hf:=g.g.eK;refine⟨a,c,by omega,⟨⟨by rw[length_append,length_singleton];omega,fun t ht=>?_,fun t ht=>?_,?_⟩,fun t ht=>?_⟩,fun _=>⟨rfl,rfl,rfl⟩,fun h=>absurd dI h⟩
  ·rcases mem_append.1 ht with ht|ht
   ·exact g.g.tb t ht
   rw[mem_singleton] at ht;rw[ht];exact Z.mono (Nat.zero_le _)
  ·rcases mem_append.1 ht with ht|ht
   ·exact g.g.sz t ht
   rw[mem_singleton] at ht;rw[ht];exact hs.fin.t
  ·refine pairwise_append.2 ⟨g.g.GX,pairwise_singleton _ _,fun x hx y hy=>?_⟩;rw[mem_singleton] at hy;subst hy;exact afA (show aR l s.table<0 by omega) x hx
  rcases mem_append.1 ht with ht|ht
  ·exact g.r t ht
  rw[mem_singleton] at ht;rw[ht];exact Nat.zero_le _
 rw[if_neg dI] at h0 ⊢;by_cases h1:aR l s.table<0
 ·rw[if_pos h1] at h0;cases h0
 rw[if_neg h1] at h0 ⊢;have E:(aR l s.table).toNat<l.length:=(by omega)
 have kM:l.getD (aR l s.table).toNat (gJ s)=l[(aR l s.table).toNat]:=(by rw[getD_eq_getElem?_getD,getElem?_eq_getElem E];rfl)
 rw[kM] at h0 ⊢;have gt:=g.g.tb _ (getElem_mem E);have gr:=g.r _ (getElem_mem E);by_cases h3:s.kind=3
 ·rw[if_pos h3] at h0 ⊢;obtain⟨q1,q2⟩:=aaN gt w4 hs.row h0;exact⟨a+1,c,by omega,g.put (Nat.le_trans (Nat.le_succ _) Uk) (Nat.le_succ _) E (q1.mono Uk) w4 (TO _ _),fun h=>absurd h dI,fun _=>JP E (TO _ _)⟩
 rw[if_neg h3] at h0 ⊢;by_cases h4:s.kind=4
 ·rw[if_pos h4];exact⟨a,c,by omega,g,fun h=>absurd h dI,fun _=>rfl⟩
 rw[if_neg h4] at h0 ⊢;by_cases h5:s.kind=5
 ·rw[if_pos h5];obtain⟨q1,q2⟩:=aaO gt s hs.XK hs.XL hb;exact⟨a,c+1,by omega,g.put (by rw[←Ul];omega) (Nat.le_refl _) E (q1.mono (by rw[←Ul];omega)) w4 (TQ _ _),fun h=>absurd h dI,fun _=>JP E (TQ _ _)⟩
 rw[if_neg h5];obtain⟨q1,q2⟩:=Ye gt s.ah;exact⟨a,c,by omega,g.put (Nat.le_refl _) (Nat.le_refl _) E q1 w4 (TP _ _),fun h=>absurd h dI,fun _=>JP E (TP _ _)⟩

end Go.Proofs.YtbcmjoaggammcaaGreatDoor.Ba

namespace Go.Proofs.YtbcmjoaggammcaaGreatDoor.Pa
open List
open Go.Proofs.Tryz
open Go.RowKit V Pk Go.Proofs.YtbcmjoaggammcaaGreatDoor.Vl Go.Proofs.YtbcmjoaggammcaaGreatDoor.Nm Go.Proofs.YtbcmjoaggammcaaGreatDoor.Pc
section
variable {H:Type} {enc:TypeId×Value→H} {P:Program} {w:World} {base:Nat} {sp:Nat→Bool} {held:Bool}
theorem Zs {fuel:Nat} {t:TypeId} {f0 f1 f2 f3 f4 f5 f6 f7:Field} {E I O U Z α5 α6 α7:Type} {g0:E→List D} {k0:E→Prop} {g1:I→List D} {k1:I→Prop} {g2:O→List D} {k2:O→Prop} {g3:U→List D} {k3:U→Prop} {g4:Z→List D} {k4:Z→Prop} {g5:α5→List D} {k5:α5→Prop} {g6:α6→List D} {k6:α6→Prop} {g7:α7→List D} {k7:α7→Prop} {n0 n1 n2 n3 n4 n5 n6 n7:Nat}
  (ht:P.underlying t=some (.struct #[f0,f1,f2,f3,f4,f5,f6,f7])) (hc:P.cellsOf t=n0+n1+n2+n3+n4+n5+n6+n7) (o0:f0.offset=0) (c0:P.cellsOf f0.type=n0) (o1:f1.offset=n0) (c1:P.cellsOf f1.type=n1) (o2:f2.offset=n0+n1) (c2:P.cellsOf f2.type=n2) (o3:f3.offset=n0+n1+n2) (c3:P.cellsOf f3.type=n3) (o4:f4.offset=n0+n1+n2+n3) (c4:P.cellsOf f4.type=n4) (o5:f5.offset=n0+n1+n2+n3+n4) (c5:P.cellsOf f5.type=n5) (o6:f6.offset=n0+n1+n2+n3+n4+n5) (c6:P.cellsOf f6.type=n6) (o7:f7.offset=n0+n1+n2+n3+n4+n5+n6) (c7:P.cellsOf f7.type=n7)
  (r0:∀n,n+1=fuel→l5 n enc P w base sp held f0.type g0 k0) (r1:∀n,n+1=fuel→l5 n enc P w base sp held f1.type g1 k1) (r2:∀n,n+1=fuel→l5 n enc P w base sp held f2.type g2 k2) (r3:∀n,n+1=fuel→l5 n enc P w base sp held f3.type g3 k3) (r4:∀n,n+1=fuel→l5 n enc P w base sp held f4.type g4 k4) (r5:∀n,n+1=fuel→l5 n enc P w base sp held f5.type g5 k5) (r6:∀n,n+1=fuel→l5 n enc P w base sp held f6.type g6 k6) (r7:∀n,n+1=fuel→l5 n enc P w base sp held f7.type g7 k7) :
  l5 fuel enc P w base sp held t (fun a:E × I × O × U × Z × α5 × α6 × α7=>(g0 (a.1)++(g1 (a.2.1)++(g2 (a.2.2.1)++(g3 (a.2.2.2.1)++(g4 (a.2.2.2.2.1)++(g5 (a.2.2.2.2.2.1)++(g6 (a.2.2.2.2.2.2.1)++g7 (a.2.2.2.2.2.2.2))))))))) (fun a=>k0 (a.1)∧k1 (a.2.1)∧k2 (a.2.2.1)∧k3 (a.2.2.2.1)∧k4 (a.2.2.2.2.1)∧k5 (a.2.2.2.2.2.1)∧k6 (a.2.2.2.2.2.2.1)∧k7 (a.2.2.2.2.2.2.2)):=fun cs x h=>by
 obtain⟨xs,n,hn,_,hl,fT,hf⟩:=DataW.trod_struct ht h;have e0:=hf 0 f0 rfl;have e1:=hf 1 f1 rfl;have e2:=hf 2 f2 rfl;have e3:=hf 3 f3 rfl;have e4:=hf 4 f4 rfl;have e5:=hf 5 f5 rfl;have e6:=hf 6 f6 rfl;have e7:=hf 7 f7 rfl;rw[o0,c0,drop_zero] at e0;rw[o1,c1] at e1;rw[o2,c2] at e2;rw[o3,c3] at e3;rw[o4,c4] at e4;rw[o5,c5] at e5;rw[o6,c6] at e6;rw[o7,c7] at e7;have hx8:xs.length=8:=fT;rw[getElem?_eq_getElem w4] at e0 e1 e2 e3 e4 e5 e6 e7;obtain⟨a0,p0,q0⟩:=r0 n hn.symm _ _ e0;obtain⟨a1,p1,q1⟩:=r1 n hn.symm _ _ e1;obtain⟨a2,p2,q2⟩:=r2 n hn.symm _ _ e2;obtain⟨a3,p3,q3⟩:=r3 n hn.symm _ _ e3;obtain⟨a4,p4,q4⟩:=r4 n hn.symm _ _ e4;obtain⟨a5,p5,q5⟩:=r5 n hn.symm _ _ e5;obtain⟨a6,p6,q6⟩:=r6 n hn.symm _ _ e6;obtain⟨a7,p7,q7⟩:=r7 n hn.symm _ _ e7;refine⟨(a0,a1,a2,a3,a4,a5,a6,a7),?_,q0,q1,q2,q3,q4,q5,q6,q7⟩;have dw:cs=(cs.take n0++((cs.drop (n0)).take n1++((cs.drop (n0+n1)).take n2++((cs.drop (n0+n1+n2)).take n3++((cs.drop (n0+n1+n2+n3)).take n4++((cs.drop (n0+n1+n2+n3+n4)).take n5++((cs.drop (n0+n1+n2+n3+n4+n5)).take n6++((cs.drop (n0+n1+n2+n3+n4+n5+n6)).take n7)))))))):=by
  rw[take_of_length_le (l:=drop (n0+n1+n2+n3+n4+n5+n6) cs) (by rw[length_drop];omega)];have d2:cs.drop (n0+n1)=(cs.drop (n0)).drop n1:=(by rw[drop_drop])
  have d3:cs.drop (n0+n1+n2)=(cs.drop (n0+n1)).drop n2:=(by rw[drop_drop])
  have d4:cs.drop (n0+n1+n2+n3)=(cs.drop (n0+n1+n2)).drop n3:=(by rw[drop_drop])
  have d5:cs.drop (n0+n1+n2+n3+n4)=(cs.drop (n0+n1+n2+n3)).drop n4:=(by rw[drop_drop])
  have d6:cs.drop (n0+n1+n2+n3+n4+n5)=(cs.drop (n0+n1+n2+n3+n4)).drop n5:=(by rw[drop_drop])
  have d7:cs.drop (n0+n1+n2+n3+n4+n5+n6)=(cs.drop (n0+n1+n2+n3+n4+n5)).drop n6:=(by rw[drop_drop])
  rw[d7,take_append_drop,d6,take_append_drop,d5,take_append_drop,d4,take_append_drop,d3,take_append_drop,d2,take_append_drop,take_append_drop]
 rw[dw];exact(p0.append (p1.append (p2.append (p3.append (p4.append (p5.append (p6.append p7)))))))
end


structure Ph where
 k:Int
 t:Int
 a:Int
 b:Int
 row:List Vl
 bE:Tw
 wh:Tw
 bare:Bool
def Ph.cs(p:Ph):List D:=[.v (.int .i64 p.k)]++([.v (.int .i64 p.t)]++([.v (.int .i64 p.a)]++([.v (.int .i64 p.b)]++([.list 3 (p.row.flatMap cV) p.row.length]++(p.bE.cs++(p.wh.cs++[.v (.bool p.bare)]))))))
structure Ph.Ok (p:Ph):Prop where
 k:-9223372036854775808≤p.k∧p.k≤9223372036854775807
 t:-9223372036854775808≤p.t∧p.t≤9223372036854775807
 a:-9223372036854775808≤p.a∧p.a≤9223372036854775807
 b:-9223372036854775808≤p.b∧p.b≤9223372036854775807
 row:∀v∈p.row,v.s.size≤maxLen
 bE:p.bE.Ok
 wh:p.wh.Ok
theorem aef{H:Type}{enc:TypeId×Value→H}{w:World}{base:Nat}{sp:Nat→Bool}{held:Bool}:oM enc Tryz.prog w base sp held 137 cV (fun v:Vl=>v.s.size≤maxLen) :=
 (YJ (n0:=1) (n1:=1) (n2:=1) underlying137 ay rfl rfl rfl ay ay ay (uO underlying3) (uO underlying3) (Ov underlying9)).map (fun a=>(⟨a.1,a.2.1,a.2.2⟩:Vl)) (fun _=>rfl) (fun _ h=>h.2.2)
theorem Zt{H:Type}{enc:TypeId×Value→H}{w:World}{base:Nat}{sp:Nat→Bool}{held:Bool}(n:Nat):l5 n enc Tryz.prog w base sp held 78 Ph.cs Ph.Ok:=fun cs x h=>by
 obtain⟨⟨a0,a1,a2,a3,a4,a5,a6,a7⟩,h1,q0,q1,q2,E,I,O,U,_⟩:=Zs (fuel:=n) (n0:=1) (n1:=1) (n2:=1) (n3:=1) (n4:=1) (n5:=4) (n6:=4) (n7:=1) underlying78 ay rfl ay rfl ay rfl ay rfl ay rfl ay rfl ay rfl ay rfl ay
  (fun q _=>(uO underlying3).at q) (fun q _=>(uO underlying3).at q) (fun q _=>(uO underlying3).at q) (fun q _=>(uO underlying3).at q) (fun q _=>Oz (sz:=3) underlying73 ay w7 (fun z _=>aef.at z) fh) (fun q _=>Qh q) (fun q _=>Qh q) (fun q _=>(acI underlying4).at q) cs x h
 exact⟨⟨a0,a1,a2,a3,a4,a5,a6,a7⟩,h1,⟨q0,q1,q2,E,I.1,O,U⟩⟩
end Go.Proofs.YtbcmjoaggammcaaGreatDoor.Pa

namespace Go.Proofs.YtbcmjoaggammcaaGreatDoor.Ba
open List
open Go.Proofs.Tryz
open Go.RowKit V Pk Tr Vl Go.Proofs.YtbcmjoaggammcaaGreatDoor.Nm Pc Cd Ex Tw
open Pa (cQ cg mX jO nT iz ko lV jf iD eI Ph)
variable {G:List (Nat×List Value)} {m:Int}
variable {l:List aP}
theorem VC.VM{P:Program}{f:FuncId}{args args':List D}{S:List ag}{post:D→List ag→Prop}(h:VC P G f args S post)(k:pL args' args):VC P G f args' S post:=by
 obtain⟨h1,h2⟩:=k.spec;exact h.args h1.symm fun w L i q1 q2 v hr=>h2 i q2 q1 _ _ _ hr
theorem S5(hm:(3,marksC)∈G)(hw:(2,wordsC)∈G)(ht:(0,typesC)∈G)(hG:(1,[Value.int .i64 m])∈G)(p:Ph)(h:p.Ok):VC Tryz.prog G 25 [.agg p.cs] [] (fun r S'=>∃s,r = .agg (cg s)∧S'=[]∧nT s∧s.kind=1+dX p.k 6):=by
 obtain⟨k,t,a,b,row,⟨x1,O,U,E⟩,⟨y1,y2,y3,I⟩,bare⟩:=p;exact Pa.Yf k t a b row x1 O U E y1 y2 y3 I bare h.k.1 h.k.2 h.t.1 h.t.2 h.a.1 h.a.2 h.b.1 h.b.2 h.row h.bE h.wh
theorem Um(hm:(3,marksC)∈G)(hw:(2,wordsC)∈G)(ht:(0,typesC)∈G)(hG:(1,[Value.int .i64 m])∈G){a c:Nat}(g:qO l a c)(E:a+c≤30){s:cQ}(hs:Cc s)(fq:¬s.kind=2)(qp:s.kind≤6→cM s.table=0)(zV:s.kind≤6)(I:s.kind=1→s.av=dH):VP Tryz.prog G 12 [.agg [.list 5 ((l).flatMap dG) (l).length],.agg (cg s)] (GY (l7 l s)):=by
 refine afx hm hw ht hG l (Q3 E) g.g s hs.fin fq hs.row hs.wnm hs.wok hs.XK hs.XL fun h0=>?_;obtain⟨a',c',_,g',_⟩:=IB g E hs fq (qp zV) I h0;exact⟨Nat.le_trans g'.g.eK w7,fun t ht=>(g'.g.tb t ht).small⟩
theorem SZ{s:cQ}(h:(l7 l s).2.2=0):(er l s).2.2=0∧(l7 l s).1=(er l s).1:=by
 unfold l7 at h ⊢;by_cases h1:jO s≠0
 ·rw[if_pos h1] at h;exact absurd h h1
 rw[if_neg h1] at h ⊢;by_cases h2:7≤s.kind
 ·rw[if_pos h2] at h;cases h
 rw[if_neg h2] at h ⊢;by_cases h3:(er l s).2.2≠0
 ·rw[if_pos h3] at h;exact absurd h h3
 rw[if_neg h3];exact⟨Classical.not_not.1 h3,rfl⟩
def jK(x:ByteArray):cQ:={iD with kind:=1,table:=x,av:=dH}
theorem acz:∀x∈eI,jO (jK x)=0:=by decide +kernel
theorem S4{x:ByteArray}(hx:x∈eI):Cc (jK x):=nT.st (Pa.sy.wS (Pa.Oi (Pa.Fv x hx)))
def VA:List aP:=eI.map fun x=>gJ (jK x)
theorem TR:∀i (h:i<eI.length),l7 ((eI.take i).map fun x=>gJ (jK x)) (jK eI[i])=((eI.take (i+1)).map (fun x=>gJ (jK x)),(([],0),0)):=by
 intro i h;have hx:eI[i]∈eI:=getElem_mem h;unfold l7;rw[if_neg (by rw[acz _ hx];decide),if_neg (by show ¬(7:Int)≤1;decide)];have h1:er ((eI.take i).map fun x=>gJ (jK x)) (jK eI[i])=((eI.take (i+1)).map (fun x=>gJ (jK x)),(([],0),0)):=by
  have h2:i=0∨i=1:=(by have:eI.length=2:=rfl;omega)
  rcases h2 with rfl|rfl
  ·exact(show er ((eI.take 0).map fun x=>gJ (jK x)) (jK (eI[0]'w7))=((eI.take 1).map (fun x=>gJ (jK x)),(([],0),0)) by kernel_rfl)
  exact(show er ((eI.take 1).map fun x=>gJ (jK x)) (jK (eI[1]'w7))=((eI.take 2).map (fun x=>gJ (jK x)),(([],0),0)) by kernel_rfl)
 rw[h1];rfl
theorem yH(p:Ph):p.cs.length=14:=by
 obtain⟨k,t,a,b,row,⟨x1,O,U,E⟩,⟨y1,y2,y3,I⟩,bare⟩:=p;rfl
theorem aaT:qO [] 0 0:=⟨⟨by decide,(fun t h=>by cases h),(fun t h=>by cases h),Pairwise.nil⟩,(fun t h=>by cases h)⟩
theorem S6:(Nm.Tw.mk 0 0 ⟨#[]⟩ []).Ok:=by constructor<;>first|decide|(simp;done)|trivial
theorem aeg{s:cQ}(h:nT s):cM s.table=0:=by
 have hc:=h.2.2.2.2;have h6:=h.2.2.1;unfold iz at hc;split at hc
 ·rename_i h1;exact absurd hc h1.2
 rename_i h1;exact Classical.not_not.1 fun e=>h1 ⟨by omega,e⟩
theorem VB:∀i,i≤2→qO ((eI.take i).map fun x=>gJ (jK x)) 0 0:=by
 intro i;induction i with
 | zero=>intro _;exact aaT
 | succ i ih =>
  intro hi;have aa:i<eI.length:=(by have:eI.length=2:=rfl;omega)
  have hr:=TR i aa;have h0:(l7 ((eI.take i).map fun x=>gJ (jK x)) (jK eI[i])).2.2=0:=(by rw[hr])
  obtain⟨h1,h2⟩:=SZ h0;obtain⟨a',c',_,g',h4,_⟩:=IB (ih w4) w7 (S4 (getElem_mem aa)) (show ¬(1:Int)=2 by decide) (Pa.Fv _ (getElem_mem aa)) (fun _=>rfl) h1;obtain⟨_,rfl,rfl⟩:=h4 rfl;rw[←h2,hr] at g';exact g'
theorem aeh(hm:(3,marksC)∈G)(hw:(2,wordsC)∈G)(ht:(0,typesC)∈G)(hG:(1,[Value.int .i64 m])∈G)(ps:List Ph)(gM:∀p∈ps,p.Ok)(fH:ps.length≤maxLen):VC Tryz.prog G 9 [.list 14 (ps.flatMap Ph.cs) ps.length] [] (fun r S=>∃l a c,r = .agg [.list 5 ((l).flatMap dG) (l).length]∧S=[]∧qO l a c∧a+c≤30∧l.map aP.nm=eI):=by
 refine VC.body func9 rfl ntmps9 aO fun X0 w0 aZ=>?_;have dy:maxLen=9223372036854775807:=rfl;have oG:eI.length=2:=rfl;skip;refine bX ?_;refine OD.alloc (ds:=[_]) an rfl rfl zeroValue25 rfl (fun b2=>?_);refine aj 88 [0,2] ?_;refine bX ?_;refine OD.alloc (ds:=[_]) an rfl rfl zeroValue25 rfl (fun b3=>?_);refine OD.cells (k:=0) (cs':=[.list 5 [] 0]) rfl ⟨gd,trivial⟩ rfl ?_;refine aj 88 [0,2,3] ?_;refine ae [0,2,3,4] ?_;refine eB [0,2,3] (fun aW _ (i:Nat) aK=>(i≤2)∧aK=(⟨88,(4,.v (.int .i64 (i:Nat)))::aW,[⟨b3,25,1,[.list 5 ((((eI.take i).map fun x=>gJ (jK x))).flatMap dG) (((eI.take i).map fun x=>gJ (jK x))).length]⟩,⟨b2,25,1,[.v (.slice none 0 0)]⟩]⟩:St)) (fun (i:Nat)=>2-i) 0 ⟨(Nat.zero_le _),rfl⟩ ?_;rintro i _ ⟨hi,rfl⟩;refine ae [0,2,3,4,14] ?_;refine aq (fun az aH=>?_) (fun az aH=>?_)
 ·have aa:i<eI.length:=(by omega)
  have O:=VC.VM (Um hm hw ht hG (l:=((eI.take i).map fun x=>gJ (jK x))) (a:=0) (c:=0) (s:=jK (eI[i]'aa)) (VB i w4) w7 (S4 (getElem_mem aa)) (show ¬(1:Int)=2 by decide) (fun _=>Pa.Fv _ (getElem_mem aa)) (show(1:Int)≤6 by decide) (fun _=>rfl)) (args':=[.agg [.list 5 ((((eI.take i).map fun x=>gJ (jK x))).flatMap dG) (((eI.take i).map fun x=>gJ (jK x))).length],.agg [.v (.int .i64 1),.v (.string (eI[i]'aa)),.list 2 (dH.flatMap cC) dH.length,.v (.slice none 0 0),.v (.slice none 0 0),.v (.bool false),.v (.slice none 0 0),.v (.string ⟨#[]⟩),.v (.bool false),.v (.int .i64 (-1)),.v (.string ⟨#[]⟩),.v (.slice none 0 0)]]) ⟨eR,Jo ⟨eR,eR,eR,gd,gd,eR,gd,eR,eR,eR,eR,gd,trivial⟩,trivial⟩;rw[TR i aa] at O;unfold GY at O;refine CD.skip ?_;refine CD.seq ?_;refine CD.block ?_;refine CD.seq ?_;refine dv_ 14 13 12 [0,2,3,4,5,6,26,27,28] ?_;refine ni 1 ?_;refine MA (g:=cS) (eI) ?_;refine cU (OS) ?_;refine cU (O) ?_;refine ni 4 ?_;refine rj ?_;refine rj ?_;refine jR ?_;refine⟨rfl,rfl,fun b6 b5=>?_⟩;refine aN 1 [_] sizeOf25 ?_;refine aN 0 [_,_] sizeOf35 ?_;refine aj 88 [0,2,3,4,5,7] ?_;refine ae [0,2,3,4,5,30] ?_;refine aq (fun aG aV=>?_) (fun aG aV=>?_)
  ·refine dL 1 ?_;refine aN 2 [_] sizeOf25 ?_;refine aj 88 [0,2,3,4] ?_;refine cj [0,2,3,4] ?_;refine⟨(i+1),_,cx,aM,w4,rfl⟩
  exact absurd aG (by simp at aG)
 have lN:i=2:=(by omega)
 subst lN;have htw:((eI.take 2).map fun x=>gJ (jK x))=VA:=rfl;refine ae [0,2,3,8] ?_;refine eB [0,2,3] (fun aW _ (U:Nat×List aP×Nat×Nat) aK=>match U with|(k,l,a,c)=>(k≤30)∧(k≤ps.length)∧(a+c≤k)∧(qO l a c)∧((l).map aP.nm=eI)∧aK=(⟨88,(8,.v (.int .i64 (k:Nat)))::aW,[⟨b3,25,1,[.list 5 ((l).flatMap dG) (l).length]⟩,⟨b2,25,1,[.v (.slice none 0 0)]⟩]⟩:St)) (fun (U:Nat×List aP×Nat×Nat)=>match U with|(k,l,a,c)=>30-k) (0,VA,0,0) ⟨(Nat.zero_le _),(Nat.zero_le _),(Nat.le_refl _),(VB 2 (Nat.le_refl _)),rfl,rfl⟩ ?_;rintro⟨k,l,a,c⟩ _ ⟨lJ,hkp,hac,gn,I,rfl⟩;refine aC 5 ?_;refine bS 36 (fun ajW ag0=>?_) (fun ajW ag0=>?_)
 ·refine bf [0,2,3,8,39] ?_;refine aq (fun aY bz=>?_) (fun aY bz=>?_)
  ·have aa:k<ps.length:=(by first|omega|(simp at *;omega))
   have aoU:k<30:=(by first|omega|(simp at *;omega))
   have ri:=gM (ps[k]'aa) (getElem_mem aa);refine aC 3 ?_;refine bN (cJ (mk:=Op.load 78) rfl ot (jN (g:=Ph.cs) (ls:=ps) (i:=k) yH isAgg78 sizeOf78 aa)) ?_;refine OD.call an rfl rfl rfl call25 (S5 hm hw ht hG (ps[k]'aa) ri) ⟨ot,trivial⟩ (eN _) ?_;rintro _ _ ⟨s,rfl,rfl,Z,GP⟩;refine OD.alloc (ds:=[_,_,_,_,_,_,_,_,_,_,_,_]) an rfl rfl zeroValue42 rfl (fun b9=>?_);refine aN 0 [_,_,_,_,_,_,_,_,_,_,_,_] sizeOf42 ?_;refine aj 88 [0,2,3,8,9] ?_;refine jJ [0,2,3,8,9] (fun aW _ aK=>∃(s:cQ),(nT s)∧(¬s.kind=1∧¬s.kind=2)∧aK=(⟨88,aW,[⟨b9,42,12,cg s⟩,⟨b3,25,1,[.list 5 ((l).flatMap dG) (l).length]⟩,⟨b2,25,1,[.v (.slice none 0 0)]⟩]⟩:St)) ?_ ?_
   ·refine aC 4 ?_;refine bS 50 (fun VD ag1=>?_) (fun VD ag1=>?_)
    ·refine bf [0,2,3,8,9,54] ?_;refine eC ?_;exact VL
    refine bf [0,2,3,8,9,54] ?_;refine aq (fun bC bY=>?_) (fun bC bY=>?_)
    ·exact VL
    have E:¬s.kind=1∧¬s.kind=2:=(by first|exact⟨by simpa using VD,by simpa using bC⟩|(simp at *;omega))
    refine CD.skip ?_;refine⟨_,aM,s,Z,E,rfl⟩
   rintro _ ⟨s,Z,E,rfl⟩;refine CD.seq ?_;have Ao:=nT.st Z;have qp:=aeg Z;have O:=Um hm hw ht hG gn w4 Ao E.2 (fun _=>qp) Z.2.2.1 (fun h=>absurd h E.1);unfold GY at O;refine dL 2 ?_;refine dR call12 (O) ?_;refine aD 4 ?_;refine OD.alloc (ds:=[_]) an rfl rfl zeroValue25 rfl (fun kL=>?_);refine OD.alloc (ds:=[_,_]) an rfl rfl zeroValue35 rfl (fun kK=>?_);refine aN 1 [_] sizeOf25 ?_;refine aN 0 [_,_] sizeOf35 ?_;refine aj 88 [0,2,3,8,10,12] ?_;refine ae [0,2,3,8,10,85] ?_;refine aq (fun cy de=>?_) (fun cy de=>?_)
   ·have h0:(l7 l s).2.2=0:=(by simpa using cy)
    obtain⟨h1,h2⟩:=SZ h0;obtain⟨a',c',aoV,gn1,_,gi⟩:=IB gn w4 Ao E.2 qp (fun h=>absurd h E.1) h1;have gn2:qO (l7 l s).1 a' c':=(by rw[h2];exact gn1)
    have ag2:(l7 l s).1.map aP.nm=eI:=(by rw[h2,gi E.1];exact I)
    refine dL 1 ?_;refine aN 3 [_] sizeOf25 ?_;refine aj 88 [0,2,3,8] ?_;refine cj [0,2,3,8] ?_;refine⟨((k+1),(l7 l s).1,a',c'),_,cx,aM,w4,w4,w4,gn2,ag2,rfl⟩
   refine cj [0,2,3,8] ?_;refine⟨((k+1),l,a,c),_,cx,aM,w4,w4,w4,gn,I,rfl⟩
  refine aC 1 ?_;refine aN 1 [_] sizeOf25 ?_;refine aj 88 [2] ?_;refine aJ [] ?_;exact⟨l,a,c,rfl,rfl,gn,by omega,I⟩
 refine bf [0,2,3,8,39] ?_;refine fL ?_;refine aC 1 ?_;refine aN 1 [_] sizeOf25 ?_;refine aj 88 [2] ?_;refine aJ [] ?_;exact⟨l,a,c,rfl,rfl,gn,by omega,I⟩

theorem aei(h:l.map aP.nm=eI):aR l ⟨#[110,111,110,101]⟩<0:=by
 unfold aR;rw[uz (k:=l.length) w4 (fun x hx=>?_)]
 ·decide
 rw[take_of_length_le (Nat.le_refl _)] at hx;have:x.nm∈eI:=h ▸ mem_map_of_mem hx;have key:∀y∈eI,(y.toList==(⟨#[110,111,110,101]⟩:ByteArray).toList)=false:=(by decide +kernel)
 exact key _ this
theorem ajX(h:l.map aP.nm=eI):aR l ⟨#[116]⟩=0:=by
 match l,h with
 | a::r,h =>
  rw[map_cons] at h;have ha:a.nm=⟨#[116]⟩:=(by injection h)
  unfold aR;rw[vQ (ls:=a::r) (k:=0) bq (fun x hx=>by cases hx) (by show(a.nm.toList==_)=true;rw[ha];exact BEq.rfl)];rfl

end Go.Proofs.YtbcmjoaggammcaaGreatDoor.Ba
namespace Go.Proofs.YtbcmjoaggammcaaGreatDoor.Ba
open List
open Go.Proofs.Tryz
open Go.RowKit V Pk Tr Vl Go.Proofs.YtbcmjoaggammcaaGreatDoor.Nm Pc Cd Ex Tw
open Pa (Ph)
variable {m:Int}
def Aq(m:Int):List (Nat×List Value):=[(3,marksC),(2,wordsC),(0,typesC),(1,[Value.int .i64 m])]
theorem tm1:(3,marksC)∈Aq m:=mem_cons_self
theorem tm2:(2,wordsC)∈Aq m:=mem_cons_of_mem _ mem_cons_self
theorem tm3:(0,typesC)∈Aq m:=mem_cons_of_mem _ (mem_cons_of_mem _ mem_cons_self)
theorem tm4:(1,[Value.int .i64 m])∈Aq m:=mem_cons_of_mem _ (mem_cons_of_mem _ (mem_cons_of_mem _ mem_cons_self))
theorem ajY{w:World}(h1:MarksTab w)(h2:WordsTab w)(h3:TypesTab w)(h4:Tab.mv w 1 [Value.int .i64 m]):∀g∈Aq m,g.2≠[]∧BI w g.1 g.2:=fun g hg=>by
 rcases mem_cons.1 hg with rfl|hg
 ·exact⟨by decide,.of h1 rfl⟩
 rcases mem_cons.1 hg with rfl|hg
 ·exact⟨by decide,.of h2 rfl⟩
 rcases mem_cons.1 hg with rfl|hg
 ·exact⟨by decide,.of h3 rfl⟩
 rw[mem_singleton] at hg;subst hg;exact⟨by simp,.of h4 rfl⟩
theorem rd_phrases{H:Type}{enc:TypeId×Value→H}{w:World}{base E:Nat}{sp:Nat→Bool}{held:Bool}{v:Value}{d:DataW H}{p:List MemPlace}(hval:Value.okWide Tryz.prog w .any E 22 v)(h:DataW.Trod enc Tryz.prog w base sp held 22 v d p) :
  ∃l:List Ph,cl w (fun _=>False) (.list 14 (l.flatMap Ph.cs) l.length) v∧((∀x∈l,x.Ok)∧l.length≤maxLen)∧True:=by
 obtain⟨l,h1,h2,h3⟩:=aa7 (g:=Ph.cs) (ok:=Ph.Ok) (sz:=14) underlying22 ay w7 (fun n cs x hn=>Pa.Zt n cs x hn) yH hval h;exact⟨l,h1,⟨h2,h3⟩,trivial⟩

end Go.Proofs.YtbcmjoaggammcaaGreatDoor.Ba
namespace Go.Proofs.YtbcmjoaggammcaaGreatDoor.Ba
open List
open Go.Proofs.Tryz
open Go.RowKit V Pk Tr Vl Go.Proofs.YtbcmjoaggammcaaGreatDoor.Nm Pc Cd Ex Tw
open Pa (cQ cg mX jO nT iz ko lV jf iD eI Ph)
variable {G:List (Nat×List Value)} {m:Int}
variable {v:Vl} {t:aP} {n i:Nat} {l:List aP}
theorem aej(h:cA v=0)(hk:v.k=2):fS [v]=(fm [v],0):=by
 unfold fS;rw[if_neg bq,EC (fun x hx=>by rw[mem_singleton] at hx;rw[hx];exact h),if_neg bq,if_neg];show ¬(fm [v]).length>100;unfold fm Cd.pn r8;simp[hk,lF]
theorem HU(g:eO t n){i:Int}(h:gk t i):∃(v:Vl) (r:List Vl),rowAt t i=v::r∧r.length=3∧v.k=2∧v.s.size=0∧v.Ok∧cA v=0∧cX (rowAt t i)=fm [v]:=by
 obtain⟨h4,aS⟩:=gk.ok g h;obtain⟨h0,h1,h2⟩:=h;have hf:=(g.row _ h1 h2).1;rw[←iZ h1] at hf;match hr:rowAt t i,h4 with
 | v::r,h4 =>
  rw[hr] at hf aS;obtain⟨hv,hc⟩:=aS v mem_cons_self;have hk:v.k=2:=by
   unfold Pc.dW at hf;rw[if_neg By,if_neg y9] at hf;unfold dH Pc.pA at hf;split at hf
   ·rename_i h1;exact absurd hf h1
   rename_i h1;have h1:=Decidable.not_not.1 h1;unfold Pc.lY at h1;rw[if_neg (by rw[hc];decide)] at h1;split at h1
   ·cases h1
   rename_i h3;exact Decidable.not_not.1 fun e=>h3 ⟨e,.inl rfl⟩
  refine⟨v,r,rfl,by simpa using h4,hk,?_,hv,hc,?_⟩
  ·unfold cA at hc;rw[if_neg w4,if_neg w4,if_pos hk] at hc;split at hc
   ·cases hc
   rename_i h3;exact Decidable.not_not.1 h3
  unfold cX;rw[show(v::r).take 1=[v] from rfl,aej hc hk]
theorem int_lt{w:Vl}(E:cA v=0)(I:v.Ok)(kv:v.k=2)(O:v.s.size=0)(hw:cA w=0)(U:w.Ok)(kw:w.k=2)(sw:w.s.size=0)(h:bF (fm [v]) (fm [w])):v.n<w.n:=by
 rcases Int.lt_trichotomy v.n w.n with q|q|q
 ·exact q
 ·have hs:v.s=w.s:=by
   have Z:v.s.data.size=0:=O;have a2:w.s.data.size=0:=sw;have e1:v.s=⟨v.s.data⟩:=rfl;have e2:w.s=⟨w.s.data⟩:=rfl;rw[e1,e2,Array.eq_empty_of_size_eq_zero Z,Array.eq_empty_of_size_eq_zero a2]
  have:v=w:=(by cases v;cases w;simp_all)
  rw[this] at h;exact absurd h (jA _)
 have hl:fk w v<0:=(SF w v).2 (.inr ⟨by omega,.inl q⟩);have h3:=ac1 hw U E I [] [] w4;rw[append_nil,append_nil] at h3;have h4:bF (fm [w]) (fm [v]):=by
  unfold bF fm;rw[List.flatMap_singleton,List.flatMap_singleton,h3];exact hl
 exact absurd (lU h h4) (jA _)
noncomputable def nx(t:aP):List (List Vl):=(en t.ix).map fun x=>rowAt t x.2
theorem afB{nm:ByteArray}(h:aR l nm=(i:Int))(hi:i<l.length):tK l nm=(nx l[i],0):=by
 unfold tK;rw[h,if_neg w4,Int.toNat_natCast,getD_eq_getElem?_getD,getElem?_eq_getElem hi];rfl
theorem Jn(g:eO t n)(h:i<(nx t).length):∃h':i<(en t.ix).length,(nx t)[i]=rowAt t (en t.ix)[i].2∧gk t (en t.ix)[i].2∧(en t.ix)[i].1=cX (rowAt t (en t.ix)[i].2):=by
 have h':i<(en t.ix).length:=(by unfold nx at h;rwa [length_map] at h)
 obtain⟨h0,h1,h2,h3⟩:=g.iN _ (getElem_mem h');exact⟨h',by show((en t.ix).map fun x=>rowAt t x.2)[i]=_;exact getElem_map _,⟨h0,h1,h2⟩,by rw[iZ h1];exact h3⟩
theorem Oj(g:eO t n)(h:i<(nx t).length):∃(v:Vl) (r:List Vl),(nx t)[i]=v::r∧r.length=3∧v.k=2∧v.s.size=0∧v.Ok∧cA v=0:=by
 obtain⟨h',e,jV,_⟩:=Jn g h;obtain⟨v,r,h1,h2,h3,h4,h5,h6,_⟩:=HU g jV;exact⟨v,r,e.trans h1,h2,h3,h4,h5,h6⟩
theorem aaU(g:eO t n){j:Nat}(E:i<j)(h:j<(nx t).length){w:Vl}{r O:List Vl}(U:(nx t)[i]'(Nat.lt_trans E h)=v::r)(hw:(nx t)[j]=w::O):v.n<w.n:=by
 obtain⟨Aa,Z,I,ki⟩:=Jn g (Nat.lt_trans E h);obtain⟨iM,ej,inj,kj⟩:=Jn g h;obtain⟨v',r1,a1,_,a3,a4,a5,a6,a7⟩:=HU g I;obtain⟨w',r2,b1,_,b3,b4,b5,b6,b7⟩:=HU g inj;obtain⟨rfl,rfl⟩:=cons.inj (U.symm.trans (Z.trans a1));obtain⟨rfl,rfl⟩:=cons.inj (hw.symm.trans (ej.trans b1));have hq:(en t.ix).Pairwise fun x y=>bF x.1 y.1:=D4 g.ix.val;have hp:=pairwise_iff_getElem.1 hq i j Aa iM E;rw[ki,kj,a7,b7] at hp;exact int_lt a6 a5 a3 a4 b6 b5 b3 b4 hp
theorem acA(g:eO t n):(nx t).length≤16000:=by
 have:=QO g.ix [] [];rw[It] at this;unfold nx;rwa [length_map]
theorem aaV(h:l.map aP.nm=eI):tK l ⟨#[110,111,110,101]⟩=([],8):=if_pos (aei h)
theorem ajZ(h:l.map aP.nm=eI):l.length=2:=by have:=congrArg length h;rw[length_map] at this;rw[this];decide
theorem Zu(hm:(3,marksC)∈G)(hw:(2,wordsC)∈G)(ht:(0,typesC)∈G)(hG:(1,[Value.int .i64 m])∈G)(ps:List Ph)(gM:∀p∈ps,p.Ok)(fH:ps.length≤maxLen):VP Tryz.prog G 6 [.list 14 (ps.flatMap Ph.cs) ps.length] (.v (.bool true)):=by
 refine VC.body func6 rfl ntmps6 aO fun X0 w0 aZ=>?_;have dy:maxLen=9223372036854775807:=rfl;refine ae [0] ?_;refine aC 1 ?_;refine OD.call an rfl rfl rfl call9 (aeh hm hw ht hG ps gM fH) ⟨ot,trivial⟩ (eN _) ?_;rintro _ _ ⟨l,a,c,rfl,rfl,gn,hac,E⟩;refine OD.alloc (ds:=[_]) an rfl rfl zeroValue25 rfl (fun b3=>?_);refine aN 0 [_] sizeOf25 ?_;refine aj 60 [3] ?_;refine CD.seq ?_;have ir:=ajZ E;have XM:0<l.length:=(by omega)
 have Z:=SP hm hw ht hG l gn.g ⟨#[116]⟩;rw[afB (i:=0) (ajX E) XM] at Z;dsimp only at Z;have sR:=SP hm hw ht hG l gn.g ⟨#[110,111,110,101]⟩;rw[aaV E] at sR;dsimp only at sR;have hbc:=HT hm hw ht hG l gn.g;have hg0:=gn.g.tb _ (getElem_mem XM);have hrf:=acA hg0;refine gW [3,4,5] ?_;refine cU (Z) ?_;refine bH ?_;refine ae [3,4,5,6] ?_;refine eB [3,4,5] (fun aW rz (i:Nat) aK=>(1≤i)∧aK=(⟨60,(6,.v (.int .i64 (i:Nat)))::aW,rz⟩:St)) (fun (i:Nat)=>(nx l[0]).length-i) 1 ⟨(Nat.le_refl _),rfl⟩ ?_;rintro i _ ⟨hi,rfl⟩;refine ae [3,4,5,6,19] ?_;refine aq (fun az aH=>?_) (fun az aH=>?_)
 ·have aa:i<(nx l[0]).length:=(by omega)
  have I:i-1<(nx l[0]).length:=(by omega)
  obtain⟨v,r,ev,lv,kv,sv,okv,cv⟩:=Oj hg0 I;obtain⟨w,r2,ew,lw,kw,sw,okw,cw⟩:=Oj hg0 aa;have hlw:0<(nx l[0])[i].length:=(by rw[ew];simp)
  have hlv:0<(nx l[0])[i-1].length:=(by rw[ev];simp)
  have hvw:=aaU hg0 (Nat.sub_lt_self w4 w4) aa ev ew;refine cN [3,4,5,6,37] ?_;refine aQ 4 ?_ (h:=by exact(pV (mk:=Op.indexAddr 27) rfl ot bJ Lr));refine aQ 5 ?_ (h:=by exact(c9 1 (h:=by first|exact .l (j:=i-1) w4 I|exact .r (j:=i-1) w4 I)));refine aQ 1 ?_ (h:=by exact(pV (mk:=Op.indexAddr 27) rfl ot bJ Lr));refine bH ?_;refine aq (fun aG aV=>?_) (fun aG aV=>?_)
  ·exact absurd aG (by simp[ew,ev] at aG;omega)
  refine cj [3,4,5,6] ?_;refine⟨(i+1),_,cx,aM,w4,rfl⟩
 refine cL [3,5,8] (sR) ?_;refine aC 3 ?_;refine bS 45 (fun O ag3=>?_) (fun O ag3=>?_)
 ·refine aD 4 ?_;refine bS 49 (fun U Ka=>?_) (fun U Ka=>?_)
  ·refine aD 1 ?_;refine OD.gI gL rfl rfl rfl call20 (hbc) ⟨ot,trivial⟩ ?_;refine aD 3 ?_;refine bS 54 (fun rX uW=>?_) (fun rX uW=>?_)
   ·refine aj 60 [2] ?_;refine aJ [] ?_;refine⟨?_,rfl⟩;first|rfl|(simp;omega)|simp[ir]
   exact absurd rX (by simp at rX)
  exact absurd U (by simp at U)
 exact absurd O (by simp at O)
theorem walkBaseMay(l:List Ph)(v:Value)(ok:(∀x∈l,x.Ok)∧l.length≤maxLen)(w:World)(h1:MarksTab w)(h2:WordsTab w)(h3:TypesTab w){m:Int}(hm:Tab.mv w 1 [Value.int .i64 m])(E:cl w (fun _=>False) (.list 14 (l.flatMap Ph.cs) l.length) v):Calls Tryz.prog 6 #[v] w fun e w'=>e = .returned (.bool true)∧Below w.heap.size w w' :=
 (Zu (G:=Aq m) tm1 tm2 tm3 tm4 l ok.1 ok.2).ahj (ajY h1 h2 h3 hm) (vs:=[v]) (cH.cons E (cH.vs w _ []))

end Go.Proofs.YtbcmjoaggammcaaGreatDoor.Ba
