/-
  GS: walks and plain facts, part 8.
-/
import Derived.Test.YtbplamgacibdaaaGreatDoorPGS7
set_option linter.unusedVariables false
set_option linter.unusedSimpArgs false
set_option maxRecDepth 100000
set_option maxHeartbeats 4000000
namespace Go.Proofs.YtbplamgacibdaaaGreatDoor
namespace Ba
open List
open Go.Proofs.Tryz
open Go.RowKit V Pk Tr Vl Go.Proofs.YtbplamgacibdaaaGreatDoor.Nm Pc Cd Ex Tw
open Pa (cn bK)
section
variable {G:List (Nat×List Value)} {m:Int}
variable {t:aK} {L:List cg} {ad:Option Addr} {cap i n:Nat} {E S:List ag} {o:cg} {p:(List (List Vl)×Int)×Int}
def HP(t:aK)(L:List cg)(ad:Option Addr)(cap:Nat)(Sr:List ag):Prop:=L.map cg.r=t.rows/\(∀o∈L,o8 o)/\uA L ad cap Sr
theorem afl(h:HP t L ad cap E)(hs:∀B∈E++L.flatMap bR,B∈S):View S (.agg (tC t ad cap)) (.agg (dw t)) :=
 VH (o:=⟨t,L.flatMap gR,ad,cap,E,L.flatMap bR⟩) (q9.w ⟨L,rfl,rfl,h.2.1,h.1,h.2.2⟩) hs
theorem Ur(aQ:∀o∈L,o8 o)(hi:i<L.length)(hs:∀B∈L.flatMap bR,B∈S):View S (aN L[i].ad L[i].r.length L[i].cap) (.list 3 (L[i].r.flatMap cV) L[i].r.length) :=
 mX (aQ _ (getElem_mem hi)) (cz fQ _) (fun B hB=>hs B (mem_flatMap.2 ⟨_,getElem_mem hi,hB⟩))
theorem LI(f:ag->Nat):∀(L:List cg) (i:Nat) (o:cg) (h:i<L.length),(((L.set i o).flatMap bR).map f).sum=(o.S.map f).sum+(((L.eraseIdx i).flatMap bR).map f).sum
 | [],_,_,h=>absurd h (Nat.not_lt_zero _)
 | x::L,0,o,_=>by simp[bR]
 | x::L,i+1,o,h=>by
  have:=LI f L i o (Nat.lt_of_succ_lt_succ h);simp only[set_cons_succ,flatMap_cons,map_append,sum_append,eraseIdx_cons_succ,this];omega
theorem Us{A B C X:ag}(h:i<L.length)(hS:L[i].S=[X]):(A::B::([C]++L.flatMap bR)).Perm (X::A::B::C::(L.eraseIdx i).flatMap bR):=j9 fun f=>by
 have:=LI f L i L[i] h;rw[set_getElem_self,hS] at this;simp only[map_cons,sum_cons,map_append,sum_append,map_nil,sum_nil,this];omega
theorem VX{A B C X:ag}(h:i<L.length)(hS:o.S=[X]):(X::A::B::C::(L.eraseIdx i).flatMap bR).Perm (A::B::([C]++(L.set i o).flatMap bR)):=j9 fun f=>by
 have:=LI f L i o h;rw[hS] at this;simp only[map_cons,sum_cons,map_append,sum_append,map_nil,sum_nil,this];omega
theorem Ut{t:aK}{c:Int}{e:List aH}:∀(l:List Int) (acc:List Vl),(jv t c e acc l).2=0->(jv t c e acc l).1.length=acc.length+l.length
 | [],acc,_=>rfl
 | i::r,acc,h=>by
  rw[jv] at h |-;split
  ·rename_i h1;rw[if_pos h1] at h;exact absurd h h1
  rename_i h1;rw[if_neg h1] at h;split
  ·rename_i h2;rw[if_pos h2] at h;cases h
  rename_i h2;rw[if_neg h2] at h;rw[Ut r _ h,length_append,length_cons,length_cons,length_nil];omega
theorem KI{t:aK}{n:Nat}(g:eV t n){c:Int}{e:List aH}(j5:∀o∈e,o.nm.size<=maxLen)(gl:∀o∈e,o.v.Ok)(hk:(cu aL e).2=0):∀(l:List Int) (acc:List Vl),(∀i∈l,gP t i)->(jv t c e acc l).2=0 ->
  (∀v∈acc,v.Ok/\jL (cu aL e).1 v/\(c=0->v.k≠0))->∀v∈(jv t c e acc l).1,v.Ok/\jL (cu aL e).1 v/\(c=0->v.k≠0)
 | [],acc,_,_,ha=>ha
 | i::r,acc,hl,h,ha=>by
  rw[jv] at h |-;have hi:=hl i mem_cons_self;obtain⟨h0,h1,h2⟩:=id hi;obtain⟨p1,p2,_⟩:=g.row _ h1 h2;rw[<-jt h1] at p1 p2;split
  ·rename_i h1;rw[if_pos h1] at h;exact absurd h h1
  rename_i hne;rw[if_neg hne] at h;split
  ·rename_i h2;rw[if_pos h2] at h;cases h
  rename_i h3;rw[if_neg h3] at h;refine KI g j5 gl hk r _ (fun j hj=>hl j (mem_cons_of_mem _ hj)) h fun v hv=>?_;rcases mem_append.1 hv with hv|hv
  ·exact ha v hv
  rw[mem_singleton] at hv;subst hv;rw[g.au] at hne h3 |-;exact⟨aix p2 gl,agS j5 gl p1 hk (Classical.not_not.1 hne),fun hc hz=>h3 ⟨hc,hz⟩⟩
theorem LJ{g:cg->List D}:∀(M:List cg) (i:Nat) (h:i<M.length) (o:cg),g o=g M[i]->(M.set i o).flatMap g=M.flatMap g
 | [],_,h,_,_=>absurd h (Nat.not_lt_zero _)
 | x::M,0,_,o,e=>by
  rw[set_cons_zero,flatMap_cons,flatMap_cons,e];rfl
 | x::M,i+1,h,o,e=>by
  rw[set_cons_succ,flatMap_cons,flatMap_cons,LJ M i (Nat.lt_of_succ_lt_succ h) o e]
theorem SF{x:aE}{M:List cg}{i:Int}(h:i.toNat<M.length):rowAt {t with rows:=M.map cg.r,ix:=x} i=M[i.toNat].r:=by
 rw[jt (by show _<(M.map cg.r).length;rw[length_map];exact h)];exact getElem_map ..
theorem VY{x:aE}{M:List cg}{i:Int}(h:i.toNat<M.length){c:Nat}{v:Vl}(ho:o.r=M[i.toNat].r.set c v):tg {t with rows:=M.map cg.r,ix:=x} i c v={t with rows:=(M.set i.toNat o).map cg.r,ix:=x}:=by
 unfold tg;rw[SF h,map_set,ho]
theorem agT{c:Nat}{l:List Vl}:nQ c t [] l=t:=by unfold nQ;rfl
theorem ae6{l:List Vl}:lB t [] l=(t,0):=by unfold lB;rfl
theorem HQ{l:List (List Vl)}(h:L.map cg.r=l)(h1:i<L.length)(h2:i<l.length):L[i].r=l[i]:=by subst h;rw[getElem_map]
theorem adu:(Tryz.prog.info? 56).map (fun i=>(i.zero,i.size,i.bytes))=some (some (.agg #[.int .i64 0,.int .i64 0,.string ⟨#[]⟩]),3,32):=by kernel_rfl
theorem ae7(hm:(3,marksC)∈G)(hw:(1,wordsC)∈G)(ht:(0,typesC)∈G)(hG:(2,[Value.int .i64 m])∈G)(t:aK)(g:eV t n)(s:cn)(ho:∀o∈s.ah,o.nm.size<=maxLen)(gl:∀o∈s.ah,o.v.Ok)(n8:∀o∈s.bM,o.nm.size<=maxLen)(HR:∀o∈s.bM,o.v.Ok)(hn:n<=260)(bt off Z:Nat)(pre post:List D)(hp:pre.length=off)(L:List cg)(ad:Option Addr)(cap:Nat)(Sr:List ag)(hL:L.map cg.r=t.rows)(aQ:∀o∈L,o8 o)(fy:uA L ad cap Sr):VC Tryz.prog G 47 [.v (.pointer (some ⟨bt,off,none⟩)),.agg (bK s)] (⟨bt,68,Z,pre++(tC t ad cap++post)⟩::(Sr++L.flatMap bR)) (fun r S=>r = .dB [ae (iH t s).2.1,ae (iH t s).2.2]/\((iH t s).2.2=0->∃L' gL aO qM,HP (iH t s).1 L' gL aO qM/\S=⟨bt,68,Z,pre++(tC (iH t s).1 gL aO++post)⟩::(qM++L'.flatMap bR))):=by
 refine bn func47 rfl ntmps47 aP fun X0 w0 bj=>?_;have dH:=ey;have Oq:HP t L ad cap Sr:=⟨hL,aQ,fy⟩
 have tH:L.length=t.rows.length:=(by rw[<-hL];(first|rw[length_map]|(unfold an;rw[length_map])))
 have nO:=g.eU;have E4:=Gt g s.ah;have O:=ud g s.ah;have hnd:=FF g s.ah;have aor:t.au.length=4:=(by rw[g.au];rfl)
 have alz:=J8 (G:=G) t w4 s.set;have xK:=Gi (G:=G) hm hw ht t.au yy yx s.bM n8;unfold qb at xK;have hcb:=x8 (fun c:cm=>c.n.toList==s.set.toList) t.au;rw[show c9 (fun c:cm=>c.n.toList==s.set.toList) t.au=(bE t.au s.set) from rfl] at hcb;unfold tC;unfold bK;refine bX ?_;refine cW [_,_,_,_,_,_,_,_,_,_,_,_] (fun b3=>?_);refine aq 205 [0,3] ?_;refine cN [0,3,6] ?_;refine aT 2 ?_ (h:=by exact(NU 1));refine mr 2 ?_;refine Bb (alz) (ha:=Zv) (K:=?_);refine bL ?_;refine ax [0,3,6,30] ?_ ?_<;>intro aM bG
 ·have hA:(bE t.au s.set)<0:=(by simpa using aM)
  have aY:iH t s=(t,0,8):=(by unfold iH;rw[if_pos hA])
  exact yH
 have hA:¬(bE t.au s.set)<0:=(by simpa using aM)
 have lm:(bE t.au s.set).toNat<t.au.length:=(by omega)
 refine cN [0,3,6,7,8] ?_;refine aT 3 ?_ (h:=by exact(pP 1));refine cL (xK) ?_;refine bL ?_;refine ax [0,3,6,7,8,42] ?_ ?_<;>intro bf cD
 ·have hB:(cu t.au s.bM).2≠0:=(by simpa using bf)
  have aY:iH t s=(t,0,(cu t.au s.bM).2):=(by unfold iH;rw[if_neg hA,if_pos hB])
  exact yH
 have hB:¬(cu t.au s.bM).2≠0:=(by simpa using bf)
 have k8:t.au.getD (bE t.au s.set).toNat ⟨⟨#[]⟩,0⟩=t.au[(bE t.au s.set).toNat]:=(by rw[getD_eq_getElem?_getD,getElem?_eq_getElem lm];rfl)
 refine en ?_;refine iT [0,3,6] (fun aV oI aF=>(¬((cu t.au s.bM).1≠(t.au.getD (bE t.au s.set).toNat ⟨⟨#[]⟩,0⟩).k/\(cu t.au s.bM).1≠0))/\aF=(⟨205,aV,oI⟩:St)) ?_ ?_
 ·refine az 4 ?_;refine bQ (pP 1) ?_;refine aG 1 ?_;refine bQ (ei 2 (h:=by first|exact .l (j:=(bE t.au s.set).toNat) (Int.toNat_of_nonneg w4).symm lm|exact .r (j:=(bE t.au s.set).toNat) (Int.toNat_of_nonneg w4).symm lm)) ?_;refine aG 4 ?_;refine bU 54 (fun Bi AJ=>?_) (fun Bi AJ=>?_)
  ·refine aq 205 [0,3,6,57] ?_;refine cj ?_ ?_<;>intro cr cU
   ·have hC:(cu t.au s.bM).1≠(t.au.getD (bE t.au s.set).toNat ⟨⟨#[]⟩,0⟩).k/\(cu t.au s.bM).1≠0:=(by rw[k8];exact⟨by simpa using Bi,by simpa using cr⟩)
    have aY:iH t s=(t,0,4):=(by unfold iH;rw[if_neg hA,if_neg hB,if_pos hC])
    exact yH
   exact Z3
  refine aq 205 [0,3,6,57] ?_;refine gB ?_;exact Z3
 rintro _ ⟨hC,rfl⟩;refine cN [0,3,6,8,9] ?_;refine aT 2 ?_ (h:=by exact(NU 1));refine mr 2 ?_;refine A9 (Mg hm hw ht hG t g s.ah ho gl) (fun r S h=>h.flat) (fun r S h=>h.view) (ha:=Zv) (K:=?_);refine bL ?_;refine ax [0,3,6,8,9,68] ?_ ?_<;>intro de eG
 ·have hD:(ap t s.ah).2≠0:=(by simpa using de)
  have aY:iH t s=(t,0,(ap t s.ah).2):=(by unfold iH;rw[if_neg hA,if_neg hB,if_neg hC,if_pos hD])
  exact yH
 have hD:¬(ap t s.ah).2≠0:=(by simpa using de)
 refine bX ?_;refine bA [0,3,6,9,10] ?_;refine aA [0,3,6,9,10,70,71,72] ?_;refine fa [0,3,6,9,70,71] (fun aV _ (E:Nat×List Vl×Option Addr×Nat×List ag) aF=>match E with|(k,acc,dP,dm,Sx)=>(k<=(ap t s.ah).1.length)/\((acc).length=k)/\((jv t (bE t.au s.set) s.bM [] (ap t s.ah).1)=jv t (bE t.au s.set) s.bM acc ((ap t s.ah).1.drop k))/\(bq 56 3 ((acc).flatMap cV) (acc).length dP dm Sx)/\aF=(⟨205,(10,aN dP (acc).length dm)::(72,ae (k:Nat))::aV,(⟨b3,44,12,bK s⟩::⟨bt,68,Z,pre++([bg t.nm,an 2 cC t.au,aN ad t.rows.length cap,an 5 cP t.ix.af,ae t.ix.root]++post)⟩::(Sr++(Sx++L.flatMap bR)))⟩:St)) (fun (E:Nat×List Vl×Option Addr×Nat×List ag)=>match E with|(k,acc,dP,dm,Sx)=>(ap t s.ah).1.length-k) (0,([]:List Vl),none,0,[]) ⟨(Nat.zero_le _),rfl,rfl,jj,rfl⟩ ?_;rintro⟨k,acc,dP,dm,Sx⟩ _ ⟨hk,s8,Bt,ev,rfl⟩;refine ax [0,3,6,9,10,70,71,72,73] ?_ ?_<;>intro eo fS
 ·have aa:k<(ap t s.ah).1.length:=(by omega)
  have gY:(ap t s.ah).1.drop k=((ap t s.ah).1[k]'aa)::(ap t s.ah).1.drop (k+1):=drop_eq_getElem_cons aa;have tL:gP t ((ap t s.ah).1[k]'aa):=O _ (getElem_mem aa);obtain⟨jm,eZ,nZ⟩:=id tL;have gK:((ap t s.ah).1[k]'aa).toNat<L.length:=(by rw[tH];exact eZ)
  obtain⟨br,rfl,sg,nW,rfl⟩:=fy.pos w4;have xL:L[((ap t s.ah).1[k]'aa).toNat].r=rowAt t ((ap t s.ah).1[k]'aa):=(by rw[jt eZ];exact(HQ hL gK eZ))
  obtain⟨go1,E5⟩:=gP.ok g tL;have NV:=Vp (G:=G) hm hw ht t.au yy yx L[((ap t s.ah).1[k]'aa).toNat].r (by rw[xL];omega) (by rw[xL];exact fun v hv=>(E5 v hv).1) s.bM n8 HR;rw[show c8 t.au L[((ap t s.ah).1[k]'aa).toNat].r s.bM=(c8 t.au (rowAt t ((ap t s.ah).1[k]'aa)) s.bM) from by rw[xL]] at NV;unfold oc at NV;refine aA [0,3,6,9,10,12,70,71,72] ?_;refine cQ ?_;refine uL 18 17 [0,3,6,9,10,13,70,71,72,91,92] ?_;refine aT 3 ?_ (h:=by exact(pP 1));refine aT 3 ?_ (h:=by exact(pP 1));refine aT 1 ?_ (h:=N9);refine aT 0 ?_ (h:=Xz);refine mr 2 ?_;refine Bb (NV) (ha:=by exact⟨⟨_,ot,fq⟩,⟨_,ot,(Ur aQ gK (fun B hB=>by repeat (first|exact hB|apply mem_append_right|apply mem_cons_of_mem)))⟩,⟨_,ot,fq⟩,trivial⟩) (K:=?_);refine mr 3 ?_;refine nV ?_;refine jR ?_;refine⟨rfl,fun b13=>?_⟩;refine aR 0 [_,_,_] sizeOf56 ?_;refine aq 205 [0,3,6,9,10,13,14,70,71,72] ?_;refine ax [0,3,6,9,10,13,14,70,71,72,94] ?_ ?_<;>intro gk iC
  ·have hE:(c8 t.au (rowAt t ((ap t s.ah).1[k]'aa)) s.bM).2≠0:=(by simpa using gk)
   have iS:(jv t (bE t.au s.set) s.bM [] (ap t s.ah).1)=([],(c8 t.au (rowAt t ((ap t s.ah).1[k]'aa)) s.bM).2):=(by rw[Bt,gY,jv,if_pos hE])
   have aY:iH t s=(t,0,(c8 t.au (rowAt t ((ap t s.ah).1[k]'aa)) s.bM).2):=(by unfold iH;rw[if_neg hA,if_neg hB,if_neg hC,if_neg hD,iS,if_pos hE])
   exact yH
  have hE:¬(c8 t.au (rowAt t ((ap t s.ah).1[k]'aa)) s.bM).2≠0:=(by simpa using gk)
  refine en ?_;refine iT [0,3,6,9,10,13,70,71,72] (fun aV oI aF=>((jv t (bE t.au s.set) s.bM [] (ap t s.ah).1)=jv t (bE t.au s.set) s.bM (acc++[(c8 t.au (rowAt t ((ap t s.ah).1[k]'aa)) s.bM).1]) ((ap t s.ah).1.drop (k+1)))/\aF=(⟨205,aV,oI⟩:St)) ?_ ?_
  ·refine az 3 ?_;refine bU 98 (fun A4 G9=>?_) (fun A4 G9=>?_)
   ·refine bA [0,3,6,9,10,13,70,71,72,102] ?_;refine cj ?_ ?_<;>intro iQ qa
    ·have hF:(bE t.au s.set)=0/\(c8 t.au (rowAt t ((ap t s.ah).1[k]'aa)) s.bM).1.k=0:=⟨G9,by simpa using iQ⟩
     have iS:(jv t (bE t.au s.set) s.bM [] (ap t s.ah).1)=([],4):=(by rw[Bt,gY,jv,if_neg hE,if_pos hF])
     have aY:iH t s=(t,0,4):=(by unfold iH;rw[if_neg hA,if_neg hB,if_neg hC,if_neg hD,iS,if_pos w8])
     exact yH
    exact z51
   refine bA [0,3,6,9,10,13,70,71,72,102] ?_;refine gB ?_;exact z51
  rintro _ ⟨oX,rfl⟩;refine dV 2 ?_;refine eH (cx 0 [_]) [.int .i64 0,.int .i64 0,.string ⟨#[]⟩] [_,_,_] zeroValue56 runUnderlying40 sizeOf56 (fun aui=>?_);refine gh 0 105 3 1 ?_;refine fY (ls:=acc) (new:=[(c8 t.au (rowAt t ((ap t s.ah).1[k]'aa)) s.bM).1]) (Sq:=Sx) fQ GF av rfl rfl underlying40 adu rfl w8 ot ev (u5 (A:=[_,_,_]) (S1:=[⟨br,40,cap*1,L.flatMap gR⟩]) (S2:=Sx) (S3:=L.flatMap bR)) ot bp oA oB (fun NW MK alA alB=>?_);refine bZ (xY (S2:=[⟨NW,56,MK*3,flatMap cV (acc++[(c8 t.au (rowAt t ((ap t s.ah).1[k]'aa)) s.bM).1])⟩]) (A:=[_,_,_])) ?_;refine aq 205 [0,3,6,9,10,70,71,72] ?_;refine cc [0,3,6,9,10,70,71,72] ?_;refine⟨((k+1),(acc++[(c8 t.au (rowAt t ((ap t s.ah).1[k]'aa)) s.bM).1]),(some ⟨NW,0,none⟩),MK,[⟨NW,56,MK*3,flatMap cV (acc++[(c8 t.au (rowAt t ((ap t s.ah).1[k]'aa)) s.bM).1])⟩]),_,cG,aI,w4,yX,oX,(bN alA alB),rfl⟩
 have E6:(jv t (bE t.au s.set) s.bM [] (ap t s.ah).1)=(acc,0):=(by rw[Bt,drop_of_length_le w4];rfl)
 have hN:¬(jv t (bE t.au s.set) s.bM [] (ap t s.ah).1).2≠0:=(by rw[E6];exact fun h=>h rfl)
 have qL:acc.length=(ap t s.ah).1.length:=(by omega)
 have YV:=KI g n8 HR (c:=(bE t.au s.set)) (by rw[<-g.au];exact Classical.not_not.1 hB) (ap t s.ah).1 [] O (Classical.not_not.1 hN) (fun v hv=>by cases hv);rw[E6] at YV;have hl4:∀i∈(ap t s.ah).1,∃h:i.toNat<L.length,L[i.toNat].r.length=4:=fun i hi=>by obtain⟨h0,h1,h2⟩:=O i hi;have:=(gP.ok g (O i hi)).1;rw[jt h1] at this;exact⟨by omega,by rw[HQ hL w4 h1];exact this⟩
 have Pd:∀i∈(ap t s.ah).1,∃h:i.toNat<L.length,Pc.dR aL L[i.toNat].r=0/\∀v∈L[i.toNat].r,v.Ok:=fun i hi=>by obtain⟨h0,h1,h2⟩:=O i hi;obtain⟨p1,p2,_⟩:=g.row _ h1 h2;exact⟨by omega,by rw[HQ hL w4 h1];exact⟨p1,p2⟩⟩
 refine qq ?_;refine cQ ?_;refine cQ ?_;refine oL (t:=10) (Sq:=Sx) lk ev (cz fQ _) (u5 (A:=[_,_])) ?_;refine uP ?_;refine bA [0,6,9,10,109] ?_;refine cj ?_ ?_<;>intro jn nK
 ·have hP:0<(bE t.au s.set):=(by simpa using jn)
  refine aA [0,6,9,10,110,111,112] ?_;refine fa [0,6,9,10,110,111] (fun aV _ (E:Nat×List cg) aF=>match E with|(k,M)=>(k<=(ap t s.ah).1.length)/\(nQ (bE t.au s.set).toNat {t with rows:=M.map cg.r} ((ap t s.ah).1.drop k) (acc.drop k)=nQ (bE t.au s.set).toNat t (ap t s.ah).1 acc)/\(∀o∈M,o8 o)/\(uA M ad cap Sr)/\(M.length=t.rows.length)/\(∀i∈(ap t s.ah).1,∃h:i.toNat<M.length,M[i.toNat].r.length=4)/\aF=(⟨205,(112,ae (k:Nat))::aV,(⟨b3,44,12,bK s⟩::⟨bt,68,Z,pre++([bg t.nm,an 2 cC t.au,aN ad t.rows.length cap,an 5 cP t.ix.af,ae t.ix.root]++post)⟩::(Sr++M.flatMap bR))⟩:St)) (fun (E:Nat×List cg)=>match E with|(k,M)=>(ap t s.ah).1.length-k) (0,L) ⟨(Nat.zero_le _),(by rw[hL];rfl),aQ,fy,tH,hl4,rfl⟩ ?_;rintro⟨k,M⟩ _ ⟨cl,YW,I,xJ,xn,hM4,rfl⟩;refine ax [0,6,9,10,110,111,112,113] ?_ ?_<;>intro qP Bc
  ·have aa:k<(ap t s.ah).1.length:=(by omega)
   have dA:k<acc.length:=(by omega)
   have gY:(ap t s.ah).1.drop k=((ap t s.ah).1[k]'aa)::(ap t s.ah).1.drop (k+1):=drop_eq_getElem_cons aa;have jI:acc.drop k=(acc[k]'dA)::acc.drop (k+1):=drop_eq_getElem_cons dA;obtain⟨jm,eZ,nZ⟩:=O _ (getElem_mem aa);obtain⟨gK,U⟩:=hM4 _ (getElem_mem aa);obtain⟨br,rfl,sg,nW,rfl⟩:=xJ.pos w4;obtain⟨bw,DK,yY,H6,Qe⟩:=(I _ (getElem_mem gK)).pos w4;have kD:∀o∈(M.set ((ap t s.ah).1[k]'aa).toNat (⟨M[((ap t s.ah).1[k]'aa).toNat].r.set (bE t.au s.set).toNat (acc[k]'dA),some ⟨bw,0,none⟩,M[((ap t s.ah).1[k]'aa).toNat].cap,[⟨bw,56,M[((ap t s.ah).1[k]'aa).toNat].cap*3,(M[((ap t s.ah).1[k]'aa).toNat].r.set (bE t.au s.set).toNat (acc[k]'dA)).flatMap cV⟩]⟩:cg)),o8 o:=fun o ho=>by rcases mem_or_eq_of_mem_set ho with h|h;exact I o h;rw[h];exact bN (g:=cV) (by rw[length_set];exact yY) H6
   have Qf:(M.set ((ap t s.ah).1[k]'aa).toNat (⟨M[((ap t s.ah).1[k]'aa).toNat].r.set (bE t.au s.set).toNat (acc[k]'dA),some ⟨bw,0,none⟩,M[((ap t s.ah).1[k]'aa).toNat].cap,[⟨bw,56,M[((ap t s.ah).1[k]'aa).toNat].cap*3,(M[((ap t s.ah).1[k]'aa).toNat].r.set (bE t.au s.set).toNat (acc[k]'dA)).flatMap cV⟩]⟩:cg)).flatMap gR=M.flatMap gR:=LJ M _ gK _ (by show[D.v (.slice _ (M[((ap t s.ah).1[k]'aa).toNat].r.set (bE t.au s.set).toNat (acc[k]'dA)).length _)]=[D.v (.slice _ _ _)];rw[length_set,DK]);have DH:uA (M.set ((ap t s.ah).1[k]'aa).toNat (⟨M[((ap t s.ah).1[k]'aa).toNat].r.set (bE t.au s.set).toNat (acc[k]'dA),some ⟨bw,0,none⟩,M[((ap t s.ah).1[k]'aa).toNat].cap,[⟨bw,56,M[((ap t s.ah).1[k]'aa).toNat].cap*3,(M[((ap t s.ah).1[k]'aa).toNat].r.set (bE t.au s.set).toNat (acc[k]'dA)).flatMap cV⟩]⟩:cg)) (some ⟨br,0,none⟩) cap [⟨br,40,cap*1,M.flatMap gR⟩]:=(by rw[<-Qf];exact bN (by rw[length_set];exact sg) nW)
   have aos:∀i∈(ap t s.ah).1,∃h:i.toNat<(M.set ((ap t s.ah).1[k]'aa).toNat (⟨M[((ap t s.ah).1[k]'aa).toNat].r.set (bE t.au s.set).toNat (acc[k]'dA),some ⟨bw,0,none⟩,M[((ap t s.ah).1[k]'aa).toNat].cap,[⟨bw,56,M[((ap t s.ah).1[k]'aa).toNat].cap*3,(M[((ap t s.ah).1[k]'aa).toNat].r.set (bE t.au s.set).toNat (acc[k]'dA)).flatMap cV⟩]⟩:cg)).length,(M.set ((ap t s.ah).1[k]'aa).toNat (⟨M[((ap t s.ah).1[k]'aa).toNat].r.set (bE t.au s.set).toNat (acc[k]'dA),some ⟨bw,0,none⟩,M[((ap t s.ah).1[k]'aa).toNat].cap,[⟨bw,56,M[((ap t s.ah).1[k]'aa).toNat].cap*3,(M[((ap t s.ah).1[k]'aa).toNat].r.set (bE t.au s.set).toNat (acc[k]'dA)).flatMap cV⟩]⟩:cg))[i.toNat].r.length=4:=fun i hi=>by obtain⟨h1,h2⟩:=hM4 i hi;refine⟨by rw[length_set];exact h1,?_⟩;rw[getElem_set];split;(show(M[((ap t s.ah).1[k]'aa).toNat].r.set (bE t.au s.set).toNat (acc[k]'dA)).length=4;rw[length_set];exact U);exact h2
   have alC:nQ (bE t.au s.set).toNat {t with rows:=(M.set ((ap t s.ah).1[k]'aa).toNat (⟨M[((ap t s.ah).1[k]'aa).toNat].r.set (bE t.au s.set).toNat (acc[k]'dA),some ⟨bw,0,none⟩,M[((ap t s.ah).1[k]'aa).toNat].cap,[⟨bw,56,M[((ap t s.ah).1[k]'aa).toNat].cap*3,(M[((ap t s.ah).1[k]'aa).toNat].r.set (bE t.au s.set).toNat (acc[k]'dA)).flatMap cV⟩]⟩:cg)).map cg.r} ((ap t s.ah).1.drop (k+1)) (acc.drop (k+1))=nQ (bE t.au s.set).toNat t (ap t s.ah).1 acc:=(by rw[<-YW,gY,jI,nQ];congr 1;exact(VY (x:=t.ix) gK rfl).symm)
   refine qs (Us gK Qe) ?_;refine aA [0,6,9,10,15,16,110,111,112] ?_;refine oC 12 [0,6,9,10,110,111,112,123,124,128] ?_;refine aT 3 ?_ (h:=by exact(pP 2));refine aT 1 ?_ (h:=HW);refine aT 0 ?_ (h:=Ze);refine bL ?_;refine bQ (ei 3 (h:=by first|exact .l (j:=(bE t.au s.set).toNat) (Int.toNat_of_nonneg w4).symm (by rw[U];omega)|exact .r (j:=(bE t.au s.set).toNat) (Int.toNat_of_nonneg w4).symm (by rw[U];omega))) ?_;refine oe (k:=0) (cs':=(M[((ap t s.ah).1[k]'aa).toNat].r.set (bE t.au s.set).toNat (acc[k]'dA)).flatMap cV) av rfl rfl ot rfl rfl ot rfl rfl sizeOf56 rfl (by show 0+(bE t.au s.set).toNat*3+3<=(M[((ap t s.ah).1[k]'aa).toNat].r.flatMap cV).length;rw[cz fQ,U];omega) (by show dx (M[((ap t s.ah).1[k]'aa).toNat].r.flatMap cV) (0+(bE t.au s.set).toNat*3) (cV (acc[k]'dA))=_;rw[Nat.zero_add];exact qt fQ _ _ (by rw[U];omega)) ?_;refine aq 205 [0,6,9,10,110,111,112] ?_;refine dV 1 ?_;refine bZ (VX gK (o:=(⟨M[((ap t s.ah).1[k]'aa).toNat].r.set (bE t.au s.set).toNat (acc[k]'dA),some ⟨bw,0,none⟩,M[((ap t s.ah).1[k]'aa).toNat].cap,[⟨bw,56,M[((ap t s.ah).1[k]'aa).toNat].cap*3,(M[((ap t s.ah).1[k]'aa).toNat].r.set (bE t.au s.set).toNat (acc[k]'dA)).flatMap cV⟩]⟩:cg)) rfl) ?_;refine aq 205 [0,6,9,10,110,111,112] ?_
   refine⟨((k+1),(M.set ((ap t s.ah).1[k]'aa).toNat (⟨M[((ap t s.ah).1[k]'aa).toNat].r.set (bE t.au s.set).toNat (acc[k]'dA),some ⟨bw,0,none⟩,M[((ap t s.ah).1[k]'aa).toNat].cap,[⟨bw,56,M[((ap t s.ah).1[k]'aa).toNat].cap*3,(M[((ap t s.ah).1[k]'aa).toNat].r.set (bE t.au s.set).toNat (acc[k]'dA)).flatMap cV⟩]⟩:cg))),_,cG,aI,w4,alC,kD,DH,(by rw[length_set];exact xn),aos,rfl⟩
  have alD:nQ (bE t.au s.set).toNat t (ap t s.ah).1 acc={t with rows:=M.map cg.r}:=(by rw[<-YW,drop_of_length_le (l:=(ap t s.ah).1) w4,agT])
  have aY:iH t s=({t with rows:=M.map cg.r},((ap t s.ah).1.length:Int),0):=(by unfold iH;rw[if_neg hA,if_neg hB,if_neg hC,if_neg hD,if_neg hN,if_pos hP,E6,alD])
  refine dj [4,5] (⟨bt,68,Z,pre++(_++post)⟩::(Sr++M.flatMap bR)) ?_;rw[aY];exact⟨rfl,fun _=>⟨M,ad,cap,Sr,⟨rfl,I,xJ⟩,by simp only[tC,length_map,xn]⟩⟩
 have hP:¬0<(bE t.au s.set):=(by simpa using jn)
 have zL:(bE t.au s.set)=0:=(by omega)
 refine aA [0,9,10,133,134,135] ?_;refine fa [0,9,10,133,134] (fun aV _ (E:Nat×aE) aF=>match E with|(k,x)=>(k<=(ap t s.ah).1.length)/\(pB t x ((ap t s.ah).1.drop k)=pB t t.ix (ap t s.ah).1)/\(iN x n)/\(∀i∈(ap t s.ah).1.drop k,(cZ (rowAt t i),i)∈eE x)/\aF=(⟨205,(135,ae (k:Nat))::aV,(⟨b3,44,12,bK s⟩::⟨bt,68,Z,pre++([bg t.nm,an 2 cC t.au,aN ad t.rows.length cap,an 5 cP x.af,ae x.root]++post)⟩::(Sr++L.flatMap bR))⟩:St)) (fun (E:Nat×aE)=>match E with|(k,x)=>(ap t s.ah).1.length-k) (0,t.ix) ⟨(Nat.zero_le _),rfl,g.ix,(fun i hi=>(O i hi).js g),rfl⟩ ?_;rintro⟨k,x⟩ _ ⟨eR,NX,gx,zD,rfl⟩;refine ax [0,9,10,133,134,135,136] ?_ ?_<;>intro vQ Dl
 ·have aa:k<(ap t s.ah).1.length:=(by omega)
  have gY:(ap t s.ah).1.drop k=((ap t s.ah).1[k]'aa)::(ap t s.ah).1.drop (k+1):=drop_eq_getElem_cons aa;have tL:gP t ((ap t s.ah).1[k]'aa):=O _ (getElem_mem aa);obtain⟨jm,eZ,nZ⟩:=id tL;have gK:((ap t s.ah).1[k]'aa).toNat<L.length:=(by rw[tH];exact eZ)
  obtain⟨br,rfl,sg,nW,rfl⟩:=fy.pos w4;have xL:L[((ap t s.ah).1[k]'aa).toNat].r=rowAt t ((ap t s.ah).1[k]'aa):=(by rw[jt eZ];exact(HQ hL gK eZ))
  obtain⟨go1,E5⟩:=gP.ok g tL;have YX:=Me (G:=G) hG L[((ap t s.ah).1[k]'aa).toNat].r (by rw[xL];omega) (by rw[xL];omega) (by rw[xL];exact fun v hv=>(E5 v hv).1);rw[show cZ L[((ap t s.ah).1[k]'aa).toNat].r=cZ (rowAt t ((ap t s.ah).1[k]'aa)) from by rw[xL]] at YX;have jz:=zD _ (by rw[gY];exact mem_cons_self);have gx2:=KE gx ((Cb gx.val _).2 ⟨_,jz⟩);have zK:=Ui (G:=G) gx (cZ (rowAt t ((ap t s.ah).1[k]'aa)));rw[VF gx (ya (by rw[jt eZ];exact(g.row _ eZ nZ).1)) ((Cc gx _).2 ⟨_,jz⟩)] at zK;unfold Tw.cT at zK;have alE:pB t (ig x (dD x) (cZ (rowAt t ((ap t s.ah).1[k]'aa)))) ((ap t s.ah).1.drop (k+1))=pB t t.ix (ap t s.ah).1:=(by rw[<-NX,gY];rfl)
  have aot:∀i∈(ap t s.ah).1.drop (k+1),(cZ (rowAt t i),i)∈eE (ig x (dD x) (cZ (rowAt t ((ap t s.ah).1[k]'aa)))):=fun i hi=>by refine(gx2.2 _).2 ⟨zD i (by rw[gY];exact mem_cons_of_mem _ hi),fun e=>?_⟩;have h9:=hnd.sublist (drop_sublist k _);rw[gY,nodup_cons] at h9;have h8:=LG g.ix ((O i (mem_of_mem_drop hi)).js g) (tL.js g) e;simp only[Prod.mk.injEq] at h8;exact h9.1 (h8.2 ▸ hi)
  refine aA [0,9,10,18,133,134,135] ?_;refine oC 17 [0,9,10,133,134,135,140,154] ?_;refine aT 4 ?_ (h:=by exact(yU 1));refine aT 3 ?_ (h:=by exact(pP 1));refine aT 1 ?_ (h:=N9);refine aT 0 ?_ (h:=Xz);refine A9 (YX) (fun r S h=>h.flat) (fun r S h=>h.view) (ha:=by exact⟨⟨_,ot,(Ur aQ gK (fun B hB=>by repeat (first|exact hB|apply mem_append_right|apply mem_cons_of_mem)))⟩,trivial⟩) (K:=?_);refine cL (zK) ?_;refine bL ?_;refine aG 2 ?_;refine oe (k:=1) (cs':=pre++([bg t.nm,an 2 cC t.au,aN (some ⟨br,0,none⟩) t.rows.length cap,.list 5 ((ig x (dD x) (cZ (rowAt t ((ap t s.ah).1[k]'aa)))).af.flatMap cP) (ig x (dD x) (cZ (rowAt t ((ap t s.ah).1[k]'aa)))).af.length,ae (ig x (dD x) (cZ (rowAt t ((ap t s.ah).1[k]'aa)))).root]++post)) av rfl rfl ot rfl rfl ot rfl rfl sizeOf66 rfl (by show off+3+2<=(pre++(([bg t.nm,an 2 cC t.au,aN (some ⟨br,0,none⟩) t.rows.length cap,an 5 cP x.af,ae x.root]:List D)++post)).length;simp only[length_append,length_cons,length_nil];omega) (by exact CB (j:=3) hp aP rfl) ?_;refine aq 205 [0,9,10,133,134,135] ?_;refine cc [0,9,10,133,134,135] ?_;refine⟨((k+1),(ig x (dD x) (cZ (rowAt t ((ap t s.ah).1[k]'aa))))),_,cG,aI,w4,alE,gx2.1,aot,rfl⟩
 have Qb:pB t t.ix (ap t s.ah).1=x:=(by rw[<-NX,drop_of_length_le w4];rfl)
 clear NX zD;skip;refine aA [0,9,10,159,160,161] ?_;refine fa [0,9,10,159,160] (fun aV _ (E:Nat×List cg×aE) aF=>match E with|(k,M,y)=>(k<=(ap t s.ah).1.length)/\(lB {t with rows:=M.map cg.r,ix:=y} ((ap t s.ah).1.drop k) (acc.drop k)=lB {t with ix:=pB t t.ix (ap t s.ah).1} (ap t s.ah).1 acc)/\(∀o∈M,o8 o)/\(uA M ad cap Sr)/\(M.length=t.rows.length)/\(∀i∈(ap t s.ah).1,∃h:i.toNat<M.length,Pc.dR aL M[i.toNat].r=0/\∀v∈M[i.toNat].r,v.Ok)/\(iN y (n+k))/\aF=(⟨205,(161,ae (k:Nat))::aV,(⟨b3,44,12,bK s⟩::⟨bt,68,Z,pre++([bg t.nm,an 2 cC t.au,aN ad t.rows.length cap,an 5 cP y.af,ae y.root]++post)⟩::(Sr++M.flatMap bR))⟩:St)) (fun (E:Nat×List cg×aE)=>match E with|(k,M,y)=>(ap t s.ah).1.length-k) (0,L,x) ⟨(Nat.zero_le _),(by rw[hL,Qb];rfl),aQ,fy,tH,Pd,gx,rfl⟩ ?_;rintro⟨k,M,y⟩ _ ⟨cl,BQ,I,xJ,xn,hM5,gy,rfl⟩;refine ax [0,9,10,159,160,161,162] ?_ ?_<;>intro HI G5
 ·have aa:k<(ap t s.ah).1.length:=(by omega)
  have dA:k<acc.length:=(by omega)
  have gY:(ap t s.ah).1.drop k=((ap t s.ah).1[k]'aa)::(ap t s.ah).1.drop (k+1):=drop_eq_getElem_cons aa;have jI:acc.drop k=(acc[k]'dA)::acc.drop (k+1):=drop_eq_getElem_cons dA;obtain⟨jm,eZ,nZ⟩:=O _ (getElem_mem aa);obtain⟨gK,I4,hx6⟩:=hM5 _ (getElem_mem aa);have U:=pZ I4;obtain⟨aou,YY,aov⟩:=YV _ (getElem_mem dA);have zJ:(acc[k]'dA).k≠0/\jL (aL[0]'w8).k (acc[k]'dA):=(by have h1:=aov zL;refine⟨h1,YY.1,?_⟩;have h2:=YY.2;have aow:bE aL s.set=0:=(by rw[<-g.au];exact zL);have hC1:=hC;simp only[g.au,aow] at hC1;have h3:(cu aL s.bM).1=(aL[0]'w8).k\/(cu aL s.bM).1=0:=(Classical.em ((cu aL s.bM).1=(aL[0]'w8).k)).imp id fun h=>Classical.not_not.1 fun h'=>hC1 ⟨h,h'⟩;omega)
  obtain⟨br,rfl,sg,nW,rfl⟩:=xJ.pos w4;obtain⟨bw,DK,yY,H6,Qe⟩:=(I _ (getElem_mem gK)).pos w4;have kD:∀o∈(M.set ((ap t s.ah).1[k]'aa).toNat (⟨M[((ap t s.ah).1[k]'aa).toNat].r.set 0 (acc[k]'dA),some ⟨bw,0,none⟩,M[((ap t s.ah).1[k]'aa).toNat].cap,[⟨bw,56,M[((ap t s.ah).1[k]'aa).toNat].cap*3,(M[((ap t s.ah).1[k]'aa).toNat].r.set 0 (acc[k]'dA)).flatMap cV⟩]⟩:cg)),o8 o:=fun o ho=>by rcases mem_or_eq_of_mem_set ho with h|h;exact I o h;rw[h];exact bN (g:=cV) (by rw[length_set];exact yY) H6
  have Qf:(M.set ((ap t s.ah).1[k]'aa).toNat (⟨M[((ap t s.ah).1[k]'aa).toNat].r.set 0 (acc[k]'dA),some ⟨bw,0,none⟩,M[((ap t s.ah).1[k]'aa).toNat].cap,[⟨bw,56,M[((ap t s.ah).1[k]'aa).toNat].cap*3,(M[((ap t s.ah).1[k]'aa).toNat].r.set 0 (acc[k]'dA)).flatMap cV⟩]⟩:cg)).flatMap gR=M.flatMap gR:=LJ M _ gK _ (by show[D.v (.slice _ (M[((ap t s.ah).1[k]'aa).toNat].r.set 0 (acc[k]'dA)).length _)]=[D.v (.slice _ _ _)];rw[length_set,DK]);have DH:uA (M.set ((ap t s.ah).1[k]'aa).toNat (⟨M[((ap t s.ah).1[k]'aa).toNat].r.set 0 (acc[k]'dA),some ⟨bw,0,none⟩,M[((ap t s.ah).1[k]'aa).toNat].cap,[⟨bw,56,M[((ap t s.ah).1[k]'aa).toNat].cap*3,(M[((ap t s.ah).1[k]'aa).toNat].r.set 0 (acc[k]'dA)).flatMap cV⟩]⟩:cg)) (some ⟨br,0,none⟩) cap [⟨br,40,cap*1,M.flatMap gR⟩]:=(by rw[<-Qf];exact bN (by rw[length_set];exact sg) nW)
  have Xp:Pc.dR aL (M[((ap t s.ah).1[k]'aa).toNat].r.set 0 (acc[k]'dA))=0:=VW I4 w8 zJ.2 (fun _=>zJ.1);have yR:∀v∈M[((ap t s.ah).1[k]'aa).toNat].r.set 0 (acc[k]'dA),v.Ok:=fun v hv=>by rcases mem_or_eq_of_mem_set hv with h|h;exact hx6 v h;rw[h];exact aou
  have aox:∀i∈(ap t s.ah).1,∃h:i.toNat<(M.set ((ap t s.ah).1[k]'aa).toNat (⟨M[((ap t s.ah).1[k]'aa).toNat].r.set 0 (acc[k]'dA),some ⟨bw,0,none⟩,M[((ap t s.ah).1[k]'aa).toNat].cap,[⟨bw,56,M[((ap t s.ah).1[k]'aa).toNat].cap*3,(M[((ap t s.ah).1[k]'aa).toNat].r.set 0 (acc[k]'dA)).flatMap cV⟩]⟩:cg)).length,Pc.dR aL (M.set ((ap t s.ah).1[k]'aa).toNat (⟨M[((ap t s.ah).1[k]'aa).toNat].r.set 0 (acc[k]'dA),some ⟨bw,0,none⟩,M[((ap t s.ah).1[k]'aa).toNat].cap,[⟨bw,56,M[((ap t s.ah).1[k]'aa).toNat].cap*3,(M[((ap t s.ah).1[k]'aa).toNat].r.set 0 (acc[k]'dA)).flatMap cV⟩]⟩:cg))[i.toNat].r=0/\∀v∈(M.set ((ap t s.ah).1[k]'aa).toNat (⟨M[((ap t s.ah).1[k]'aa).toNat].r.set 0 (acc[k]'dA),some ⟨bw,0,none⟩,M[((ap t s.ah).1[k]'aa).toNat].cap,[⟨bw,56,M[((ap t s.ah).1[k]'aa).toNat].cap*3,(M[((ap t s.ah).1[k]'aa).toNat].r.set 0 (acc[k]'dA)).flatMap cV⟩]⟩:cg))[i.toNat].r,v.Ok:=fun i hi=>by obtain⟨h1,h2⟩:=hM5 i hi;refine⟨by rw[length_set];exact h1,?_⟩;rw[getElem_set];split;exact⟨Xp,yR⟩;exact h2
  have er:=ya Xp;have YZ:=Me (G:=G) hG (M[((ap t s.ah).1[k]'aa).toNat].r.set 0 (acc[k]'dA)) xx xx yR;have E7:=Uh (G:=G) gy (cZ (M[((ap t s.ah).1[k]'aa).toNat].r.set 0 (acc[k]'dA))) ((ap t s.ah).1[k]'aa);unfold Tw.cT at E7
  have Y0:lB {t with ix:=pB t t.ix (ap t s.ah).1} (ap t s.ah).1 acc=if iX y (cZ (M[((ap t s.ah).1[k]'aa).toNat].r.set 0 (acc[k]'dA))) (dD y)=true then ({t with rows:=M.map cg.r,ix:=y},9) else lB {t with rows:=(M.set ((ap t s.ah).1[k]'aa).toNat (⟨M[((ap t s.ah).1[k]'aa).toNat].r.set 0 (acc[k]'dA),some ⟨bw,0,none⟩,M[((ap t s.ah).1[k]'aa).toNat].cap,[⟨bw,56,M[((ap t s.ah).1[k]'aa).toNat].cap*3,(M[((ap t s.ah).1[k]'aa).toNat].r.set 0 (acc[k]'dA)).flatMap cV⟩]⟩:cg)).map cg.r,ix:=(ie y (dD y) (cZ (M[((ap t s.ah).1[k]'aa).toNat].r.set 0 (acc[k]'dA))) ((ap t s.ah).1[k]'aa))} ((ap t s.ah).1.drop (k+1)) (acc.drop (k+1)):=by rw[<-BQ,gY,jI,lB,VY (o:=(⟨M[((ap t s.ah).1[k]'aa).toNat].r.set 0 (acc[k]'dA),some ⟨bw,0,none⟩,M[((ap t s.ah).1[k]'aa).toNat].cap,[⟨bw,56,M[((ap t s.ah).1[k]'aa).toNat].cap*3,(M[((ap t s.ah).1[k]'aa).toNat].r.set 0 (acc[k]'dA)).flatMap cV⟩]⟩:cg)) gK rfl,SF yZ,show((M.set ((ap t s.ah).1[k]'aa).toNat (⟨M[((ap t s.ah).1[k]'aa).toNat].r.set 0 (acc[k]'dA),some ⟨bw,0,none⟩,M[((ap t s.ah).1[k]'aa).toNat].cap,[⟨bw,56,M[((ap t s.ah).1[k]'aa).toNat].cap*3,(M[((ap t s.ah).1[k]'aa).toNat].r.set 0 (acc[k]'dA)).flatMap cV⟩]⟩:cg))[((ap t s.ah).1[k]'aa).toNat]'yZ)=(⟨M[((ap t s.ah).1[k]'aa).toNat].r.set 0 (acc[k]'dA),some ⟨bw,0,none⟩,M[((ap t s.ah).1[k]'aa).toNat].cap,[⟨bw,56,M[((ap t s.ah).1[k]'aa).toNat].cap*3,(M[((ap t s.ah).1[k]'aa).toNat].r.set 0 (acc[k]'dA)).flatMap cV⟩]⟩:cg) from getElem_set_self _]
  refine qs (Us gK Qe) ?_;refine aA [0,9,10,19,20,159,160,161] ?_;refine cQ ?_;refine oC 11 [0,9,10,20,159,160,161,172,176] ?_;refine aT 3 ?_ (h:=by exact(pP 2));refine aT 1 ?_ (h:=HW);refine aT 0 ?_ (h:=Ze);refine bL ?_;refine bQ (tV (mk:=Op.indexAddr 40) rfl ot cf (by first|exact we runUnderlying40 sizeOf56 (j:=0) rfl (by rw[U];decide)|exact wB runUnderlying40 sizeOf56 (j:=0) rfl (by rw[U];decide))) ?_;refine oe (k:=0) (cs':=(M[((ap t s.ah).1[k]'aa).toNat].r.set 0 (acc[k]'dA)).flatMap cV) av rfl rfl ot rfl rfl ot rfl rfl sizeOf56 rfl (by show 0+0*3+3<=(M[((ap t s.ah).1[k]'aa).toNat].r.flatMap cV).length;rw[cz fQ,U];omega) (by show dx (M[((ap t s.ah).1[k]'aa).toNat].r.flatMap cV) (0+0*3) (cV (acc[k]'dA))=_;rw[Nat.zero_add];exact qt fQ _ _ (by rw[U];omega)) ?_;refine aq 205 [0,9,10,20,159,160,161] ?_;refine cQ ?_;rcases jz:iX y (cZ (M[((ap t s.ah).1[k]'aa).toNat].r.set 0 (acc[k]'dA))) (dD y) with _|_
  ·rw[WB gy w4 er jm jz] at E7;have gy2:iN (ie y (dD y) (cZ (M[((ap t s.ah).1[k]'aa).toNat].r.set 0 (acc[k]'dA))) ((ap t s.ah).1[k]'aa)) (n+(k+1)):=(F0 gy w4 ((F1 gy).1 jz) er jm).1;have aoy:lB {t with rows:=(M.set ((ap t s.ah).1[k]'aa).toNat (⟨M[((ap t s.ah).1[k]'aa).toNat].r.set 0 (acc[k]'dA),some ⟨bw,0,none⟩,M[((ap t s.ah).1[k]'aa).toNat].cap,[⟨bw,56,M[((ap t s.ah).1[k]'aa).toNat].cap*3,(M[((ap t s.ah).1[k]'aa).toNat].r.set 0 (acc[k]'dA)).flatMap cV⟩]⟩:cg)).map cg.r,ix:=(ie y (dD y) (cZ (M[((ap t s.ah).1[k]'aa).toNat].r.set 0 (acc[k]'dA))) ((ap t s.ah).1[k]'aa))} ((ap t s.ah).1.drop (k+1)) (acc.drop (k+1))=lB {t with ix:=pB t t.ix (ap t s.ah).1} (ap t s.ah).1 acc:=(by rw[Y0,if_neg yz])
   refine uL 18 17 [0,9,10,21,159,160,161,193,194] ?_;refine aT 3 ?_ (h:=by exact(yU 2));refine aT 3 ?_ (h:=by exact(pP 2));refine aT 1 ?_ (h:=HW);refine aT 0 ?_ (h:=Zd);refine A9 (YZ) (fun r S h=>h.flat) (fun r S h=>h.view) (ha:=Zu) (K:=?_);refine cL (E7) ?_;refine mr 3 ?_;refine nV ?_;refine jR ?_;refine⟨rfl,fun Ej=>?_⟩;refine aR 0 [_,_] sizeOf66 ?_;refine aq 205 [0,9,10,21,22,159,160,161] ?_;refine ax [0,9,10,21,22,159,160,161,196] ?_ ?_<;>intro wR GU
   ·exact absurd wR (by simp at wR)
   refine dV 4 ?_;refine oe (k:=3) (cs':=pre++([bg t.nm,an 2 cC t.au,aN (some ⟨br,0,none⟩) t.rows.length cap,.list 5 ((ie y (dD y) (cZ (M[((ap t s.ah).1[k]'aa).toNat].r.set 0 (acc[k]'dA))) ((ap t s.ah).1[k]'aa)).af.flatMap cP) (ie y (dD y) (cZ (M[((ap t s.ah).1[k]'aa).toNat].r.set 0 (acc[k]'dA))) ((ap t s.ah).1[k]'aa)).af.length,ae (ie y (dD y) (cZ (M[((ap t s.ah).1[k]'aa).toNat].r.set 0 (acc[k]'dA))) ((ap t s.ah).1[k]'aa)).root]++post)) av rfl rfl ot rfl rfl ot rfl rfl sizeOf66 rfl (by show off+3+2<=(pre++(([bg t.nm,an 2 cC t.au,aN (some ⟨br,0,none⟩) t.rows.length cap,an 5 cP y.af,ae y.root]:List D)++post)).length;simp only[length_append,length_cons,length_nil];omega) (by exact CB (j:=3) hp aP rfl) ?_;refine aq 205 [0,9,10,159,160,161] ?_;refine dV 1 ?_;refine bZ ((VX gK (o:=(⟨M[((ap t s.ah).1[k]'aa).toNat].r.set 0 (acc[k]'dA),some ⟨bw,0,none⟩,M[((ap t s.ah).1[k]'aa).toNat].cap,[⟨bw,56,M[((ap t s.ah).1[k]'aa).toNat].cap*3,(M[((ap t s.ah).1[k]'aa).toNat].r.set 0 (acc[k]'dA)).flatMap cV⟩]⟩:cg)) rfl).cons _) ?_;refine aq 205 [0,9,10,159,160,161] ?_
   refine⟨((k+1),(M.set ((ap t s.ah).1[k]'aa).toNat (⟨M[((ap t s.ah).1[k]'aa).toNat].r.set 0 (acc[k]'dA),some ⟨bw,0,none⟩,M[((ap t s.ah).1[k]'aa).toNat].cap,[⟨bw,56,M[((ap t s.ah).1[k]'aa).toNat].cap*3,(M[((ap t s.ah).1[k]'aa).toNat].r.set 0 (acc[k]'dA)).flatMap cV⟩]⟩:cg)),(ie y (dD y) (cZ (M[((ap t s.ah).1[k]'aa).toNat].r.set 0 (acc[k]'dA))) ((ap t s.ah).1[k]'aa))),_,cG,aI,w4,aoy,kD,DH,(by rw[length_set];exact xn),aox,gy2,rfl⟩
  rw[aii gy er jm jz] at E7;have aY:iH t s=(t,0,9):=(by unfold iH;rw[if_neg hA,if_neg hB,if_neg hC,if_neg hD,if_neg hN,if_neg hP,E6,Y0,if_pos jz];exact if_pos (show(9:Int)≠0 by decide))
  refine uL 18 17 [0,9,10,21,159,160,161,193,194] ?_;refine aT 3 ?_ (h:=by exact(yU 2));refine aT 3 ?_ (h:=by exact(pP 2));refine aT 1 ?_ (h:=HW);refine aT 0 ?_ (h:=Zd);refine A9 (YZ) (fun r S h=>h.flat) (fun r S h=>h.view) (ha:=Zu) (K:=?_);refine cL (E7) ?_;refine mr 3 ?_;refine nV ?_;refine jR ?_;refine⟨rfl,fun Ej=>?_⟩;refine aR 0 [_,_] sizeOf66 ?_;refine aq 205 [0,9,10,21,22,159,160,161] ?_;refine ax [0,9,10,21,22,159,160,161,196] ?_ ?_<;>intro wR GU
  ·exact yH
  exact absurd wR (by simp at wR)
 have alF:lB {t with ix:=pB t t.ix (ap t s.ah).1} (ap t s.ah).1 acc=({t with rows:=M.map cg.r,ix:=y},0):=(by rw[<-BQ,drop_of_length_le (l:=(ap t s.ah).1) w4,ae6])
 have aY:iH t s=({t with rows:=M.map cg.r,ix:=y},((ap t s.ah).1.length:Int),0):=(by unfold iH;rw[if_neg hA,if_neg hB,if_neg hC,if_neg hD,if_neg hN,if_neg hP,E6,alF];exact if_neg (fun h=>h rfl))
 refine dj [4,5] (⟨bt,68,Z,pre++(_++post)⟩::(Sr++M.flatMap bR)) ?_;rw[aY];exact⟨rfl,fun _=>⟨M,ad,cap,Sr,⟨rfl,I,xJ⟩,by simp only[tC,length_map,xn]⟩⟩
open Go.Proofs.YtbplamgacibdaaaGreatDoor.So
def C0(p:(List (List Vl)×Int)×Int)(r:D)(S:List ag):Prop:=∃(L:List cg) (ad:Option Addr) (cap:Nat) (Sx:List ag),r = .dB [.agg [aN ad L.length cap,ae p.1.2],ae p.2]/\uA L ad cap Sx/\(∀o∈L,o8 o)/\L.map cg.r=p.1.1/\S=Sx++L.flatMap bR
theorem C0.view{r:D}(h:C0 p r S):View S r (BO p):=by
 obtain⟨L,ad,cap,Sx,rfl,ho,aQ,hL,rfl⟩:=h;unfold BO;rw[<-hL];(first|rw[length_map]|(unfold an;rw[length_map]))
 exact FQ ⟨v8 ⟨B6 ho (Gn aQ fun B hB=>mem_append_right _ hB) (by rw[cz lq,length_map]) (fun B hB=>mem_append_left _ hB),fq,trivial⟩,fq,trivial⟩
theorem aj8(l:List Vl):∀d∈l.flatMap cV,lP d=true:=fun d hd=>by
 obtain⟨v,_,hv⟩:=mem_flatMap.1 hd;unfold cV at hv;simp only[mem_cons,not_mem_nil,or_false] at hv;rcases hv with rfl|rfl|rfl<;>rfl
theorem aj9(l:List cg):∀d∈l.flatMap gR,lP d=true:=fun d hd=>by
 obtain⟨v,_,hv⟩:=mem_flatMap.1 hd;unfold gR at hv;rw[mem_singleton] at hv;subst hv;rfl
theorem C0.flat{r:D}(h:C0 p r S):lP r=true/\∀B∈S,∀d∈B.cs,lP d=true:=by
 obtain⟨L,ad,cap,Sx,rfl,ho,aQ,hL,rfl⟩:=h;refine⟨rfl,fun B hB=>?_⟩;rcases mem_append.1 hB with hB|hB
 ·rcases ho with ⟨_,_,_,_,rfl⟩|⟨b,_,_,_,rfl⟩
  ·cases hB
  rw[mem_singleton] at hB;subst hB;exact aj9 L
 obtain⟨o,n8,hB⟩:=mem_flatMap.1 hB;have h1:=aQ o n8;unfold bR at hB;rcases h1 with ⟨_,_,_,_,h2⟩|⟨b,_,_,_,h2⟩
 ·rw[h2] at hB;cases hB
 rw[h2,mem_singleton] at hB;subst hB;exact aj8 o.r
theorem aka(g:eV t n)(s:cn):tc t s<4:=by
 unfold tc;split
 ·decide
 have:=(Mh (l:=t.au) (nm:=s.order)).2;rw[g.au] at this |-;exact this
theorem alG(g:eV t n){names:List ByteArray}(h:∀n∈names,0<=bE t.au n):∀c∈tK t names,0<=c/\c.toNat<4:=fun c hc=>by
 have h4:t.au.length=4:=(by rw[g.au];rfl)
 unfold tK at hc;split at hc
 ·obtain⟨i,hi,rfl⟩:=mem_map.1 hc;have:=mem_range.1 hi;constructor
  ·exact Int.natCast_nonneg i
  show i<4;omega
 obtain⟨x,hx,rfl⟩:=mem_map.1 hc;have:=(Mh (l:=t.au) (nm:=x)).2;have:=h x hx;omega
theorem alH(f:ag->Nat):(((L++[o]).flatMap bR).map f).sum=((L.flatMap bR).map f).sum+(o.S.map f).sum:=by
 rw[VK];simp only[bR,map_append,sum_append]
theorem SG:(Tryz.prog.info? 3).map (fun i=>(i.zero,i.size,i.bytes))=some (some (.int .i64 0),1,8):=by kernel_rfl
theorem adw:(Tryz.prog.info? 40).map (fun i=>(i.zero,i.size,i.bytes))=some (some (.slice none 0 0),1,24):=by kernel_rfl
theorem adA:(Tryz.prog.info? 56).map (fun i=>(i.zero,i.size,i.bytes))=some (some (.agg #[.int .i64 0,.int .i64 0,.string ⟨#[]⟩]),3,32):=by kernel_rfl
theorem aiy(hm:(3,marksC)∈G)(hw:(1,wordsC)∈G)(ht:(0,typesC)∈G)(hG:(2,[Value.int .i64 m])∈G)(t:aK)(g:eV t n)(s:cn)(uW:s.names.length<=1000)(ho:∀o∈s.ah,o.nm.size<=maxLen)(gl:∀o∈s.ah,o.v.Ok):VC Tryz.prog G 46 [.agg (dw t),.agg (bK s)] [] (C0 (nJ t s)):=by
 refine bn func46 rfl ntmps46 aP fun X0 w0 bj=>?_;have dH:=ey;have BQ:=Mg (G:=G) hm hw ht hG t g s.ah ho gl;have E4:=Gt g s.ah;have xH:=ud g s.ah;have Qg:=F4 g s.ah;obtain⟨M,hM⟩:∃M,M=ap t s.ah:=⟨_,rfl⟩
 rw[<-hM] at BQ E4 xH Qg;obtain⟨sl,em⟩:=M;dsimp only at E4 xH Qg;have nO:=g.eU;have aor:t.au.length=4:=(by rw[g.au];rfl)
 unfold dw at BQ;unfold dw bK;refine bX ?_;refine cW [_,_,_,_,_] (fun b2=>?_);refine cW [_,_,_,_,_,_,_,_,_,_,_,_] (fun b3=>?_);refine dF (ds:=[_,_]) av rfl rfl zeroValue35 rfl (fun b4=>?_);refine aq 135 [2,3,4] ?_;refine bX ?_;refine bA [2,3,4,6] ?_;refine aA [2,3,4,6,21,22,23] ?_;refine fa [2,3,4,21,22] (fun aV _ (O:Nat×List Int×Option Addr×Nat×List ag) aF=>match O with|(i,acc,Z,o9,Sa)=>(i<=s.names.length)/\(acc=(s.names.take i).map (bE t.au))/\(∀x∈s.names.take i,0<=bE t.au x)/\(bq 3 1 ((acc).flatMap Tw.cI) (acc).length Z o9 Sa)/\aF=(⟨135,(6,aN Z (acc).length o9)::(23,ae (i:Nat))::aV,(⟨b4,35,2,[bW,ae 0]⟩::⟨b3,44,12,bK s⟩::⟨b2,68,5,dw t⟩::Sa)⟩:St)) (fun (O:Nat×List Int×Option Addr×Nat×List ag)=>match O with|(i,acc,Z,o9,Sa)=>s.names.length-i) (0,([]:List Int),none,0,[]) ⟨(Nat.zero_le _),rfl,(fun x h=>by cases h),(bq.cast jj lW),rfl⟩ ?_;rintro⟨i,acc,Z,o9,Sa⟩ _ ⟨hi,s8,pN,pM,rfl⟩;refine ax [2,3,4,6,21,22,23,24] ?_ ?_<;>intro aM bG
 ·have aa:i<s.names.length:=(by omega)
  have fE:=J8 (G:=G) t w4 s.names[i];unfold dw at fE;have qL:acc.length=i:=(by rw[s8,length_map,length_take];omega)
  refine aA [2,3,4,6,8,21,22,23] ?_;refine cX [2,3,4,6,9,21,22,23] (fE) ?_;refine ax [2,3,4,6,9,21,22,23,31] ?_ ?_<;>intro bf cD
  ·have DI:bE t.au s.names[i]<0:=(by simpa using bf)
   have aY:nJ t s=(([],0),8):=if_pos (any_eq_true.2 ⟨s.names[i],getElem_mem _,decide_eq_true DI⟩);refine az 1 ?_;refine aR 0 [_,_] sizeOf35 ?_;exact z76
  have DI:¬bE t.au s.names[i]<0:=(by simpa using bf)
  have aoz:∀x∈s.names.take (i+1),0<=bE t.au x:=fun x hx=>by rw[take_succ_eq_append_getElem aa] at hx;rcases mem_append.1 hx with hx|hx;exact pN x hx;rw[mem_singleton] at hx;subst hx;omega
  refine dV 2 ?_;refine eH (cx 0 [_]) [.int .i64 0] [_] zeroValue3 runUnderlying61 sizeOf3 (fun b35=>?_);refine gh 0 35 1 1 ?_;refine fY (ls:=(acc)) (new:=[bE t.au s.names[i]]) (Sq:=Sa) Tw.eS Tw.oM av rfl rfl underlying61 SG rfl w8 ot pM (dK (A:=[_,_,_])) ot bp oA oB (fun IP NY aoA aoB=>?_);refine bZ (ew (S1:=[⟨IP,3,NY*1,flatMap Tw.cI ((acc)++[bE t.au s.names[i]])⟩]) (A:=[_,_,_])) ?_;refine aq 135 [2,3,4,6,21,22,23] ?_;refine cc [2,3,4,6,21,22,23] ?_;refine⟨((i+1),(acc++[bE t.au s.names[i]]),(some ⟨IP,0,none⟩),NY,[⟨IP,3,NY*1,flatMap Tw.cI ((acc)++[bE t.au s.names[i]])⟩]),_,cG,aI,w4,(by rw[s8,<-ri aa,map_append];rfl),aoz,(bq.cast (bN aoA aoB) lW),rfl⟩
 have xF:s.names.take i=s.names:=take_of_length_le w4;rw[xF] at s8 pN;have HS:¬(s.names.any fun n=>decide (bE t.au n<0))=true:=fun h=>by obtain⟨x,h1,h2⟩:=any_eq_true.1 h;have:=pN x h1;have:=of_decide_eq_true h2;omega
 refine qq ?_;refine iT [2,3,4] (fun aV _ aF=>∃(acc:List Int),∃(Z:Option Addr),∃(o9:Nat),∃(Sa:List ag),(acc=tK t s.names)/\(bq 3 1 (acc.flatMap Tw.cI) acc.length Z o9 Sa)/\aF=(⟨135,(6,aN Z acc.length o9)::aV,(⟨b4,35,2,[bW,ae 0]⟩::⟨b3,44,12,bK s⟩::⟨b2,68,5,dw t⟩::Sa)⟩:St)) ?_ ?_
 ·refine ax [2,3,4,6,41] ?_ ?_<;>intro cr cU
  ·have ir:s.names.length=0:=(by simpa using cr)
   have aoC:acc=[]:=(by rw[s8,length_eq_zero_iff.1 ir];rfl)
   refine aA [2,3,4,6,44,45] ?_;refine fa [2,3,4,44] (fun aV _ (O:Nat×List Int×Option Addr×Nat×List ag) aF=>match O with|(j,U,Z,o9,Sa)=>(j<=t.au.length)/\(U=(range j).map Int.ofNat)/\(bq 3 1 ((U).flatMap Tw.cI) (U).length Z o9 Sa)/\aF=(⟨135,(6,aN Z (U).length o9)::(45,ae (j:Nat))::aV,(⟨b4,35,2,[bW,ae 0]⟩::⟨b3,44,12,bK s⟩::⟨b2,68,5,dw t⟩::Sa)⟩:St)) (fun (O:Nat×List Int×Option Addr×Nat×List ag)=>match O with|(j,U,Z,o9,Sa)=>t.au.length-j) (0,acc,Z,o9,Sa) ⟨(Nat.zero_le _),aoC,(bq.cast pM lW),rfl⟩ ?_;rintro⟨j,U,Z,o9,Sa⟩ _ ⟨hj,ML,pM,rfl⟩;refine ax [2,3,4,6,44,45,46] ?_ ?_<;>intro de eG
   ·have auj:j<t.au.length:=(by omega)
    have auk:U.length=j:=(by rw[ML,length_map,length_range])
    refine aA [2,3,4,6,10,44,45] ?_;refine dV 2 ?_;refine eH (cx 0 [_]) [.int .i64 0] [_] zeroValue3 runUnderlying61 sizeOf3 (fun BL=>?_);refine gh 0 50 1 1 ?_;refine fY (ls:=(U)) (new:=[(j:Int)]) (Sq:=Sa) Tw.eS Tw.oM av rfl rfl underlying61 SG rfl w8 ot pM (dK (A:=[_,_,_])) ot bp oA oB (fun zM NZ N0 N1=>?_);refine bZ (ew (S1:=[⟨zM,3,NZ*1,flatMap Tw.cI ((U)++[(j:Int)])⟩]) (A:=[_,_,_])) ?_;refine aq 135 [2,3,4,6,44,45] ?_;refine cc [2,3,4,6,44,45] ?_;refine⟨((j+1),(U++[(j:Int)]),(some ⟨zM,0,none⟩),NZ,[⟨zM,3,NZ*1,flatMap Tw.cI ((U)++[(j:Int)])⟩]),_,cG,aI,w4,(by rw[ML,range_succ,map_append];rfl),(bq.cast (bN N0 N1) lW),rfl⟩
   have hjf:U=tK t s.names:=(by unfold tK;rw[if_pos ir,ML,show j=t.au.length by omega])
   refine qq ?_;refine⟨_,aI,(U),Z,o9,Sa,hjf,pM,rfl⟩
  have ir:¬s.names.length=0:=(by simpa using cr)
  refine en ?_;refine⟨_,aI,(acc),Z,o9,Sa,(by unfold tK;rw[if_neg ir];exact s8),pM,rfl⟩
 rintro _ ⟨acc,Z,o9,Sa,vR,pM,rfl⟩;refine cQ ?_;refine oL (t:=6) (Sq:=Sa) lk pM (cz Tw.eS _) (dK (A:=[_,_,_])) ?_;refine uP ?_;refine dF (ds:=[_]) av rfl rfl zeroValue3 rfl (fun mv=>?_);refine aR 0 [_] sizeOf3 ?_;refine aq 135 [2,3,4,6,11] ?_;refine iT [2,3,4,6,11] (fun aV _ aF=>∃(ov:Int),(0<=ov)/\(ov=tc t s)/\aF=(⟨135,aV,[⟨mv,3,1,[ae ov]⟩,⟨b4,35,2,[bW,ae 0]⟩,⟨b3,44,12,bK s⟩,⟨b2,68,5,dw t⟩]⟩:St)) ?_ ?_
 ·refine ax [2,3,4,6,11,55] ?_ ?_<;>intro eo fS
  ·have BR:¬(s.order.toList==(⟨#[]⟩:ByteArray).toList)=true:=(by rw[fS];decide)
   have Y1:=J8 (G:=G) t w4 s.order;unfold dw at Y1;have E8:tc t s=bE t.au s.order:=if_neg BR;refine az 3 ?_;refine eB call89 (Y1) ?_;refine aR 0 [_] sizeOf3 ?_;refine aq 135 [2,3,4,6,11] ?_;refine ax [2,3,4,6,11,61] ?_ ?_<;>intro gk iC
   ·have DI:tc t s<0:=(by rw[E8];simpa using gk)
    have aY:nJ t s=(([],0),8):=(by unfold nJ;rw[if_neg HS,if_pos DI])
    refine az 1 ?_;refine aR 1 [_,_] sizeOf35 ?_;exact z76
   have DI:¬tc t s<0:=(by rw[E8];simpa using gk)
   refine en ?_;refine⟨_,aI,(bE t.au s.order),w4,E8.symm,rfl⟩
  have BR:(s.order.toList==(⟨#[]⟩:ByteArray).toList)=true:=fS;have E8:tc t s=0:=if_pos BR;refine en ?_;refine⟨_,aI,0,(Int.le_refl 0),E8.symm,rfl⟩
 rintro _ ⟨ov,aoD,nU,rfl⟩;refine az 3 ?_;refine fg av rfl rfl rfl call90 BQ ⟨ot,ot,trivial⟩ (fx _) ?_;rintro _ Sx ⟨dP,dm,rfl,ev⟩;refine bZ (ew (A:=[_,_,_,_])) ?_;refine aq 135 [2,3,4,6,11,12,13] ?_;refine ax [2,3,4,6,11,12,13,71] ?_ ?_<;>intro iQ qa
 ·have I5:em≠0:=(by simpa using iQ)
  have aY:nJ t s=(([],0),em):=(by unfold nJ;rw[if_neg HS,if_neg w4,<-hM];exact if_pos I5)
  refine az 2 ?_;refine aR 1 [_,_] sizeOf35 ?_;exact z76
 have I5:¬em≠0:=(by simpa using iQ)
 refine en ?_;refine iT [2,3,4,6] (fun aV _ aF=>∃(on:Nat),∃(lz:List Int),((on:Int)=tc t s)/\(lz=CZ t s.down on sl)/\(lz.length=sl.length)/\(∀x∈lz,gP t x)/\aF=(⟨135,(12,an 1 Tw.cI lz)::aV,[⟨mv,3,1,[ae (on:Nat)]⟩,⟨b4,35,2,[bW,ae 0]⟩,⟨b3,44,12,bK s⟩,⟨b2,68,5,dw t⟩]⟩:St)) ?_ ?_
 ·obtain⟨on,rfl⟩:=Int.eq_ofNat_of_zero_le aoD;have jh:on<4:=(by have:=aka g s;omega)
  rcases ev with ⟨hn,dz,rfl,rfl,rfl⟩|⟨bx,rfl,eZ,nZ,rfl⟩
  ·obtain rfl:=length_eq_zero_iff.1 hn;refine dV 1 ?_;refine bQ (tU (ds:=[_,_,_]) rfl ⟨ot,ot,ot,trivial⟩) ?_;refine eB call91 (agR _) ?_;refine fC (Wk.vj (t:=12) (sz:=1) lk) ?_;refine aq 135 [2,3,4,6,12] ?_;refine⟨_,aI,on,[],nU,(LF ⟨Perm.refl _,Pairwise.nil⟩),rfl,(fun x h=>by cases h),rfl⟩
  refine dV 1 ?_;refine bQ (tU (ds:=[_,_,_]) rfl ⟨ot,ot,ot,trivial⟩) ?_;refine fg (Sf:=⟨bx,3,dm*1,sl.flatMap Tw.cI⟩::[⟨b2,68,5,dw t⟩,⟨mv,3,1,[ae (on:Nat)]⟩,⟨b3,44,12,bK s⟩]) (R:=[⟨b4,35,2,[bW,ae 0]⟩]) av rfl rfl rfl call91 (air sl.length dm bx 92 [da b2,da mv,da b3] [⟨b2,68,5,dw t⟩,⟨mv,3,1,[ae (on:Nat)]⟩,⟨b3,44,12,bK s⟩] (lV t s.down on) (gP t) (E0 t) (fun x y hx hy=>aiu t g s on jh b2 mv b3 x y hx hy) call92 (fun h1 h2=>aj5 t s.down on h1 h2) (fun x y h=>by have:=SC t s.down on x y;omega) eZ nZ E4 sl Qg rfl xH) ⟨ot,ot,trivial⟩ (show([⟨mv,3,1,[ae (on:Nat)]⟩,⟨b4,35,2,[bW,ae 0]⟩,⟨b3,44,12,bK s⟩,⟨b2,68,5,dw t⟩]++[⟨bx,3,dm*1,sl.flatMap Tw.cI⟩]:List ag).Perm ((⟨bx,3,dm*1,sl.flatMap Tw.cI⟩::[⟨b2,68,5,dw t⟩,⟨mv,3,1,[ae (on:Nat)]⟩,⟨b3,44,12,bK s⟩])++[⟨b4,35,2,[bW,ae 0]⟩]) from(j9 fun nl=>by simp only[map_append,map_cons,map_nil,sum_append,sum_cons,sum_nil];omega)) ?_;rintro _ _ ⟨rfl,lz,zE,rfl⟩;have mU:=zE.1.length_eq;refine bZ (S':=⟨mv,3,1,[ae (on:Nat)]⟩::⟨b4,35,2,[bW,ae 0]⟩::⟨b3,44,12,bK s⟩::⟨b2,68,5,dw t⟩::[⟨bx,3,dm*1,lz.flatMap Tw.cI⟩]) (show((⟨bx,3,dm*1,lz.flatMap Tw.cI⟩::[⟨b2,68,5,dw t⟩,⟨mv,3,1,[ae (on:Nat)]⟩,⟨b3,44,12,bK s⟩])++[⟨b4,35,2,[bW,ae 0]⟩]:List ag).Perm _ from(j9 fun nl=>by simp only[map_append,map_cons,map_nil,sum_append,sum_cons,sum_nil];omega)) ?_;rw[<-mU]
  refine qn (t:=12) (Sq:=[⟨bx,3,dm*1,lz.flatMap Tw.cI⟩]) lk (bN (by rw[mU];exact eZ) nZ) (cz Tw.eS _) (dK (A:=[_,_,_,_])) ?_;refine aq 135 [2,3,4,6,12] ?_;refine⟨_,aI,on,lz,nU,(LF zE),(by first|exact mU|rfl),(fun x hx=>xH x (zE.1.subset hx)),rfl⟩
 rintro _ ⟨on,lz,nU,X5,mU,X6,rfl⟩;refine iT [2,3,4,6] (fun aV oI aF=>∃(E:List Int),(E=vp t s)/\(∀x∈E,gP t x)/\(E.length<=40)/\aF=(⟨135,(12,an 1 Tw.cI E)::aV,oI⟩:St)) ?_ ?_
 ·refine az 4 ?_;refine bU 80 (fun NE G6=>?_) (fun NE G6=>?_)
  ·refine bA [2,3,4,6,12,86] ?_;refine cj ?_ ?_<;>intro jn nK
   ·have pG:0<=s.iz/\s.iz<lz.length:=⟨G6,nK⟩
    refine jg [2,3,4,6,12] ?_;refine aT 3 ?_ (h:=by exact(fb (l:=0) (h:=s.iz.toNat) rfl ot trivial ⟨_,by rw[Int.toNat_of_nonneg pG.1];exact ot⟩ (by exact pT Tw.eS (fun h=>by cases h) runUnderlying61 sizeOf3 w4)));refine bL ?_;refine⟨_,aI,(lz.take s.iz.toNat),(by unfold vp C7;rw[<-nU,Int.toNat_natCast,<-hM,<-X5,if_pos pG]),(fun x hx=>X6 x (mem_of_mem_take hx)),pF,rfl⟩
   exact z75
  refine bA [2,3,4,6,12,86] ?_;refine gB ?_;exact z75
 rintro _ ⟨E,Y2,uR,aul,rfl⟩;refine az 3 ?_;refine dF (ds:=[_,_]) av rfl rfl zeroValue35 rfl (fun BM=>?_);refine aR 0 [_,_] sizeOf35 ?_;refine aq 135 [2,3,4,6,12,14] ?_;refine ax [2,4,6,12,14,95] ?_ ?_<;>intro qP Bc
 ·have Dq:s.count=true:=qP;have aY:nJ t s=(([[⟨2,((E.length:Nat):Int),⟨#[]⟩⟩]],((E.length:Nat):Int)),0):=(by unfold nJ;rw[if_neg HS,if_neg w4,<-hM,if_neg I5,if_pos Dq,<-Y2])
  refine az 3 ?_;refine eH (cx 0 [_]) [.int .i64 0,.int .i64 0,.string ⟨#[]⟩] [_,_,_] zeroValue56 runUnderlying40 sizeOf56 (fun Qh=>?_);refine eH (cx 0 [_]) [.slice none 0 0] [_] zeroValue40 runUnderlying33 sizeOf40 (fun Y3=>?_);refine aG 1 ?_;refine aR 2 [_,_] sizeOf33 ?_;refine aq 135 [4,14] ?_;refine az 1 ?_;refine aR 4 [_,_] sizeOf35 ?_;refine dY 135 [4,5] [_,_] ?_;rw[aY];exact⟨[⟨[⟨2,(E.length:Nat),⟨#[]⟩⟩],some ⟨Qh,0,none⟩,1,[⟨Qh,56,1*3,[⟨2,(E.length:Nat),⟨#[]⟩⟩].flatMap cV⟩]⟩],some ⟨Y3,0,none⟩,1,[_],rfl,.inr ⟨Y3,rfl,Nat.le_refl _,(show 1<=maxLen by decide),rfl⟩,(fun o ho=>by rw[mem_singleton] at ho;subst ho;exact .inr ⟨Qh,rfl,Nat.le_refl _,(show 1<=maxLen by decide),rfl⟩),rfl,rfl⟩
 have Dq:¬s.count=true:=(by rw[qP];decide)
 have aY:nJ t s=((E.map (yT t acc),((E.length:Nat):Int)),0):=(by unfold nJ;rw[if_neg HS,if_neg w4,<-hM,if_neg I5,if_neg Dq,<-Y2,<-vR])
 have Y4:=alG g pN;rw[<-vR] at Y4;have aum:acc.length<=1000:=(by rw[vR];unfold tK;split;(rw[length_map,length_range];omega);(rw[length_map];omega))
 refine aA [2,4,6,14,103,104,105] ?_;refine fa [2,4,6,14,103,104] (fun aV _ (O:Nat×List cg×Option Addr×Nat×List ag) aF=>match O with|(i,L,dP,dm,Sx)=>(i<=E.length)/\(L.map cg.r=(E.take i).map (yT t acc))/\(∀o∈L,o8 o)/\(uA L dP dm Sx)/\aF=(⟨135,(105,ae (i:Nat))::aV,(⟨BM,35,2,[aN dP L.length dm,ae (E.length:Nat)]⟩::⟨mv,3,1,[ae (on:Nat)]⟩::⟨b4,35,2,[bW,ae 0]⟩::⟨b3,44,12,bK s⟩::⟨b2,68,5,dw t⟩::(Sx++L.flatMap bR))⟩:St)) (fun (O:Nat×List cg×Option Addr×Nat×List ag)=>match O with|(i,L,dP,dm,Sx)=>E.length-i) (0,([]:List cg),none,0,[]) ⟨(Nat.zero_le _),rfl,(fun o h=>by cases h),jj,rfl⟩ ?_;rintro⟨i,L,dP,dm,Sx⟩ _ ⟨hi,hL,aQ,ev,rfl⟩;refine ax [2,4,6,14,103,104,105,106] ?_ ?_<;>intro vQ Dl
 ·have aa:i<E.length:=(by omega)
  obtain⟨jm,eZ,nZ⟩:=uR _ (getElem_mem aa);have hx4:=pZ (g.row _ eZ nZ).1;have tH:L.length=i:=(by have:=congrArg length hL;rw[length_map,length_map,length_take] at this;omega)
  refine aA [2,4,6,14,16,103,104,105] ?_;refine bX ?_;refine bA [2,4,6,14,16,17,103,104,105] ?_;refine aA [2,4,6,14,16,17,103,104,105,109,110,111] ?_;refine fa [2,4,6,14,16,103,104,105,109,110] (fun aV _ (O:Nat×List Vl×Option Addr×Nat×List ag) aF=>match O with|(j,I,jd,je,Sy)=>(j<=acc.length)/\(I=(acc.take j).map fun c=>(rowAt t (E[i]'aa)).getD c.toNat aU)/\(bq 56 3 (I.flatMap cV) I.length jd je Sy)/\aF=(⟨135,(17,aN jd I.length je)::(111,ae (j:Nat))::aV,(⟨BM,35,2,[aN dP L.length dm,ae (E.length:Nat)]⟩::⟨mv,3,1,[ae (on:Nat)]⟩::⟨b4,35,2,[bW,ae 0]⟩::⟨b3,44,12,bK s⟩::⟨b2,68,5,dw t⟩::(Sy++(Sx++L.flatMap bR)))⟩:St)) (fun (O:Nat×List Vl×Option Addr×Nat×List ag)=>match O with|(j,I,jd,je,Sy)=>acc.length-j) (0,([]:List Vl),none,0,[]) ⟨(Nat.zero_le _),rfl,jj,rfl⟩ ?_;rintro⟨j,I,jd,je,Sy⟩ _ ⟨hj,MM,EW,rfl⟩;refine ax [2,4,6,14,16,17,103,104,105,109,110,111,112] ?_ ?_<;>intro HI G5
  ·have ja:j<acc.length:=(by omega)
   obtain⟨Y5,aun⟩:=Y4 _ (getElem_mem ja);have Qi:(acc[j]'ja).toNat<(t.rows[(E[i]'aa).toNat]'eZ).length:=(by omega)
   have alI:(rowAt t (E[i]'aa)).getD (acc[j]'ja).toNat aU=(t.rows[(E[i]'aa).toNat]'eZ)[(acc[j]'ja).toNat]:=(by rw[jt eZ,getD_eq_getElem?_getD,getElem?_eq_getElem Qi];rfl)
   have auo:I.length=j:=(by rw[MM,length_map,length_take];omega)
   refine aA [2,4,6,14,16,17,19,103,104,105,109,110,111] ?_;refine dV 4 ?_;refine bQ (ei 1 (h:=by first|exact .l (j:=(E[i]'aa).toNat) (Int.toNat_of_nonneg jm).symm eZ|exact .r (j:=(E[i]'aa).toNat) (Int.toNat_of_nonneg jm).symm eZ)) ?_;refine aG 2 ?_;refine bQ (ei 3 (h:=by first|exact .l (j:=(acc[j]'ja).toNat) (Int.toNat_of_nonneg Y5).symm Qi|exact .r (j:=(acc[j]'ja).toNat) (Int.toNat_of_nonneg Y5).symm Qi)) ?_;refine aG 1 ?_;refine eH (cx 0 [_]) [.int .i64 0,.int .i64 0,.string ⟨#[]⟩] [_,_,_] zeroValue56 runUnderlying40 sizeOf56 (fun aup=>?_);refine gh 0 124 3 1 ?_;refine fY (ls:=I) (new:=[(t.rows[(E[i]'aa).toNat]'eZ)[(acc[j]'ja).toNat]]) (Sq:=Sy) fQ GF av rfl rfl underlying40 adA rfl w8 ot EW (Kl (A:=[_,_,_,_,_])) ot bp oA oB (fun N2 MN alJ alK=>?_);refine bZ (Tf (S1:=[⟨N2,56,MN*3,flatMap cV (I++[(t.rows[(E[i]'aa).toNat]'eZ)[(acc[j]'ja).toNat]])⟩]) (A:=[_,_,_,_,_])) ?_;refine aq 135 [2,4,6,14,16,17,103,104,105,109,110,111] ?_;refine cc [2,4,6,14,16,17,103,104,105,109,110,111] ?_;refine⟨((j+1),(I++[(t.rows[(E[i]'aa).toNat]'eZ)[(acc[j]'ja).toNat]]),(some ⟨N2,0,none⟩),MN,[⟨N2,56,MN*3,flatMap cV (I++[(t.rows[(E[i]'aa).toNat]'eZ)[(acc[j]'ja).toNat]])⟩]),_,cG,aI,w4,(by rw[MM,<-alI,<-ri ja,map_append];rfl),(bN alJ alK),rfl⟩
  have xy:(L++[(⟨I,jd,je,Sy⟩:cg)]).map cg.r=(E.take (i+1)).map (yT t acc):=(by rw[map_append,hL,<-ri aa,map_append];congr 1;show[I]=[yT t acc (E[i]'aa)];rw[MM,take_of_length_le w4];rfl)
  have kD:∀o∈L++[(⟨I,jd,je,Sy⟩:cg)],o8 o:=fun o ho=>by rcases mem_append.1 ho with ho|ho;exact aQ o ho;rw[mem_singleton] at ho;subst ho;exact EW
  refine dV 3 ?_;refine eH (cx 0 [_]) [.slice none 0 0] [_] zeroValue40 runUnderlying33 sizeOf40 (fun auq=>?_);refine gh 0 130 1 1 ?_;refine fY (ls:=L) (new:=[(⟨I,jd,je,Sy⟩:cg)]) (Sq:=Sx) CC WE av rfl rfl underlying33 adw rfl w8 ot ev (u5 (A:=[_,_,_,_,_])) ot bp oA oB (fun HT Hh alL alM=>?_);refine bZ (xY (S2:=[⟨HT,40,Hh*1,flatMap gR (L++[(⟨I,jd,je,Sy⟩:cg)])⟩]) (A:=[_,_,_,_,_])) ?_;refine bZ (S':=⟨BM,35,2,[aN dP L.length dm,ae (E.length:Nat)]⟩::⟨mv,3,1,[ae (on:Nat)]⟩::⟨b4,35,2,[bW,ae 0]⟩::⟨b3,44,12,bK s⟩::⟨b2,68,5,dw t⟩::([⟨HT,40,Hh*1,flatMap gR (L++[(⟨I,jd,je,Sy⟩:cg)])⟩]++(L++[(⟨I,jd,je,Sy⟩:cg)]).flatMap bR)) (j9 fun nl=>by simp only[map_append,map_cons,map_nil,sum_append,sum_cons,sum_nil,alH];omega) ?_;refine aG 1 ?_;refine aR 0 [_,_] sizeOf33 ?_;refine aq 135 [2,4,6,14,103,104,105] ?_;refine cc [2,4,6,14,103,104,105] ?_;refine⟨((i+1),(L++[(⟨I,jd,je,Sy⟩:cg)]),(some ⟨HT,0,none⟩),Hh,[⟨HT,40,Hh*1,flatMap gR (L++[(⟨I,jd,je,Sy⟩:cg)])⟩]),_,cG,aI,w4,xy,kD,(bN alL alM),rfl⟩
 have sc:L.map cg.r=E.map (yT t acc):=(by rw[hL,take_of_length_le w4])
 refine az 1 ?_;refine aR 2 [_,_] sizeOf35 ?_;refine dY 135 [4,5] (Sx++L.flatMap bR) ?_;rw[aY];exact⟨L,dP,dm,Sx,rfl,ev,aQ,sc,rfl⟩
abbrev iG(bo:Nat)(ad:Option Addr)(n cap:Nat):ag:=⟨bo,31,1,[aN ad n cap]⟩
def iB(s:cn):aK:=⟨s.table,s.au,[],qH⟩
def yV(s:cn):aX:=⟨iB s,[],none,0,[],[]⟩
theorem aiz(s:cn):q9 (yV s):=⟨[],rfl,rfl,(fun o h=>by cases h),rfl,jj⟩
def rh(l:List aK)(s:cn):List aK×Int:=if 0<=aW l s.table then (l,9) else if l.length=4 then (l,10) else (l++[iB s],0)
def Hi(l:List aK)(bo:Nat)(S:List ag):Prop:=∃(L:List aX) (ad:Option Addr) (cap:Nat) (Sx:List ag),yS L ad cap Sx/\(∀o∈L,okW o)/\L.map aX.t=l/\S.Perm (iG bo ad L.length cap::(Sx++L.flatMap bT))
theorem adB:(Tryz.prog.info? 68).map (fun i=>(i.zero,i.size,i.bytes))=some (some (.agg #[.string ⟨#[]⟩,.slice none 0 0,.slice none 0 0,.slice none 0 0,.int .i64 0]),5,96):=by kernel_rfl
theorem ae8(L:List aX)(aQ:∀o∈L,q9 o)(hL:L.length<=4)(s:cn)(lm:s.au.length<=1000)(Z:Nat)(ad:Option Addr)(cap:Nat)(Sx:List ag)(fy:yS L ad cap Sx):VC Tryz.prog G 43 [da Z,.agg (bK s)] (iG Z ad L.length cap::(Sx++L.flatMap bT)) (fun r S=>r=ae (rh (L.map aX.t) s).2/\((rh (L.map aX.t) s).2=0->Hi (rh (L.map aX.t) s).1 Z S)):=by
 refine bn func43 rfl ntmps43 aP fun X0 w0 bj=>?_;have dH:=ey;have wO:=fun o ho=>(aQ o ho).w;have fF:=rA (G:=G) (L.map aX.t) Hr s.table
 (first|rw[length_map] at fF|(unfold an at fF;rw[length_map] at fF))
 unfold bK;refine bX ?_;refine cW [_,_,_,_,_,_,_,_,_,_,_,_] (fun b3=>?_);refine aq 37 [0,3] ?_;refine cN [0,3,5] ?_;refine mr 6 ?_;refine Bb (fF) (ha:=ZC) (K:=?_);refine bL ?_;refine cj ?_ ?_<;>intro aM bG
 ·have h0:0<=aW (L.map aX.t) s.table:=(by simpa using aM)
  have aY:rh (L.map aX.t) s=(L.map aX.t,9):=if_pos h0;refine aA [4] ?_;exact Il
 have h0:¬0<=aW (L.map aX.t) s.table:=(by simpa using aM)
 refine ax [0,3,14] ?_ ?_<;>intro bf cD
 ·have h4:L.length=4:=(by have:=bf;simp at this;omega)
  have aY:rh (L.map aX.t) s=(L.map aX.t,10):=(by unfold rh;rw[if_neg h0,if_pos (by rw[length_map];exact h4)])
  refine aA [4] ?_;exact Il
 have h4:¬L.length=4:=(by have:=bf;simp at this;omega)
 have aY:rh (L.map aX.t) s=(L.map aX.t++[iB s],0):=(by unfold rh;rw[if_neg h0,if_neg (by rw[length_map];exact h4)])
 have qe:=ajP (G:=G);refine en ?_;refine cQ ?_;refine oC 13 [21,25,33] ?_;refine cL (Sn s.au w4) ?_;refine cL (qe) ?_;refine bL ?_;refine fY (ls:=L) (new:=[yV s]) (Sq:=Sx) wC WG av rfl rfl underlying29 adB rfl w8 ot fy (pS (A:=[_,_])) ot bp oA oB (fun I E O U=>?_);refine bZ (kO (S1:=[⟨I,68,E*5,flatMap gT (L++[yV s])⟩]) (A:=[_,_])) ?_;refine aG 2 ?_;refine aR 1 [_] sizeOf29 ?_;refine aq 37 [] ?_;refine dj [4] (⟨Z,31,1,[_]⟩::([⟨I,68,E*5,flatMap gT (L++[yV s])⟩]++L.flatMap bT)) ?_;rw[aY];exact⟨rfl,fun _=>⟨L++[yV s],some ⟨I,0,none⟩,E,[⟨I,68,E*5,flatMap gT (L++[yV s])⟩],bN O U,(fun o ho=>by rcases mem_append.1 ho with ho|ho;exact wO o ho;rw[mem_singleton] at ho;subst ho;exact(aiz s).w),by rw[map_append];rfl,by rw[VL,show bT (yV s)=[] from rfl,append_nil]⟩⟩
noncomputable def ik(l:List aK)(s:cn):List aK×((List (List Vl)×Int)×Int) :=
 if s.kind=1 then ((rh l s).1,(([],0),(rh l s).2))
 else if aW l s.table<0 then (l,(([],0),8))
 else if s.kind=3 then (l.set (aW l s.table).toNat (gX (l.getD (aW l s.table).toNat (iB s)) s.row).1,(([],1),(gX (l.getD (aW l s.table).toNat (iB s)) s.row).2))
 else if s.kind=4 then (l,nJ (l.getD (aW l s.table).toNat (iB s)) s)
 else if s.kind=5 then (l.set (aW l s.table).toNat (iH (l.getD (aW l s.table).toNat (iB s)) s).1,(([],(iH (l.getD (aW l s.table).toNat (iB s)) s).2.1),(iH (l.getD (aW l s.table).toNat (iB s)) s).2.2))
 else (l.set (aW l s.table).toNat (nE (l.getD (aW l s.table).toNat (iB s)) s.ah).1,(([],(nE (l.getD (aW l s.table).toNat (iB s)) s.ah).2.1),(nE (l.getD (aW l s.table).toNat (iB s)) s.ah).2.2))
theorem Re:∀(c:List D) {S:List ag},hU S c c
 | [],_=>trivial
 | _::c,_=>⟨fq,Re c⟩
theorem agU(L:List aX)(h:i<L.length):L.flatMap gT=(L.take i).flatMap gT++(gT L[i]++(L.drop (i+1)).flatMap gT):=by
 conv=>lhs;rw[<-take_append_drop i L,drop_eq_getElem_cons h]
 rw[flatMap_append,flatMap_cons]
theorem akb(L:List aX)(h:i<L.length)(o:aX):(L.set i o).flatMap gT=(L.take i).flatMap gT++(gT o++(L.drop (i+1)).flatMap gT):=by
 rw[set_eq_take_append_cons_drop,if_pos h,flatMap_append,flatMap_cons]
theorem Mi(f:ag->Nat):∀(L:List aX) (i:Nat) (o:aX) (h:i<L.length),(((L.set i o).flatMap bT).map f).sum=((bT o).map f).sum+(((L.eraseIdx i).flatMap bT).map f).sum
 | [],_,_,h=>absurd h (Nat.not_lt_zero _)
 | x::L,0,o,_=>by simp
 | x::L,i+1,o,h=>by
  have:=Mi f L i o (Nat.lt_of_succ_lt_succ h);simp only[set_cons_succ,flatMap_cons,map_append,sum_append,eraseIdx_cons_succ,this];omega
theorem Kc{A:List ag}{L:List aX}{bx z:Nat}(h:i<L.length):(A++([(⟨bx,68,z,L.flatMap gT⟩:ag)]++L.flatMap bT)).Perm (A++((⟨bx,68,z,(L.take i).flatMap gT++(gT L[i]++(L.drop (i+1)).flatMap gT)⟩:ag)::(bT L[i]++(L.eraseIdx i).flatMap bT))):=by
 rw[<-agU L h];exact j9 fun f=>by
  have:=Mi f L i L[i] h;rw[set_getElem_self] at this;simp only[map_cons,sum_cons,map_append,sum_append,map_nil,sum_nil,this];omega
theorem LK{L:List aX}{bx E:Nat}(h:i<L.length)(h1:L.length<=cap)(h2:cap<=maxLen)(aQ:∀o∈L,okW o){o:aX}(ho:okW o)(hS:S.Perm (iG E (some ⟨bx,0,none⟩) L.length cap::((⟨bx,68,cap*5,(L.take i).flatMap gT++(gT o++(L.drop (i+1)).flatMap gT)⟩::bT o)++(L.eraseIdx i).flatMap bT))):Hi ((L.map aX.t).set i o.t) E S:=by
 refine⟨L.set i o,some ⟨bx,0,none⟩,cap,[⟨bx,68,cap*5,(L.set i o).flatMap gT⟩],bN (by rw[length_set];exact h1) h2,fun x hx=>?_,by rw[map_set],?_⟩
 ·rcases mem_or_eq_of_mem_set hx with hx|hx
  ·exact aQ x hx
  rw[hx];exact ho
 rw[length_set,akb L h];refine hS.trans (j9 fun f=>?_);have:=Mi f L i o h;simp only[map_cons,sum_cons,map_append,sum_append,map_nil,sum_nil,this];omega
theorem VZ(h:wZ t ad cap E):okW ⟨t,t.rows.flatMap ij,ad,cap,E,[]⟩:=⟨h,fun S _=>Re _⟩
theorem agV(h:HP t L ad cap E):okW ⟨t,L.flatMap gR,ad,cap,E,L.flatMap bR⟩:=q9.w ⟨L,rfl,rfl,h.2.1,h.1,h.2.2⟩
theorem Rf{o:aX}(h:q9 o):∃U,wZ o.t o.ad o.cap U/\∀(n:Nat) (env:List (Nat×D)) (A R:List ag),Wk ⟨n,env,A++(bT o++R)⟩ ⟨n,env,A++(U++R)⟩:=by
 obtain⟨L,h1,h2,h3,h4,h5⟩:=h;have hv:=Gn (S:=L.flatMap bR) h3 (fun B h=>h);have E:L.length=o.t.rows.length:=(by rw[<-h4];(first|rw[length_map]|(unfold an;rw[length_map])))
 rcases h5 with ⟨e1,e2,I,O,Z⟩|⟨b,e1,e2,I,O⟩
 ·have hL:L=[]:=length_eq_zero_iff.1 e1;subst hL;have hr:o.t.rows=[]:=(by rw[<-h4];rfl)
  refine⟨[],.inl ⟨by rw[hr];rfl,by rw[hr];rfl,I,O,rfl⟩,fun n env A R=>?_⟩;have hb:bT o=[]:=(by unfold bT;rw[Z,h2];rfl)
  rw[hb];exact Wk.refl _
 refine⟨[⟨b,40,o.cap*1,o.t.rows.flatMap ij⟩],.inr ⟨b,e1,by rw[<-E];exact e2,I,rfl⟩,fun n env A R=>?_⟩;have hb:bT o=⟨b,40,o.cap*1,L.flatMap gR⟩::L.flatMap bR:=(by unfold bT;rw[O,h2];rfl)
 rw[hb,<-h4];have hc:=Wk.cover (n:=n) (l:=env) (S:=A++((⟨b,40,o.cap*1,L.flatMap gR⟩::L.flatMap bR)++R)) (A:=⟨b,40,o.cap*1,L.flatMap gR⟩) (R:=A++R) (Sd:=L.flatMap bR) (cs':=(L.map cg.r).flatMap ij) (j9 fun f=>by simp only[map_cons,sum_cons,map_append,sum_append,map_nil,sum_nil];omega) hv;refine hc.trans (Wk.perm (j9 fun f=>by simp only[map_cons,sum_cons,map_append,sum_append,map_nil,sum_nil];omega))
theorem akc(hm:(3,marksC)∈G)(hw:(1,wordsC)∈G)(ht:(0,typesC)∈G)(hG:(2,[Value.int .i64 m])∈G)(L:List aX)(aQ:∀o∈L,q9 o)(hL:L.length<=4)(hg:∀o∈L,∃n,n<=260/\eV o.t n)(s:cn)(eR:¬s.kind=2)(lm:s.au.length<=1000)(vS:s.row.length<=1000)(NF:∀v∈s.row,v.Ok)(uW:s.names.length<=1000)(ho:∀o∈s.ah,o.nm.size<=maxLen)(gl:∀o∈s.ah,o.v.Ok)(n8:∀o∈s.bM,o.nm.size<=maxLen)(HR:∀o∈s.bM,o.v.Ok)(I:Nat)(ad:Option Addr)(cap:Nat)(Sx:List ag)(fy:yS L ad cap Sx):VC Tryz.prog G 23 [da I,.agg (bK s)] (iG I ad L.length cap::(Sx++L.flatMap bT)) (fun r S=>r=BO (ik (L.map aX.t) s).2/\((ik (L.map aX.t) s).2.2=0->Hi (ik (L.map aX.t) s).1 I S)):=by
 refine bn func23 rfl ntmps23 aP fun X0 w0 bj=>?_;have dH:=ey;have wO:=fun o ho=>(aQ o ho).w;have fF:=rA (G:=G) (L.map aX.t) Hr s.table
 (first|rw[length_map] at fF|(unfold an at fF;rw[length_map] at fF))
 have uH:=x8 (fun t:aK=>t.nm.toList==s.table.toList) (L.map aX.t);rw[show c9 (fun t:aK=>t.nm.toList==s.table.toList) (L.map aX.t)=(aW (L.map aX.t) s.table) from rfl,length_map] at uH;refine bX ?_;refine cW [_,_,_,_,_,_,_,_,_,_,_,_] (fun b3=>?_);refine dF (ds:=[_,_]) av rfl rfl zeroValue35 rfl (fun O=>?_);refine aG 1 ?_;first|refine l8 (k:=0) (cs':=[.list 1 [] 0,_]) rfl ⟨fG,dG,trivial⟩ rfl ?_|skip
 refine aq 87 [0,3,4] ?_;refine ax [0,3,4,14] ?_ ?_<;>intro aM bG
 ·have cl:s.kind=1:=(by simpa using aM)
  have aY:ik (L.map aX.t) s=((rh (L.map aX.t) s).1,(([],0),(rh (L.map aX.t) s).2)):=(by unfold ik;rw[if_pos cl])
  refine az 3 ?_;refine fg (Sf:=iG I ad L.length cap::(Sx++L.flatMap bT)) (R:=[⟨O,35,2,[.list 1 [] 0,ae 0]⟩,⟨b3,44,12,bK s⟩]) av rfl rfl rfl call43 (ae8 L aQ hL s lm I ad cap Sx fy) ⟨ot,ot,trivial⟩ (show(⟨O,35,2,[.list 1 [] 0,ae 0]⟩::⟨b3,44,12,bK s⟩::iG I ad L.length cap::(Sx++L.flatMap bT):List ag).Perm (iG I ad L.length cap::(Sx++L.flatMap bT)++[⟨O,35,2,[.list 1 [] 0,ae 0]⟩,⟨b3,44,12,bK s⟩]) from(j9 fun nl=>by simp only[map_append,map_cons,map_nil,sum_append,sum_cons,sum_nil];omega)) ?_;rintro _ U ⟨rfl,Z⟩;refine bZ (S':=⟨O,35,2,[.list 1 [] 0,ae 0]⟩::⟨b3,44,12,bK s⟩::U) (show(U++[⟨O,35,2,[.list 1 [] 0,ae 0]⟩,⟨b3,44,12,bK s⟩]:List ag).Perm _ from(j9 fun nl=>by simp only[map_append,map_cons,map_nil,sum_append,sum_cons,sum_nil];omega)) ?_;refine aR 0 [_,_] sizeOf35 ?_;refine aG 1 ?_;first|refine l8 (k:=0) (cs':=[.list 1 [] 0,_]) rfl ⟨fG,dG,trivial⟩ rfl ?_|skip
  refine dY 87 [4,5] U ?_;rw[aY];exact⟨rfl,fun h=>Z h⟩
 have cl:¬s.kind=1:=(by simpa using aM)
 refine cN [0,3,4,6] ?_;refine mr 6 ?_;refine Bb (fF) (ha:=ZC) (K:=?_);refine bL ?_;refine ax [0,3,4,6,27] ?_ ?_<;>intro bf cD
 ·have h0:(aW (L.map aX.t) s.table)<0:=(by simpa using bf)
  have aY:ik (L.map aX.t) s=(L.map aX.t,(([],0),8)):=(by unfold ik;rw[if_neg cl,if_pos h0])
  refine az 1 ?_;refine aR 0 [_,_] sizeOf35 ?_;refine aG 1 ?_;first|refine l8 (k:=0) (cs':=[.list 1 [] 0,_]) rfl ⟨fG,dG,trivial⟩ rfl ?_|skip
  refine aq 87 [4,5] ?_;exact Il
 have h0:¬(aW (L.map aX.t) s.table)<0:=(by simpa using bf)
 have E:(aW (L.map aX.t) s.table).toNat<L.length:=(by omega)
 obtain⟨bx,rfl,gw,oZ,rfl⟩:=fy.pos w4;have k8:(L.map aX.t).getD (aW (L.map aX.t) s.table).toNat (iB s)=(L[(aW (L.map aX.t) s.table).toNat]'E).t:=(by rw[getD_eq_getElem?_getD,getElem?_map,getElem?_eq_getElem E];rfl)
 refine cN [0,3,4,6,7] ?_;refine aT 5 ?_ (h:=by exact(ei 5 (h:=by first|exact .l (j:=(aW (L.map aX.t) s.table).toNat) (Int.toNat_of_nonneg w4).symm E|exact .r (j:=(aW (L.map aX.t) s.table).toNat) (Int.toNat_of_nonneg w4).symm E)));refine bL ?_;refine aA [0,3,4,6,7,36] ?_;refine ax [0,3,4,6,7,36,37] ?_ ?_<;>intro cr cU
 ·exact absurd cr (by exact absurd (by simpa using cr) eR)
 refine ax [3,4,7,36,51] ?_ ?_<;>intro de eG
 ·have kf:s.kind=3:=(by simpa using de)
  have aY:ik (L.map aX.t) s=((L.map aX.t).set (aW (L.map aX.t) s.table).toNat (gX (L[(aW (L.map aX.t) s.table).toNat]'E).t s.row).1,(([],1),(gX (L[(aW (L.map aX.t) s.table).toNat]'E).t s.row).2)):=(by unfold ik;rw[k8,if_neg cl,if_neg h0,if_pos kf])
  obtain⟨n,hn,g⟩:=hg (L[(aW (L.map aX.t) s.table).toNat]'E) (getElem_mem E);obtain⟨Sg,Qj,jq⟩:=Rf (aQ (L[(aW (L.map aX.t) s.table).toNat]'E) (getElem_mem E));refine qs (Kc (A:=[_,_,_]) E) ?_;refine kS (jq _ _ [_,_,_,_] _) ?_;refine az 4 ?_
  refine fg (Sf:=(⟨bx,68,cap*5,(L.take (aW (L.map aX.t) s.table).toNat).flatMap gT++(gT (L[(aW (L.map aX.t) s.table).toNat]'E)++(L.drop ((aW (L.map aX.t) s.table).toNat+1)).flatMap gT)⟩:ag)::Sg) (R:=⟨O,35,2,[.list 1 [] 0,ae 0]⟩::⟨b3,44,12,bK s⟩::iG I (some ⟨bx,0,none⟩) L.length cap::((L.eraseIdx (aW (L.map aX.t) s.table).toNat).flatMap bT)) av rfl rfl rfl call45 (J7 hm hw ht hG (L[(aW (L.map aX.t) s.table).toNat]'E).t g w4 s.row vS NF bx (0+(aW (L.map aX.t) s.table).toNat*5) (cap*5) ((L.take (aW (L.map aX.t) s.table).toNat).flatMap gT) ((L.drop ((aW (L.map aX.t) s.table).toNat+1)).flatMap gT) M5 (L[(aW (L.map aX.t) s.table).toNat]'E).ad (L[(aW (L.map aX.t) s.table).toNat]'E).cap Sg Qj) ⟨ot,ot,trivial⟩ (show(⟨O,35,2,[.list 1 [] 0,ae 0]⟩::⟨b3,44,12,bK s⟩::iG I (some ⟨bx,0,none⟩) L.length cap::(⟨bx,68,cap*5,(L.take (aW (L.map aX.t) s.table).toNat).flatMap gT++(gT (L[(aW (L.map aX.t) s.table).toNat]'E)++(L.drop ((aW (L.map aX.t) s.table).toNat+1)).flatMap gT)⟩:ag)::(Sg++(L.eraseIdx (aW (L.map aX.t) s.table).toNat).flatMap bT):List ag).Perm (((⟨bx,68,cap*5,(L.take (aW (L.map aX.t) s.table).toNat).flatMap gT++(gT (L[(aW (L.map aX.t) s.table).toNat]'E)++(L.drop ((aW (L.map aX.t) s.table).toNat+1)).flatMap gT)⟩:ag)::Sg)++(⟨O,35,2,[.list 1 [] 0,ae 0]⟩::⟨b3,44,12,bK s⟩::iG I (some ⟨bx,0,none⟩) L.length cap::((L.eraseIdx (aW (L.map aX.t) s.table).toNat).flatMap bT))) from(j9 fun nl=>by simp only[map_append,map_cons,map_nil,sum_append,sum_cons,sum_nil];omega)) ?_
  rintro _ U ⟨rfl,Z⟩;refine bZ (S':=⟨O,35,2,[.list 1 [] 0,ae 0]⟩::⟨b3,44,12,bK s⟩::iG I (some ⟨bx,0,none⟩) L.length cap::(U++(L.eraseIdx (aW (L.map aX.t) s.table).toNat).flatMap bT)) (show(U++(⟨O,35,2,[.list 1 [] 0,ae 0]⟩::⟨b3,44,12,bK s⟩::iG I (some ⟨bx,0,none⟩) L.length cap::((L.eraseIdx (aW (L.map aX.t) s.table).toNat).flatMap bT)):List ag).Perm _ from(j9 fun nl=>by simp only[map_append,map_cons,map_nil,sum_append,sum_cons,sum_nil];omega)) ?_;refine aR 0 [_,_] sizeOf35 ?_;refine aG 1 ?_;first|refine l8 (k:=0) (cs':=[.list 1 [] 0,_]) rfl ⟨fG,dG,trivial⟩ rfl ?_|skip
  refine dY 87 [4,5] (iG I (some ⟨bx,0,none⟩) L.length cap::(U++(L.eraseIdx (aW (L.map aX.t) s.table).toNat).flatMap bT)) ?_;rw[aY];refine⟨rfl,fun h=>?_⟩;obtain⟨gL,aO,qM,N3,rfl⟩:=Z h;exact LK E gw oZ wO (VZ N3) XP
 have kf:¬s.kind=3:=(by simpa using de)
 refine ax [3,4,7,36,58] ?_ ?_<;>intro eo fS
 ·have zc:s.kind=4:=(by simpa using eo)
  have aY:ik (L.map aX.t) s=(L.map aX.t,(nJ (L[(aW (L.map aX.t) s.table).toNat]'E).t s)):=(by unfold ik;rw[k8,if_neg cl,if_neg h0,if_neg kf,if_pos zc])
  obtain⟨n,hn,g⟩:=hg (L[(aW (L.map aX.t) s.table).toNat]'E) (getElem_mem E);refine cQ ?_;refine oC 7 [4,65,66] ?_;refine aT 2 ?_ (h:=by exact(dN (mk:=Op.load 68) rfl ot (dO (k:=3) (i:=(aW (L.map aX.t) s.table).toNat) (ls:=L) wC rfl rfl rfl isAgg68 sizeOf68 E)));refine mr 1 ?_;refine A9 (aiy hm hw ht hG (L[(aW (L.map aX.t) s.table).toNat]'E).t g s uW ho gl) (fun r S h=>h.flat) (fun r S h=>(by have Z:=h.view;unfold BO at Z;exact Z)) (ha:=by exact⟨⟨_,ot,(VH (wO _ (getElem_mem E)) (fun B hB=>by have Z:=mem_flatMap.2 ⟨_,getElem_mem E,hB⟩;repeat (first|exact Z|apply mem_append_right|apply mem_cons_of_mem)):View _ (.agg (gT (L[(aW (L.map aX.t) s.table).toNat]'E))) _)⟩,⟨_,ot,fq⟩,trivial⟩) (K:=?_);refine bL ?_;refine aR 0 [_,_] sizeOf35 ?_;refine aG 1 ?_;first|refine l8 (k:=0) (cs':=[.list 1 [] 0,_]) rfl ⟨fG,dG,trivial⟩ rfl ?_|skip
  refine dY 87 [4,5] (iG I (some ⟨bx,0,none⟩) L.length cap::([⟨bx,68,cap*5,L.flatMap gT⟩]++L.flatMap bT)) ?_;rw[aY];exact⟨rfl,fun _=>⟨L,_,cap,_,fy,wO,rfl,Perm.refl _⟩⟩
 have zc:¬s.kind=4:=(by simpa using eo)
 refine ax [3,4,7,67] ?_ ?_<;>intro gk iC
 ·have zx:s.kind=5:=(by simpa using gk)
  have aY:ik (L.map aX.t) s=((L.map aX.t).set (aW (L.map aX.t) s.table).toNat (iH (L[(aW (L.map aX.t) s.table).toNat]'E).t s).1,(([],(iH (L[(aW (L.map aX.t) s.table).toNat]'E).t s).2.1),(iH (L[(aW (L.map aX.t) s.table).toNat]'E).t s).2.2)):=(by unfold ik;rw[k8,if_neg cl,if_neg h0,if_neg kf,if_neg zc,if_pos zx])
  obtain⟨n,hn,g⟩:=hg (L[(aW (L.map aX.t) s.table).toNat]'E) (getElem_mem E);obtain⟨LR,q1,q2,q3,q4,q5⟩:=aQ (L[(aW (L.map aX.t) s.table).toNat]'E) (getElem_mem E);refine qs (Kc (A:=[_,_,_]) E) ?_;refine az 2 ?_
  refine fg (Sf:=(⟨bx,68,cap*5,(L.take (aW (L.map aX.t) s.table).toNat).flatMap gT++(gT (L[(aW (L.map aX.t) s.table).toNat]'E)++(L.drop ((aW (L.map aX.t) s.table).toNat+1)).flatMap gT)⟩:ag)::((L[(aW (L.map aX.t) s.table).toNat]'E).sr++LR.flatMap bR)) (R:=⟨O,35,2,[.list 1 [] 0,ae 0]⟩::⟨b3,44,12,bK s⟩::iG I (some ⟨bx,0,none⟩) L.length cap::((L.eraseIdx (aW (L.map aX.t) s.table).toNat).flatMap bT)) av rfl rfl rfl call47 (ae7 hm hw ht hG (L[(aW (L.map aX.t) s.table).toNat]'E).t g s ho gl n8 HR hn bx (0+(aW (L.map aX.t) s.table).toNat*5) (cap*5) ((L.take (aW (L.map aX.t) s.table).toNat).flatMap gT) ((L.drop ((aW (L.map aX.t) s.table).toNat+1)).flatMap gT) M5 LR (L[(aW (L.map aX.t) s.table).toNat]'E).ad (L[(aW (L.map aX.t) s.table).toNat]'E).cap (L[(aW (L.map aX.t) s.table).toNat]'E).sr q4 q3 q5) ⟨ot,ot,trivial⟩ (show(⟨O,35,2,[.list 1 [] 0,ae 0]⟩::⟨b3,44,12,bK s⟩::iG I (some ⟨bx,0,none⟩) L.length cap::(⟨bx,68,cap*5,(L.take (aW (L.map aX.t) s.table).toNat).flatMap gT++(gT (L[(aW (L.map aX.t) s.table).toNat]'E)++(L.drop ((aW (L.map aX.t) s.table).toNat+1)).flatMap gT)⟩:ag)::((bT (L[(aW (L.map aX.t) s.table).toNat]'E))++(L.eraseIdx (aW (L.map aX.t) s.table).toNat).flatMap bT):List ag).Perm (((⟨bx,68,cap*5,(L.take (aW (L.map aX.t) s.table).toNat).flatMap gT++(gT (L[(aW (L.map aX.t) s.table).toNat]'E)++(L.drop ((aW (L.map aX.t) s.table).toNat+1)).flatMap gT)⟩:ag)::((L[(aW (L.map aX.t) s.table).toNat]'E).sr++LR.flatMap bR))++(⟨O,35,2,[.list 1 [] 0,ae 0]⟩::⟨b3,44,12,bK s⟩::iG I (some ⟨bx,0,none⟩) L.length cap::((L.eraseIdx (aW (L.map aX.t) s.table).toNat).flatMap bT))) from by rw[show bT (L[(aW (L.map aX.t) s.table).toNat]'E)=((L[(aW (L.map aX.t) s.table).toNat]'E).sr++LR.flatMap bR) from by unfold bT;rw[q2]];exact(j9 fun nl=>by simp only[map_append,map_cons,map_nil,sum_append,sum_cons,sum_nil];omega)) ?_
  rintro _ U ⟨rfl,Z⟩;refine bZ (S':=⟨O,35,2,[.list 1 [] 0,ae 0]⟩::⟨b3,44,12,bK s⟩::iG I (some ⟨bx,0,none⟩) L.length cap::(U++(L.eraseIdx (aW (L.map aX.t) s.table).toNat).flatMap bT)) (show(U++(⟨O,35,2,[.list 1 [] 0,ae 0]⟩::⟨b3,44,12,bK s⟩::iG I (some ⟨bx,0,none⟩) L.length cap::((L.eraseIdx (aW (L.map aX.t) s.table).toNat).flatMap bT)):List ag).Perm _ from(j9 fun nl=>by simp only[map_append,map_cons,map_nil,sum_append,sum_cons,sum_nil];omega)) ?_;refine aq 87 [4,8,9] ?_;refine az 3 ?_;refine aR 0 [_,_] sizeOf35 ?_;refine aG 1 ?_;first|refine l8 (k:=0) (cs':=[.list 1 [] 0,_]) rfl ⟨fG,dG,trivial⟩ rfl ?_|skip
  refine dY 87 [4,5] (iG I (some ⟨bx,0,none⟩) L.length cap::(U++(L.eraseIdx (aW (L.map aX.t) s.table).toNat).flatMap bT)) ?_;rw[aY];refine⟨rfl,fun h=>?_⟩;obtain⟨L',gL,aO,qM,aoE,rfl⟩:=Z h;exact LK E gw oZ wO (agV aoE) (Perm.refl _)
 have zx:¬s.kind=5:=(by simpa using gk)
 have aY:ik (L.map aX.t) s=((L.map aX.t).set (aW (L.map aX.t) s.table).toNat (nE (L[(aW (L.map aX.t) s.table).toNat]'E).t s.ah).1,(([],(nE (L[(aW (L.map aX.t) s.table).toNat]'E).t s.ah).2.1),(nE (L[(aW (L.map aX.t) s.table).toNat]'E).t s.ah).2.2)):=(by unfold ik;rw[k8,if_neg cl,if_neg h0,if_neg kf,if_neg zc,if_neg zx])
 obtain⟨n,hn,g⟩:=hg (L[(aW (L.map aX.t) s.table).toNat]'E) (getElem_mem E);obtain⟨Sg,Qj,jq⟩:=Rf (aQ (L[(aW (L.map aX.t) s.table).toNat]'E) (getElem_mem E));refine qs (Kc (A:=[_,_,_]) E) ?_;refine kS (jq _ _ [_,_,_,_] _) ?_;refine az 2 ?_
 refine fg (Sf:=(⟨bx,68,cap*5,(L.take (aW (L.map aX.t) s.table).toNat).flatMap gT++(gT (L[(aW (L.map aX.t) s.table).toNat]'E)++(L.drop ((aW (L.map aX.t) s.table).toNat+1)).flatMap gT)⟩:ag)::Sg) (R:=⟨O,35,2,[.list 1 [] 0,ae 0]⟩::⟨b3,44,12,bK s⟩::iG I (some ⟨bx,0,none⟩) L.length cap::((L.eraseIdx (aW (L.map aX.t) s.table).toNat).flatMap bT)) av rfl rfl rfl call48 (ae4 hm hw ht hG (L[(aW (L.map aX.t) s.table).toNat]'E).t g s ho gl bx (0+(aW (L.map aX.t) s.table).toNat*5) (cap*5) ((L.take (aW (L.map aX.t) s.table).toNat).flatMap gT) ((L.drop ((aW (L.map aX.t) s.table).toNat+1)).flatMap gT) M5 (L[(aW (L.map aX.t) s.table).toNat]'E).ad (L[(aW (L.map aX.t) s.table).toNat]'E).cap Sg Qj) ⟨ot,ot,trivial⟩ (show(⟨O,35,2,[.list 1 [] 0,ae 0]⟩::⟨b3,44,12,bK s⟩::iG I (some ⟨bx,0,none⟩) L.length cap::(⟨bx,68,cap*5,(L.take (aW (L.map aX.t) s.table).toNat).flatMap gT++(gT (L[(aW (L.map aX.t) s.table).toNat]'E)++(L.drop ((aW (L.map aX.t) s.table).toNat+1)).flatMap gT)⟩:ag)::(Sg++(L.eraseIdx (aW (L.map aX.t) s.table).toNat).flatMap bT):List ag).Perm (((⟨bx,68,cap*5,(L.take (aW (L.map aX.t) s.table).toNat).flatMap gT++(gT (L[(aW (L.map aX.t) s.table).toNat]'E)++(L.drop ((aW (L.map aX.t) s.table).toNat+1)).flatMap gT)⟩:ag)::Sg)++(⟨O,35,2,[.list 1 [] 0,ae 0]⟩::⟨b3,44,12,bK s⟩::iG I (some ⟨bx,0,none⟩) L.length cap::((L.eraseIdx (aW (L.map aX.t) s.table).toNat).flatMap bT))) from(j9 fun nl=>by simp only[map_append,map_cons,map_nil,sum_append,sum_cons,sum_nil];omega)) ?_
 rintro _ U ⟨rfl,Z⟩;refine bZ (S':=⟨O,35,2,[.list 1 [] 0,ae 0]⟩::⟨b3,44,12,bK s⟩::iG I (some ⟨bx,0,none⟩) L.length cap::(U++(L.eraseIdx (aW (L.map aX.t) s.table).toNat).flatMap bT)) (show(U++(⟨O,35,2,[.list 1 [] 0,ae 0]⟩::⟨b3,44,12,bK s⟩::iG I (some ⟨bx,0,none⟩) L.length cap::((L.eraseIdx (aW (L.map aX.t) s.table).toNat).flatMap bT)):List ag).Perm _ from(j9 fun nl=>by simp only[map_append,map_cons,map_nil,sum_append,sum_cons,sum_nil];omega)) ?_;refine aq 87 [4,10,11] ?_;refine az 3 ?_;refine aR 0 [_,_] sizeOf35 ?_;refine aG 1 ?_;first|refine l8 (k:=0) (cs':=[.list 1 [] 0,_]) rfl ⟨fG,dG,trivial⟩ rfl ?_|skip
 refine dY 87 [4,5] (iG I (some ⟨bx,0,none⟩) L.length cap::(U++(L.eraseIdx (aW (L.map aX.t) s.table).toNat).flatMap bT)) ?_;rw[aY];refine⟨rfl,fun h=>?_⟩;obtain⟨gL,aO,qM,N3,rfl⟩:=Z h;exact LK E gw oZ wO (VZ N3) XP
end
variable {G:List (Nat×List Value)} {m:Int}
variable {n:Nat}
def xj(t:aK)(i:Nat):Nat:=((range i).filter fun j=>decide ((t.rows.getD j []).length≠0)).length
theorem SP(t:aK)(i:Nat):xj t (i+1)=xj t i+if (t.rows.getD i []).length≠0 then 1 else 0:=by
 unfold xj;rw[range_succ,filter_append,length_append];congr 1;by_cases h:(t.rows.getD i []).length≠0
 ·rw[if_pos h,filter_cons_of_pos nS];rfl
 rw[if_neg h,filter_cons_of_neg nS];rfl
theorem WJ(t:aK)(i:Nat):xj t i<=i:=by
 unfold xj;exact Nat.le_trans (length_filter_le _ _) (by rw[length_range];exact Nat.le_refl _)
theorem KJ{t:aK}{i:Nat}(h:i<t.rows.length):t.rows.getD i []=t.rows[i]:=by rw[getD_eq_getElem?_getD,getElem?_eq_getElem h];rfl
theorem V0{t:aK}(g:eV t n):xj t t.rows.length=(eE t.ix).length:=by
 unfold xj;have hA:((eE t.ix).map fun x=>x.2.toNat).Nodup:=by
  have hr:(eE t.ix).Pairwise (fun a b=>bC a.1 b.1):=J5 g.ix.val;rw[Nodup,pairwise_map];refine hr.imp_of_mem fun {a b} ha hb h e=>?_;obtain⟨a0,a1,a2,a3⟩:=g.js a ha;obtain⟨b0,b1,b2,b3⟩:=g.js b hb;refine kr a.1 ?_;have:a.1=b.1:=(by rw[a3,b3];simp only[e])
  rw[<-this] at h;exact h
 have hB:((range t.rows.length).filter fun j=>decide ((t.rows.getD j []).length≠0)).Nodup:=List.nodup_range.filter _;have h1:=hA.length_le_of_subset (l₂:=(range t.rows.length).filter fun j=>decide ((t.rows.getD j []).length≠0)) fun i hi=>by
  obtain⟨x,hx,rfl⟩:=mem_map.1 hi;obtain⟨x0,x1,U,Z⟩:=g.js x hx;refine mem_filter.2 ⟨mem_range.2 x1,decide_eq_true ?_⟩;rw[KJ x1];exact fun h=>U (length_eq_zero_iff.1 h)
 have h2:=hB.length_le_of_subset (l₂:=(eE t.ix).map fun x=>x.2.toNat) fun i hi=>by
  obtain⟨O,gE⟩:=mem_filter.1 hi;have E:=mem_range.1 O;have I:=of_decide_eq_true gE;rw[KJ E] at I;exact mem_map.2 ⟨_,(g.row i E (fun h=>I (by rw[h];rfl))).2.2,by simp⟩
 (first|rw[length_map] at h1|(unfold an at h1;rw[length_map] at h1));(first|rw[length_map] at h2|(unfold an at h2;rw[length_map] at h2))
 omega
theorem agW(hm:(3,marksC)∈G)(hw:(1,wordsC)∈G)(ht:(0,typesC)∈G)(hG:(2,[Value.int .i64 m])∈G)(t:aK)(g:eV t n)(uW:t.nm.size<=maxLen):VP Tryz.prog G 34 [.agg (dw t)] (bP true):=by
 refine bn func34 rfl ntmps34 aP fun X0 w0 bj=>?_;have dH:=ey;have nO:=g.eU;have qe:=wi (G:=G) hm hw t.nm uW;rw[g.nm] at qe;have fE:=Pc.Gh (G:=G) hm hw ht t.au yy yx;have hco:Pc.ga t.au=0:=(by rw[g.au];exact vg)
 rw[hco] at fE;have xK:=aik (G:=G) g.ix;have Z:=VG (G:=G) g.ix;rw[F2] at Z;unfold Tw.cT at xK Z;have hca:=V0 g;unfold dw;refine bX ?_;refine cW [_,_,_,_,_] (fun b1=>?_);refine aq 76 [1] ?_;refine az 2 ?_;refine eB call61 (qe) ?_;refine aG 2 ?_;refine bU 14 (fun E alN=>?_) (fun E alN=>?_)
 ·exact absurd E (by simp at E)
 refine aG 2 ?_;refine oK iR rfl rfl rfl call56 (fE) ⟨ot,trivial⟩ ?_;refine aG 3 ?_;refine bU 20 (fun I Mw=>?_) (fun I Mw=>?_)
 ·exact absurd I (by simp at I)
 refine aG 6 ?_;refine bU 26 (fun O ME=>?_) (fun O ME=>?_)
 ·exact absurd O (by (simp at O;omega))
 refine aG 2 ?_;refine oK iR rfl rfl rfl call51 (xK) ⟨ot,trivial⟩ ?_;refine aq 76 [1,31] ?_;refine cj ?_ ?_<;>intro aM bG
 ·exact absurd aM (by simp at aM)
 refine aA [1,3] ?_;refine aA [1,3,33,34,35] ?_;refine kp ?_;refine nY (fun (i:Nat) aF=>(i<=t.rows.length)/\aF=(⟨76,[(1,da b1),(3,ae (xj t i:Nat)),(33,an 1 ij t.rows),(34,ae (t.rows.length:Nat)),(35,ae (i:Nat))],[⟨b1,68,5,dw t⟩]⟩:St)) (fun (i:Nat)=>t.rows.length-i) 0 ⟨(Nat.zero_le _),rfl⟩ (aI (h:=Zn)) ?_;rintro i _ ⟨hi,rfl⟩;refine ax [1,3,33,34,35,36] ?_ ?_<;>intro bf cD
 ·have aa:i<t.rows.length:=(by omega)
  have k8:t.rows.getD i []=(t.rows[i]'aa):=KJ aa;have lm:=WJ t i;refine aA [1,3,4,5,33,34,35] ?_;refine ax [1,3,4,5,33,34,35,42] ?_ ?_<;>intro cr cU
  ·have Ho:¬(t.rows.getD i []).length≠0:=(by rw[k8];simpa using cr)
   exact Z1
  have Ho:(t.rows.getD i []).length≠0:=(by rw[k8];simpa using cr)
  have hne:(t.rows[i]'aa)≠[]:=fun h=>Ho (by rw[k8,h];rfl);obtain⟨p1,p2,p3⟩:=g.row i aa hne;have p4:=pZ p1;have zJ:=L4 (G:=G) hm hw ht t.au yy yx (t.rows[i]'aa) w4;have hr0:Pc.dR t.au (t.rows[i]'aa)=0:=(by rw[g.au];exact p1)
  rw[hr0] at zJ;have hyv:=AB (G:=G) hG (t.rows[i]'aa) w4 w4 p2;have fF:=Md (G:=G) g.ix (cZ (t.rows[i]'aa));rw[Ug g.ix (ya p1) p3] at fF;unfold Tw.cT at fF;refine aA [1,3,4,5,33,34,35] ?_;refine cX [1,3,4,5,33,34,35,49] (zJ) ?_;refine cj ?_ ?_<;>intro de eG
  ·exact absurd de (by simp at de)
  refine cN [1,3,4,6,7,33,34,35] ?_;refine cL (hyv) ?_;refine cL (fF) ?_;refine bL ?_;refine az 3 ?_;refine bU 60 (fun U My=>?_) (fun U My=>?_)
  ·exact absurd U (by simp at U)
  refine bA [1,3,33,34,35,64] ?_;refine cj ?_ ?_<;>intro eo fS
  ·exact absurd eo (by simp at eo)
  exact Z1
 have vG:i=t.rows.length:=(by omega)
 subst vG;refine cX [3,8] (Z) ?_;refine dj [2] [] ?_;refine⟨?_,rfl⟩;first|rfl|(rw[hca];simp)
structure qB (l:List aK) (n:Nat):Prop where
 eU:l.length<=4
 tb:∀t∈l,eV t n
 sz:∀t∈l,t.nm.size<=maxLen
 I6:l.Pairwise fun a b=>a.nm.toList≠b.nm.toList
theorem qB.no{l:List aK}(g:qB l n){i:Nat}(h:i<l.length):aW (l.take i) l[i].nm<0:=by
 unfold aW;rw[xQ (k:=(l.take i).length) w4 (fun x hx=>?_)]
 ·decide
 rw[take_of_length_le (Nat.le_refl _)] at hx;obtain⟨j,hj,rfl⟩:=mem_iff_getElem.1 hx;rw[length_take] at hj;rw[getElem_take];have:=pairwise_iff_getElem.1 g.I6 j i w4 h w4;simpa using this
noncomputable def wN(l:List aK)(nm:ByteArray):List (List Vl)×Int:=if aW l nm<0 then ([],8) else ((eE (l.getD (aW l nm).toNat ⟨nm,[],[],qH⟩).ix).map fun x=>rowAt (l.getD (aW l nm).toNat ⟨nm,[],[],qH⟩) x.2,0)
theorem SH(hm:(3,marksC)∈G)(hw:(1,wordsC)∈G)(ht:(0,typesC)∈G)(hG:(2,[Value.int .i64 m])∈G)(l:List aK)(g:qB l n):VP Tryz.prog G 20 [.agg [an 5 dw (l)]] (ae 0):=by
 refine bn func20 rfl ntmps20 aP fun X0 w0 bj=>?_;have dH:=ey;have U:=g.eU;refine bX ?_;refine cW [_] (fun b1=>?_);refine aq 31 [1] ?_;refine ax [1,8] ?_ ?_<;>intro aM bG
 ·exact absurd aM (by (simp at aM;omega))
 refine aA [1,10,11,12] ?_;refine fa [1,10,11] (fun aV _ (i:Nat) aF=>(i<=l.length)/\aF=(⟨31,(12,ae (i:Nat))::aV,[⟨b1,31,1,[an 5 dw (l)]⟩]⟩:St)) (fun (i:Nat)=>l.length-i) 0 ⟨(Nat.zero_le _),rfl⟩ ?_;rintro i _ ⟨hi,rfl⟩;refine ax [1,10,11,12,13] ?_ ?_<;>intro bf cD
 ·have aa:i<l.length:=(by omega)
  have O:=agW hm hw ht hG (l[i]'aa) (g.tb _ (getElem_mem aa)) (g.sz _ (getElem_mem aa));have fF:=rA (G:=G) (l.take i) pF (l[i]'aa).nm;have j5:=g.no aa;unfold dw at O;refine az 3 ?_;refine dF (ds:=[_,_,_,_,_]) av rfl rfl zeroValue68 rfl (fun Z=>?_);refine aG 1 ?_;refine aR 0 [_,_,_,_,_] sizeOf68 ?_;refine aq 31 [1,3,4,10,11,12] ?_;refine cQ ?_;refine iD 10 (aj _) ?_ (fun _ h=>h);refine aC 0 rfl (dN (mk:=Op.load 68) rfl ot (by first|exact ry (k:=0) (ds:=[_,_,_,_,_]) rfl rfl isAgg68 sizeOf68 rfl rfl|exact kR kQ isAgg68 sizeOf68 w5|exact dO (k:=0) kQ rfl rfl rfl isAgg68 sizeOf68 w5|exact dO (k:=1) kQ rfl rfl rfl isAgg68 sizeOf68 w5|exact rE (ds:=[_,_,_,_,_]) isAgg68 sizeOf68 rfl rfl)) ?_;refine dW.later rfl ?_;refine bH (i:=1) aB ?_;refine qR call34 (O) ?_;refine dr 2 rfl lY ?_;refine dr 3 rfl bJ ?_;refine FP (t:=20) lk (fun E=>?_) (fun E=>?_)
  ·exact absurd E (by simp at E)
  have I:=E;(try simp only[V.oG,ne_eq] at I)
  refine dr 4 rfl (dU 0) ?_;refine dr 6 rfl bJ ?_;refine dr 8 rfl (dU 0) ?_;refine lK (i:=5) (j:=9) aB ?_ ?_
  ·refine at_ rfl (ec 1) ?_;refine dr 7 rfl (fb (l:=0) (h:=i) rfl ot trivial ⟨_,ot⟩ (by exact pT kQ (fun h=>by cases h) runUnderlying29 sizeOf68 w4)) ?_;refine bH (i:=9) aB ?_;refine at_ rfl (ec 0) ?_;exact z70
  refine at_ rfl (ec 0) ?_;refine bH (i:=5) aB ?_;refine at_ rfl (ec 1) ?_;refine dr 7 rfl (fb (l:=0) (h:=i) rfl ot trivial ⟨_,ot⟩ (by exact pT kQ (fun h=>by cases h) runUnderlying29 sizeOf68 w4)) ?_;exact z70
 refine aA [2] ?_;exact oD
theorem adC:(Tryz.prog.info? 40).map (fun i=>(i.zero,i.size,i.bytes))=some (some (.slice none 0 0),1,24):=by kernel_rfl
theorem aiA(hm:(3,marksC)∈G)(hw:(1,wordsC)∈G)(ht:(0,typesC)∈G)(hG:(2,[Value.int .i64 m])∈G)(l:List aK)(g:qB l n)(nm:ByteArray):VP Tryz.prog G 10 [.agg [an 5 dw (l)],bg nm] (.dB [.list 1 ((wN l nm).1.flatMap ij) (wN l nm).1.length,ae (wN l nm).2]):=by
 refine bn func10 rfl ntmps10 aP fun X0 w0 bj=>?_;have dH:=ey;have nO:=g.eU;have rP:=SH hm hw ht hG l g;have fF:=rA (G:=G) l w4 nm;have uH:=x8 (fun t:aK=>t.nm.toList==nm.toList) l;rw[show c9 (fun t:aK=>t.nm.toList==nm.toList) l=aW l nm from rfl] at uH;refine bX ?_;refine cW [_] (fun b2=>?_);refine aq 54 [1,2] ?_;refine cX [1,2,6] (rP) ?_;refine ax [1,2,6,17] ?_ ?_<;>intro aM bG
 ·exact absurd aM (by simp at aM)
 refine cX [2,7] (fF) ?_;refine ax [2,7,24] ?_ ?_<;>intro bf cD
 ·have h0:aW l nm<0:=(by simpa using bf)
  have aY:wN l nm=([],8):=if_pos h0;refine aA [4,5] ?_;refine kS (Wk.vj (t:=4) (sz:=1) lk) ?_;exact pH
 have h0:¬aW l nm<0:=(by simpa using bf)
 have E:(aW l nm).toNat<l.length:=(by omega)
 have I:=g.tb (l[(aW l nm).toNat]'E) (getElem_mem E);have k8:l.getD (aW l nm).toNat ⟨nm,[],[],qH⟩=(l[(aW l nm).toNat]'E):=(by rw[getD_eq_getElem?_getD,getElem?_eq_getElem E];rfl)
 have aY:wN l nm=((eE (l[(aW l nm).toNat]'E).ix).map fun x=>rowAt (l[(aW l nm).toNat]'E) x.2,0):=(by unfold wN;rw[if_neg h0,k8])
 have Z:=VG (G:=G) I.ix;rw[F2] at Z;unfold Tw.cT at Z;have hca:=V0 I;have lm:=WJ (l[(aW l nm).toNat]'E) (l[(aW l nm).toNat]'E).rows.length;have PY:=I.eU;refine az 3 ?_;refine bQ (ei 5 (h:=by first|exact .l (j:=(aW l nm).toNat) (Int.toNat_of_nonneg w4).symm E|exact .r (j:=(aW l nm).toNat) (Int.toNat_of_nonneg w4).symm E)) ?_;refine aG 1 ?_;refine dF (ds:=[_,_,_,_,_]) av rfl rfl zeroValue68 rfl (fun b8=>?_);refine aR 0 [_,_,_,_,_] sizeOf68 ?_;refine aq 54 [8] ?_;refine cX [8,9] (Z) ?_;refine bX ?_;refine bA [8,9,11] ?_;refine aA [8,11,36,37,38] ?_;refine fa [8,36,37] (fun aV _ (O:Nat×List (List Vl)×Option Addr×Nat×List ag) aF=>match O with|(i,acc,dP,dm,Sx)=>(i<=(eE (l[(aW l nm).toNat]'E).ix).length)/\(acc=((eE (l[(aW l nm).toNat]'E).ix).take i).map fun x=>rowAt (l[(aW l nm).toNat]'E) x.2)/\(bq 40 1 ((acc).flatMap ij) (acc).length dP dm Sx)/\aF=(⟨54,(11,aN dP (acc).length dm)::(38,ae (i:Nat))::aV,(⟨b8,68,5,dw (l[(aW l nm).toNat]'E)⟩::⟨b2,31,1,[an 5 dw (l)]⟩::Sx)⟩:St)) (fun (O:Nat×List (List Vl)×Option Addr×Nat×List ag)=>match O with|(i,acc,dP,dm,Sx)=>(eE (l[(aW l nm).toNat]'E).ix).length-i) (0,([]:List (List Vl)),none,0,[]) ⟨(Nat.zero_le _),rfl,(bq.cast jj lW),rfl⟩ ?_;rintro⟨i,acc,dP,dm,Sx⟩ _ ⟨hi,s8,ev,rfl⟩;refine ax [8,11,36,37,38,39] ?_ ?_<;>intro cr cU
 ·have aa:i<(eE (l[(aW l nm).toNat]'E).ix).length:=(by omega)
  obtain⟨jm,eZ,nZ,OP⟩:=I.js _ (getElem_mem aa);have hra:rowAt (l[(aW l nm).toNat]'E) ((eE (l[(aW l nm).toNat]'E).ix)[i]'aa).2=((l[(aW l nm).toNat]'E).rows[((eE (l[(aW l nm).toNat]'E).ix)[i]'aa).2.toNat]'eZ):=jt eZ;have h4:=pZ (I.row _ eZ nZ).1;have fE:=Sk (G:=G) ((l[(aW l nm).toNat]'E).rows[((eE (l[(aW l nm).toNat]'E).ix)[i]'aa).2.toNat]'eZ) w4;have qL:acc.length=i:=(by rw[s8,length_map,length_take];omega)
  refine az 2 ?_;refine dF (ds:=[_,_]) av rfl rfl zeroValue88 rfl (fun b13=>?_);refine aR 0 [_,_] sizeOf88 ?_;refine aq 54 [8,11,13,36,37,38] ?_;refine dV 5 ?_;refine bQ (ei 1 (h:=by first|exact .l (j:=((eE (l[(aW l nm).toNat]'E).ix)[i]'aa).2.toNat) (Int.toNat_of_nonneg jm).symm eZ|exact .r (j:=((eE (l[(aW l nm).toNat]'E).ix)[i]'aa).2.toNat) (Int.toNat_of_nonneg jm).symm eZ)) ?_;refine aG 1 ?_;refine eB call30 (fE) ?_;refine eH (cx 0 [_]) [.slice none 0 0] [_] zeroValue40 runUnderlying33 sizeOf40 (fun BL=>?_);refine gh 0 50 1 1 ?_;refine fY (ls:=(acc)) (new:=[((l[(aW l nm).toNat]'E).rows[((eE (l[(aW l nm).toNat]'E).ix)[i]'aa).2.toNat]'eZ)]) (Sq:=Sx) lq Uj av rfl rfl underlying33 adC rfl w8 ot ev (dK (A:=[_,_,_])) ot bp oA oB (fun zM U N0 N1=>?_);refine bZ (ew (S1:=[⟨zM,40,U*1,flatMap ij ((acc)++[((l[(aW l nm).toNat]'E).rows[((eE (l[(aW l nm).toNat]'E).ix)[i]'aa).2.toNat]'eZ)])⟩]) (A:=[_,_,_])) ?_;refine aq 54 [8,11,36,37,38] ?_;refine cc [8,11,36,37,38] ?_
  refine⟨((i+1),(acc++[((l[(aW l nm).toNat]'E).rows[((eE (l[(aW l nm).toNat]'E).ix)[i]'aa).2.toNat]'eZ)]),(some ⟨zM,0,none⟩),U,[⟨zM,40,U*1,flatMap ij ((acc)++[((l[(aW l nm).toNat]'E).rows[((eE (l[(aW l nm).toNat]'E).ix)[i]'aa).2.toNat]'eZ)])⟩]),_,cG,aI,w4,(by rw[s8,<-hra,<-ri aa,map_append];rfl),(bq.cast (bN N0 N1) lW),rfl⟩
 have ox:acc=(eE (l[(aW l nm).toNat]'E).ix).map fun x=>rowAt (l[(aW l nm).toNat]'E) x.2:=(by rw[s8,take_of_length_le w4])
 refine aA [4,5] ?_;refine oL (t:=4) (Sq:=Sx) lk ev (cz lq _) (dK (A:=[_,_])) ?_;refine eu [] ?_;rw[aY,<-ox];exact⟨rfl,rfl⟩
end Ba
namespace Ba
open List
open Go.Proofs.Tryz
open Go.RowKit V Pk Tr Vl Go.Proofs.YtbplamgacibdaaaGreatDoor.Nm Pc Cd Ex Tw
open Pa (cn bK iZ fZ)
variable {G:List (Nat×List Value)} {m:Int}
noncomputable def iq(l:List aK)(s:cn):List aK×((List (List Vl)×Int)×Int) :=
 if fZ s≠0 then ([],(([],0),fZ s)) else if 7<=s.kind then ([],(([],0),2)) else if (ik l s).2.2≠0 then ([],(([],0),(ik l s).2.2)) else ((ik l s).1,((ik l s).2.1,0))
noncomputable def xk(rr:List aK×((List (List Vl)×Int)×Int))(s:cn):List aK×((List (List Vl)×Int)×Int) :=
 if fZ s≠0 then ([],(([],0),fZ s)) else if 7<=s.kind then ([],(([],0),2)) else if rr.2.2≠0 then ([],(([],0),rr.2.2)) else (rr.1,(rr.2.1,0))
def BS(p:List aK×((List (List Vl)×Int)×Int)):D:=.dB [.agg [an 5 dw p.1],.agg [an 1 ij p.2.1.1,ae p.2.1.2],ae p.2.2]
theorem aiB(hm:(3,marksC)∈G)(hw:(1,wordsC)∈G)(ht:(0,typesC)∈G)(hG:(2,[Value.int .i64 m])∈G)(l:List aK){n:Nat}(g:qB l n)(s:cn)(hf:iZ s)(E:List aK×((List (List Vl)×Int)×Int))(oR:∀(L:List aX),L.map aX.t=l->(∀o∈L,q9 o)->∀(bo:Nat) (ad:Option Addr) (cap:Nat) (Sx:List ag),yS L ad cap Sx->VC Tryz.prog G 23 [da bo,.agg (bK s)] (iG bo ad L.length cap::(Sx++L.flatMap bT)) (fun r S=>r=BO E.2/\(E.2.2=0->Hi E.1 bo S)))(I2:E.2.2=0->E.1.length<=1000/\∀t∈E.1,AG t):VP Tryz.prog G 8 [.agg [an 5 dw (l)],.agg (bK s)] (BS (xk E s)):=by
 refine bn func8 rfl ntmps8 aP fun X0 w0 bj=>?_;have dH:=ey;have nO:=g.eU;have rP:=SH hm hw ht hG l g;have fE:=Pa.TG (G:=G) hm hw ht s hf;refine bX ?_;refine cW [_] (fun b2=>?_);refine cW [_,_,_,_,_,_,_,_,_,_,_,_] (fun b3=>?_);refine dF (ds:=[_]) av rfl rfl zeroValue31 rfl (fun I=>?_);refine dF (ds:=[_,_]) av rfl rfl zeroValue35 rfl (fun b5=>?_);refine aG 1 ?_;first|refine l8 (k:=0) (cs':=[.list 1 [] 0,_]) rfl ⟨fG,dG,trivial⟩ rfl ?_|skip
 first|refine l8 (k:=1) (cs':=[.list 1 [] 0,_]) rfl ⟨fG,dG,trivial⟩ rfl ?_|skip
 first|refine l8 (k:=1) (cs':=[.list 5 [] 0]) rfl ⟨fG,trivial⟩ rfl ?_|skip
 first|refine l8 (k:=2) (cs':=[.list 5 [] 0]) rfl ⟨fG,trivial⟩ rfl ?_|skip
 refine aq 46 [2,3,4,5] ?_;refine cX [2,3,4,5,7] (rP) ?_;refine ax [2,3,4,5,7,15] ?_ ?_<;>intro aM bG
 ·exact absurd aM (by simp at aM)
 refine cX [2,3,4,5,8] (fE) ?_;refine ax [2,3,4,5,8,22] ?_ ?_<;>intro bf cD
 ·have h1:fZ s≠0:=(by simpa using bf)
  have aY:xk E s=([],(([],0),fZ s)):=if_pos h1;refine az 3 ?_;refine aR 1 [_] sizeOf31 ?_;refine aR 0 [_,_] sizeOf35 ?_;exact Oz
 have h1:¬fZ s≠0:=(by simpa using bf)
 refine ax [2,3,4,5,28] ?_ ?_<;>intro cr cU
 ·have h2:7<=s.kind:=(by simpa using cr)
  have aY:xk E s=([],(([],0),2)):=(by unfold xk;rw[if_neg h1,if_pos h2])
  refine az 2 ?_;refine aR 1 [_] sizeOf31 ?_;refine aR 0 [_,_] sizeOf35 ?_;exact Oz
 have h2:¬7<=s.kind:=(by simpa using cr)
 refine az 1 ?_;refine fg av rfl rfl rfl call22 (Su l w4 (fun t h=>(g.tb t h).small)) ⟨ot,trivial⟩ (fx _) ?_;rintro _ _ ⟨L,ad,cap,Sx,rfl,fy,aQ,sc,rfl⟩;refine bZ (S':=⟨b5,35,2,[.list 1 [] 0,ae 0]⟩::⟨I,31,1,[.list 5 [] 0]⟩::⟨b3,44,12,bK s⟩::⟨b2,31,1,[an 5 dw (l)]⟩::(Sx++L.flatMap bT)) (show((Sx++L.flatMap bT)++(⟨b5,35,2,[.list 1 [] 0,ae 0]⟩::⟨I,31,1,[.list 5 [] 0]⟩::⟨b3,44,12,bK s⟩::[⟨b2,31,1,[an 5 dw (l)]⟩]):List ag).Perm _ from(j9 fun nl=>by simp only[map_append,map_cons,map_nil,sum_append,sum_cons,sum_nil];omega)) ?_;refine dF (ds:=[_]) av rfl rfl zeroValue31 rfl (fun b9=>?_);refine aR 0 [_] sizeOf31 ?_;refine aq 46 [3,4,5,9] ?_;refine az 1 ?_;have tH:L.length=l.length:=(by rw[<-sc];(first|rw[length_map]|(unfold an;rw[length_map])))
 refine fg (Sf:=iG b9 ad L.length cap::(Sx++L.flatMap bT)) (R:=⟨b5,35,2,[.list 1 [] 0,ae 0]⟩::⟨I,31,1,[.list 5 [] 0]⟩::⟨b3,44,12,bK s⟩::[⟨b2,31,1,[an 5 dw (l)]⟩]) av rfl rfl rfl call23 (oR L sc aQ b9 ad cap Sx fy) ⟨ot,ot,trivial⟩ (show(iG b9 ad L.length cap::⟨b5,35,2,[.list 1 [] 0,ae 0]⟩::⟨I,31,1,[.list 5 [] 0]⟩::⟨b3,44,12,bK s⟩::⟨b2,31,1,[an 5 dw (l)]⟩::(Sx++L.flatMap bT):List ag).Perm ((iG b9 ad L.length cap::(Sx++L.flatMap bT))++(⟨b5,35,2,[.list 1 [] 0,ae 0]⟩::⟨I,31,1,[.list 5 [] 0]⟩::⟨b3,44,12,bK s⟩::[⟨b2,31,1,[an 5 dw (l)]⟩])) from(j9 fun nl=>by simp only[map_append,map_cons,map_nil,sum_append,sum_cons,sum_nil];omega)) ?_;rintro _ S9 ⟨rfl,h9⟩;refine bZ (S':=⟨b5,35,2,[.list 1 [] 0,ae 0]⟩::⟨I,31,1,[.list 5 [] 0]⟩::⟨b3,44,12,bK s⟩::⟨b2,31,1,[an 5 dw (l)]⟩::S9) (show(S9++(⟨b5,35,2,[.list 1 [] 0,ae 0]⟩::⟨I,31,1,[.list 5 [] 0]⟩::⟨b3,44,12,bK s⟩::[⟨b2,31,1,[an 5 dw (l)]⟩]):List ag).Perm _ from(j9 fun nl=>by simp only[map_append,map_cons,map_nil,sum_append,sum_cons,sum_nil];omega)) ?_;unfold BO;refine aG 3 ?_;refine dF (ds:=[_,_]) av rfl rfl zeroValue35 rfl (fun kY=>?_);refine aR 0 [_,_] sizeOf35 ?_;refine aq 46 [4,5,9,10,11] ?_;refine ax [4,5,9,10,11,39] ?_ ?_<;>intro de eG
 ·have h3:E.2.2≠0:=(by simpa using de)
  have aY:xk E s=([],(([],0),E.2.2)):=(by unfold xk;rw[if_neg h1,if_neg h2,if_pos h3])
  refine az 3 ?_;refine aR 2 [_] sizeOf31 ?_;refine aR 1 [_,_] sizeOf35 ?_;exact Oz
 have h3:¬E.2.2≠0:=(by simpa using de)
 have aY:xk E s=(E.1,(E.2.1,0)):=(by unfold xk;rw[if_neg h1,if_neg h2,if_neg h3])
 obtain⟨L',gL,aO,O,U,Z,aoF,hS⟩:=h9 (Classical.not_not.1 h3);obtain⟨BH,pJ⟩:=I2 (Classical.not_not.1 h3);have y8:=aeZ (G:=G) E.1 BH pJ;refine qs (S':=⟨kY,35,2,[an 1 ij E.2.1.1,ae E.2.1.2]⟩::⟨b5,35,2,[.list 1 [] 0,ae 0]⟩::⟨I,31,1,[.list 5 [] 0]⟩::⟨b3,44,12,bK s⟩::⟨b2,31,1,[an 5 dw (l)]⟩::(iG b9 gL L'.length aO::(O++L'.flatMap bT))) (show((⟨kY,35,2,[an 1 ij E.2.1.1,ae E.2.1.2]⟩::⟨b5,35,2,[.list 1 [] 0,ae 0]⟩::⟨I,31,1,[.list 5 [] 0]⟩::⟨b3,44,12,bK s⟩::[⟨b2,31,1,[an 5 dw (l)]⟩])++S9:List ag).Perm ((⟨kY,35,2,[an 1 ij E.2.1.1,ae E.2.1.2]⟩::⟨b5,35,2,[.list 1 [] 0,ae 0]⟩::⟨I,31,1,[.list 5 [] 0]⟩::⟨b3,44,12,bK s⟩::[⟨b2,31,1,[an 5 dw (l)]⟩])++(iG b9 gL L'.length aO::(O++L'.flatMap bT))) from Perm.append_left ((⟨kY,35,2,[an 1 ij E.2.1.1,ae E.2.1.2]⟩::⟨b5,35,2,[.list 1 [] 0,ae 0]⟩::⟨I,31,1,[.list 5 [] 0]⟩::⟨b3,44,12,bK s⟩::[⟨b2,31,1,[an 5 dw (l)]⟩]):List ag) hS) ?_
 refine kS (Wk.cover (A:=iG b9 gL L'.length aO) (R:=⟨kY,35,2,[an 1 ij E.2.1.1,ae E.2.1.2]⟩::⟨b5,35,2,[.list 1 [] 0,ae 0]⟩::⟨I,31,1,[.list 5 [] 0]⟩::⟨b3,44,12,bK s⟩::[⟨b2,31,1,[an 5 dw (l)]⟩]) (Sd:=O++L'.flatMap bT) (cs':=[an 5 dw (E.1)]) (show(⟨kY,35,2,[an 1 ij E.2.1.1,ae E.2.1.2]⟩::⟨b5,35,2,[.list 1 [] 0,ae 0]⟩::⟨I,31,1,[.list 5 [] 0]⟩::⟨b3,44,12,bK s⟩::⟨b2,31,1,[an 5 dw (l)]⟩::(iG b9 gL L'.length aO::(O++L'.flatMap bT)):List ag).Perm _ from(j9 fun nl=>by simp only[map_append,map_cons,map_nil,sum_append,sum_cons,sum_nil];omega)) ⟨by rw[<-aoF];(first|rw[length_map]|(unfold an;rw[length_map]));exact LO U Z (fun B h=>h),trivial⟩) ?_;refine en ?_;refine cQ ?_;refine iD 4 (aj (eraseIdx _ 3)) ?_ (fun _ h=>(Sublist.map _ (eraseIdx_sublist _ 3)).subset h)
 refine aC 0 rfl (dN (mk:=Op.load 31) rfl ot (by first|exact ry (k:=0) (ds:=[_]) rfl rfl isAgg31 sizeOf31 rfl rfl|exact kR kQ isAgg31 sizeOf31 w5|exact kR lq isAgg31 sizeOf31 w5|exact dO (k:=0) kQ rfl rfl rfl isAgg31 sizeOf31 w5|exact dO (k:=1) kQ rfl rfl rfl isAgg31 sizeOf31 w5|exact dO (k:=2) kQ rfl rfl rfl isAgg31 sizeOf31 w5|exact dO (k:=3) kQ rfl rfl rfl isAgg31 sizeOf31 w5|exact dO (k:=4) kQ rfl rfl rfl isAgg31 sizeOf31 w5|exact dO (k:=5) kQ rfl rfl rfl isAgg31 sizeOf31 w5|exact dO (k:=0) lq rfl rfl rfl isAgg31 sizeOf31 w5|exact dO (k:=1) lq rfl rfl rfl isAgg31 sizeOf31 w5|exact dO (k:=2) lq rfl rfl rfl isAgg31 sizeOf31 w5|exact dO (k:=3) lq rfl rfl rfl isAgg31 sizeOf31 w5|exact dO (k:=4) lq rfl rfl rfl isAgg31 sizeOf31 w5|exact dO (k:=5) lq rfl rfl rfl isAgg31 sizeOf31 w5|exact rE (ds:=[_]) isAgg31 sizeOf31 rfl rfl)) ?_
 refine aC 2 rfl (dN (mk:=Op.load 35) rfl ot (by first|exact ry (k:=1) (ds:=[_,_]) rfl rfl isAgg35 sizeOf35 rfl rfl|exact kR kQ isAgg35 sizeOf35 w5|exact kR lq isAgg35 sizeOf35 w5|exact dO (k:=0) kQ rfl rfl rfl isAgg35 sizeOf35 w5|exact dO (k:=1) kQ rfl rfl rfl isAgg35 sizeOf35 w5|exact dO (k:=2) kQ rfl rfl rfl isAgg35 sizeOf35 w5|exact dO (k:=3) kQ rfl rfl rfl isAgg35 sizeOf35 w5|exact dO (k:=4) kQ rfl rfl rfl isAgg35 sizeOf35 w5|exact dO (k:=5) kQ rfl rfl rfl isAgg35 sizeOf35 w5|exact dO (k:=0) lq rfl rfl rfl isAgg35 sizeOf35 w5|exact dO (k:=1) lq rfl rfl rfl isAgg35 sizeOf35 w5|exact dO (k:=2) lq rfl rfl rfl isAgg35 sizeOf35 w5|exact dO (k:=3) lq rfl rfl rfl isAgg35 sizeOf35 w5|exact dO (k:=4) lq rfl rfl rfl isAgg35 sizeOf35 w5|exact dO (k:=5) lq rfl rfl rfl isAgg35 sizeOf35 w5|exact rE (ds:=[_,_]) isAgg35 sizeOf35 rfl rfl)) ?_;refine dW.later rfl ?_;refine bH (i:=1) aB ?_;refine qR call22 (y8) ?_;refine bH (i:=3) aB ?_;refine ek 3 [_] sizeOf31 ?_;refine fD ?_;refine aR 2 [_,_] sizeOf35 ?_;refine aG 1 ?_;first|refine l8 (k:=0) (cs':=[.list 1 [] 0,_]) rfl ⟨fG,dG,trivial⟩ rfl ?_|skip
 first|refine l8 (k:=1) (cs':=[.list 1 [] 0,_]) rfl ⟨fG,dG,trivial⟩ rfl ?_|skip
 first|refine l8 (k:=1) (cs':=[.list 5 [] 0]) rfl ⟨fG,trivial⟩ rfl ?_|skip
 first|refine l8 (k:=2) (cs':=[.list 5 [] 0]) rfl ⟨fG,trivial⟩ rfl ?_|skip
 refine aq 46 [4,5,6] ?_;exact vH
theorem akd(hm:(3,marksC)∈G)(hw:(1,wordsC)∈G)(ht:(0,typesC)∈G)(hG:(2,[Value.int .i64 m])∈G)(l:List aK){n:Nat}(hn:n<=260)(g:qB l n)(s:cn)(hf:iZ s)(eR:¬s.kind=2)(I:∀v∈s.row,v.Ok)(ho:∀o∈s.ah,o.nm.size<=maxLen)(gl:∀o∈s.ah,o.v.Ok)(n8:∀o∈s.bM,o.nm.size<=maxLen)(O:∀o∈s.bM,o.v.Ok)(U:(ik l s).2.2=0->(ik l s).1.length<=1000/\∀t∈(ik l s).1,AG t):VP Tryz.prog G 8 [.agg [an 5 dw (l)],.agg (bK s)] (BS (iq l s)) :=
 aiB hm hw ht hG l g s hf (ik l s) (fun L Z aQ bo ad cap Sx fy=>by
  subst Z;have E:=g.eU
  (first|rw[length_map] at E|(unfold an at E;rw[length_map] at E))
  exact akc hm hw ht hG L aQ w4 (fun o ho=>⟨n,hn,g.tb _ (mem_map_of_mem ho)⟩) s eR (by have:=hf.ok.1;omega) (by have:=hf.ok.2.1;omega) I (by have:=hf.ok.2.2.1;omega) ho gl n8 O bo ad cap Sx fy) U
end Ba
namespace Ba
open List
open Go.Proofs.Tryz
open Go.RowKit V Pk Tr Vl Go.Proofs.YtbplamgacibdaaaGreatDoor.Nm Pc Cd Ex Tw
open Pa (cn bK)
variable {t:aK} {n:Nat} {i:Int}
theorem eV.mono{t:aK}{a b:Nat}(g:eV t a)(h:a<=b):eV t b:=⟨g.nm,g.au,g.eU,g.ix.mono h,g.row,g.js⟩
structure oQ (t:aK) (n:Nat) (D:List Int):Prop where
 nm:cR t.nm=0
 au:t.au=aL
 eU:t.rows.length<=40
 ix:iN t.ix n
 row:∀i (h:i<t.rows.length),t.rows[i]≠[]->Pc.dR aL t.rows[i]=0/\(∀v∈t.rows[i],v.Ok)/\((i:Int)∉D->(cZ t.rows[i],(i:Int))∈eE t.ix)
 js:∀x∈eE t.ix,0<=x.2/\x.2∉D/\∃h:x.2.toNat<t.rows.length,t.rows[x.2.toNat]≠[]/\x.1=cZ t.rows[x.2.toNat]
theorem eV.d(g:eV t n):oQ t n []:=⟨g.nm,g.au,g.eU,g.ix,fun i h hn=>⟨(g.row i h hn).1,(g.row i h hn).2.1,fun _=>(g.row i h hn).2.2⟩,fun x hx=>⟨(g.js x hx).1,not_mem_nil,(g.js x hx).2⟩⟩
theorem oQ.tb(g:oQ t n []):eV t n:=⟨g.nm,g.au,g.eU,g.ix,fun i h hn=>⟨(g.row i h hn).1,(g.row i h hn).2.1,(g.row i h hn).2.2 not_mem_nil⟩,fun x hx=>⟨(g.js x hx).1,(g.js x hx).2.2⟩⟩
theorem ae9(g:eV t n)(hn:n<=300){row:List Vl}(aQ:∀v∈row,v.Ok)(h:(gX t row).2=0):eV (gX t row).1 (n+1)/\(gX t row).1.rows.length=t.rows.length+1:=by
 unfold gX at h |-;by_cases h1:Pc.dR t.au row=0
 ·rw[if_neg (fun e=>e h1)] at h |-;cases h2:iX t.ix (cZ row) (dD t.ix) with
  | true=>rw[h2,if_pos rfl] at h;cases h
  | false =>
   rw[h2,if_neg w8] at h;rw[if_neg w8];by_cases h3:t.rows.length=40
   ·rw[if_pos h3] at h;cases h
   rw[if_neg h3];have h4:Pc.dR aL row=0:=(by rw[<-g.au];exact h1)
   obtain⟨g1,g2,g3⟩:=F0 g.ix hn ((F1 g.ix).1 h2) (ya h4) (Int.natCast_nonneg t.rows.length);have E:=g.eU;refine⟨⟨g.nm,g.au,by show(t.rows++[row]).length<=40;rw[length_append,length_singleton];omega,g1,fun i hi hne=>?_,fun x hx=>?_⟩,by show(t.rows++[row]).length=_;rw[length_append,length_singleton]⟩
   ·simp only at hi hne |-;rw[length_append,length_singleton] at hi;by_cases hl:i<t.rows.length
    ·have e:(t.rows++[row])[i]'yX=t.rows[i]:=getElem_append_left hl;rw[e] at hne |-;obtain⟨p1,p2,p3⟩:=g.row i hl hne;exact⟨p1,p2,(g3 _).2 (.inr p3)⟩
    have gE:i=t.rows.length:=(by omega)
    subst gE;have e:(t.rows++[row])[t.rows.length]'yX=row:=(by rw[getElem_append_right (Nat.le_refl _)];simp)
    rw[e] at hne |-;exact⟨h4,aQ,(g3 _).2 (.inl rfl)⟩
   rcases(g3 x).1 hx with rfl|hx
   ·refine⟨Int.natCast_nonneg _,by show t.rows.length<(t.rows++[row]).length;rw[length_append,length_singleton];omega,?_⟩;have e:(t.rows++[row])[t.rows.length]'yX=row:=(by rw[getElem_append_right (Nat.le_refl _)];simp)
    show(t.rows++[row])[t.rows.length]'_≠[]/\cZ row=cZ ((t.rows++[row])[t.rows.length]'_);rw[e];exact⟨fun e=>(by have:=pZ h4;rw[e] at this;cases this),rfl⟩
   obtain⟨x0,x1,I,O⟩:=g.js x hx;have e:(t.rows++[row])[x.2.toNat]'yX=t.rows[x.2.toNat]:=getElem_append_left x1;refine⟨x0,by show _<(t.rows++[row]).length;rw[length_append,length_singleton];omega,?_⟩;show(t.rows++[row])[x.2.toNat]'_≠[]/\x.1=cZ ((t.rows++[row])[x.2.toNat]'_);rw[e];exact⟨I,O⟩
 rw[if_pos h1] at h;exact absurd h h1
theorem SI{n:Nat}:∀{l:List Int} {t:aK},eV t n->l.Nodup->(∀i∈l,gP t i)->eV (td t l) n/\(td t l).rows.length=t.rows.length
 | [],_,g,_,_=>⟨g,rfl⟩
 | i::r,t,g,hn,hi=>by
  rw[nodup_cons] at hn;have h1:=SI (SE g (hi i mem_cons_self)) hn.2 fun j hj=>VU (hi j (mem_cons_of_mem _ hj)) (fun e=>hn.1 (e ▸ hj)) (hi i mem_cons_self).1;refine⟨h1.1,h1.2.trans ?_⟩;show(t.rows.set _ _).length=_;rw[length_set]
theorem ab9(g:eV t n)(w:List aH):eV (nE t w).1 n/\(nE t w).1.rows.length=t.rows.length:=by
 unfold nE;split
 ·exact⟨g,rfl⟩
 exact SI g (FF g w) (ud g w)
theorem V1{r:List Vl}{c:Nat}(hc:c≠0)(v:Vl):cZ (r.set c v)=cZ r:=by
 unfold cZ;cases r with
 | nil=>rfl
 | cons a r=>cases c with
  | zero=>exact absurd rfl hc
  | succ c=>rfl
theorem Xq{D:List Int}(g:oQ t n D)(hi:gP t i){c:Nat}(hc:c<aL.length){v:Vl}(hv:jL (aL[c]'hc).k v)(gl:v.Ok)(h0:c=0->v.k≠0/\i∈D):oQ (tg t i c v) n D/\(∀j,gP t j->gP (tg t i c v) j):=by
 obtain⟨q0,q1,q2⟩:=hi;obtain⟨p1,p2,p3⟩:=g.row _ q1 q2;have U:=jt (t:=t) q1;have Z:Pc.dR aL ((rowAt t i).set c v)=0:=(by rw[U];exact VW p1 hc hv fun h=>(h0 h).1)
 have kG:(rowAt t i).set c v≠[]:=fun e=>by have:=pZ Z;rw[e] at this;cases this
 have hlen:(tg t i c v).rows.length=t.rows.length:=length_set;have I:∀j (h:j<t.rows.length),(tg t i c v).rows[j]'(by rw[hlen];exact h)=if i.toNat=j then (rowAt t i).set c v else t.rows[j]:=fun j h=>getElem_set ..
 refine⟨⟨g.nm,g.au,by rw[hlen];exact g.eU,g.ix,fun j hj hne=>?_,fun x hx=>?_⟩,fun j ⟨j0,j1,j2⟩=>⟨j0,by rw[hlen];exact j1,?_⟩⟩
 ·rw[hlen] at hj;rw[I j hj] at hne |-;by_cases E:i.toNat=j
  ·rw[if_pos E];refine⟨Z,fun w hw=>?_,fun hd=>?_⟩
   ·rcases mem_or_eq_of_mem_set hw with hw|hw
    ·rw[U] at hw;exact p2 w hw
    rw[hw];exact gl
   have pK:(j:Int)=i:=(by omega)
   by_cases O:c=0
   ·exact absurd (pK ▸ (h0 O).2) hd
   rw[V1 O,U];subst E;exact p3 hd
  rw[if_neg E] at hne |-;exact g.row j hj hne
 ·obtain⟨x0,xd,x1,x2,x3⟩:=g.js x hx;refine⟨x0,xd,by rw[hlen];exact x1,?_⟩;rw[I _ x1];by_cases E:i.toNat=x.2.toNat
  ·rw[if_pos E];refine⟨kG,?_⟩;have pK:x.2=i:=(by omega)
   by_cases O:c=0
   ·exact absurd (pK ▸ (h0 O).2) xd
   rw[V1 O,U,x3];simp only[E]
  rw[if_neg E];exact⟨x2,x3⟩
 rw[I _ j1];split
 ·exact kG
 exact j2
theorem alO{x:aE}{D:List Int}(g:oQ {t with ix:=x} n D)(hi:gP t i)(hd:i∉D):oQ {t with ix:=ig x (dD x) (cZ (rowAt t i))} n (i::D):=by
 obtain⟨q0,q1,q2⟩:=hi;obtain⟨p1,p2,p3⟩:=g.row _ q1 q2;have E:=jt (t:=t) q1;have I:(cZ (rowAt t i),i)∈eE x:=by
  have:=p3 (by rw[Int.toNat_of_nonneg q0];exact hd);rw[Int.toNat_of_nonneg q0] at this;rw[E];exact this
 obtain⟨d1,d2⟩:=KE g.ix ((Cb g.ix.val _).2 ⟨i,I⟩);refine⟨g.nm,g.au,g.eU,d1,fun j hj hne=>?_,fun y hy=>?_⟩
 ·obtain⟨r1,r2,U⟩:=g.row j hj hne;refine⟨r1,r2,fun hd2=>?_⟩;have O:(j:Int)≠i:=fun e=>hd2 (e ▸ mem_cons_self);refine(d2 _).2 ⟨U fun e=>hd2 (mem_cons_of_mem _ e),fun e=>O ?_⟩;have:=LG g.ix (U fun e=>hd2 (mem_cons_of_mem _ e)) I e;simp only[Prod.mk.injEq] at this;exact this.2
 obtain⟨y1,y2⟩:=(d2 y).1 hy;obtain⟨z0,zd,z1,z2,z3⟩:=g.js y y1;refine⟨z0,fun hm=>?_,z1,z2,z3⟩;rcases mem_cons.1 hm with e|hm
 ·refine y2 ?_;rw[z3,E];simp only[e]
 exact zd hm
theorem V2{t:aK}{n:Nat}:∀(l:List Int) (x:aE) (D:List Int),oQ {t with ix:=x} n D->l.Nodup->(∀i∈l,gP t i/\i∉D)->∃D',oQ {t with ix:=pB t x l} n D'/\∀i,i∈D'↔i∈l\/i∈D
 | [],x,D,g,_,_=>⟨D,g,fun i=>by simp⟩
 | i::r,x,D,g,hn,hi=>by
  rw[nodup_cons] at hn;obtain⟨D',h1,h2⟩:=V2 r _ (i::D) (alO g (hi i mem_cons_self).1 (hi i mem_cons_self).2) hn.2 fun j hj=>⟨(hi j (mem_cons_of_mem _ hj)).1,fun e=>by
   rcases mem_cons.1 e with e|e
   ·exact hn.1 (e ▸ hj)
   exact(hi j (mem_cons_of_mem _ hj)).2 e⟩
  refine⟨D',h1,fun j=>(h2 j).trans ?_⟩;simp only[mem_cons];constructor
  ·rintro(h|h|h)
   ·exact .inl (.inr h)
   ·exact .inl (.inl h)
   exact .inr h
  rintro((h|h)|h)
  ·exact .inr (.inl h)
  ·exact .inl h
  exact .inr (.inr h)
theorem oQ.aoG{D D':List Int}(g:oQ t n D)(h:∀i,i∈D↔i∈D'):oQ t n D':=⟨g.nm,g.au,g.eU,g.ix,fun i hi hne=>⟨(g.row i hi hne).1,(g.row i hi hne).2.1,fun hd=>(g.row i hi hne).2.2 fun e=>hd ((h _).1 e)⟩,fun x hx=>⟨(g.js x hx).1,fun e=>(g.js x hx).2.1 ((h _).2 e),(g.js x hx).2.2⟩⟩
theorem aoH{D:List Int}(g:oQ t n D)(hn:n<=300)(hi:gP t i)(hd:i∈D)(j5:iX t.ix (cZ (rowAt t i)) (dD t.ix)=false):oQ {t with ix:=ie t.ix (dD t.ix) (cZ (rowAt t i)) i} (n+1) (D.filter (·≠i)):=by
 obtain⟨q0,q1,q2⟩:=hi;obtain⟨p1,p2,p3⟩:=g.row _ q1 q2;have E:=jt (t:=t) q1;obtain⟨g1,_,g3⟩:=F0 g.ix hn ((F1 g.ix).1 j5) (by rw[E];exact ya p1) q0;have hf:∀j,j∈D.filter (·≠i)↔j∈D/\j≠i:=fun j=>by rw[mem_filter];simp
 refine⟨g.nm,g.au,g.eU,g1,fun j hj hne=>?_,fun y hy=>?_⟩
 ·obtain⟨r1,r2,O⟩:=g.row j hj hne;refine⟨r1,r2,fun hd2=>(g3 _).2 ?_⟩;by_cases e:(j:Int)=i
  ·left;have I:i.toNat=j:=(by omega)
   subst I;rw[E,Int.toNat_of_nonneg q0]
  right;exact O fun hm=>hd2 ((hf _).2 ⟨hm,e⟩)
 rcases(g3 y).1 hy with rfl|hy
 ·exact⟨q0,fun hm=>((hf _).1 hm).2 rfl,q1,q2,by rw[E]⟩
 obtain⟨z0,zd,z1,z2,z3⟩:=g.js y hy;exact⟨z0,fun hm=>zd ((hf _).1 hm).1,z1,z2,z3⟩
theorem WK:∀(l:List Int) (vs:List Vl) (t:aK) (n:Nat) (D:List Int),oQ t n D->n+l.length<=300->l.Nodup->vs.length=l.length->(∀i∈l,gP t i/\i∈D)->(∀v∈vs,v.Ok/\jL (aL[0]'w8).k v/\v.k≠0)->(lB t l vs).2=0 ->
  ∃D',oQ (lB t l vs).1 (n+l.length) D'/\(lB t l vs).1.rows.length=t.rows.length/\∀i,i∈D'↔i∈D/\i∉l
 | [],[],t,n,D,g,_,_,_,_,_,_=>⟨D,g,rfl,fun i=>by simp⟩
 | [],_::_,_,_,_,_,_,_,h,_,_,_=>by cases h
 | _::_,[],_,_,_,_,_,_,h,_,_,_=>by cases h
 | i::r,v::s,t,n,D,g,hn,hnd,hl,hi,hv,h=>by
  rw[nodup_cons] at hnd;rw[length_cons] at hn hl;rw[length_cons] at hl;obtain⟨E,hid⟩:=hi i mem_cons_self;obtain⟨v1,v2,v3⟩:=hv v mem_cons_self;obtain⟨g1,lX⟩:=Xq g E (c:=0) w8 v2 v1 fun _=>⟨v3,hid⟩
  rw[lB] at h |-;cases jz:iX t.ix (cZ (rowAt (tg t i 0 v) i)) (dD t.ix) with
  | true=>rw[jz,if_pos rfl] at h;cases h
  | false =>
   rw[jz,if_neg w8] at h;rw[if_neg w8];have g2:=aoH g1 w4 (lX i E) hid jz;obtain⟨D',h1,h2,h3⟩:=WK r s _ (n+1) _ g2 w4 hnd.2 w4 (fun j hj=>⟨lX j (hi j (mem_cons_of_mem _ hj)).1,by rw[mem_filter];exact⟨(hi j (mem_cons_of_mem _ hj)).2,by simp;exact fun e=>hnd.1 (e ▸ hj)⟩⟩) (fun w hw=>hv w (mem_cons_of_mem _ hw)) h;refine⟨D',by rw[length_cons,show n+(r.length+1)=n+1+r.length by omega];exact h1,h2.trans (by show(t.rows.set _ _).length=_;rw[length_set]),fun j=>(h3 j).trans ?_⟩;rw[mem_filter,mem_cons];simp only[decide_eq_true_eq,ne_eq,not_or,and_assoc]
theorem V3{n:Nat}{c:Nat}(hc:c<aL.length)(aM:c≠0):∀(l:List Int) (vs:List Vl) (t:aK),eV t n->(∀i∈l,gP t i)->(∀v∈vs,v.Ok/\jL (aL[c]'hc).k v)->eV (nQ c t l vs) n/\(nQ c t l vs).rows.length=t.rows.length
 | [],_,t,g,_,_=>by unfold nQ;exact⟨g,rfl⟩
 | _::_,[],t,g,_,_=>by unfold nQ;exact⟨g,rfl⟩
 | i::r,v::s,t,g,hi,hv=>by
  rw[nQ];obtain⟨v1,v2⟩:=hv v mem_cons_self;obtain⟨g1,lX⟩:=Xq g.d (hi i mem_cons_self) hc v2 v1 fun e=>absurd e aM;have h1:=V3 hc aM r s _ g1.tb (fun j hj=>lX j (hi j (mem_cons_of_mem _ hj))) fun w hw=>hv w (mem_cons_of_mem _ hw);exact⟨h1.1,h1.2.trans (by show(t.rows.set _ _).length=_;rw[length_set])⟩
theorem aiC{k:Int}{c:Int}{v:Vl}(h:jL k v)(hk:¬(k≠c/\k≠0)):jL c v:=by
 refine⟨h.1,?_⟩;have:=h.2;omega
theorem afa(g:eV t n)(s:cn)(j5:∀o∈s.bM,o.nm.size<=maxLen)(gl:∀o∈s.bM,o.v.Ok)(hn:n<=260):eV (iH t s).1 (n+t.rows.length)/\(iH t s).1.rows.length=t.rows.length:=by
 have hz:eV t (n+t.rows.length)/\t.rows.length=t.rows.length:=⟨g.mono w4,rfl⟩
 unfold iH;by_cases hA:bE t.au s.set<0
 ·rw[if_pos hA];exact hz
 rw[if_neg hA];by_cases hB:(cu t.au s.bM).2≠0
 ·rw[if_pos hB];exact hz
 rw[if_neg hB];by_cases hC:(cu t.au s.bM).1≠(t.au.getD (bE t.au s.set).toNat ⟨⟨#[]⟩,0⟩).k/\(cu t.au s.bM).1≠0
 ·rw[if_pos hC];exact hz
 rw[if_neg hC];by_cases hD:(ap t s.ah).2≠0
 ·rw[if_pos hD];exact hz
 rw[if_neg hD];by_cases hN:(jv t (bE t.au s.set) s.bM [] (ap t s.ah).1).2≠0
 ·rw[if_pos hN];exact hz
 rw[if_neg hN];have U:=Classical.not_not.1 hN;have hkz:(cu aL s.bM).2=0:=(by rw[<-g.au];exact Classical.not_not.1 hB)
 have E:=KI g j5 gl hkz (ap t s.ah).1 [] (ud g s.ah) U (fun v hv=>by cases hv);have hlen:=Ut (t:=t) (c:=bE t.au s.set) (e:=s.bM) (ap t s.ah).1 [] U;have hcb:=(Mh (l:=t.au) (nm:=s.set)).2;have hcc:t.au.length=aL.length:=(by rw[g.au])
 have O:(bE t.au s.set).toNat<aL.length:=(by omega)
 have Z:∀v,jL (cu aL s.bM).1 v->jL (aL[(bE t.au s.set).toNat]'O).k v:=fun v hv=>by
  refine aiC hv ?_;rw[g.au] at hC;have e:aL.getD (bE aL s.set).toNat ⟨⟨#[]⟩,0⟩=aL[(bE t.au s.set).toNat]'O:=by
   rw[getD_eq_getElem?_getD];rw[show(bE aL s.set).toNat=(bE t.au s.set).toNat by rw[g.au]];rw[getElem?_eq_getElem O];rfl
  rw[e] at hC;exact hC
 by_cases hP:0<bE t.au s.set
 ·rw[if_pos hP];have h1:=V3 (c:=(bE t.au s.set).toNat) O w4 (ap t s.ah).1 (jv t (bE t.au s.set) s.bM [] (ap t s.ah).1).1 t g (ud g s.ah) fun v hv=>⟨(E v hv).1,Z v (E v hv).2.1⟩
  exact⟨h1.1.mono w4,h1.2⟩
 rw[if_neg hP];have zL:bE t.au s.set=0:=(by omega)
 by_cases hM:(lB {t with ix:=pB t t.ix (ap t s.ah).1} (ap t s.ah).1 (jv t (bE t.au s.set) s.bM [] (ap t s.ah).1).1).2≠0
 ·rw[if_pos hM];exact hz
 rw[if_neg hM];have hnd:=FF g s.ah;have I:=ud g s.ah;have nO:=Gt g s.ah;obtain⟨D,d1,d2⟩:=V2 (ap t s.ah).1 t.ix [] g.d hnd fun i hi=>⟨I i hi,not_mem_nil⟩
 obtain⟨D',e1,e2,e3⟩:=WK (ap t s.ah).1 (jv t (bE t.au s.set) s.bM [] (ap t s.ah).1).1 _ n D d1 w4 hnd (by rw[hlen];simp) (fun i hi=>⟨I i hi,(d2 i).2 (.inl hi)⟩) (fun v hv=>⟨(E v hv).1,by have:=Z v (E v hv).2.1;simp only[zL] at this;exact this,(E v hv).2.2 zL⟩) (Classical.not_not.1 hM);have hD':eV _ _:=(e1.aoG (D':=[]) fun i=>by rw[e3,d2];simp).tb;have hle:(ap t s.ah).1.length<=t.rows.length:=by
  have h1:((ap t s.ah).1.map Int.toNat).Nodup:=by
   rw[Nodup,pairwise_map];refine(Pairwise.and_mem.1 hnd).imp fun {a b} h e=>h.2.2 ?_;have:=(I a h.1).1;have:=(I b h.2.1).1;omega
  have h2:=h1.length_le_of_subset (l₂:=range t.rows.length) fun x hx=>by
   obtain⟨y,hy,rfl⟩:=mem_map.1 hx;exact mem_range.2 (I y hy).2.1
  rwa [length_map,length_range] at h2
 exact⟨hD'.mono w4,e2⟩
end Ba
namespace Pa
open List
open Go.Proofs.Tryz
open Go.RowKit V Pk Vl Go.Proofs.YtbplamgacibdaaaGreatDoor.Nm Pc
variable {t o:ByteArray}
theorem aiD{s:ByteArray}(h:cR s=0):pu s=true/\s.size<=8:=by
 unfold cR at h;split at h
 ·cases h
 split at h
 ·cases h
 rename_i h1 h2;rw[Bool.or_eq_true,Bool.not_eq_true'] at h2;refine⟨?_,by omega⟩;cases hw:pu s with
 | true=>rfl
 | false=>exact absurd (.inl hw) h2
variable {G:List (Nat×List Value)}
def tZ:List Vl->ByteArray
 | []=>⟨#[120]⟩
 | v::_=>v.s
def gU(s:cn):Prop:=iZ s/\1<=s.kind/\s.kind<=6/\s.iz<=9223372036854775807/\fL s=0
structure uX (w:List aH):Prop where
 l:w.length<=40
 f:om w=0
 b:∀o∈w,o.nm.size<=maxLen/\-9223372036854775808<=o.v.n/\o.v.n<=9223372036854775807
theorem aiE:uX []:=⟨Nat.zero_le _,rfl,fun _ h=>by cases h⟩
theorem afb(t:Tw):∀o∈gH 3 t,-20<=o.v.n/\o.v.n<=40:=by
 have hz:∀j nm,-20<=(⟨j,aU,nm⟩:aH).v.n/\(⟨j,aU,nm⟩:aH).v.n<=40:=fun _ _=>⟨by show(-20:Int)<=0;decide,by show(0:Int)<=40;decide⟩
 have O:∀n s,-20<=(sK n s).v.n/\(sK n s).v.n<=40:=fun n s=>by
  show -20<=(px ⟨n,cH n 40-20,s⟩).n/\(px ⟨n,cH n 40-20,s⟩).n<=40;have U:=j7 n (show(1:Int)<=40 by decide);have h2:=j7 (cH n 40-20) (show(1:Int)<=2 by decide);unfold px;split
  ·dsimp only;omega
  split
  ·dsimp only;omega
  split
  ·dsimp only;omega
  exact⟨by show(-20:Int)<=0;decide,by show(0:Int)<=40;decide⟩
 have E:∀k n s,∀o∈mz k n s,-20<=o.v.n/\o.v.n<=40:=fun k n s o ho=>by
  unfold mz at ho;split at ho<;>(simp only[mem_singleton] at ho;subst ho)
  ·exact hz _ _
  exact O _ _
 have key:∀(r:Nat) (t:Tw),∀o∈gH r t,-20<=o.v.n/\o.v.n<=40:=by
  intro r;induction r with
  | zero=>intro t;obtain⟨k,n,s,ts⟩:=t;exact E k n s
  | succ r ih =>
   intro t o ho;obtain⟨k,n,s,ts⟩:=t;have I:∀i:Nat,∀o∈gJ r ts n s i,-20<=o.v.n/\o.v.n<=40:=fun i o ho=>by
    unfold gJ at ho;split at ho
    ·exact ih _ o ho
    exact E _ _ _ o ho
   rw[v7] at ho;split at ho
   ·simp only[mem_singleton] at ho;subst ho;exact O _ _
   split at ho
   ·simp only[mem_singleton] at ho;subst ho;exact hz _ _
   split at ho
   ·rcases mem_append.1 ho with ho|ho
    ·exact I 0 o ho
    simp only[mem_singleton] at ho;subst ho;exact hz _ _
   rcases mem_append.1 ho with ho|ho
   ·rcases mem_append.1 ho with ho|ho
    ·exact I 0 o ho
    exact I 1 o ho
   simp only[mem_singleton] at ho;subst ho;exact hz _ _
 exact key 3 t
theorem LL(t:Tw):uX (gH 3 t):=by
 have h:=JR t;refine⟨by omega,?_,fun o ho=>⟨afZ (afY t) o ho,?_⟩⟩
 ·unfold om;rw[if_neg w4];exact JS t
 have:=afb t o ho;omega
theorem afc(s:cn):iM s s=true:=by
 unfold iM;simp only[Bool.and_eq_true,beq_iff_eq,wo,and_self]
theorem Ag{s:cn}(ht:cR s.table=0)(he:gW s=0)(hb:gi s=s):fL s=0:=by
 unfold fL;rw[if_neg (fun h=>h.2 ht),hb,if_neg (fun h=>by rw[afc] at h;cases h.2),he]
theorem small{x:ByteArray}(h:cR x=0):x.size<=maxLen:=Nat.le_trans (aiD h).2 w8
def uC(s:cn):Prop:=s.ah=[]/\∀w,uX w->(4<=s.kind\/w=[])->gU {s with ah:=w}
theorem uC.wT{s:cn}(h:uC s):gU s:=by
 have:=h.2 [] aiE (.inr rfl);rw[<-h.1] at this;exact this
theorem Rg(ht:cR t=0):uC {fm with kind:=1,table:=t,au:=aL}:=⟨rfl,fun w hw h=>by
 have nq:w=[]:=h.resolve_left (by show ¬(4:Int)<=1;decide);subst nq;exact⟨⟨⟨by show 4<=6;decide,Nat.zero_le _,Nat.zero_le _,Nat.zero_le _,Nat.zero_le _⟩,small ht,by show ∀c∈aL,c.n.size<=maxLen;decide,(fun _ h=>by cases h),Nat.zero_le _,Nat.zero_le _,(fun _ h=>by cases h),(fun _ h=>by cases h),(fun _ h=>by cases h)⟩,by show(1:Int)<=1;decide,by show(1:Int)<=6;decide,DN,
  Ag ht (show ga aL=0 by decide +kernel) aB⟩⟩
theorem agX(ht:cR t=0):uC {fm with kind:=2,table:=t}:=⟨rfl,fun w hw h=>by
 have nq:w=[]:=h.resolve_left (by show ¬(4:Int)<=2;decide);subst nq;exact⟨⟨⟨Nat.zero_le _,Nat.zero_le _,Nat.zero_le _,Nat.zero_le _,Nat.zero_le _⟩,small ht,(fun _ h=>by cases h),(fun _ h=>by cases h),Nat.zero_le _,Nat.zero_le _,(fun _ h=>by cases h),(fun _ h=>by cases h),(fun _ h=>by cases h)⟩,by show(1:Int)<=2;decide,by show(2:Int)<=6;decide,DN,
  Ag ht aB aB⟩⟩
theorem V4{x:Int}(h0:0<=x):jy ⟨2,x,⟨#[]⟩⟩=0:=by
 unfold jy;rw[if_neg (by intro h;have:=h.2;dsimp only at this;omega)];kernel_rfl
theorem aiF{s:ByteArray}(h:s.size<=20):jy ⟨3,0,s⟩=0:=by
 unfold jy;rw[if_neg (by intro h;exact absurd h.1 (by show ¬(3:Int)=2;decide))];unfold bY;rw[if_neg (by show ¬(3:Int)=0;decide),if_neg (by show ¬(3:Int)=1;decide),if_neg (by show ¬(3:Int)=2;decide),if_pos rfl,if_neg (fun h=>h rfl),if_neg (by show ¬s.size>20;omega)]
theorem afd(n:Int):jy (qx n)=0/\-9223372036854775808<=(qx n).n/\(qx n).n<=9223372036854775807:=by
 have h:=j7 n (show(1:Int)<=3 by decide);unfold qx;split
 ·exact⟨by decide,by decide,by decide⟩
 have h2:cH n 3=0\/cH n 3=1:=(by omega)
 rcases h2 with h2|h2<;>rw[h2]<;>exact⟨by decide,by decide,by decide⟩
theorem adD(ht:cR t=0){x y b:Int}(hx:0<=x/\x<12)(hy:0<=y/\y<9){u:ByteArray}(I:u.size<=6):uC {fm with kind:=3,table:=t,row:=[⟨2,x,⟨#[]⟩⟩,⟨2,y,⟨#[]⟩⟩,⟨3,0,u⟩,qx b]}:=⟨rfl,fun w hw h=>by
 have nq:w=[]:=h.resolve_left (by show ¬(4:Int)<=3;decide);subst nq;have l1:=V4 hx.1;have l2:=V4 hy.1;have l3:jy ⟨3,0,u⟩=0:=aiF w4;obtain⟨l4,l5,E⟩:=afd b;refine⟨⟨⟨Nat.zero_le _,by show 4<=6;decide,Nat.zero_le _,Nat.zero_le _,Nat.zero_le _⟩,small ht,(fun _ h=>by cases h),(fun _ h=>by cases h),Nat.zero_le _,Nat.zero_le _,fun v hv=>?_,(fun _ h=>by cases h),(fun _ h=>by cases h)⟩,by show(1:Int)<=3;decide,by show(3:Int)<=6;decide,DN,Ag ht ?_ aB⟩
 ·simp only[mem_cons,not_mem_nil,or_false] at hv;rcases hv with rfl|rfl|rfl|rfl
  ·dsimp only;omega
  ·dsimp only;omega
  ·dsimp only;omega
  exact⟨l5,E⟩
 show dR [⟨2,x,⟨#[]⟩⟩,⟨2,y,⟨#[]⟩⟩,⟨3,0,u⟩,qx b]=0;unfold dR;rw[if_neg bp];simp[kx,l1,l2,l3,l4]⟩
theorem Rh(ht:cR t=0){N:List ByteArray}(E:N.length<=6/\∀x∈N,cR x=0){c:Bool}(hc:c=true->N=[])(ho:o=⟨#[]⟩\/cR o=0){d:Bool}(hd:o=⟨#[]⟩->d=false){m:Int}(hm:-1<=m/\m<=7):uC {fm with kind:=4,table:=t,names:=N,count:=c,order:=o,down:=d,iz:=m}:=⟨rfl,fun w hw h=>by
 have I:o.size<=maxLen:=(by rcases ho with rfl|h;exact Nat.zero_le _;exact small h)
 refine⟨⟨⟨Nat.zero_le _,Nat.zero_le _,E.1,hw.l,Nat.zero_le _⟩,small ht,(fun _ h=>by cases h),fun x hx=>small (E.2 x hx),I,Nat.zero_le _,(fun _ h=>by cases h),hw.b,(fun _ h=>by cases h)⟩,by show(1:Int)<=4;decide,by show(4:Int)<=6;decide,(by show _<=(9223372036854775807:Int);dsimp only;omega),Ag ht ?_ aB⟩;show pW {fm with kind:=4,table:=t,names:=N,count:=c,ah:=w,order:=o,down:=d,iz:=m}=0;have ir:kx cR N=0:=by
  have key:∀l:List ByteArray,(∀x∈l,cR x=0)->kx cR l=0:=by
   intro l;induction l with
   | nil=>intro _;rfl
   | cons a r ih=>intro h;rw[kx,if_neg (by rw[h a mem_cons_self];decide)];exact ih fun x hx=>h x (mem_cons_of_mem _ hx)
  exact key N E.2
 unfold pW;dsimp only;rw[if_neg w4,if_neg w4,if_neg (by
  rintro(⟨h1,h2⟩|⟨h1,h2⟩)
  ·rw[hc h1] at h2;simp at h2
  rw[hd (wo.1 h2)] at h1;cases h1),if_neg (by rw[ir];decide),if_neg (by rw[hw.f];decide)]
 split
 ·rfl
 rename_i h2;exact ho.resolve_left fun h=>h2 (wo.2 h)⟩
theorem adE(ht:cR t=0){c:ByteArray}(hc:cR c=0)(E:Tw):uC {fm with kind:=5,table:=t,set:=c,bM:=gH 3 E}:=⟨rfl,fun w hw h=>by
 have ho:=LL E;refine⟨⟨⟨Nat.zero_le _,Nat.zero_le _,Nat.zero_le _,hw.l,ho.l⟩,small ht,(fun _ h=>by cases h),(fun _ h=>by cases h),Nat.zero_le _,small hc,(fun _ h=>by cases h),hw.b,ho.b⟩,by show(1:Int)<=5;decide,by show(5:Int)<=6;decide,DN,Ag ht ?_ aB⟩;show(if cR c=0 then (if fR (gH 3 E)=0 then om w else fR (gH 3 E)) else cR c)=0;rw[if_pos hc,if_pos (JS E),hw.f]⟩
theorem adF(ht:cR t=0):uC {fm with kind:=6,table:=t}:=⟨rfl,fun w hw h=>by
 refine⟨⟨⟨Nat.zero_le _,Nat.zero_le _,Nat.zero_le _,hw.l,Nat.zero_le _⟩,small ht,(fun _ h=>by cases h),(fun _ h=>by cases h),Nat.zero_le _,Nat.zero_le _,(fun _ h=>by cases h),hw.b,(fun _ h=>by cases h)⟩,by show(1:Int)<=6;decide,by show(6:Int)<=6;decide,DN,Ag ht hw.f aB⟩⟩
def dQ:List ByteArray:=[⟨#[116]⟩,⟨#[117]⟩]
def fK:List ByteArray:=[⟨#[]⟩,⟨#[110]⟩,⟨#[115]⟩,⟨#[105,100]⟩]
def xM:List ByteArray:=[⟨#[110]⟩,⟨#[110]⟩,⟨#[115]⟩,⟨#[98]⟩,⟨#[105,100]⟩]
theorem Hj:∀x∈dQ,cR x=0:=by decide +kernel
theorem alP:∀x∈fK,x.size=0\/cR x=0:=by decide +kernel
theorem MO:∀x∈xM,cR x=0:=by decide +kernel
theorem Ce(n:Int)(h1:-9223372036854775808<=n)(h2:n<=9223372036854775807):VP Tryz.prog G 27 [ae n] (.agg [ae (qx n).k,ae (qx n).n,bg (qx n).s]):=by
 refine bn func27 rfl ntmps27 aP fun X0 w0 bj=>?_;refine bX ?_;refine dF (ds:=[_,_,_]) av rfl rfl zeroValue56 rfl (fun b2=>?_);refine aq 10 [0,2] ?_;refine cX [0,2,5] (l7 G n 3 h1 h2 w8) ?_;refine cj ?_ ?_<;>intro aM bG
 ·refine az 1 ?_;refine aR 0 [_,_,_] sizeOf56 ?_;refine dY 10 [2] [] ?_;refine⟨?_,rfl⟩;unfold qx aU;simp_all
 refine az 1 ?_;refine eB call16 (l7 G n 3 h1 h2 w8) ?_;refine aG 1 ?_;refine aR 0 [_,_,_] sizeOf56 ?_;refine dY 10 [2] [] ?_;refine⟨?_,rfl⟩;unfold qx aU;simp_all
theorem ake{s:ByteArray}(h:s.size=0):s=⟨#[]⟩:=by
 obtain⟨d⟩:=s;have:d = #[]:=Array.eq_empty_of_size_eq_zero h;rw[this]
def CF(a b:Int):List ByteArray:=if cH a 3=1 then [⟨#[115]⟩,⟨#[105,100]⟩,⟨#[110]⟩].take (1+(cH b 3).toNat) else []
def Hl(a:Int)(o:ByteArray):Bool:=if o=⟨#[]⟩ then false else cH a 2==1
theorem akf(h:(!(o.toList==(⟨#[]⟩:ByteArray).toList))=false):o=⟨#[]⟩:=wo.1 (by unfold jf;simpa using h)
def yW(t:Int):ByteArray:=dQ.getD (cH t 2).toNat ⟨#[]⟩
def vE(k t a b:Int)(row:List Vl)(tz:Tw):cn :=
 if cH k 6=0 then {fm with kind:=1+0,table:=yW t,au:=aL}
 else if cH k 6=2 then {fm with kind:=1+2,table:=yW t,row:=[⟨2,cH a 12,⟨#[]⟩⟩,⟨2,cH b 9,⟨#[]⟩⟩,⟨3,0,wJ ((⟨#[]⟩:ByteArray)++nj (tZ row) 2)⟩,qx b]}
 else if cH k 6=3 then {fm with kind:=1+3,table:=yW t,names:=(if cH a 5=3 then [] else CF a b),count:=(cH a 5==3),order:=fK.getD (cH b 4).toNat ⟨#[]⟩,down:=Hl a (fK.getD (cH b 4).toNat ⟨#[]⟩),iz:=cH a 9-1}
 else if cH k 6=4 then {fm with kind:=1+4,table:=yW t,set:=xM.getD (cH a 5).toNat ⟨#[]⟩,bM:=gH 3 tz}
 else {fm with kind:=1+cH k 6,table:=yW t}
def I7(k t a b:Int)(row:List Vl)(tz wh:Tw)(bare:Bool):cn:=if 4<=(vE k t a b row tz).kind/\bare=false then {vE k t a b row tz with ah:=gH 3 wh} else vE k t a b row tz
theorem afe(k t a b:Int)(row:List Vl)(O U:Int)(Z:ByteArray)(E:List Tw)(y1 y2:Int)(y3:ByteArray)(I:List Tw)(bare:Bool):VP Tryz.prog G 26 [.agg [ae k,ae t,ae a,ae b,an 3 cV row,ae O,ae U,bg Z,.list 4 (Tw.ny E) E.length,ae y1,ae y2,bg y3,.list 4 (Tw.ny I) I.length,bP bare]] (bg (tZ row)):=by
 refine bn func26 rfl ntmps26 aP fun X0 w0 bj=>?_;refine bX ?_;refine cW [_,_,_,_,_,_,_,_,_,_,_,_,_,_] (fun b1=>?_);refine aq 12 [1] ?_;refine ax [1,6] ?_ ?_<;>intro aM bG
 ·obtain⟨v,r,rfl⟩:∃v r,row=v::r:=(by (cases row;simp at aM;exact⟨_,_,rfl⟩))
  refine cN [2] ?_;refine aT 2 ?_ (h:=by exact(tV (mk:=Op.indexAddr 23) rfl ot cf (by first|exact we runUnderlying23 sizeOf109 (j:=0) rfl bp|exact wB runUnderlying23 sizeOf109 (j:=0) rfl bp)));refine aT 1 ?_ (h:=by exact(dN (mk:=Op.load 9) rfl ot (by exact wG (i:=0) (j:=2) fQ isAgg9 bp rfl)));refine bL ?_;refine eu [] ?_;exact⟨rfl,rfl⟩
 obtain rfl:row=[]:=eq_nil_of_length_eq_zero (by simp at aM;simp[aM]);refine aA [2] ?_;exact oD
theorem acd(k t a b:Int)(row:List Vl)(x1 x2:Int)(x3:ByteArray)(E:List Tw)(y1 y2:Int)(y3:ByteArray)(I:List Tw)(bare:Bool)(cl:-9223372036854775808<=k)(eR:k<=9223372036854775807)(ht1:-9223372036854775808<=t)(ht2:t<=9223372036854775807)(xN:-9223372036854775808<=a)(qJ:a<=9223372036854775807)(gw:-9223372036854775808<=b)(oZ:b<=9223372036854775807)(wX:∀v∈row,v.s.size<=maxLen)(Qk:(Tw.mk x1 x2 x3 E).Ok)(Ep:(Tw.mk y1 y2 y3 I).Ok):VC Tryz.prog G 9 [.agg [ae k,ae t,ae a,ae b,an 3 cV row,ae x1,ae x2,bg x3,.list 4 (Tw.ny E) E.length,ae y1,ae y2,bg y3,.list 4 (Tw.ny I) I.length,bP bare]] [] (fun r S'=>∃s,r = .agg (bK s)/\S'=[]/\gU s/\s.kind=1+cH k 6/\s.table=dQ.getD (cH t 2).toNat ⟨#[]⟩/\s=I7 k t a b row (.mk x1 x2 x3 E) (.mk y1 y2 y3 I) bare):=by
 refine bn func9 rfl ntmps9 aP fun X0 w0 bj=>?_;have aur:=j7 k (show(1:Int)<=6 by decide);have aoI:=l7 G k 6 cl eR w8;generalize Z:cH k 6=ki at *;have aoJ:=j7 t (show(1:Int)<=2 by decide);have aoK:=l7 G t 2 ht1 ht2 w8;generalize aoL:cH t 2=ti at *;obtain⟨tj,rfl⟩:=Int.eq_ofNat_of_zero_le aoJ.1;have I8:tj<dQ.length:=(by show tj<2;omega)
 have uS:=Hj dQ[tj] (getElem_mem I8);have I9:dQ[tj]=dQ.getD ((tj:Nat):Int).toNat ⟨#[]⟩:=(by rw[Int.toNat_natCast,getD_eq_getElem?_getD,getElem?_eq_getElem I8];rfl)
 generalize aoM:dQ[tj]=tn at *;have uu:yW t=tn:=(by unfold yW;rw[aoL];exact I9.symm)
 refine bX ?_;refine cW [_,_,_,_,_,_,_,_,_,_,_,_,_,_] (fun b1=>?_);refine dF (ds:=[_,_,_,_,_,_,_,_,_,_,_,_]) av rfl rfl zeroValue44 rfl (fun b2=>?_);refine aq 111 [1,2] ?_;refine cQ ?_;refine uL 12 11 [1,2,3,14] ?_;refine cL (aoI) ?_;refine cL (aoK) ?_;refine aT 1 ?_ (h:=by exact(dN (mk:=Op.load 9) rfl ot (by exact sI (g:=cS) (ls:=dQ) (i:=tj) (d:=bg tn) jW isAgg9 I8 (by show some (D.v (.string (dQ[tj]'I8)))=some (D.v (.string tn));rw[aoM]))));refine mr 1 ?_;refine nV ?_;refine jR ?_;refine⟨rfl,fun b3=>?_⟩;refine aR 0 [_,_,_,_,_,_,_,_,_,_,_,_] sizeOf44 ?_;refine aq 111 [1,2,3] ?_;refine iT [1,2,3] (fun aV _ aF=>∃(s:cn),(uC s)/\(s.kind=1+ki)/\(s.table=tn)/\(s=vE k t a b row (.mk x1 x2 x3 E))/\aF=(⟨111,aV,[⟨b3,44,12,[ae s.kind,bg s.table,an 2 cC s.au,an 3 cV s.row,an 1 cS s.names,bP s.count,an 5 cO s.ah,bg s.order,bP s.down,ae s.iz,bg s.set,an 5 cO s.bM]⟩,⟨b2,44,12,[ae 0,fN,bW,bW,bW,bP false,bW,fN,bP false,ae 0,fN,bW]⟩,⟨b1,28,14,[ae k,ae t,ae a,ae b,an 3 cV row,ae x1,ae x2,bg x3,.list 4 (Tw.ny E) E.length,ae y1,ae y2,bg y3,.list 4 (Tw.ny I) I.length,bP bare]⟩]⟩:St)) ?_ ?_
 ·refine cQ ?_;refine Tp (k:=0) (cs':=[_,_,.list 2 [] 0,.list 3 [] 0,.list 1 [] 0,_,.list 5 [] 0,_,_,_,_,.list 5 [] 0]) (S':=[_,_,_]) rfl Oc rfl ?_;refine cc [1,2,3,16] ?_;refine ax [1,2,3,16,17] ?_ ?_<;>intro aM bG
  ·obtain rfl:ki=0:=(by simp at aM;omega)
   refine uP ?_;refine oK av rfl rfl rfl call14 (JU) trivial ?_;refine aG 1 ?_;refine aR 0 [_,_,_,_,_,_,_,_,_,_,_,_] sizeOf39 ?_;refine aq 111 [1,2,3] ?_;refine⟨_,aI,{fm with kind:=1+0,table:=tn,au:=aL},(Rg uS),DM,rfl,(by unfold vE;rw[if_pos Z,uu]),rfl⟩
  refine ax [1,2,3,16,21] ?_ ?_<;>intro bf cD
  ·obtain rfl:ki=2:=(by simp at bf;omega)
   have aoN:=j7 a (show(1:Int)<=12 by decide);have aoO:=l7 G a 12 xN qJ w8;generalize aoP:cH a 12=xa at *;have aoQ:=j7 b (show(1:Int)<=9 by decide);have aoR:=l7 G b 9 gw oZ w8;generalize aoS:cH b 9=xb at *;have IN:(tZ row).size<=maxLen:=(by (cases row;decide;exact wX _ mem_cons_self))
   have zL:(nj (tZ row) 2).size<=maxLen:=(by rw[Fw];exact Nat.le_trans (Nat.min_le_left _ _) IN)
   have dz:((⟨#[]⟩:ByteArray)++nj (tZ row) 2).size<=maxLen:=(by rw[ByteArray.size_append];show 0+_<=_;omega)
   have uI:(⟨#[]⟩:ByteArray).size+(nj (tZ row) 2).size<=9223372036854775807:=(by (have:=zL;unfold maxLen at this;show 0+_<=_;omega))
   have hu6:=(acY ((⟨#[]⟩:ByteArray)++nj (tZ row) 2)).2;refine oC 18 [1,2,3,40] ?_;refine cL (aoO) ?_;refine cL (aoR) ?_;refine cL (afe k t a b row x1 x2 x3 E y1 y2 y3 I bare) ?_;refine cL (GA (tZ row) 2 IN) ?_;refine aT 0 ?_ (h:=by exact(dX rfl cf ot (KY uI)));refine cL (Nm.sD ((⟨#[]⟩:ByteArray)++nj (tZ row) 2) dz) ?_;refine cL (Ce b gw oZ) ?_;refine bL ?_;refine aG 1 ?_;refine aR 0 [_,_,_,_,_,_,_,_,_,_,_,_] sizeOf40 ?_;refine aq 111 [1,2,3] ?_;refine⟨_,aI,{fm with kind:=1+2,table:=tn,row:=[⟨2,xa,⟨#[]⟩⟩,⟨2,xb,⟨#[]⟩⟩,⟨3,0,wJ ((⟨#[]⟩:ByteArray)++nj (tZ row) 2)⟩,qx b]},(adD uS aoN aoQ hu6),DM,rfl,(by unfold vE;rw[if_neg w4,if_pos Z,uu,aoP,aoS]),rfl⟩
  refine ax [1,2,3,16,42] ?_ ?_<;>intro cr cU
  ·obtain rfl:ki=3:=(by simp at cr;omega)
   refine iT [1,2,3] (fun aV _ aF=>∃(N:List ByteArray),((N.length<=6/\∀x∈N,cR x=0))/\(N=CF a b)/\aF=(⟨111,aV,[⟨b3,44,12,[ae (1+3),bg tn,.list 2 [] 0,.list 3 [] 0,an 1 cS N,bP false,.list 5 [] 0,fN,bP false,ae (-1),fN,.list 5 [] 0]⟩,⟨b2,44,12,[ae 0,fN,bW,bW,bW,bP false,bW,fN,bP false,ae 0,fN,bW]⟩,⟨b1,28,14,[ae k,ae t,ae a,ae b,an 3 cV row,ae x1,ae x2,bg x3,.list 4 (Tw.ny E) E.length,ae y1,ae y2,bg y3,.list 4 (Tw.ny I) I.length,bP bare]⟩]⟩:St)) ?_ ?_
   ·refine cQ ?_;have aus:=j7 a (show(1:Int)<=3 by decide);have aoT:=l7 G a 3 xN qJ w8;generalize XE:cH a 3=xc at *;refine jg [1,2,3,47] ?_;refine cL (aoT) ?_;refine bL ?_;refine cj ?_ ?_<;>intro de eG
    ·have pyb:=j7 b (show(1:Int)<=3 by decide);have Ql:=l7 G b 3 gw oZ w8;generalize alZ:cH b 3=yb at *;have hyb:yb=0\/yb=1\/yb=2:=(by omega)
     rcases hyb with rfl|rfl|rfl
     ·refine uP ?_;refine eH (cx 0 [_,_,_]) [.string ⟨#[]⟩,.string ⟨#[]⟩,.string ⟨#[]⟩] [_,_,_] zeroValue9 runUnderlying41 sizeOf9 (fun Qa=>?_);refine gh 0 48 1 3 ?_;refine aG 2 ?_;refine eB call16 (Ql) ?_;refine aG 1 ?_;refine bQ (fb (l:=0) (h:=1) rfl ot trivial ⟨_,ot⟩ Og) ?_;refine aG 1 ?_;refine aR 0 [_,_,_,_,_,_,_,_,_,_,_,_] sizeOf41 ?_;refine aq 111 [1,2,3] ?_;refine⟨_,aI,[⟨#[115]⟩],⟨by decide,by decide +kernel⟩,MY,rfl⟩
     ·refine uP ?_;refine eH (cx 0 [_,_,_]) [.string ⟨#[]⟩,.string ⟨#[]⟩,.string ⟨#[]⟩] [_,_,_] zeroValue9 runUnderlying41 sizeOf9 (fun Qa=>?_);refine gh 0 48 1 3 ?_;refine aG 2 ?_;refine eB call16 (Ql) ?_;refine aG 1 ?_;refine bQ (fb (l:=0) (h:=2) rfl ot trivial ⟨_,ot⟩ Og) ?_;refine aG 1 ?_;refine aR 0 [_,_,_,_,_,_,_,_,_,_,_,_] sizeOf41 ?_;refine aq 111 [1,2,3] ?_;refine⟨_,aI,[⟨#[115]⟩,⟨#[105,100]⟩],⟨by decide,by decide +kernel⟩,MY,rfl⟩
     refine uP ?_;refine eH (cx 0 [_,_,_]) [.string ⟨#[]⟩,.string ⟨#[]⟩,.string ⟨#[]⟩] [_,_,_] zeroValue9 runUnderlying41 sizeOf9 (fun Qa=>?_);refine gh 0 48 1 3 ?_;refine aG 2 ?_;refine eB call16 (Ql) ?_;refine aG 1 ?_;refine bQ (fb (l:=0) (h:=3) rfl ot trivial ⟨_,ot⟩ Og) ?_;refine aG 1 ?_;refine aR 0 [_,_,_,_,_,_,_,_,_,_,_,_] sizeOf41 ?_;refine aq 111 [1,2,3] ?_;refine⟨_,aI,[⟨#[115]⟩,⟨#[105,100]⟩,⟨#[110]⟩],⟨by decide,by decide +kernel⟩,MY,rfl⟩
    refine en ?_;refine⟨_,aI,[],⟨by simp,fun _ h=>by cases h⟩,(by unfold CF;rw[XE,if_neg (by simpa using de)]),rfl⟩
   rintro _ ⟨N,hN,hNn,rfl⟩;refine cQ ?_;have aut:=j7 a (show(1:Int)<=5 by decide);have aoU:=l7 G a 5 xN qJ w8;generalize HU:cH a 5=xd at *;refine dV 2 ?_;refine eB call16 (aoU) ?_;refine aG 2 ?_;refine aR 0 [_,_,_,_,_,_,_,_,_,_,_,_] sizeOf4 ?_;refine aq 111 [1,2,3] ?_;refine iT [1,2,3] (fun aV _ aF=>∃(N:List ByteArray),∃(ct:Bool),((N.length<=6/\∀x∈N,cR x=0))/\(ct=true->N=[])/\(ct=(cH a 5==3))/\(N=(if cH a 5=3 then [] else CF a b))/\aF=(⟨111,aV,[⟨b3,44,12,[ae (1+3),bg tn,.list 2 [] 0,.list 3 [] 0,an 1 cS N,bP ct,.list 5 [] 0,fN,bP false,ae (-1),fN,.list 5 [] 0]⟩,⟨b2,44,12,[ae 0,fN,bW,bW,bW,bP false,bW,fN,bP false,ae 0,fN,bW]⟩,⟨b1,28,14,[ae k,ae t,ae a,ae b,an 3 cV row,ae x1,ae x2,bg x3,.list 4 (Tw.ny E) E.length,ae y1,ae y2,bg y3,.list 4 (Tw.ny I) I.length,bP bare]⟩]⟩:St)) ?_ ?_
   ·refine ax [1,2,3,61] ?_ ?_<;>intro eo fS
    ·refine dV 1 ?_;refine aR 0 [_,_,_,_,_,_,_,_,_,_,_,_] sizeOf41 ?_;refine aq 111 [1,2,3] ?_;refine⟨_,(Wk.cells (k:=0) (cs':=[_,_,_,_,.list 1 [] 0,_,_,_,_,_,_,_]) rfl Oc rfl).trans (aI),[],(xd==3),⟨Nat.zero_le _,fun _ h=>by cases h⟩,(fun _=>rfl),(by rw[HU]),(by rw[HU,if_pos (by simpa using eo)]),rfl⟩
    refine en ?_;refine⟨_,aI,N,(xd==3),hN,(fun h=>absurd h (by rw[eo];decide)),(by rw[HU]),(by rw[HU,if_neg (by simpa using eo)];exact hNn),rfl⟩
   rintro _ ⟨N,ct,hN,hcn,OQ,hNe,rfl⟩;refine cQ ?_;have aoV:=j7 b (show(1:Int)<=4 by decide);have aoW:=l7 G b 4 gw oZ w8;generalize aoX:cH b 4=xe at *;obtain⟨ej,rfl⟩:=Int.eq_ofNat_of_zero_le aoV.1;have Ja:ej<fK.length:=(by show ej<4;omega)
   have jh:=alP fK[ej] (getElem_mem Ja);generalize Y6:fK[ej]=od at *;have hoe:od=fK.getD (cH b 4).toNat ⟨#[]⟩:=(by rw[aoX,Int.toNat_natCast,getD_eq_getElem?_getD,getElem?_eq_getElem Ja,Y6];rfl)
   refine uP ?_;refine eH (cx 0 [_,_,_,_]) [.string ⟨#[]⟩,.string ⟨#[]⟩,.string ⟨#[]⟩,.string ⟨#[]⟩] [_,_,_,_] zeroValue9 runUnderlying41 sizeOf9 (fun EV=>?_);refine gh 0 63 1 4 ?_;refine aG 2 ?_;refine eB call16 (aoW) ?_;refine aG 1 ?_;refine bQ (dN (mk:=Op.load 9) rfl ot (by exact sI (g:=cS) (ls:=fK) (i:=ej) (d:=bg od) jW isAgg9 Ja (by show some (D.v (.string (fK[ej]'Ja)))=some (D.v (.string od));rw[Y6]))) ?_;refine aG 1 ?_;refine aR 0 [_,_,_,_,_,_,_,_,_,_,_,_] sizeOf9 ?_;refine aq 111 [1,2,3] ?_;refine iT [1,2,3] (fun aV _ aF=>∃(dn:Bool),(od=⟨#[]⟩->dn=false)/\(dn=Hl a od)/\aF=(⟨111,aV,[⟨b3,44,12,[ae (1+3),bg tn,.list 2 [] 0,.list 3 [] 0,an 1 cS N,bP ct,.list 5 [] 0,bg od,bP dn,ae (-1),fN,.list 5 [] 0]⟩,⟨b2,44,12,[ae 0,fN,bW,bW,bW,bP false,bW,fN,bP false,ae 0,fN,bW]⟩,⟨b1,28,14,[ae k,ae t,ae a,ae b,an 3 cV row,ae x1,ae x2,bg x3,.list 4 (Tw.ny E) E.length,ae y1,ae y2,bg y3,.list 4 (Tw.ny I) I.length,bP bare]⟩]⟩:St)) ?_ ?_
   ·have auu:=j7 a (show(1:Int)<=2 by decide);have aoY:=l7 G a 2 xN qJ w8;generalize aoZ:cH a 2=xf at *;refine dV 4 ?_;refine bU 73 (fun O alQ=>?_) (fun O alQ=>?_)
    ·refine aG 2 ?_;refine oK iR rfl rfl rfl call16 (aoY) ⟨ot,cf,trivial⟩ ?_;refine aG 3 ?_;refine aR 0 [_,_,_,_,_,_,_,_,_,_,_,_] sizeOf4 ?_;refine aq 111 [1,2,3] ?_;refine⟨_,aI,(xf==1),(fun h=>by rw[h] at O;exact absurd O yC),(by unfold Hl;rw[if_neg (fun h=>by rw[h] at O;exact absurd O yC),aoZ]),rfl⟩
    refine zn 4 ?_;refine aG 2 ?_;refine aR 0 [_,_,_,_,_,_,_,_,_,_,_,_] sizeOf4 ?_;refine aq 111 [1,2,3] ?_;refine⟨_,aI,false,(fun _=>rfl),(by unfold Hl;rw[if_pos (akf O)]),rfl⟩
   rintro _ ⟨dn,Bu,hde,rfl⟩;have auv:=j7 a (show(1:Int)<=9 by decide);have ao0:=l7 G a 9 xN qJ w8;generalize ao1:cH a 9=xg at *;refine dV 2 ?_;refine eB call16 (ao0) ?_;refine aG 2 ?_;refine aR 0 [_,_,_,_,_,_,_,_,_,_,_,_] sizeOf3 ?_;refine aq 111 [1,2,3] ?_;refine⟨_,aI,{fm with kind:=1+3,table:=tn,names:=N,count:=ct,order:=od,down:=dn,iz:=xg-1},(Rh uS hN hcn (jh.imp (fun h=>ake h) id) Bu w4),DM,rfl,(by unfold vE;rw[if_neg w4,if_neg w4,if_pos Z,uu,<-hNe,<-OQ,<-hoe,<-hde,ao1]),rfl⟩
  refine ax [1,2,3,85] ?_ ?_<;>intro gk iC
  ·obtain rfl:ki=4:=(by simp at gk;omega)
   refine cQ ?_;have ao2:=j7 a (show(1:Int)<=5 by decide);have ao3:=l7 G a 5 xN qJ w8;generalize ao4:cH a 5=xh at *;obtain⟨hj,rfl⟩:=Int.eq_ofNat_of_zero_le ao2.1;have Jb:hj<xM.length:=(by show hj<5;omega)
   have hsn:=MO xM[hj] (getElem_mem Jb);generalize Y7:xM[hj]=sn at *;have hse:sn=xM.getD (cH a 5).toNat ⟨#[]⟩:=(by rw[ao4,Int.toNat_natCast,getD_eq_getElem?_getD,getElem?_eq_getElem Jb,Y7];rfl)
   refine uP ?_;refine eH (cx 0 [_,_,_,_,_]) [.string ⟨#[]⟩,.string ⟨#[]⟩,.string ⟨#[]⟩,.string ⟨#[]⟩,.string ⟨#[]⟩] [_,_,_,_,_] zeroValue9 runUnderlying41 sizeOf9 (fun qj=>?_);refine gh 0 87 1 5 ?_;refine aG 2 ?_;refine eB call16 (ao3) ?_;refine aG 1 ?_;refine bQ (dN (mk:=Op.load 9) rfl ot (by exact sI (g:=cS) (ls:=xM) (i:=hj) (d:=bg sn) jW isAgg9 Jb (by show some (D.v (.string (xM[hj]'Jb)))=some (D.v (.string sn));rw[Y7]))) ?_;refine aG 1 ?_;refine aR 0 [_,_,_,_,_,_,_,_,_,_,_,_] sizeOf9 ?_;refine aq 111 [1,2,3] ?_;refine dV 2 ?_;refine eB call12 (L6 (.mk x1 x2 x3 E) Qk) ?_;refine aG 1 ?_;refine aR 0 [_,_,_,_,_,_,_,_,_,_,_,_] sizeOf42 ?_;refine aq 111 [1,2,3] ?_;refine⟨_,aI,{fm with kind:=1+4,table:=tn,set:=sn,bM:=gH 3 (.mk x1 x2 x3 E)},(adE uS hsn (.mk x1 x2 x3 E)),DM,rfl,(by unfold vE;rw[if_neg w4,if_neg w4,if_neg w4,if_pos Z,uu,<-hse]),rfl⟩
  have ao5:ki=1\/ki=5:=(by simp at aM bf cr gk;omega)
  refine en ?_;refine⟨_,aI,{fm with kind:=1+ki,table:=tn},(by (rcases ao5 with rfl|rfl;exact agX uS;exact adF uS)),DM,rfl,(by unfold vE;rw[if_neg w4,if_neg w4,if_neg w4,if_neg w4,uu,Z]),rfl⟩
 rintro _ ⟨s,N4,N5,N6,uQ,rfl⟩;refine az 4 ?_;refine bU 101 (fun U akg=>?_) (fun U akg=>?_)
 ·refine bA [1,2,3,105] ?_;refine cj ?_ ?_<;>intro iQ qa
  ·have hg4:4<=s.kind/\bare=false:=(by (have q1:=iQ;simp at q1;first|exact⟨by simpa using U,by simpa using q1⟩|simp_all))
   have pz:=N4.2 (gH 3 (.mk y1 y2 y3 I)) (LL _) (.inl hg4.1);refine dV 2 ?_;refine eB call12 (L6 (.mk y1 y2 y3 I) Ep) ?_;refine aG 1 ?_;refine aR 0 [_,_,_,_,_,_,_,_,_,_,_,_] sizeOf42 ?_;refine aq 111 [2,3] ?_;refine az 1 ?_;refine aR 1 [_,_,_,_,_,_,_,_,_,_,_,_] sizeOf44 ?_;refine dY 111 [2] [] ?_;exact⟨{s with ah:=gH 3 (.mk y1 y2 y3 I)},rfl,rfl,pz,N5,N6.trans I9,by unfold I7;rw[<-uQ,if_pos hg4]⟩
  have pz:=N4.wT;have Qm:¬(4<=s.kind/\bare=false):=(by rintro⟨q1,q2⟩;first|(simp at U;omega)|(simp[q2] at iQ;done)|simp_all)
  refine az 1 ?_;refine aR 1 [_,_,_,_,_,_,_,_,_,_,_,_] sizeOf44 ?_;refine dY 111 [2] [] ?_;exact⟨s,rfl,rfl,pz,N5,N6.trans I9,by unfold I7;rw[<-uQ,if_neg Qm]⟩
 refine bA [1,2,3,105] ?_;refine gB ?_;have pz:=N4.wT;have Qm:¬(4<=s.kind/\bare=false):=(by rintro⟨q1,q2⟩;first|(simp at U;omega)|(simp[q2] at iQ;done)|simp_all)
 refine az 1 ?_;refine aR 1 [_,_,_,_,_,_,_,_,_,_,_,_] sizeOf44 ?_;refine dY 111 [2] [] ?_;exact⟨s,rfl,rfl,pz,N5,N6.trans I9,by unfold I7;rw[<-uQ,if_neg Qm]⟩
theorem ace(k t a b:Int)(row:List Vl)(U Z:Int)(x3:ByteArray)(E:List Tw)(y1 y2:Int)(y3:ByteArray)(I:List Tw)(bare:Bool)(cl:-9223372036854775808<=k)(eR:k<=9223372036854775807)(ht1:-9223372036854775808<=t)(ht2:t<=9223372036854775807)(xN:-9223372036854775808<=a)(qJ:a<=9223372036854775807)(gw:-9223372036854775808<=b)(oZ:b<=9223372036854775807)(O:∀v∈row,v.s.size<=maxLen)(Qk:(Tw.mk U Z x3 E).Ok)(Ep:(Tw.mk y1 y2 y3 I).Ok):VC Tryz.prog G 9 [.agg [ae k,ae t,ae a,ae b,an 3 cV row,ae U,ae Z,bg x3,.list 4 (Tw.ny E) E.length,ae y1,ae y2,bg y3,.list 4 (Tw.ny I) I.length,bP bare]] [] (fun r S'=>∃s,r = .agg (bK s)/\S'=[]/\gU s/\s.kind=1+cH k 6/\s.table=dQ.getD (cH t 2).toNat ⟨#[]⟩):=(acd k t a b row U Z x3 E y1 y2 y3 I bare cl eR ht1 ht2 xN qJ gw oZ O Qk Ep).mono fun r S' ⟨s,h1,h2,h3,h4,h5,_⟩=>⟨s,h1,h2,h3,h4,h5⟩
end Pa
namespace Ba
open List
open Go.Proofs.Tryz
open Go.RowKit V Pk Tr Vl Go.Proofs.YtbplamgacibdaaaGreatDoor.Nm Pc Cd Ex Tw
open Pa (cn bK iZ fZ gU fL gW iM gi)
variable {l:List aK} {a c:Nat}
theorem MP{v:Vl}(h:bY v=0)(h1:-9223372036854775808<=v.n)(h2:v.n<=9223372036854775807):v.Ok:=by
 unfold bY at h;have hk:(0<=v.k/\v.k<=3)/\v.s.size<=20:=by
  repeat' split at h
  all_goals first|(cases h;done)|omega
 exact⟨by omega,by omega,h1,h2,Nat.le_trans hk.2 w8⟩
theorem SJ{α:Type}{f:α->Int}:∀{l:List α},Pa.kx f l=0->∀a∈l,f a=0
 | [],_,a,ha=>by cases ha
 | x::r,h,a,ha=>by
  rw[Pa.kx] at h;split at h
  ·rename_i hx;exact absurd h hx
  rename_i hx;rcases mem_cons.1 ha with rfl|ha
  ·exact Classical.not_not.1 hx
  exact SJ h a ha
theorem KK{w:List aH}(h:Pa.om w=0):∀o∈w,bY o.v=0:=fun o ho=>by
 unfold Pa.om at h;split at h
 ·rename_i h0;rw[length_eq_zero_iff.1 h0] at ho;cases ho
 obtain⟨h',h1⟩:=F5 w 0 (x9 h).2 o ho;exact B8 (u9 h1).2.2.1
theorem aiG{w:List aH}(h:fR w=0):∀o∈w,bY o.v=0:=fun o ho=>by
 obtain⟨h',h1⟩:=F5 w 0 (x9 h).2 o ho;exact B8 (u9 h1).2.2.1
structure DJ (s:cn):Prop where
 fin:iZ s
 row:∀v∈s.row,v.Ok
 wnm:∀o∈s.ah,o.nm.size<=maxLen
 wok:∀o∈s.ah,o.v.Ok
 xnm:∀o∈s.bM,o.nm.size<=maxLen
 xok:∀o∈s.bM,o.v.Ok
theorem MO{s:cn}(hf:iZ s)(cl:1<=s.kind)(Bs:s.kind<=6)(hc:fL s=0):DJ s:=by
 unfold fL at hc;split at hc
 ·rename_i h1;exact absurd hc h1.2
 split at hc
 ·cases hc
 rename_i h1 h2;have hb:iM s (gi s)=true:=by
  cases h:iM s (gi s) with
  | true=>rfl
  | false=>exact absurd ⟨hc,h⟩ h2
 unfold iM at hb;simp only[Bool.and_eq_true,beq_iff_eq] at hb;have hr:∀v∈s.row,bY v=0:=by
  by_cases h3:s.kind=3
  ·unfold gW at hc;rw[if_neg w4,if_pos h3] at hc;unfold Pa.dR at hc;split at hc
   ·cases hc
   exact fun v hv=>B8 (SJ hc v hv)
  have E:(s.row.length:Int)=((gi s).row.length:Int):=hb.2.2.1;have h0:(gi s).row=[]:=(by unfold gi;split;rfl;split;rfl;split;rfl;split;rfl;rfl)
  rw[h0] at E;have:s.row=[]:=length_eq_zero_iff.1 (by simpa using E);rw[this];intro v hv;cases hv
 have hw:∀o∈s.ah,bY o.v=0:=by
  by_cases h3:4<=s.kind
  ·unfold gW at hc;rw[if_neg w4,if_neg w4] at hc;by_cases h4:s.kind=4
   ·rw[if_pos h4] at hc;unfold Pa.pW at hc;split at hc
    ·cases hc
    split at hc
    ·cases hc
    split at hc
    ·cases hc
    split at hc
    ·rename_i I;exact absurd hc I
    split at hc
    ·rename_i I;exact absurd hc I
    rename_i I;exact KK (Classical.not_not.1 I)
   rw[if_neg h4] at hc;by_cases h5:s.kind=5
   ·rw[if_pos h5] at hc;split at hc
    ·split at hc
     ·exact KK hc
     rename_i I;exact absurd hc I
    rename_i I;exact absurd hc I
   rw[if_neg h5,if_pos w4] at hc;exact KK hc
  have E:(s.ah.length:Int)=((gi s).ah.length:Int):=hb.2.2.2.2.2.1;have h0:(gi s).ah=[]:=(by unfold gi;split;rfl;split;rfl;rw[if_neg w4,if_neg w4,if_neg w4];rfl)
  rw[h0] at E;have:s.ah=[]:=length_eq_zero_iff.1 (by simpa using E);rw[this];intro v hv;cases hv
 have hx:∀o∈s.bM,bY o.v=0:=by
  by_cases h5:s.kind=5
  ·unfold gW at hc;rw[if_neg w4,if_neg w4,if_neg w4,if_pos h5] at hc;split at hc
   ·split at hc
    ·rename_i I;exact aiG I
    rename_i I;exact absurd hc I
   rename_i I;exact absurd hc I
  have E:(s.bM.length:Int)=((gi s).bM.length:Int):=(by simpa using hb.2.2.2.2.2.2.2.2.2.2)
  have h0:(gi s).bM=[]:=(by unfold gi;split;rfl;split;rfl;split;rfl;split;rfl;rfl)
  rw[h0] at E;have:s.bM=[]:=length_eq_zero_iff.1 (by simpa using E);rw[this];intro v hv;cases hv
 exact⟨hf,fun v hv=>MP (hr v hv) (hf.r v hv).1 (hf.r v hv).2,fun o ho=>(hf.w o ho).1,fun o ho=>MP (hw o ho) (hf.w o ho).2.1 (hf.w o ho).2.2,fun o ho=>(hf.x o ho).1,fun o ho=>MP (hx o ho) (hf.x o ho).2.1 (hf.x o ho).2.2⟩
theorem gU.st{s:cn}(h:gU s):DJ s:=MO h.1 h.2.1 h.2.2.1 h.2.2.2.2
structure qC (l:List aK) (a c:Nat):Prop where
 g:qB l (a*(1+c))
 r:∀t∈l,t.rows.length<=a
theorem agY(s:cn)(h:cR s.table=0)(hc:s.au=aL):eV (iB s) 0:=⟨h,hc,Nat.zero_le _,agz,fun i h=>absurd h (Nat.not_lt_zero _),fun x hx=>by
 have:eE qH=[]:=agA;rw[show(iB s).ix=qH from rfl,this] at hx;cases hx⟩
theorem qB.mono{l:List aK}{n m:Nat}(g:qB l n)(h:n<=m):qB l m:=⟨g.eU,fun t ht=>(g.tb t ht).mono h,g.sz,g.I6⟩
theorem qB.put{n:Nat}(g:qB l n){i:Nat}(hi:i<l.length){t:aK}(ht:eV t n)(hn:t.nm=l[i].nm):qB (l.set i t) n:=by
 refine⟨by rw[length_set];exact g.eU,fun x hx=>?_,fun x hx=>?_,?_⟩
 ·rcases mem_or_eq_of_mem_set hx with h|h
  ·exact g.tb x h
  rw[h];exact ht
 ·rcases mem_or_eq_of_mem_set hx with h|h
  ·exact g.sz x h
  rw[h,hn];exact g.sz _ (getElem_mem hi)
 have hm:(l.set i t).map aK.nm=l.map aK.nm:=by
  exact z94
 have h1:∀l:List aK,(l.Pairwise fun a b=>a.nm.toList≠b.nm.toList)↔(l.map aK.nm).Pairwise fun a b=>a.toList≠b.toList:=fun l=>by rw[pairwise_map]
 rw[h1,hm,<-h1];exact g.I6
theorem WL(t:aK)(row:List Vl):(gX t row).1.nm=t.nm:=by
 unfold gX;by_cases h1:Pc.dR t.au row≠0
 ·rw[if_pos h1]
 rw[if_neg h1];cases iX t.ix (cZ row) (dD t.ix) with
 | true=>rw[if_pos rfl]
 | false =>
  rw[if_neg w8];by_cases h3:t.rows.length=40
  ·rw[if_pos h3]
  rw[if_neg h3]
theorem V5:∀(l:List Int) (t:aK),(td t l).nm=t.nm
 | [],_=>rfl
 | _::l,t=>(V5 l _).trans rfl
theorem WM(t:aK)(w:List aH):(nE t w).1.nm=t.nm:=by unfold nE;split;rfl;exact V5 _ _
theorem V6{c:Nat}:∀(l:List Int) (vs:List Vl) (t:aK),(nQ c t l vs).nm=t.nm
 | [],_,t=>by unfold nQ;rfl
 | _::_,[],t=>by unfold nQ;rfl
 | _::l,_::vs,t=>(V6 l vs _).trans rfl
theorem Uu:∀(l:List Int) (vs:List Vl) (t:aK),(lB t l vs).1.nm=t.nm
 | [],_,t=>by unfold lB;rfl
 | _::_,[],t=>by unfold lB;rfl
 | _::l,_::vs,t=>by
  rw[lB];split
  ·rfl
  exact(Uu l vs _).trans rfl
theorem WN(t:aK)(s:cn):(iH t s).1.nm=t.nm:=by
 unfold iH;repeat' split
 all_goals first|rfl|exact V6 _ _ _|exact(Uu _ _ _).trans rfl
theorem akh{nm:ByteArray}(h:aW l nm<0):∀t∈l,t.nm.toList≠nm.toList:=fun t ht e=>by
 unfold aW c9 at h;split at h
 ·omega
 rename_i h1;have:=findIdx?_eq_none_iff.1 h1 t ht;rw[e] at this;simp at this
theorem Uv(h:a+c<=30):a*(1+c)<=260:=by
 have key:∀a<31,∀c<31,a+c<=30->a*(1+c)<=260:=(by decide +kernel)
 exact key a w4 c w4 h
theorem Xt:a*(1+c)+1<=(a+1)*(1+c):=by rw[Nat.add_mul];omega
theorem Xu:a*(1+c)+a=a*(1+(c+1)):=by rw[<-Nat.add_assoc,Nat.mul_add a (1+c) 1,Nat.mul_one]
theorem qC.put{l:List aK}{a c a' E:Nat}(g:qC l a c)(h:a*(1+c)<=a'*(1+E))(ha:a<=a'){i:Nat}(hi:i<l.length){t:aK}(ht:eV t (a'*(1+E)))(hr:t.rows.length<=a')(hn:t.nm=l[i].nm):qC (l.set i t) a' E:=by
 refine⟨(g.g.mono h).put hi ht hn,fun x hx=>?_⟩;rcases mem_or_eq_of_mem_set hx with hx|hx
 ·exact Nat.le_trans (g.r x hx) ha
 rw[hx];exact hr
theorem Mj{i:Nat}(hi:i<l.length){t:aK}(hn:t.nm=l[i].nm):(l.set i t).map aK.nm=l.map aK.nm:=by
 exact z94
theorem KL(g:qC l a c)(O:a+c<=30){s:cn}(hs:DJ s)(eR:¬s.kind=2)(U:cR s.table=0)(I:s.kind=1->s.au=aL)(h0:(ik l s).2.2=0) :
  ∃a' Z,a'+Z<=a+c+1/\qC (ik l s).1 a' Z/\(s.kind=1->(ik l s).1=l++[iB s]/\a'=a/\Z=c)/\(¬s.kind=1->(ik l s).1.map aK.nm=l.map aK.nm):=by
 have hb:=Uv O;have gw:=x8 (fun t:aK=>t.nm.toList==s.table.toList) l;rw[show c9 (fun t:aK=>t.nm.toList==s.table.toList) l=aW l s.table from rfl] at gw;unfold ik at h0 |-;by_cases cl:s.kind=1
 ·rw[if_pos cl] at h0 |-;dsimp only at h0;unfold rh at h0 |-;by_cases h1:0<=aW l s.table
  ·rw[if_pos h1] at h0;cases h0
  rw[if_neg h1] at h0 |-;by_cases h2:l.length=4
  ·rw[if_pos h2] at h0;cases h0
  rw[if_neg h2] at h0 |-;have hgn:=agY s U (I cl);have hf:=g.g.eU;refine⟨a,c,by omega,⟨⟨by rw[length_append,length_singleton];omega,fun t ht=>?_,fun t ht=>?_,?_⟩,fun t ht=>?_⟩,fun _=>⟨rfl,rfl,rfl⟩,fun h=>absurd cl h⟩
  ·rcases mem_append.1 ht with ht|ht
   ·exact g.g.tb t ht
   rw[mem_singleton] at ht;rw[ht];exact hgn.mono (Nat.zero_le _)
  ·rcases mem_append.1 ht with ht|ht
   ·exact g.g.sz t ht
   rw[mem_singleton] at ht;rw[ht];exact hs.fin.t
  ·refine pairwise_append.2 ⟨g.g.I6,pairwise_singleton _ _,fun x hx y hy=>?_⟩;rw[mem_singleton] at hy;subst hy;exact akh (show aW l s.table<0 by omega) x hx
  rcases mem_append.1 ht with ht|ht
  ·exact g.r t ht
  rw[mem_singleton] at ht;rw[ht];exact Nat.zero_le _
 rw[if_neg cl] at h0 |-;by_cases h1:aW l s.table<0
 ·rw[if_pos h1] at h0;cases h0
 rw[if_neg h1] at h0 |-;have E:(aW l s.table).toNat<l.length:=(by omega)
 have k8:l.getD (aW l s.table).toNat (iB s)=l[(aW l s.table).toNat]:=(by rw[getD_eq_getElem?_getD,getElem?_eq_getElem E];rfl)
 rw[k8] at h0 |-;have gt:=g.g.tb _ (getElem_mem E);have gr:=g.r _ (getElem_mem E);by_cases h3:s.kind=3
 ·rw[if_pos h3] at h0 |-;obtain⟨q1,q2⟩:=ae9 gt w4 hs.row h0;exact⟨a+1,c,by omega,g.put (Nat.le_trans (Nat.le_succ _) Xt) (Nat.le_succ _) E (q1.mono Xt) w4 (WL _ _),fun h=>absurd h cl,fun _=>Mj E (WL _ _)⟩
 rw[if_neg h3] at h0 |-;by_cases h4:s.kind=4
 ·rw[if_pos h4];exact⟨a,c,by omega,g,fun h=>absurd h cl,fun _=>rfl⟩
 rw[if_neg h4] at h0 |-;by_cases h5:s.kind=5
 ·rw[if_pos h5];obtain⟨q1,q2⟩:=afa gt s hs.xnm hs.xok hb;exact⟨a,c+1,by omega,g.put (by rw[<-Xu];omega) (Nat.le_refl _) E (q1.mono (by rw[<-Xu];omega)) w4 (WN _ _),fun h=>absurd h cl,fun _=>Mj E (WN _ _)⟩
 rw[if_neg h5];obtain⟨q1,q2⟩:=ab9 gt s.ah;exact⟨a,c,by omega,g.put (Nat.le_refl _) (Nat.le_refl _) E q1 w4 (WM _ _),fun h=>absurd h cl,fun _=>Mj E (WM _ _)⟩
end Ba
namespace Pa
open List
open Go.Proofs.Tryz
open Go.RowKit V Pk Go.Proofs.YtbplamgacibdaaaGreatDoor.Vl Go.Proofs.YtbplamgacibdaaaGreatDoor.Nm Go.Proofs.YtbplamgacibdaaaGreatDoor.Pc
section
variable {H:Type} {enc:TypeId×Value->H} {P:Program} {w:World} {base:Nat} {sp:Nat->Bool} {held:Bool}
theorem adG {fuel:Nat} {t:TypeId} {f0 f1 f2 f3 f4 f5 f6 f7:Field} {E I O U Z α5 α6 α7:Type} {g0:E->List D} {k0:E->Prop} {g1:I->List D} {k1:I->Prop} {g2:O->List D} {k2:O->Prop} {g3:U->List D} {k3:U->Prop} {g4:Z->List D} {k4:Z->Prop} {g5:α5->List D} {k5:α5->Prop} {g6:α6->List D} {k6:α6->Prop} {g7:α7->List D} {k7:α7->Prop} {n0 n1 n2 n3 n4 n5 n6 n7:Nat}
  (ht:P.underlying t=some (.struct #[f0,f1,f2,f3,f4,f5,f6,f7])) (hc:P.cellsOf t=n0+n1+n2+n3+n4+n5+n6+n7) (o0:f0.offset=0) (c0:P.cellsOf f0.type=n0) (o1:f1.offset=n0) (c1:P.cellsOf f1.type=n1) (o2:f2.offset=n0+n1) (c2:P.cellsOf f2.type=n2) (o3:f3.offset=n0+n1+n2) (c3:P.cellsOf f3.type=n3) (o4:f4.offset=n0+n1+n2+n3) (c4:P.cellsOf f4.type=n4) (o5:f5.offset=n0+n1+n2+n3+n4) (c5:P.cellsOf f5.type=n5) (o6:f6.offset=n0+n1+n2+n3+n4+n5) (c6:P.cellsOf f6.type=n6) (o7:f7.offset=n0+n1+n2+n3+n4+n5+n6) (c7:P.cellsOf f7.type=n7)
  (r0:∀n,n+1=fuel->mM n enc P w base sp held f0.type g0 k0) (r1:∀n,n+1=fuel->mM n enc P w base sp held f1.type g1 k1) (r2:∀n,n+1=fuel->mM n enc P w base sp held f2.type g2 k2) (r3:∀n,n+1=fuel->mM n enc P w base sp held f3.type g3 k3) (r4:∀n,n+1=fuel->mM n enc P w base sp held f4.type g4 k4) (r5:∀n,n+1=fuel->mM n enc P w base sp held f5.type g5 k5) (r6:∀n,n+1=fuel->mM n enc P w base sp held f6.type g6 k6) (r7:∀n,n+1=fuel->mM n enc P w base sp held f7.type g7 k7) :
  mM fuel enc P w base sp held t (fun a:E × I × O × U × Z × α5 × α6 × α7=>(g0 (a.1)++(g1 (a.2.1)++(g2 (a.2.2.1)++(g3 (a.2.2.2.1)++(g4 (a.2.2.2.2.1)++(g5 (a.2.2.2.2.2.1)++(g6 (a.2.2.2.2.2.2.1)++g7 (a.2.2.2.2.2.2.2))))))))) (fun a=>k0 (a.1)/\k1 (a.2.1)/\k2 (a.2.2.1)/\k3 (a.2.2.2.1)/\k4 (a.2.2.2.2.1)/\k5 (a.2.2.2.2.2.1)/\k6 (a.2.2.2.2.2.2.1)/\k7 (a.2.2.2.2.2.2.2)):=fun cs x h=>by
 obtain⟨xs,n,hn,_,hl,gK,hf⟩:=DataW.trod_struct ht h;have e0:=hf 0 f0 rfl;have e1:=hf 1 f1 rfl;have e2:=hf 2 f2 rfl;have e3:=hf 3 f3 rfl;have e4:=hf 4 f4 rfl;have e5:=hf 5 f5 rfl;have e6:=hf 6 f6 rfl;have e7:=hf 7 f7 rfl;rw[o0,c0,drop_zero] at e0;rw[o1,c1] at e1;rw[o2,c2] at e2;rw[o3,c3] at e3;rw[o4,c4] at e4;rw[o5,c5] at e5;rw[o6,c6] at e6;rw[o7,c7] at e7;have hx8:xs.length=8:=gK;rw[getElem?_eq_getElem w4] at e0 e1 e2 e3 e4 e5 e6 e7;obtain⟨a0,p0,q0⟩:=r0 n hn.symm _ _ e0;obtain⟨a1,p1,q1⟩:=r1 n hn.symm _ _ e1;obtain⟨a2,p2,q2⟩:=r2 n hn.symm _ _ e2;obtain⟨a3,p3,q3⟩:=r3 n hn.symm _ _ e3;obtain⟨a4,p4,q4⟩:=r4 n hn.symm _ _ e4;obtain⟨a5,p5,q5⟩:=r5 n hn.symm _ _ e5;obtain⟨a6,p6,q6⟩:=r6 n hn.symm _ _ e6;obtain⟨a7,p7,q7⟩:=r7 n hn.symm _ _ e7;refine⟨(a0,a1,a2,a3,a4,a5,a6,a7),?_,q0,q1,q2,q3,q4,q5,q6,q7⟩;have dz:cs=(cs.take n0++((cs.drop (n0)).take n1++((cs.drop (n0+n1)).take n2++((cs.drop (n0+n1+n2)).take n3++((cs.drop (n0+n1+n2+n3)).take n4++((cs.drop (n0+n1+n2+n3+n4)).take n5++((cs.drop (n0+n1+n2+n3+n4+n5)).take n6++((cs.drop (n0+n1+n2+n3+n4+n5+n6)).take n7)))))))):=by
  rw[take_of_length_le (l:=drop (n0+n1+n2+n3+n4+n5+n6) cs) (by rw[length_drop];omega)];have d2:cs.drop (n0+n1)=(cs.drop (n0)).drop n1:=(by rw[drop_drop])
  have d3:cs.drop (n0+n1+n2)=(cs.drop (n0+n1)).drop n2:=(by rw[drop_drop])
  have d4:cs.drop (n0+n1+n2+n3)=(cs.drop (n0+n1+n2)).drop n3:=(by rw[drop_drop])
  have d5:cs.drop (n0+n1+n2+n3+n4)=(cs.drop (n0+n1+n2+n3)).drop n4:=(by rw[drop_drop])
  have d6:cs.drop (n0+n1+n2+n3+n4+n5)=(cs.drop (n0+n1+n2+n3+n4)).drop n5:=(by rw[drop_drop])
  have d7:cs.drop (n0+n1+n2+n3+n4+n5+n6)=(cs.drop (n0+n1+n2+n3+n4+n5)).drop n6:=(by rw[drop_drop])
  rw[d7,take_append_drop,d6,take_append_drop,d5,take_append_drop,d4,take_append_drop,d3,take_append_drop,d2,take_append_drop,take_append_drop]
 rw[dz];exact(p0.append (p1.append (p2.append (p3.append (p4.append (p5.append (p6.append p7)))))))
end
structure Ph where
 k:Int
 t:Int
 a:Int
 b:Int
 row:List Vl
 bM:Tw
 wh:Tw
 bare:Bool
def Ph.cs(p:Ph):List D:=[ae p.k]++([ae p.t]++([ae p.a]++([ae p.b]++([an 3 cV p.row]++(p.bM.cs++(p.wh.cs++[bP p.bare]))))))
structure Ph.Ok (p:Ph):Prop where
 k:-9223372036854775808<=p.k/\p.k<=9223372036854775807
 t:-9223372036854775808<=p.t/\p.t<=9223372036854775807
 a:-9223372036854775808<=p.a/\p.a<=9223372036854775807
 b:-9223372036854775808<=p.b/\p.b<=9223372036854775807
 row:∀v∈p.row,v.s.size<=maxLen
 bM:p.bM.Ok
 wh:p.wh.Ok
theorem aiH{H:Type}{enc:TypeId×Value->H}{w:World}{base:Nat}{sp:Nat->Bool}{held:Bool}:qh enc Tryz.prog w base sp held 109 cV (fun v:Vl=>v.s.size<=maxLen) :=
 (acQ (n0:=1) (n1:=1) (n2:=1) underlying109 aB rfl rfl rfl aB aB aB (wE underlying3) (wE underlying3) (Rp underlying9)).map (fun a=>(⟨a.1,a.2.1,a.2.2⟩:Vl)) (fun _=>rfl) (fun _ h=>h.2.2)
theorem adH{H:Type}{enc:TypeId×Value->H}{w:World}{base:Nat}{sp:Nat->Bool}{held:Bool}(n:Nat):mM n enc Tryz.prog w base sp held 28 Ph.cs Ph.Ok:=fun cs x h=>by
 obtain⟨⟨a0,a1,a2,a3,a4,a5,a6,a7⟩,h1,q0,q1,q2,E,I,O,U,_⟩:=adG (fuel:=n) (n0:=1) (n1:=1) (n2:=1) (n3:=1) (n4:=1) (n5:=4) (n6:=4) (n7:=1) underlying28 aB rfl aB rfl aB rfl aB rfl aB rfl aB rfl aB rfl aB rfl aB
  (fun q _=>(wE underlying3).at q) (fun q _=>(wE underlying3).at q) (fun q _=>(wE underlying3).at q) (fun q _=>(wE underlying3).at q) (fun q _=>Rt (sz:=3) underlying23 aB w8 (fun z _=>aiH.at z) fQ) (fun q _=>Kq q) (fun q _=>Kq q) (fun q _=>(ahk underlying4).at q) cs x h
 exact⟨⟨a0,a1,a2,a3,a4,a5,a6,a7⟩,h1,⟨q0,q1,q2,E,I.1,O,U⟩⟩
end Pa
namespace Ba
open List
open Go.Proofs.Tryz
open Go.RowKit V Pk Tr Vl Go.Proofs.YtbplamgacibdaaaGreatDoor.Nm Pc Cd Ex Tw
open Pa (cn bK iZ fZ gU fL gW iM gi fm dQ Ph)
variable {G:List (Nat×List Value)} {m:Int}
variable {l:List aK}
theorem VC.DQ{P:Program}{f:FuncId}{args args':List D}{S:List ag}{post:D->List ag->Prop}(h:VC P G f args S post)(k:qY args' args):VC P G f args' S post:=by
 obtain⟨h1,h2⟩:=k.spec;exact h.args h1.symm fun w L i q1 q2 v hr=>h2 i q2 q1 _ _ _ hr
theorem aki(hm:(3,marksC)∈G)(hw:(1,wordsC)∈G)(ht:(0,typesC)∈G)(hG:(2,[Value.int .i64 m])∈G)(p:Ph)(h:p.Ok):VC Tryz.prog G 9 [.agg p.cs] [] (fun r S'=>∃s,r = .agg (bK s)/\S'=[]/\gU s/\s.kind=1+cH p.k 6/\s.table=dQ.getD (cH p.t 2).toNat ⟨#[]⟩):=by
 obtain⟨k,t,a,b,row,⟨x1,O,U,E⟩,⟨y1,y2,y3,I⟩,bare⟩:=p;exact Pa.ace k t a b row x1 O U E y1 y2 y3 I bare h.k.1 h.k.2 h.t.1 h.t.2 h.a.1 h.a.2 h.b.1 h.b.2 h.row h.bM h.wh
theorem Wa(hm:(3,marksC)∈G)(hw:(1,wordsC)∈G)(ht:(0,typesC)∈G)(hG:(2,[Value.int .i64 m])∈G)(p:Ph)(h:p.Ok):VC Tryz.prog G 9 [.agg p.cs] [] (fun r S'=>∃s,r = .agg (bK s)/\S'=[]/\gU s/\s.kind=1+cH p.k 6):=(aki hm hw ht hG p h).mono fun r S' ⟨s,h1,h2,h3,h4,_⟩=>⟨s,h1,h2,h3,h4⟩
theorem C1(hm:(3,marksC)∈G)(hw:(1,wordsC)∈G)(ht:(0,typesC)∈G)(hG:(2,[Value.int .i64 m])∈G){a c:Nat}(g:qC l a c)(E:a+c<=30){s:cn}(hs:DJ s)(eR:¬s.kind=2)(O:s.kind<=6->cR s.table=0)(Bs:s.kind<=6)(I:s.kind=1->s.au=aL):VP Tryz.prog G 8 [.agg [an 5 dw (l)],.agg (bK s)] (BS (iq l s)):=by
 refine akd hm hw ht hG l (Uv E) g.g s hs.fin eR hs.row hs.wnm hs.wok hs.xnm hs.xok fun h0=>?_;obtain⟨a',c',_,g',_⟩:=KL g E hs eR (O Bs) I h0;exact⟨Nat.le_trans g'.g.eU w8,fun t ht=>(g'.g.tb t ht).small⟩
theorem V7{s:cn}(h:(iq l s).2.2=0):(ik l s).2.2=0/\(iq l s).1=(ik l s).1:=by
 unfold iq at h |-;by_cases h1:fZ s≠0
 ·rw[if_pos h1] at h;exact absurd h h1
 rw[if_neg h1] at h |-;by_cases h2:7<=s.kind
 ·rw[if_pos h2] at h;cases h
 rw[if_neg h2] at h |-;by_cases h3:(ik l s).2.2≠0
 ·rw[if_pos h3] at h;exact absurd h h3
 rw[if_neg h3];exact⟨Classical.not_not.1 h3,rfl⟩
def kN(x:ByteArray):cn:={fm with kind:=1,table:=x,au:=aL}
theorem agZ:∀x∈dQ,fZ (kN x)=0:=by decide +kernel
theorem V8{x:ByteArray}(hx:x∈dQ):DJ (kN x):=gU.st (Pa.uC.wT (Pa.Rg (Pa.Hj x hx)))
def Y8:List aK:=dQ.map fun x=>iB (kN x)
theorem WO:∀i (h:i<dQ.length),iq ((dQ.take i).map fun x=>iB (kN x)) (kN dQ[i])=((dQ.take (i+1)).map (fun x=>iB (kN x)),(([],0),0)):=by
 intro i h;have hx:dQ[i]∈dQ:=getElem_mem h;unfold iq;rw[if_neg (by rw[agZ _ hx];decide),if_neg (by show ¬(7:Int)<=1;decide)];have h1:ik ((dQ.take i).map fun x=>iB (kN x)) (kN dQ[i])=((dQ.take (i+1)).map (fun x=>iB (kN x)),(([],0),0)):=by
  have h2:i=0\/i=1:=(by have:dQ.length=2:=rfl;omega)
  rcases h2 with rfl|rfl
  ·exact(show ik ((dQ.take 0).map fun x=>iB (kN x)) (kN (dQ[0]'w8))=((dQ.take 1).map (fun x=>iB (kN x)),(([],0),0)) by kernel_rfl)
  exact(show ik ((dQ.take 1).map fun x=>iB (kN x)) (kN (dQ[1]'w8))=((dQ.take 2).map (fun x=>iB (kN x)),(([],0),0)) by kernel_rfl)
 rw[h1];rfl
theorem Ar(p:Ph):p.cs.length=14:=by
 obtain⟨k,t,a,b,row,⟨x1,O,U,E⟩,⟨y1,y2,y3,I⟩,bare⟩:=p;rfl
theorem aff:qC [] 0 0:=⟨⟨by decide,(fun t h=>by cases h),(fun t h=>by cases h),Pairwise.nil⟩,(fun t h=>by cases h)⟩
theorem Wb:(Nm.Tw.mk 0 0 ⟨#[]⟩ []).Ok:=by constructor<;>first|decide|(simp;done)|trivial
theorem aiI{s:cn}(h:gU s):cR s.table=0:=by
 have hc:=h.2.2.2.2;have h6:=h.2.2.1;unfold fL at hc;split at hc
 ·rename_i h1;exact absurd hc h1.2
 rename_i h1;exact Classical.not_not.1 fun e=>h1 ⟨by omega,e⟩
theorem Y9:∀i,i<=2->qC ((dQ.take i).map fun x=>iB (kN x)) 0 0:=by
 intro i;induction i with
 | zero=>intro _;exact aff
 | succ i ih =>
  intro hi;have aa:i<dQ.length:=(by have:dQ.length=2:=rfl;omega)
  have hr:=WO i aa;have h0:(iq ((dQ.take i).map fun x=>iB (kN x)) (kN dQ[i])).2.2=0:=(by rw[hr])
  obtain⟨h1,h2⟩:=V7 h0;obtain⟨a',c',_,g',h4,_⟩:=KL (ih w4) w8 (V8 (getElem_mem aa)) (show ¬(1:Int)=2 by decide) (Pa.Hj _ (getElem_mem aa)) (fun _=>rfl) h1;obtain⟨_,rfl,rfl⟩:=h4 rfl;rw[<-h2,hr] at g';exact g'
theorem aiJ(hm:(3,marksC)∈G)(hw:(1,wordsC)∈G)(ht:(0,typesC)∈G)(hG:(2,[Value.int .i64 m])∈G)(ps:List Ph)(iv:∀p∈ps,p.Ok)(eP:ps.length<=maxLen):VC Tryz.prog G 7 [.list 14 (ps.flatMap Ph.cs) ps.length] [] (fun r S=>∃l a c,r = .agg [an 5 dw (l)]/\S=[]/\qC l a c/\a+c<=30/\l.map aK.nm=dQ):=by
 refine bn func7 rfl ntmps7 aP fun X0 w0 bj=>?_;have dH:=ey;have uG:dQ.length=2:=rfl;skip;refine bX ?_;refine dF (ds:=[_]) av rfl rfl zeroValue31 rfl (fun b2=>?_);refine aq 88 [0,2] ?_;refine bX ?_;refine dF (ds:=[_]) av rfl rfl zeroValue31 rfl (fun b3=>?_);refine l8 (k:=0) (cs':=[.list 5 [] 0]) rfl ⟨fG,trivial⟩ rfl ?_;refine aq 88 [0,2,3] ?_;refine aA [0,2,3,4] ?_;refine fa [0,2,3] (fun aV _ (i:Nat) aF=>(i<=2)/\aF=(⟨88,(4,ae (i:Nat))::aV,[⟨b3,31,1,[.list 5 ((((dQ.take i).map fun x=>iB (kN x))).flatMap dw) (((dQ.take i).map fun x=>iB (kN x))).length]⟩,⟨b2,31,1,[bW]⟩]⟩:St)) (fun (i:Nat)=>2-i) 0 ⟨(Nat.zero_le _),rfl⟩ ?_;rintro i _ ⟨hi,rfl⟩;refine ax [0,2,3,4,14] ?_ ?_<;>intro aM bG
 ·have aa:i<dQ.length:=(by omega)
  have O:=VC.DQ (C1 hm hw ht hG (l:=((dQ.take i).map fun x=>iB (kN x))) (a:=0) (c:=0) (s:=kN (dQ[i]'aa)) (Y9 i w4) w8 (V8 (getElem_mem aa)) (show ¬(1:Int)=2 by decide) (fun _=>Pa.Hj _ (getElem_mem aa)) (show(1:Int)<=6 by decide) (fun _=>rfl)) (args':=[.agg [.list 5 ((((dQ.take i).map fun x=>iB (kN x))).flatMap dw) (((dQ.take i).map fun x=>iB (kN x))).length],.agg [ae 1,bg (dQ[i]'aa),an 2 cC aL,bW,bW,bP false,bW,fN,bP false,ae (-1),fN,bW]]) ⟨dG,As ⟨dG,dG,dG,fG,fG,dG,fG,dG,dG,dG,dG,fG,trivial⟩,trivial⟩;rw[WO i aa] at O;unfold BS at O;refine en ?_;refine cQ ?_;refine kp ?_;refine cQ ?_;refine dv_ 14 13 12 [0,2,3,4,5,6,26,27,28] ?_;refine mr 1 ?_;refine O3 (g:=cS) (dQ) ?_;refine cL (JU) ?_;refine cL (O) ?_;refine mr 4 ?_;refine nV ?_;refine nV ?_;refine jR ?_;refine⟨rfl,rfl,fun b6 b5=>?_⟩;refine aR 1 [_] sizeOf31 ?_;refine aR 0 [_,_] sizeOf35 ?_;refine aq 88 [0,2,3,4,5,7] ?_;refine ax [0,2,3,4,5,30] ?_ ?_<;>intro bf cD
  ·refine dV 1 ?_;refine aR 2 [_] sizeOf31 ?_;refine aq 88 [0,2,3,4] ?_;refine cc [0,2,3,4] ?_;refine⟨(i+1),_,cG,aI,w4,rfl⟩
  exact absurd bf (by simp at bf)
 have gE:i=2:=(by omega)
 subst gE;have htw:((dQ.take 2).map fun x=>iB (kN x))=Y8:=rfl;refine aA [0,2,3,8] ?_;refine fa [0,2,3] (fun aV _ (U:Nat×List aK×Nat×Nat) aF=>match U with|(k,l,a,c)=>(k<=30)/\(k<=ps.length)/\(a+c<=k)/\(qC l a c)/\((l).map aK.nm=dQ)/\aF=(⟨88,(8,ae (k:Nat))::aV,[⟨b3,31,1,[an 5 dw (l)]⟩,⟨b2,31,1,[bW]⟩]⟩:St)) (fun (U:Nat×List aK×Nat×Nat)=>match U with|(k,l,a,c)=>30-k) (0,Y8,0,0) ⟨(Nat.zero_le _),(Nat.zero_le _),(Nat.le_refl _),(Y9 2 (Nat.le_refl _)),rfl,rfl⟩ ?_;rintro⟨k,l,a,c⟩ _ ⟨kf,Qn,Jc,gn,I,rfl⟩;refine az 5 ?_;refine bU 36 (fun ao6 alR=>?_) (fun ao6 alR=>?_)
 ·refine bA [0,2,3,8,39] ?_;refine cj ?_ ?_<;>intro cr cU
  ·have aa:k<ps.length:=(by first|omega|(simp at *;omega))
   have auw:k<30:=(by first|omega|(simp at *;omega))
   have tq:=iv (ps[k]'aa) (getElem_mem aa);refine az 3 ?_;refine bQ (dN (mk:=Op.load 28) rfl ot (kR (g:=Ph.cs) (ls:=ps) (i:=k) Ar isAgg28 sizeOf28 aa)) ?_;refine fg av rfl rfl rfl call9 (Wa hm hw ht hG (ps[k]'aa) tq) ⟨ot,trivial⟩ (fx _) ?_;rintro _ _ ⟨s,rfl,rfl,Z,oW⟩;refine dF (ds:=[_,_,_,_,_,_,_,_,_,_,_,_]) av rfl rfl zeroValue44 rfl (fun b9=>?_);refine aR 0 [_,_,_,_,_,_,_,_,_,_,_,_] sizeOf44 ?_;refine aq 88 [0,2,3,8,9] ?_;refine iT [0,2,3,8,9] (fun aV _ aF=>∃(s:cn),(gU s)/\(¬s.kind=1/\¬s.kind=2)/\aF=(⟨88,aV,[⟨b9,44,12,bK s⟩,⟨b3,31,1,[an 5 dw (l)]⟩,⟨b2,31,1,[bW]⟩]⟩:St)) ?_ ?_
   ·refine az 4 ?_;refine bU 50 (fun Za alS=>?_) (fun Za alS=>?_)
    ·refine bA [0,2,3,8,9,54] ?_;refine e9 ?_;exact ZJ
    refine bA [0,2,3,8,9,54] ?_;refine cj ?_ ?_<;>intro de eG
    ·exact ZJ
    have E:¬s.kind=1/\¬s.kind=2:=(by first|exact⟨by simpa using Za,by simpa using de⟩|(simp at *;omega))
    refine en ?_;refine⟨_,aI,s,Z,E,rfl⟩
   rintro _ ⟨s,Z,E,rfl⟩;refine cQ ?_;have BR:=gU.st Z;have BI:=aiI Z;have O:=C1 hm hw ht hG gn w4 BR E.2 (fun _=>BI) Z.2.2.1 (fun h=>absurd h E.1);unfold BS at O;refine dV 2 ?_;refine eB call8 (O) ?_;refine aG 4 ?_;refine dF (ds:=[_]) av rfl rfl zeroValue31 rfl (fun kY=>?_);refine dF (ds:=[_,_]) av rfl rfl zeroValue35 rfl (fun mv=>?_);refine aR 1 [_] sizeOf31 ?_;refine aR 0 [_,_] sizeOf35 ?_;refine aq 88 [0,2,3,8,10,12] ?_;refine ax [0,2,3,8,10,85] ?_ ?_<;>intro eo fS
   ·have h0:(iq l s).2.2=0:=(by simpa using eo)
    obtain⟨h1,h2⟩:=V7 h0;obtain⟨a',c',auy,gn1,_,gM⟩:=KL gn w4 BR E.2 BI (fun h=>absurd h E.1) h1;have gn2:qC (iq l s).1 a' c':=(by rw[h2];exact gn1)
    have alT:(iq l s).1.map aK.nm=dQ:=(by rw[h2,gM E.1];exact I)
    refine dV 1 ?_;refine aR 3 [_] sizeOf31 ?_;refine aq 88 [0,2,3,8] ?_;refine cc [0,2,3,8] ?_;refine⟨((k+1),(iq l s).1,a',c'),_,cG,aI,w4,w4,w4,gn2,alT,rfl⟩
   refine cc [0,2,3,8] ?_;refine⟨((k+1),l,a,c),_,cG,aI,w4,w4,w4,gn,I,rfl⟩
  refine az 1 ?_;refine aR 1 [_] sizeOf31 ?_;refine dY 88 [2] [] ?_;exact⟨l,a,c,rfl,rfl,gn,by omega,I⟩
 refine bA [0,2,3,8,39] ?_;refine gB ?_;refine az 1 ?_;refine aR 1 [_] sizeOf31 ?_;refine dY 88 [2] [] ?_;exact⟨l,a,c,rfl,rfl,gn,by omega,I⟩
theorem Zb(h:l.map aK.nm=dQ):aW l ⟨#[116]⟩=0:=by
 match l,h with
 | a::r,h =>
  rw[map_cons] at h;have ha:a.nm=⟨#[116]⟩:=(by injection h)
  unfold aW;rw[xW (ls:=a::r) (k:=0) bp (fun x hx=>by cases hx) (by show(a.nm.toList==_)=true;rw[ha];exact BEq.rfl)];rfl
end Ba
namespace Ba
open List
open Go.Proofs.Tryz
open Go.RowKit V Pk Tr Vl Go.Proofs.YtbplamgacibdaaaGreatDoor.Nm Pc Cd Ex Tw
open Pa (Ph)
variable {m:Int}
def BU(m:Int):List (Nat×List Value):=[(3,marksC),(1,wordsC),(0,typesC),(2,[Value.int .i64 m])]
theorem tm1:(3,marksC)∈BU m:=mem_cons_self
theorem tm2:(1,wordsC)∈BU m:=mem_cons_of_mem _ mem_cons_self
theorem tm3:(0,typesC)∈BU m:=mem_cons_of_mem _ (mem_cons_of_mem _ mem_cons_self)
theorem tm4:(2,[Value.int .i64 m])∈BU m:=mem_cons_of_mem _ (mem_cons_of_mem _ (mem_cons_of_mem _ mem_cons_self))
theorem ao7{w:World}(h1:MarksTab w)(h2:WordsTab w)(h3:TypesTab w)(h4:Tab.nH w 2 [Value.int .i64 m]):∀g∈BU m,g.2≠[]/\Df w g.1 g.2:=fun g hg=>by
 rcases mem_cons.1 hg with rfl|hg
 ·exact⟨by decide,.of h1 rfl⟩
 rcases mem_cons.1 hg with rfl|hg
 ·exact⟨by decide,.of h2 rfl⟩
 rcases mem_cons.1 hg with rfl|hg
 ·exact⟨by decide,.of h3 rfl⟩
 rw[mem_singleton] at hg;subst hg;exact⟨by simp,.of h4 rfl⟩
theorem rd_phrases{H:Type}{enc:TypeId×Value->H}{w:World}{base E:Nat}{sp:Nat->Bool}{held:Bool}{v:Value}{d:DataW H}{p:List MemPlace}(hval:Value.okWide Tryz.prog w .any E 22 v)(h:DataW.Trod enc Tryz.prog w base sp held 22 v d p) :
  ∃l:List Ph,cq w (fun _=>False) (.list 14 (l.flatMap Ph.cs) l.length) v/\((∀x∈l,x.Ok)/\l.length<=maxLen)/\True:=by
 obtain⟨l,h1,h2,h3⟩:=afB (g:=Ph.cs) (ok:=Ph.Ok) (sz:=14) underlying22 aB w8 (fun n cs x hn=>Pa.adH n cs x hn) Ar hval h;exact⟨l,h1,⟨h2,h3⟩,trivial⟩
end Ba
namespace Ba
open List
open Go.Proofs.Tryz
open Go.RowKit V Pk Tr Vl Go.Proofs.YtbplamgacibdaaaGreatDoor.Nm Pc Cd Ex Tw
open Pa (cn bK iZ fZ gU fL gW iM gi fm dQ Ph)
variable {G:List (Nat×List Value)} {m:Int}
variable {l:List aK}
theorem Gu{v:Vl}(h:bY v=0)(hk:v.k=2):gj [v]=(dL [v],0):=by
 unfold gj;rw[if_neg bp,Cv (fun x hx=>by rw[mem_singleton] at hx;rw[hx];exact h),if_neg bp,if_neg];show ¬(dL [v]).length>100;unfold dL Cd.p8 sX;simp[hk,mh]
theorem int_lt{v w:Vl}(hv:bY v=0)(E:v.Ok)(kv:v.k=2)(I:v.s.size=0)(hw:bY w=0)(O:w.Ok)(kw:w.k=2)(sw:w.s.size=0)(h:bC (dL [v]) (dL [w])):v.n<w.n:=by
 rcases Int.lt_trichotomy v.n w.n with q|q|q
 ·exact q
 ·have hs:v.s=w.s:=by
   have U:v.s.data.size=0:=I;have Z:w.s.data.size=0:=sw;have e1:v.s=⟨v.s.data⟩:=rfl;have e2:w.s=⟨w.s.data⟩:=rfl;rw[e1,e2,Array.eq_empty_of_size_eq_zero U,Array.eq_empty_of_size_eq_zero Z]
  have:v=w:=(by cases v;cases w;simp_all)
  rw[this] at h;exact absurd h (kr _)
 have hl:eN w v<0:=(Gs w v).2 (.inr ⟨by omega,.inl q⟩);have h3:=K9 hw O hv E [] [] w4;rw[append_nil,append_nil] at h3;have h4:bC (dL [w]) (dL [v]):=by
  unfold bC dL;rw[flatMap_singleton,flatMap_singleton,h3];exact hl
 exact absurd (mE h h4) (kr _)
noncomputable def ng(t:aK):List (List Vl):=(eE t.ix).map fun x=>rowAt t x.2
theorem akj{nm:ByteArray}{i:Nat}(h:aW l nm=(i:Int))(hi:i<l.length):wN l nm=(ng l[i],0):=by
 unfold wN;rw[h,if_neg w4,Int.toNat_natCast,getD_eq_getElem?_getD,getElem?_eq_getElem hi];rfl
theorem ag0{t:aK}{n:Nat}(g:eV t n):(ng t).length<=16000:=by
 have:=Uk g.ix [] [];rw[F2] at this;unfold ng;rwa [length_map]
theorem ao8(h:l.map aK.nm=dQ):l.length=2:=by have:=congrArg length h;(first|rw[length_map] at this|(unfold an at this;rw[length_map] at this));rw[this];decide
def fV(w:List aH):cn:={fm with kind:=4,table:=⟨#[116]⟩,ah:=w}
theorem aiK(h:l.map aK.nm=dQ){s:cn}(hk:s.kind=4)(ht:s.table=⟨#[116]⟩)(hc:fZ s=0)(h0:0<l.length):iq l s=(if (nJ l[0] s).2≠0 then ([],(([],0),(nJ l[0] s).2)) else (l,((nJ l[0] s).1,0)):List aK×((List (List Vl)×Int)×Int)):=by
 have hr:ik l s=(l,nJ l[0] s):=by
  unfold ik;have ha:aW l s.table=0:=(by rw[ht];exact Zb h)
  have k8:l.getD (0:Int).toNat (iB s)=l[0]:=(by show l.getD 0 _=_;rw[getD_eq_getElem?_getD,getElem?_eq_getElem h0];rfl)
  rw[ha,if_neg w4,if_neg w8,if_neg w4,if_pos hk,k8]
 unfold iq;rw[if_neg (fun e=>e hc),if_neg w4,hr]
theorem LM{t:aK}{n:Nat}(g:eV t n):∀x∈eE t.ix,Pc.dR aL (rowAt t x.2)=0:=fun x hx=>by
 obtain⟨h0,h1,h2,h3⟩:=g.js x hx;rw[jt h1];exact(g.row _ h1 h2).1
theorem KM(x:ByteArray)(w:List aH):VP Tryz.prog G 15 [bg x,an 5 cO w] (.agg [ae 4,bg x,bW,bW,bW,bP false,an 5 cO w,fN,bP false,ae (-1),fN,bW]):=by
 refine bn func15 rfl ntmps15 aP fun X0 w0 bj=>?_;refine bX ?_;refine dF (ds:=[_,_,_,_,_,_,_,_,_,_,_,_]) av rfl rfl zeroValue44 rfl (fun E=>?_);refine aq 8 [0,1,4] ?_;refine az 3 ?_;refine aR 0 [_,_,_,_,_,_,_,_,_,_,_,_] sizeOf44 ?_;refine aq 8 [4] ?_;exact oD
end Ba
namespace Ba
open List
open Go.Proofs.Tryz
open Go.RowKit V Pk Tr Vl Go.Proofs.YtbplamgacibdaaaGreatDoor.Nm Pc Cd Ex Tw
open Pa (cn bK iZ fZ gU fL gW iM gi fm dQ Ph)
variable {t:aK} {n:Nat}
def fst(r:List Vl):Vl:=r.getD 0 aU
theorem aiL{v w:Vl}(hv:bY v=0)(E:v.Ok)(O:v.k=2)(U:v.s.size=0)(hw:bY w=0)(I:w.Ok)(Z:w.k=2)(sw:w.s.size=0):bC (dL [v]) (dL [w])↔v.n<w.n:=by
 refine⟨int_lt hv E O U hw I Z sw,fun h=>?_⟩;have hl:eN v w<0:=(Gs v w).2 (.inr ⟨by omega,.inl h⟩);have h3:=K9 hv E hw I [] [] w4;rw[append_nil,append_nil] at h3;unfold bC dL;rw[flatMap_singleton,flatMap_singleton,h3];exact hl
theorem KN{r:List Vl}(hf:Pc.dR aL r=0)(aQ:∀v∈r,v.Ok):(fst r).k=2/\(fst r).s.size=0/\(fst r).Ok/\bY (fst r)=0/\cZ r=dL [fst r]/\r.length=4:=by
 have h4:=pZ hf;have hz:=KG hf;match r,h4 with
 | v::r,h4 =>
  have hv:=aQ v mem_cons_self;have hc:=hz v mem_cons_self;have hk:v.k=2:=by
   unfold Pc.dR at hf;rw[if_neg C4,if_neg A3] at hf;unfold aL Pc.qG at hf;split at hf
   ·rename_i h1;exact absurd hf h1
   rename_i h1;have h1:=Decidable.not_not.1 h1;unfold Pc.nh at h1;rw[if_neg (by rw[hc];decide)] at h1;split at h1
   ·cases h1
   rename_i h3;exact Decidable.not_not.1 fun e=>h3 ⟨e,.inl rfl⟩
  refine⟨hk,?_,hv,hc,?_,h4⟩
  ·show v.s.size=0;unfold bY at hc;rw[if_neg w4,if_neg w4,if_pos hk] at hc;split at hc
   ·cases hc
   rename_i h3;exact Decidable.not_not.1 h3
  unfold cZ;rw[show(v::r).take 1=[v] from rfl,Gu hc hk];rfl
theorem Uw(g:eV t n){i:Int}(h:gP t i):Pc.dR aL (rowAt t i)=0/\∀v∈rowAt t i,v.Ok:=by
 obtain⟨h0,h1,h2⟩:=h;rw[jt h1];exact⟨(g.row _ h1 h2).1,(g.row _ h1 h2).2.1⟩
theorem ag1(g:eV t n){l:List Int}(hp:l.Pairwise (E0 t))(hi:∀i∈l,gP t i):CZ t false 0 l=l:=by
 refine(LF ⟨Perm.refl _,hp.imp_of_mem fun {a b} ha hb h=>?_⟩).symm;obtain⟨f1,o1⟩:=Uw g (hi a ha);obtain⟨f2,o2⟩:=Uw g (hi b hb);obtain⟨a1,a2,a3,a4,a5,_⟩:=KN f1 o1;obtain⟨b1,b2,b3,b4,b5,_⟩:=KN f2 o2;have hk:bC (cZ (rowAt t a)) (cZ (rowAt t b)):=h;rw[a5,b5] at hk;have aa:=(aiL a4 a3 a1 a2 b4 b3 b1 b2).1 hk;have hc:eN (cellAt t 0 a) (cellAt t 0 b)<0:=(Gs _ _).2 (.inr ⟨a1.trans b1.symm,.inl aa⟩);exact .inl (by show lV t false 0 a b<0;unfold lV;rw[if_neg w8];exact hc)
theorem aiM{r:List Vl}(h:r.length=4):(([0,1,2,3]:List Int).map fun c=>r.getD c.toNat aU)=r:=by
 match r,h with
 | [a,b,c,d],_=>rfl
theorem aiN(l:List Int):C7 (-1) l=l:=if_neg w4
theorem ag2(g:eV t n)(w:List aH):nJ t (fV w)=(if (ap t w).2≠0 then (([],0),(ap t w).2) else (((ap t w).1.map (rowAt t),((ap t w).1.length:Int)),0):(List (List Vl)×Int)×Int):=by
 unfold nJ;have ho:tc t (fV w)=0:=if_pos (show((⟨#[]⟩:ByteArray).toList==(⟨#[]⟩:ByteArray).toList)=true from BEq.rfl);rw[if_neg (show ¬((fV w).names.any fun n=>decide (bE t.au n<0))=true from fun h=>by cases h),ho,if_neg (show ¬(0:Int)<0 by decide),show(fV w).ah=w from rfl];have hs:vp t (fV w)=(ap t w).1:=by
  unfold vp;rw[ho];show C7 (-1) (CZ t false 0 (ap t w).1)=_;rw[aiN,ag1 g (F4 g w) (ud g w)]
 by_cases h:(ap t w).2≠0
 ·rw[if_pos h,if_pos h]
 rw[if_neg h,if_neg h,if_neg (show ¬(fV w).count=true from fun h=>by cases h),hs];have ha:tK t (fV w).names=[0,1,2,3]:=by
  unfold tK;rw[if_pos (show(fV w).names.length=0 from rfl),g.au];rfl
 have hm:(ap t w).1.map (yT t (tK t (fV w).names))=(ap t w).1.map (rowAt t):=by
  rw[ha];exact map_congr_left fun i hi=>aiM (gP.ok g (ud g w i hi)).1
 rw[hm]
end Ba
namespace Ex
open List
open Go.Proofs.Tryz
open Go.RowKit V Pk Vl Go.Proofs.YtbplamgacibdaaaGreatDoor.Nm Pc Cd
open Go.Lib (compareBytes)
variable {α:Type}
def uY:ByteArray:=⟨#[105,100]⟩
theorem alU{p:α->Bool}{a:α}{r:List α}(h:p a=true):c9 p (a::r)=0:=by unfold c9;simp[findIdx?_cons,h]
theorem alV{p:α->Bool}{a b:α}{r:List α}(h:p a=false)(h':p b=true):c9 p (a::b::r)=1:=by unfold c9;simp[findIdx?_cons,h,h']
theorem aiO{p:α->Bool}{a b:α}(h:p a=false)(h':p b=false):c9 p [a,b] = -1:=by unfold c9;simp[findIdx?_cons,h,h']
theorem afg{k a b:Int}(h1:k≠1)(h2:k≠2)(h:okF k a b=true):gA aL (cY k) a b=(um k,0):=by unfold gA;rw[if_neg (by exact h1),if_neg (by exact h2),if_pos (by exact h)];rfl
theorem afh{ops:List aH}{not:Bool}{b:jD}(h:ops.length≠3\/(not=true/\l6 ops (ops.length-1)≠7)\/(l6 ops (ops.length-1)≠6/\l6 ops (ops.length-1)≠7)):mb uY ops not b=b:=by unfold mb;rw[if_pos h]
end Ex
end Go.Proofs.YtbplamgacibdaaaGreatDoor
