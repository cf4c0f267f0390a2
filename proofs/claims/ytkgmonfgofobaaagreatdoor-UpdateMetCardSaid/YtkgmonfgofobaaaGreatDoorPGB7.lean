/-
  GB: walks and plain facts, part 7.
-/
import Derived.Test.YtkgmonfgofobaaaGreatDoorPGB6
set_option linter.unusedVariables false
set_option linter.unusedSimpArgs false
set_option maxRecDepth 100000
set_option maxHeartbeats 4000000
namespace Go.Proofs.YtkgmonfgofobaaaGreatDoor.Ba
open List
open Go.Proofs.Tryz
open Go.RowKit V Pk Tr Vl Go.Proofs.YtkgmonfgofobaaaGreatDoor.Nm Pc Cd Ex Tw
variable {G:List (Nat×List Value)} {m:Int}
variable {S:List ah} {t:aH} {n:Nat} {p:List Int×Int}
structure cf where
 r:List Vl
 ad:Option Addr
 cap:Nat
 S:List ah
def gR(o:cf):List D:=[aN o.ad o.r.length o.cap]
theorem u9(o:cf):(gR o).length=1:=rfl
theorem UX(o:cf):(gR o).all V.one=true:=rfl
def bR(o:cf):List ah:=o.S
def n9(o:cf):Prop:=bg 33 3 (o.r.flatMap cV) o.r.length o.ad o.cap o.S
theorem Fu{S:List ah}:∀{L:List cf},(∀o∈L,n9 o)→(∀B∈L.flatMap bR,B∈S)→gE S (L.flatMap gR) ((L.map cf.r).flatMap gl)
 | [],_,_=>trivial
 | o::L,h,hs=>by
  rw[map_cons,flatMap_cons,flatMap_cons];refine gE.append ⟨lq (h o mem_cons_self) (cm eZ _) (fun B E=>hs B ?_),trivial⟩ (Fu (fun o ho=>h o (mem_cons_of_mem _ ho)) fun B E=>hs B ?_)
  ·rw[flatMap_cons];exact mem_append_left _ E
  rw[flatMap_cons];exact mem_append_right _ E
abbrev sR(L:List cf)(ad:Option Addr)(cap:Nat)(S:List ah):Prop:=bg 43 1 (L.flatMap gR) L.length ad cap S
structure aU where
 t:aH
 cs:List D
 ad:Option Addr
 cap:Nat
 sr:List ah
 sx:List ah
variable {o:aU}
def gT(o:aU):List D:=[aZ o.t.nm,au 2 cC o.t.ay,aN o.ad o.t.rows.length o.cap,au 5 cP o.t.ix.ag,ae o.t.ix.root]
theorem uZ(o:aU):(gT o).length=5:=rfl
theorem UY(o:aU):(gT o).all V.one=true:=rfl
def bT(o:aU):List ah:=o.sr++o.sx
structure okW (o:aU):Prop where
 own:bg 43 1 o.cs o.t.rows.length o.ad o.cap o.sr
 aiw:∀S:List ah,(∀B∈o.sx,B∈S)→gE S o.cs (o.t.rows.flatMap gl)
def qt(o:aU):Prop:=∃L:List cf,o.cs=L.flatMap gR∧o.sx=L.flatMap bR∧(∀x∈L,n9 x)∧L.map cf.r=o.t.rows∧sR L o.ad o.cap o.sr
theorem qt.w(h:qt o):okW o:=by
 obtain⟨L,h1,h2,h3,h4,h5⟩:=h;refine⟨?_,fun S hS=>?_⟩
 ·rw[h1,←h4,length_map];exact h5
 rw[h1,←h4];exact Fu h3 (by rw[←h2];exact hS)
theorem Qh(h:okW o)(hs:∀B∈bT o,B∈S):View S (aN o.ad o.t.rows.length o.cap) (au 1 gl o.t.rows) :=
 A8 h.own (h.aiw S fun B E=>hs B (mem_append_right _ E)) (cm kg _) (fun B E=>hs B (mem_append_left _ E))
theorem TS(h:okW o)(hs:∀B∈bT o,B∈S):View S (.agg (gT o)) (.agg (cX o.t)):=uQ ⟨eO,eO,Qh h hs,eO,eO,trivial⟩
theorem TT{S:List ah}:∀{L:List aU},(∀o∈L,okW o)→(∀B∈L.flatMap bT,B∈S)→gE S (L.flatMap gT) ((L.map aU.t).flatMap cX)
 | [],_,_=>trivial
 | o::L,h,hs=>by
  rw[map_cons,flatMap_cons,flatMap_cons];refine gE.append ⟨eO,eO,Qh (h o mem_cons_self) (fun B E=>hs B ?_),eO,eO,trivial⟩ (TT (fun o ho=>h o (mem_cons_of_mem _ ho)) fun B E=>hs B ?_)
  ·rw[flatMap_cons];exact mem_append_left _ E
  rw[flatMap_cons];exact mem_append_right _ E
abbrev xE(L:List aU)(ad:Option Addr)(cap:Nat)(S:List ah):Prop:=bg 77 5 (L.flatMap gT) L.length ad cap S
theorem FQ{Sx:List ah}{L:List aU}{ad:Option Addr}{cap:Nat}(ho:xE L ad cap Sx)(h:∀o∈L,okW o)(hs:∀B∈Sx++L.flatMap bT,B∈S):View S (aN ad L.length cap) (.list 5 ((L.map aU.t).flatMap cX) L.length) :=
 A8 ho (TT h fun B E=>hs B (mem_append_right _ E)) (by rw[cm jW,length_map]) (fun B E=>hs B (mem_append_left _ E))
def aix(t:aH)(r:D)(S:List ah):Prop:=∃o:aU,o.t=t∧r = .agg (gT o)∧qt o∧S=bT o
def Lj(l:List aH)(r:D)(S:List ah):Prop:=∃(L:List aU) (ad:Option Addr) (cap:Nat) (Sx:List ah),r = .agg [aN ad L.length cap]∧xE L ad cap Sx∧(∀o∈L,qt o)∧L.map aU.t=l∧S=Sx++L.flatMap bT
theorem Lj.view{l:List aH}{r:D}(h:Lj l r S):View S r (.agg [au 5 cX l]):=by
 obtain⟨L,ad,cap,Sx,rfl,ho,aV,rfl,rfl⟩:=h;first|rw[length_map]|(show View _ _ (.list _ _ (length _));rw[length_map])|(show View _ _ (.agg [.list _ _ (length _)]);rw[length_map])
 exact uQ ⟨FQ ho (fun o h=>(aV o h).w) (fun B h=>h),trivial⟩
theorem TU(L:List cf)(o:cf):(L++[o]).flatMap bR=L.flatMap bR++bR o:=by simp
theorem TV(L:List aU)(o:aU):(L++[o]).flatMap bT=L.flatMap bT++bT o:=by simp
theorem aaD:(Tryz.prog.info? 90).map (fun i=>(i.zero,i.size,i.bytes))=some (some (.slice none 0 0),1,24):=by kernel_rfl
theorem Z5:(Tryz.prog.info? 146).map (fun i=>(i.zero,i.size,i.bytes))=some (some (.agg #[.bool false,.slice none 0 0,.slice none 0 0,.slice none 0 0,.int .i64 0]),5,88):=by kernel_rfl
theorem aaE(t:aF)(h:Nat)(v:Valid t h):VC Tryz.prog G 85 [.agg (cT t)] [] (fun r S=>∃ad cap,r = .agg [aN ad t.ag.length cap,ae t.root]∧bg 146 5 (t.ag.flatMap cP) t.ag.length ad cap S):=by
 refine VC.body func85 rfl ntmps85 aQ fun X0 w0 bf=>?_;unfold Tw.cT;have cY:=dN;have NZ:=v.nW;refine bS ?_;refine OD.box (ds:=[_,_]) ap rfl rfl ot rfl rfl (fun b1=>?_);refine OD.alloc (ds:=[_,_]) ap rfl rfl zeroValue75 rfl (fun b2=>?_);refine an 53 [1,2] ?_;refine aA 3 ?_;refine OD.alloc (ds:=[_,_]) ap rfl rfl zeroValue75 rfl (fun b3=>?_);refine aM 0 [_,_] sizeOf75 ?_;refine an 53 [1,2,3] ?_;refine bS ?_;refine bp [2,3,13,14,15] ?_;refine ez [2,3,13,14] (fun aR _ (E:Nat×List cW×Option Addr×Nat×List ah) aD=>match E with|(i,L,dz,cZ,Sx)=>(i≤t.ag.length)∧(L=t.ag.take i)∧(bg 146 5 ((L).flatMap cP) (L).length dz cZ Sx)∧aD=(⟨53,(15,ae (i:Nat))::aR,(⟨b3,75,2,[aN dz (L).length cZ,ae t.root]⟩::⟨b2,75,2,[bF,ae 0]⟩::Sx)⟩:St)) (fun (E:Nat×List cW×Option Addr×Nat×List ah)=>match E with|(i,L,dz,cZ,Sx)=>t.ag.length-i) (0,([]:List cW),none,0,[]) ⟨(Nat.zero_le _),rfl,(bg.cast iz k8),rfl⟩ ?_;rintro⟨i,L,dz,cZ,Sx⟩ _ ⟨hi,hL,dX,rfl⟩;refine af [2,3,13,14,15,16] ?_;refine ax ?_ ?_<;>intro aO bA
 ·have aa:i<t.ag.length:=(by omega)
  have rZ:L.length=i:=(by rw[hL,length_take];omega)
  have po:=v.fK _ (getElem_mem aa);have mY:=po.eI;have YJ:=po.hlen;have Gf:(t.ag[i]'aa).kids.length≤6:=by
      exact z93
  refine aA 2 ?_;refine OD.alloc (ds:=[_,_,_,_,_]) ap rfl rfl zeroValue146 rfl (fun b5=>?_);refine aM 0 [_,_,_,_,_] sizeOf146 ?_;refine an 53 [2,3,5,13,14,15] ?_;refine CD.seq ?_;refine s8 12 11 [2,3,5,6,13,14,15,29] ?_;refine cJ (ab6 (t.ag[i]'aa).kids w4) ?_;refine cJ (mq (t.ag[i]'aa).high w4) ?_;refine mG 3 ?_;refine pA ?_;refine jI ?_;refine⟨rfl,fun b6=>?_⟩;refine aM 0 [_,_,_,_,_] sizeOf146 ?_;refine an 53 [2,3,5,6,13,14,15] ?_;refine bS ?_;refine bp [2,3,6,13,14,15,31,32,33] ?_
  refine ez [2,3,6,13,14,15,31,32] (fun aR _ (E:Nat×List K×Option Addr×Nat×List ah×Option Addr×Nat×List ah) aD=>match E with|(j,M,iE,iF,Sy,dz,cZ,Sx)=>(j≤(t.ag[i]'aa).keys.length)∧(M=(t.ag[i]'aa).keys.take j)∧(bg 90 1 ((M).flatMap Tw.cK) (M).length iE iF Sy)∧(bg 146 5 ((L).flatMap cP) (L).length dz cZ Sx)∧aD=(⟨53,(33,ae (j:Nat))::aR,(⟨b6,146,5,[bI (t.ag[i]'aa).leaf,aN iE (M).length iF,.list 1 ((t.ag[i]'aa).kids.flatMap Tw.cI) (t.ag[i]'aa).kids.length,.list 1 ((t.ag[i]'aa).high.flatMap cB) (t.ag[i]'aa).high.length,ae (t.ag[i]'aa).next]⟩::⟨b3,75,2,[aN dz L.length cZ,ae t.root]⟩::⟨b2,75,2,[bF,ae 0]⟩::(Sy++Sx))⟩:St)) (fun (E:Nat×List K×Option Addr×Nat×List ah×Option Addr×Nat×List ah)=>match E with|(j,M,iE,iF,Sy,dz,cZ,Sx)=>(t.ag[i]'aa).keys.length-j) (0,([]:List K),none,0,[],dz,cZ,Sx) ⟨(Nat.zero_le _),rfl,(bg.cast iz k8),(bg.cast dX k8),rfl⟩ ?_;rintro⟨j,M,iE,iF,Sy,dz,cZ,Sx⟩ _ ⟨hj,hM,DT,dX,rfl⟩;refine af [2,3,6,13,14,15,31,32,33,34] ?_;refine ax ?_ ?_<;>intro aY cz
  ·have jR:j<(t.ag[i]'aa).keys.length:=(by omega)
   have Md:=(po.lC _ (getElem_mem jR)).2;have xJ:M.length=j:=(by rw[hM,length_take];omega)
   refine af [2,3,6,8,13,14,15,31,32,33] ?_;refine gX 6 (av (take 3 _)) ?_ (fun _ h=>(Sublist.map _ (take_sublist _ _)).subset h);refine aC 0 rfl (dF 1) ?_;refine aC 1 rfl (dK 0) ?_;refine aC 2 rfl bG ?_;refine dH.later rfl ?_;refine AD.one (i:=3) aB ?_;refine qk call90 (mq (t.ag[i]'aa).keys[j] w4) ?_;refine AD.one (i:=4) aB ?_;refine nF (cu 0 [_]) [.slice none 0 0] [_] zeroValue90 runUnderlying144 sizeOf90 (fun vM=>?_);refine nG 0 41 1 1 ?_;refine AD.one (i:=5) aB ?_;refine bB.eB (ls:=(M)) (new:=[(t.ag[i]'aa).keys[j]]) (Sq:=Sy) Tw.gi Tw.pU rfl ap rfl rfl underlying144 aaD rfl w8 ot DT (oT (A:=[_,_,_])) ot bq vH ig (fun U I ak7 ak8=>?_);refine AD.perm (kf (S1:=[⟨U,90,I*1,flatMap Tw.cK ((M)++[(t.ag[i]'aa).keys[j]])⟩]) (A:=[_,_,_])) ?_;refine fw ?_;refine aG 1 ?_;refine aM 0 [_,_,_,_,_] sizeOf144 ?_;refine an 53 [2,3,6,13,14,15,31,32,33] ?_;refine th ?_;refine bp [2,3,6,13,14,15,31,32,33] ?_;refine⟨((j+1),(M++[(t.ag[i]'aa).keys[j]]),(some ⟨U,0,none⟩),I,[⟨U,90,I*1,flatMap Tw.cK ((M)++[(t.ag[i]'aa).keys[j]])⟩],dz,cZ,Sx),_,cn,aJ,w4,(by rw[hM];exact pN jR),(bg.cast (bM ak7 ak8) k8),(bg.cast dX k8),rfl⟩
  refine CD.exit ?_;have hMk:M=(t.ag[i]'aa).keys:=(by rw[hM,take_of_length_le w4])
  subst hMk;refine CD.Jb (i:=1) (j:=0) (Sq:=Sy) (S':=⟨b6,146,5,[bI (t.ag[i]'aa).leaf,.list 1 ((t.ag[i]'aa).keys.flatMap Tw.cK) (t.ag[i]'aa).keys.length,.list 1 ((t.ag[i]'aa).kids.flatMap Tw.cI) (t.ag[i]'aa).kids.length,.list 1 ((t.ag[i]'aa).high.flatMap cB) (t.ag[i]'aa).high.length,ae (t.ag[i]'aa).next]⟩::⟨b3,75,2,[aN dz L.length cZ,ae t.root]⟩::⟨b2,75,2,[bF,ae 0]⟩::Sx) DT (cm Tw.gi _) (oT (A:=[_,_,_])) rfl rfl rfl rfl ?_;refine dG 3 ?_;refine ew (cu 0 [_]) [.bool false,.slice none 0 0,.slice none 0 0,.slice none 0 0,.int .i64 0] [_,_,_,_,_] zeroValue146 runUnderlying73 sizeOf146 (fun Of=>?_);refine fS 0 48 5 1 ?_;refine OD.eB (ls:=(L)) (new:=[(t.ag[i]'aa)]) (Sq:=Sx) FO agP ap rfl rfl underlying73 Z5 rfl w8 ot dX (dg (A:=[_,_,_])) ot bq nB nC (fun Z O ak9 ala=>?_);refine OD.perm (dW (S1:=[⟨Z,146,O*5,flatMap cP ((L)++[(t.ag[i]'aa)])⟩]) (A:=[_,_,_])) ?_;refine aG 1 ?_;refine aM 1 [_,_] sizeOf73 ?_;refine an 53 [2,3,13,14,15] ?_;refine bX [2,3,13,14,15] ?_;refine⟨((i+1),(L++[(t.ag[i]'aa)]),(some ⟨Z,0,none⟩),O,[⟨Z,146,O*5,flatMap cP ((L)++[(t.ag[i]'aa)])⟩]),_,cn,aJ,w4,(by rw[hL];exact pN aa),(bg.cast (bM ak9 ala) k8),rfl⟩
 refine aA 1 ?_;refine aM 1 [_,_] sizeOf75 ?_;refine an 53 [2] ?_;refine aK Sx ?_;have hLe:L=t.ag:=(by rw[hL,take_of_length_le w4])
 subst hLe;exact⟨dz,cZ,rfl,dX⟩
theorem aaF(t:aF)(h:Nat)(v:Valid t h):VP Tryz.prog G 85 [.agg (cT t)] (.agg (cT t)):=(aaE t h v).cover fun r S ⟨ad,cap,h,ho⟩=>by subst h;exact uQ ⟨lq ho (cm FO _) (fun B h=>h),eO,trivial⟩
structure zi (t:aH):Prop where
 ay:t.ay.length≤1000
 rows:t.rows.length≤1000
 row:∀r∈t.rows,r.length≤1000
 ix:∃h,Valid t.ix h
theorem aaG:(Tryz.prog.info? 43).map (fun i=>(i.zero,i.size,i.bytes))=some (some (.slice none 0 0),1,24):=by kernel_rfl
theorem FP(t:aH)(hs:zi t):VC Tryz.prog G 48 [.agg (cX t)] [] (aix t):=by
 refine VC.body func48 rfl ntmps48 aQ fun X0 w0 bf=>?_;unfold cX;have cY:=dN;have hc:=hs.ay;have hn:=hs.rows;obtain⟨h,v⟩:=hs.ix;have U:=aaF (G:=G) t.ix h v;unfold Tw.cT at U;refine bS ?_;refine OD.box (ds:=[_,_,_,_,_]) ap rfl rfl ot rfl rfl (fun b1=>?_);refine OD.alloc (ds:=[_,_,_,_,_]) ap rfl rfl zeroValue77 rfl (fun b2=>?_);refine an 31 [1,2] ?_;refine CD.seq ?_;refine s8 10 9 [1,2,3,14] ?_;refine cJ (Qg t.ay w4) ?_;refine cJ (U) ?_;refine mG 1 ?_;refine pA ?_;refine jI ?_;refine⟨rfl,fun b3=>?_⟩;refine aM 0 [_,_,_,_,_] sizeOf77 ?_;refine an 31 [1,2,3] ?_;refine af [2,3,16,17,18] ?_;refine ez [2,3,16,17] (fun aR _ (I:Nat×List cf×Option Addr×Nat×List ah) aD=>match I with|(i,L,dz,cZ,Sx)=>(i≤t.rows.length)∧(L.map cf.r=t.rows.take i)∧(∀o∈L,n9 o)∧(sR L dz cZ Sx)∧aD=(⟨31,(18,ae (i:Nat))::aR,(⟨b3,77,5,[aZ t.nm,au 2 cC t.ay,aN dz L.length cZ,au 5 cP t.ix.ag,ae t.ix.root]⟩::⟨b2,77,5,[fk,bF,bF,bF,ae 0]⟩::(Sx++L.flatMap bR))⟩:St)) (fun (I:Nat×List cf×Option Addr×Nat×List ah)=>match I with|(i,L,dz,cZ,Sx)=>t.rows.length-i) (0,([]:List cf),none,0,[]) ⟨(Nat.zero_le _),rfl,(fun o h=>by cases h),iz,rfl⟩ ?_;rintro⟨i,L,dz,cZ,Sx⟩ _ ⟨hi,hL,aV,dX,rfl⟩;refine af [2,3,16,17,18,19] ?_;refine ax ?_ ?_<;>intro aO bA
 ·have aa:i<t.rows.length:=(by omega)
  have rZ:L.length=i:=(by have:=congrArg length hL;rw[length_map,length_take] at this;omega)
  have rm:=hs.row _ (getElem_mem aa);refine af [2,3,5,16,17,18] ?_;refine gX 6 (av (take 2 _)) ?_ (fun _ h=>(Sublist.map _ (take_sublist _ _)).subset h);refine aC 0 rfl (dF 2) ?_;refine aC 1 rfl (dK 0) ?_;refine aC 2 rfl bG ?_;refine dH.later rfl ?_;refine AD.one (i:=3) aB ?_;refine bB.call rfl ap rfl rfl rfl call33 (Qe (t.rows[i]'aa) w4) ⟨ot,trivial⟩ (fa _) (fun b hb=>by simp[av,St.put] at hb ⊢;first|(simp[hb];done)|(rcases hb with hb|hb<;>simp[hb])|(rcases hb with hb|hb|hb<;>simp[hb])) ?_;rintro _ Sz ⟨l8,l9,rfl,yt⟩;refine AD.perm (kf (A:=[_,_])) ?_;have vL:(L++[(⟨(t.rows[i]'aa),l8,l9,Sz⟩:cf)]).map cf.r=t.rows.take (i+1):=(by rw[map_append,hL];exact pN aa)
  have jZ:∀o∈L++[(⟨(t.rows[i]'aa),l8,l9,Sz⟩:cf)],n9 o:=fun o ho=>by rcases mem_append.1 ho with ho|ho;exact aV o ho;rw[mem_singleton] at ho;subst ho;exact yt
  refine AD.one (i:=4) aB ?_;refine nF (cu 0 [_]) [.slice none 0 0] [_] zeroValue43 runUnderlying37 sizeOf43 (fun b26=>?_);refine nG 0 26 1 1 ?_;refine AD.one (i:=5) aB ?_;refine bB.eB (ls:=L) (new:=[(⟨(t.rows[i]'aa),l8,l9,Sz⟩:cf)]) (Sq:=Sx) u9 UX rfl ap rfl rfl underlying37 aaG rfl w8 ot dX (tF (A:=[_,_])) ot bq nB nC (fun O E Z alb=>?_);refine AD.perm (wi (S2:=[⟨O,43,E*1,flatMap gR (L++[(⟨(t.rows[i]'aa),l8,l9,Sz⟩:cf)])⟩]) (A:=[_,_])) ?_;refine AD.perm (S':=⟨b3,77,5,[aZ t.nm,au 2 cC t.ay,aN dz L.length cZ,au 5 cP t.ix.ag,ae t.ix.root]⟩::⟨b2,77,5,[fk,bF,bF,bF,ae 0]⟩::([⟨O,43,E*1,flatMap gR (L++[(⟨(t.rows[i]'aa),l8,l9,Sz⟩:cf)])⟩]++(L++[(⟨(t.rows[i]'aa),l8,l9,Sz⟩:cf)]).flatMap bR)) (jK fun mC=>by rw[TU];simp only[bR,map_append,map_cons,map_nil,sum_append,sum_cons,sum_nil];omega) ?_;refine fw ?_;refine aG 1 ?_;refine aM 0 [_,_,_,_,_] sizeOf37 ?_;refine an 31 [2,3,16,17,18] ?_;refine bX [2,3,16,17,18] ?_;refine⟨((i+1),(L++[(⟨(t.rows[i]'aa),l8,l9,Sz⟩:cf)]),(some ⟨O,0,none⟩),E,[⟨O,43,E*1,flatMap gR (L++[(⟨(t.rows[i]'aa),l8,l9,Sz⟩:cf)])⟩]),_,cn,aJ,w4,vL,jZ,(bM Z alb),rfl⟩
 refine aA 1 ?_;refine aM 1 [_,_,_,_,_] sizeOf77 ?_;refine an 31 [2] ?_;refine aK (Sx++L.flatMap bR) ?_;have pL:L.map cf.r=t.rows:=(by rw[hL,take_of_length_le w4])
 have hLn:t.rows.length=L.length:=(by rw[←pL];(first|rw[length_map]|(unfold au;rw[length_map])))
 exact⟨⟨t,L.flatMap gR,dz,cZ,Sx,L.flatMap bR⟩,rfl,(by unfold gT;rw[hLn]),⟨L,rfl,rfl,aV,pL,dX⟩,rfl⟩
theorem aaH:(Tryz.prog.info? 77).map (fun i=>(i.zero,i.size,i.bytes))=some (some (.agg #[.string ⟨#[]⟩,.slice none 0 0,.slice none 0 0,.slice none 0 0,.int .i64 0]),5,96):=by kernel_rfl
theorem Qi(l:List aH)(hl:l.length≤1000)(H:∀t∈l,zi t):VC Tryz.prog G 29 [.agg [au 5 cX l]] [] (Lj l):=by
 refine VC.body func29 rfl ntmps29 aQ fun X0 w0 bf=>?_;have cY:=dN;refine bS ?_;refine OD.box (ds:=[_]) ap rfl rfl ot rfl rfl (fun b1=>?_);refine OD.alloc (ds:=[_]) ap rfl rfl zeroValue25 rfl (fun b2=>?_);refine an 22 [1,2] ?_;refine bS ?_;refine OD.alloc (ds:=[_]) ap rfl rfl zeroValue25 rfl (fun b3=>?_);refine an 22 [1,2,3] ?_;refine af [2,3,7,8,9] ?_;refine ez [2,3,7,8] (fun aR _ (I:Nat×List aU×Option Addr×Nat×List ah) aD=>match I with|(i,L,dz,cZ,Sx)=>(i≤l.length)∧(L.map aU.t=l.take i)∧(∀o∈L,qt o)∧(xE L dz cZ Sx)∧aD=(⟨22,(9,ae (i:Nat))::aR,(⟨b3,25,1,[aN dz L.length cZ]⟩::⟨b2,25,1,[bF]⟩::(Sx++L.flatMap bT))⟩:St)) (fun (I:Nat×List aU×Option Addr×Nat×List ah)=>match I with|(i,L,dz,cZ,Sx)=>l.length-i) (0,([]:List aU),none,0,[]) ⟨(Nat.zero_le _),rfl,(fun o h=>by cases h),iz,rfl⟩ ?_;rintro⟨i,L,dz,cZ,Sx⟩ _ ⟨hi,hL,aV,dX,rfl⟩;refine af [2,3,7,8,9,10] ?_;refine ax ?_ ?_<;>intro aO bA
 ·have aa:i<l.length:=(by omega)
  have rZ:L.length=i:=(by have:=congrArg length hL;rw[length_map,length_take] at this;omega)
  refine aA 2 ?_;refine OD.alloc (ds:=[_,_,_,_,_]) ap rfl rfl zeroValue77 rfl (fun b5=>?_);refine aM 0 [_,_,_,_,_] sizeOf77 ?_;refine an 22 [2,3,5,7,8,9] ?_;refine gX 6 (av (take 3 _)) ?_ (fun _ h=>(Sublist.map _ (take_sublist _ _)).subset h);refine aC 0 rfl (dF 0) ?_;refine aC 1 rfl (dK 1) ?_;refine aC 2 rfl (cR (mk:=Op.load 77) rfl ot (by first|exact qE (k:=0) (ds:=[_,_,_,_,_]) rfl rfl isAgg77 sizeOf77 rfl rfl|exact kj jW isAgg77 sizeOf77 w5|exact kj uZ isAgg77 sizeOf77 w5|exact dy (k:=0) jW rfl rfl rfl isAgg77 sizeOf77 w5|exact dy (k:=1) jW rfl rfl rfl isAgg77 sizeOf77 w5|exact dy (k:=2) jW rfl rfl rfl isAgg77 sizeOf77 w5|exact dy (k:=0) uZ rfl rfl rfl isAgg77 sizeOf77 w5|exact dy (k:=1) uZ rfl rfl rfl isAgg77 sizeOf77 w5|exact dy (k:=2) uZ rfl rfl rfl isAgg77 sizeOf77 w5|exact qJ (ds:=[_,_,_,_,_]) isAgg77 sizeOf77 rfl rfl)) ?_;refine dH.later rfl ?_;refine AD.one (i:=3) aB ?_;refine bB.call rfl ap rfl rfl rfl call48 (FP (l[i]'aa) (H _ (getElem_mem aa))) ⟨ot,trivial⟩ (fa _) (fun b hb=>by simp[av,St.put] at hb ⊢;first|(simp[hb];done)|(rcases hb with hb|hb<;>simp[hb])|(rcases hb with hb|hb|hb<;>simp[hb])) ?_;rintro _ _ ⟨o,HR,rfl,Dr,rfl⟩;refine AD.perm (kf (A:=[_,_,_])) ?_;have vL:(L++[o]).map aU.t=l.take (i+1):=(by rw[map_append,hL,map_cons,map_nil,HR];exact pN aa)
  have jZ:∀x∈L++[o],qt x:=fun x hx=>by rcases mem_append.1 hx with hx|hx;exact aV x hx;rw[mem_singleton] at hx;subst hx;exact Dr
  refine AD.one (i:=4) aB ?_;refine nF (cu 0 [_]) [.string ⟨#[]⟩,.slice none 0 0,.slice none 0 0,.slice none 0 0,.int .i64 0] [_,_,_,_,_] zeroValue77 runUnderlying23 sizeOf77 (fun b17=>?_);refine nG 0 17 5 1 ?_;refine AD.one (i:=5) aB ?_;refine bB.eB (ls:=L) (new:=[o]) (Sq:=Sx) uZ UY rfl ap rfl rfl underlying23 aaH rfl w8 ot dX (tF (A:=[_,_,_])) ot bq nB nC (fun O E U Z=>?_);refine AD.perm (wi (S2:=[⟨O,77,E*5,flatMap gT (L++[o])⟩]) (A:=[_,_,_])) ?_;have Yf:(bT o++(([⟨O,77,E*5,flatMap gT (L++[o])⟩]:List ah)++L.flatMap bT)).Perm (([⟨O,77,E*5,flatMap gT (L++[o])⟩]:List ah)++(L++[o]).flatMap bT):=(jK fun mC=>by rw[TV];simp only[map_append,map_cons,map_nil,sum_append,sum_cons,sum_nil];omega)
  refine AD.perm (Perm.cons _ (Perm.cons _ (Perm.cons _ Yf))) ?_;refine fw ?_;refine aG 1 ?_;refine aM 1 [_] sizeOf23 ?_;refine an 22 [2,3,7,8,9] ?_;refine bX [2,3,7,8,9] ?_;refine⟨((i+1),(L++[o]),(some ⟨O,0,none⟩),E,[⟨O,77,E*5,flatMap gT (L++[o])⟩]),_,cn,aJ,w4,vL,jZ,(bM U Z),rfl⟩
 refine aA 1 ?_;refine aM 1 [_] sizeOf25 ?_;refine an 22 [2] ?_;refine aK (Sx++L.flatMap bT) ?_;have pL:L.map aU.t=l:=(by rw[hL,take_of_length_le w4])
 exact⟨L,dz,cZ,Sx,rfl,dX,aV,pL,rfl⟩
theorem ab7(l:List aH)(hl:l.length≤1000)(H:∀t∈l,zi t):VP Tryz.prog G 29 [.agg [au 5 cX l]] (.agg [au 5 cX l]):=(Qi l hl H).cover fun r S hr=>hr.view

structure dB (t:aH) (n:Nat):Prop where
 nm:cy t.nm=0
 ay:t.ay=bY
 eI:t.rows.length≤40
 ix:iN t.ix n
 row:∀i (h:i<t.rows.length),t.rows[i]≠[]→Pc.dR bY t.rows[i]=0∧(∀v∈t.rows[i],v.Ok)∧(cH t.rows[i],(i:Int))∈eu t.ix
 gZ:∀x∈eu t.ix,0≤x.2∧∃h:x.2.toNat<t.rows.length,t.rows[x.2.toNat]≠[]∧x.1=cH t.rows[x.2.toNat]
theorem o8{r:List Vl}(h:Pc.dR bY r=0):r.length=4:=by
 unfold Pc.dR at h;rw[if_neg Aj] at h;split at h
 ·cases h
 rename_i h2;exact Decidable.not_not.1 h2
theorem dB.len(g:dB t n){r:List Vl}(hr:r∈t.rows):r=[]∨(r.length=4∧∀v∈r,v.Ok):=by
 obtain⟨i,hi,rfl⟩:=mem_iff_getElem.1 hr;rcases Classical.em (t.rows[i]=[]) with h|h
 ·exact .inl h
 exact .inr ⟨o8 (g.row i hi h).1,(g.row i hi h).2.1⟩
theorem dB.small(g:dB t n):zi t :=
 ⟨by rw[g.ay];decide,Nat.le_trans g.eI w8,fun r hr=>by rcases g.len hr with h|h;rw[h];exact Nat.zero_le _;omega,_,g.ix.val⟩
def rowAt(t:aH)(i:Int):List Vl:=t.rows.getD i.toNat []
theorem iY{i:Int}(h:i.toNat<t.rows.length):rowAt t i=t.rows[i.toNat]:=by unfold rowAt;rw[getD_eq_getElem?_getD,getElem?_eq_getElem h];rfl
def lE(t:aH)(w:List aS):List Int→List (K×Int)→List Int×Int
 | acc,[]=>(acc,0)
 | acc,x::r=>if 0<w.length then (if (dZ t.ay (rowAt t x.2) w).2≠0 then ([],(dZ t.ay (rowAt t x.2) w).2) else if (dZ t.ay (rowAt t x.2) w).1.n≠1 then lE t w acc r else lE t w (acc++[x.2]) r) else lE t w (acc++[x.2]) r
noncomputable def aq(t:aH)(w:List aS):List Int×Int:=if (iK t.ay w).2≠0 then ([],(iK t.ay w).2) else lE t w [] (oZ t.ix (iK t.ay w).1.1 (iK t.ay w).1.2)
def CG(p:List Int×Int)(r:D)(S:List ah):Prop:=∃ad cap,r = .dh [aN ad p.1.length cap,ae p.2]∧bg 3 1 (p.1.flatMap Tw.cI) p.1.length ad cap S
theorem CG.view{r:D}(h:CG p r S):View S r (.dh [au 1 Tw.cI p.1,ae p.2]):=by
 obtain⟨ad,cap,rfl,ho⟩:=h;exact EK ⟨lq ho (cm Tw.eG _) (fun B h=>h),eO,trivial⟩
theorem CG.flat{r:D}(h:CG p r S):kp r=true∧∀B∈S,∀d∈B.cs,kp d=true:=by
 obtain⟨ad,cap,rfl,ho⟩:=h;refine⟨rfl,fun B E d hd=>?_⟩;rcases ho with ⟨_,_,_,_,rfl⟩|⟨b,_,_,_,rfl⟩
 ·cases E
 rw[mem_singleton] at E;subst E;obtain⟨n,_,hn⟩:=mem_flatMap.1 hd;rw[Tw.cI,mem_singleton] at hn;subst hn;rfl
theorem EX{t:aF}{f u:K}:∀x∈oZ t f u,x∈eu t:=fun x hx=>by
 unfold oZ wV at hx;have h1:=(takeWhile_sublist _).subset hx;unfold nw at h1;exact(mem_filter.1 h1).1
theorem RR{t:aF}(g:iN t n)(f u:K):(oZ t f u).length≤16000:=by
 unfold oZ wV;exact Nat.le_trans (takeWhile_sublist _).length_le (RI g.val f)
theorem TW(l:List Vl):(ga l).1.length≤100:=by
 unfold ga;repeat' split
 all_goals first|exact Nat.zero_le _|(simp only;omega)
def Sm(b:lp):Prop:=b.1.length≤100∧b.2.length≤100
theorem TX{key:ByteArray}{ops:List aS}{no:Bool}{b:lp}(h:Sm b):Sm (nu key ops no b):=by
 have hk:(zU ops).length≤100:=TW _;have hl:∀b,Sm b→Sm (oD (zU ops) b):=fun b h=>by unfold oD;split;exact⟨hk,h.2⟩;exact h
 have E:∀b,Sm b→Sm (sD (zU ops) b):=fun b h=>by unfold sD;split;exact⟨h.1,hk⟩;exact h
 unfold nu;split
 ·exact h
 split
 ·exact h
 unfold vp;cases(nN ops (ops.length-1)==6||(dA (mr key) (ops.take 2)==0)!=no)<;>cases(nN ops (ops.length-1)==6||(dA (mr key) (ops.take 2)==0)==no)<;>first|exact h|exact hl _ h|exact E _ h|exact E _ (hl _ h)
theorem KN{key:ByteArray}:∀(f:Nat) (ops:List aS) (b:lp),Sm b→Sm (gk key f ops b)
 | 0,_,_,h=>h
 | f+1,ops,b,h=>by
  unfold gk;split
  ·exact KN f _ _ (KN f _ _ h)
  split
  ·exact TX h
  exact TX h
theorem ag4(l:List cx)(ops:List aS):Sm (iK l ops).1:=by
 have h0:Sm (([],[]):lp):=⟨Nat.zero_le _,Nat.zero_le _⟩
 unfold iK;repeat' split
 all_goals first|exact h0|exact KN _ _ _ h0
theorem Qj:(Tryz.prog.info? 3).map (fun i=>(i.zero,i.size,i.bytes))=some (some (.int .i64 0),1,8):=by kernel_rfl
theorem KO(hm:(3,marksC)∈G)(hw:(1,wordsC)∈G)(ht:(0,typesC)∈G)(hG:(2,[Value.int .i64 m])∈G)(t:aH)(g:dB t n)(w:List aS)(ho:∀o∈w,o.nm.size≤maxLen)(fT:∀o∈w,o.v.Ok):VC Tryz.prog G 110 [.agg (cX t),au 5 cO w] [] (CG (aq t w)):=by
 refine VC.body func110 rfl ntmps110 aQ fun X0 w0 bf=>?_;have AS:=ag4 t.ay w;have qV:=aby (G:=G) hm hw ht hG t.ay xL xK w ho fT;unfold NW at qV;have cY:=dN;have AT:=UW (G:=G) g.ix (iK t.ay w).1.1 (iK t.ay w).1.2 AS.1 AS.2;unfold Tw.cT at AT;have mY:=RR g.ix (iK t.ay w).1.1 (iK t.ay w).1.2;generalize hL:(oZ t.ix (iK t.ay w).1.1 (iK t.ay w).1.2)=L at *;unfold cX;have LL:∀x∈L,x∈eu t.ix:=fun x hx=>EX x (hL ▸ hx);refine bS ?_;refine OD.box (ds:=[_,_,_,_,_]) ap rfl rfl ot rfl rfl (fun b2=>?_);refine an 70 [1,2] ?_;refine cL [1,2,6,7,8] (qV) ?_;refine af [1,2,6,7,8,25] ?_;refine ax ?_ ?_<;>intro aO bA
 ·have hne:(iK t.ay w).2≠0:=(by simpa using aO)
  have aW:aq t w=([],(iK t.ay w).2):=if_pos hne;refine af [4,5] ?_;refine aK [] ?_;rw[aW];exact⟨none,0,rfl,iz⟩
 have hz:(iK t.ay w).2=0:=(by simpa using aO)
 have aiy:aq t w=lE t w [] (L.drop 0):=(by unfold aq;rw[if_neg (by simp[hz]),hL,drop_zero])
 refine cL [1,2,9] (AT) ?_;refine bS ?_;refine bp [1,2,9,11] ?_;refine af [1,2,11,35,36,37] ?_;refine ez [1,2,35,36] (fun aR _ (O:Nat×List Int×Option Addr×Nat×List ah) aD=>match O with|(k,acc,dz,cZ,Sx)=>(k≤L.length)∧((acc).length≤k)∧(aq t w=lE t w acc (L.drop k))∧(bg 3 1 ((acc).flatMap Tw.cI) (acc).length dz cZ Sx)∧aD=(⟨70,(11,aN dz (acc).length cZ)::(37,ae (k:Nat))::aR,(⟨b2,77,5,[aZ t.nm,au 2 cC t.ay,au 1 gl t.rows,au 5 cP t.ix.ag,ae t.ix.root]⟩::Sx)⟩:St)) (fun (O:Nat×List Int×Option Addr×Nat×List ah)=>match O with|(k,acc,dz,cZ,Sx)=>L.length-k) (0,([]:List Int),none,0,[]) ⟨(Nat.zero_le _),(Nat.zero_le _),aiy,(bg.cast iz k8),rfl⟩ ?_;rintro⟨k,acc,dz,cZ,Sx⟩ _ ⟨hk,rR,aW,dX,rfl⟩;refine af [1,2,11,35,36,37,38] ?_;refine ax ?_ ?_<;>intro aY cz
 ·have aa:k<L.length:=(by omega)
  obtain⟨fH,U,mo,Nd⟩:=g.gZ _ (LL _ (getElem_mem aa));have E:=iY (t:=t) U;have js:L.drop k=(L[k]'aa)::L.drop (k+1):=drop_eq_getElem_cons aa;have hrw:=(g.row _ U mo).2.1;have hr4:=o8 (g.row _ U mo).1;refine aA 2 ?_;refine OD.alloc (ds:=[_,_]) ap rfl rfl zeroValue92 rfl (fun lN=>?_);refine aM 0 [_,_] sizeOf92 ?_;refine an 70 [1,2,11,13,35,36,37] ?_;refine af [1,2,11,13,35,36,37,43] ?_;refine ax ?_ ?_<;>intro cc cN
  ·have Z:0<w.length:=(by omega)
   have uF:=J1 (G:=G) hm hw ht t.ay xL xK (t.rows[(L[k]'aa).2.toNat]) w4 hrw w ho fT;rw[←E] at uF;unfold mI at uF;rw[E] at uF;refine CD.seq ?_;refine s8 14 13 [1,2,11,13,14,35,36,37,55,56] ?_;refine aP 6 ?_ (h:=by exact(dw 1 (h:=by first|exact .l (j:=(L[k]'aa).2.toNat) (Int.toNat_of_nonneg fH).symm U|exact .r (j:=(L[k]'aa).2.toNat) (Int.toNat_of_nonneg fH).symm U)));refine cJ (uF) ?_;refine mG 3 ?_;refine pA ?_;refine jI ?_;refine⟨rfl,fun AO=>?_⟩;refine aM 0 [_,_,_] sizeOf33 ?_;refine an 70 [1,2,11,13,14,15,35,36,37] ?_;refine af [1,2,11,13,14,15,35,36,37,58] ?_;refine ax ?_ ?_<;>intro cQ ek
   ·have hne:(dZ t.ay (rowAt t (L[k]'aa).2) w).2≠0:=(by rw[E];simpa using cQ)
    have I:aq t w=([],(dZ t.ay (rowAt t (L[k]'aa).2) w).2):=(by rw[aW,js,lE,if_pos Z,if_pos hne])
    rw[E] at I;refine af [4,5] ?_;refine aK [] ?_;rw[I];exact⟨none,0,rfl,iz⟩
   have hne:¬(dZ t.ay (rowAt t (L[k]'aa).2) w).2≠0:=(by rw[E];simpa using cQ)
   refine af [1,2,11,13,35,36,37,62] ?_;refine ax ?_ ?_<;>intro dV fB
   ·have gw:(dZ t.ay (rowAt t (L[k]'aa).2) w).1.n≠1:=(by rw[E];simpa using dV)
    have nf:aq t w=lE t w acc (L.drop (k+1)):=(by rw[aW,js,lE,if_pos Z,if_neg hne,if_pos gw])
    refine bX [1,2,11,35,36,37] ?_;refine⟨((k+1),acc,dz,cZ,Sx),_,cn,aJ,w4,w4,nf,(bg.cast dX k8),rfl⟩
   have gw:¬(dZ t.ay (rowAt t (L[k]'aa).2) w).1.n≠1:=(by rw[E];simpa using dV)
   have nf:aq t w=lE t w (acc++[(L[k]'aa).2]) (L.drop (k+1)):=(by rw[aW,js,lE,if_pos Z,if_neg hne,if_neg gw])
   refine dG 3 ?_;refine ew (cu 0 [_]) [.int .i64 0] [_] zeroValue3 runUnderlying70 sizeOf3 (fun pH=>?_);refine fS 0 66 1 1 ?_;refine OD.eB (ls:=(acc)) (new:=[(L[k]'aa).2]) (Sq:=Sx) Tw.eG Tw.nP ap rfl rfl underlying70 Qj rfl w8 ot dX (dg (A:=[_,_,_])) ot bq nB nC (fun qY rL Gp Gq=>?_);refine OD.perm (dW (S1:=[⟨qY,3,rL*1,flatMap Tw.cI ((acc)++[(L[k]'aa).2])⟩]) (A:=[_,_,_])) ?_;exact Xp
  have Z:¬0<w.length:=(by omega)
  have nf:aq t w=lE t w (acc++[(L[k]'aa).2]) (L.drop (k+1)):=(by rw[aW,js,lE,if_neg Z])
  refine dG 3 ?_;refine ew (cu 0 [_]) [.int .i64 0] [_] zeroValue3 runUnderlying70 sizeOf3 (fun pH=>?_);refine fS 0 66 1 1 ?_;refine OD.eB (ls:=(acc)) (new:=[(L[k]'aa).2]) (Sq:=Sx) Tw.eG Tw.nP ap rfl rfl underlying70 Qj rfl w8 ot dX (dg (A:=[_,_])) ot bq nB nC (fun qY rL Gp Gq=>?_);refine OD.perm (dW (S1:=[⟨qY,3,rL*1,flatMap Tw.cI ((acc)++[(L[k]'aa).2])⟩]) (A:=[_,_])) ?_;exact Xp
 have I:aq t w=(acc,0):=(by rw[aW,drop_of_length_le w4];rfl)
 refine af [4,5] ?_;refine aK Sx ?_;rw[I];exact⟨dz,cZ,rfl,dX⟩

end Go.Proofs.YtkgmonfgofobaaaGreatDoor.Ba
namespace Go.Proofs.YtkgmonfgofobaaaGreatDoor.So
open List
open Go.Proofs.Tryz
variable {α:Type} {R:α→α→Prop} {l L M X Y:List α} {x y:α} {k:Nat}
theorem It(ht:∀{x y z:α},R x y→R y z→R x z)(hs:L.Pairwise R)(hk:k≤L.length)(h:k=0∨∃h:k-1<L.length,R (L[k-1]) x):∀z∈L.take k,R z x:=by
 intro z hz;obtain⟨i,hi,rfl⟩:=mem_iff_getElem.1 hz;rw[length_take] at hi;rw[getElem_take];rcases h with rfl|⟨h1,h2⟩
 ·omega
 rcases Nat.lt_or_ge i (k-1) with h3|h3
 ·exact ht (pairwise_iff_getElem.1 hs i (k-1) w4 h1 h3) h2
 have:i=k-1:=(by omega)
 subst this;exact h2
theorem Ih(ht:∀{x y z:α},R x y→R y z→R x z)(hs:L.Pairwise R)(h:k=L.length∨∃h:k<L.length,R x (L[k])):∀z∈L.drop k,R x z:=by
 intro z hz;obtain⟨i,hi,rfl⟩:=mem_iff_getElem.1 hz;rw[length_drop] at hi;rw[getElem_drop];rcases h with rfl|⟨h1,h2⟩
 ·omega
 rcases Nat.eq_zero_or_pos i with rfl|h3
 ·simpa using h2
 exact ht h2 (pairwise_iff_getElem.1 hs k (k+i) h1 w4 w4)
theorem adS(hs:(X++Y).Pairwise R)(h1:∀z∈X,R z x)(h2:∀z∈Y,R x z):(X++x::Y).Pairwise R:=by
 rw[pairwise_append] at hs ⊢;obtain⟨p1,p2,p3⟩:=hs;refine⟨p1,pairwise_cons.2 ⟨h2,p2⟩,fun a ha b hb=>?_⟩;rcases mem_cons.1 hb with rfl|hb
 ·exact h1 a ha
 exact p3 a ha b hb
theorem TY(ht:∀{x y z:α},R x y→R y z→R x z)(hs:L.Pairwise R)(hk:k≤L.length)(h1:k=0∨∃h:k-1<L.length,R (L[k-1]) x)(h2:k=L.length∨∃h:k<L.length,R x (L[k])):(L.take k++x::L.drop k).Pairwise R :=
 adS (by rw[take_append_drop];exact hs) (It ht hs hk h1) (Ih ht hs h2)
theorem ab8 (ht:∀{x y z:α},R x y→R y z→R x z) {A B:List α} {i j:Nat} (ha:A.Pairwise R) (hb:B.Pairwise R) (hi:i≤A.length) (hj:j≤B.length)
  (h1:i=0∨j=B.length∨∃(p:i-1<A.length) (q:j<B.length),R A[i-1] B[j]) (h2:j=0∨i=A.length∨∃(p:j-1<B.length) (q:i<A.length),R B[j-1] A[i]) :
  ∀a∈A.take i++B.take j,∀b∈A.drop i++B.drop j,R a b:=by
 have E:∀a∈A.take i,∀b∈A.drop i,R a b:=(by rw[←take_append_drop i A] at ha;exact(pairwise_append.1 ha).2.2)
 have I:∀a∈B.take j,∀b∈B.drop j,R a b:=(by rw[←take_append_drop j B] at hb;exact(pairwise_append.1 hb).2.2)
 intro a hm b hn;rcases mem_append.1 hm with hm|hm<;>rcases mem_append.1 hn with hn|hn
 ·exact E a hm b hn
 ·rcases h1 with rfl|rfl|⟨p,q,hr⟩
  ·simp at hm
  ·simp at hn
  exact It (R:=R) ht ha hi (.inr ⟨p,by
   rcases Ih (R:=R) ht hb (k:=j) (x:=A[i-1]) (.inr ⟨q,hr⟩) b hn with h
   exact h⟩) a hm
 ·rcases h2 with rfl|rfl|⟨p,q,hr⟩
  ·simp at hm
  ·simp at hn
  exact It (R:=R) ht hb hj (.inr ⟨p,Ih (R:=R) ht ha (k:=i) (x:=B[j-1]) (.inr ⟨q,hr⟩) b hn⟩) a hm
 exact I a hm b hn
theorem IZ{l1 l2:List α}:((l1++x::y::l2).set l1.length y).set (l1.length+1) x=l1++y::x::l2:=by
 rw[set_append_right _ _ (Nat.le_refl _),Nat.sub_self,set_cons_zero,set_append_right _ _ w4,show l1.length+1-l1.length=1 by omega,set_cons_succ,set_cons_zero]
def sw(l:List Int)(i j:Nat):List Int:=(l.set i (l.getD j 0)).set j (l.getD i 0)
theorem ag5{l:List Int}{i j:Nat}:(sw l i j).length=l.length:=by unfold sw;simp
theorem mO{l:List Int}{i:Nat}(h:i<l.length):l.getD i 0=l[i]:=by simp[h]
def j7(l:List Int)(a b:Nat):Nat→List Int
 | 0=>l
 | k+1=>sw (j7 l a b k) (a+k) (b+k)
theorem BB{l:List Int}{a b:Nat}:∀{k:Nat},(j7 l a b k).length=l.length
 | 0=>rfl
 | k+1=>by rw[j7,ag5,BB]
theorem TZ{l:List Int}{a b:Nat}:∀{k:Nat},a+k≤b→b+k≤l.length→∀j,(j7 l a b k)[j]?=if a≤j∧j<a+k then l[b+(j-a)]? else if b≤j∧j<b+k then l[a+(j-b)]? else l[j]?
 | 0,_,_,j=>by rw[if_neg w4,if_neg w4];try rfl
 | k+1,h1,h2,j=>by
  have E:=TZ (l:=l) (a:=a) (b:=b) (k:=k) w4 w4;have e1:(j7 l a b k).getD (b+k) 0=l.getD (b+k) 0:=(by rw[getD_eq_getElem?_getD,E,if_neg w4,if_neg w4,getD_eq_getElem?_getD])
  have e2:(j7 l a b k).getD (a+k) 0=l.getD (a+k) 0:=(by rw[getD_eq_getElem?_getD,E,if_neg w4,if_neg w4,getD_eq_getElem?_getD])
  rw[j7,sw,e1,e2,getElem?_set,getElem?_set,length_set,BB,E];by_cases q1:b+k=j
  ·subst q1;rw[if_pos rfl,if_pos w4,if_neg w4,if_pos w4,mO w4,show a+(b+k-b)=a+k by omega,getElem?_eq_getElem w4]
  rw[if_neg q1];by_cases q2:a+k=j
  ·subst q2;rw[if_pos rfl,if_pos w4,if_pos w4,mO w4,show b+(a+k-a)=b+k by omega,getElem?_eq_getElem w4]
  rw[if_neg q2];simp only[show(a≤j∧j<a+(k+1))↔(a≤j∧j<a+k) by omega,show(b≤j∧j<b+(k+1))↔(b≤j∧j<b+k) by omega]
theorem Kh{P U M W Q:List Int}(h:U.length=W.length):j7 (P++(U++(M++(W++Q)))) P.length (P.length+U.length+M.length) U.length=P++(W++(M++(U++Q))):=by
 refine ext_getElem? fun j=>?_;rw[TZ w4 (by simp only[length_append];omega)];simp only[getElem?_append];repeat' split
 all_goals first|omega|(congr 1<;>omega)
def r9(T cur:List Int)(m i j:Nat):Prop:=∃P X Y Q,cur=P++(X++(Y++Q))∧X.length=i∧Y.length=j∧P.length+i=m∧T=P++(Y++(X++Q))
variable {T cur:List Int} {m i j:Nat}
theorem r9.len(h:r9 T cur m i j):i≤m∧m+j≤cur.length∧T.length=cur.length:=by
 obtain⟨P,X,Y,Q,rfl,rfl,rfl,hm,rfl⟩:=h;simp only[length_append];omega
theorem ag6(h:r9 T cur m i j)(E:j<i):r9 T (j7 cur (m-i) m j) m (i-j) j:=by
 obtain⟨P,X,Y,Q,rfl,rfl,rfl,hm,rfl⟩:=h;have l1:(X.take Y.length).length=Y.length:=(by rw[length_take];omega)
 have l2:(X.drop Y.length).length=X.length-Y.length:=length_drop;have e:=Kh (P:=P) (U:=X.take Y.length) (M:=X.drop Y.length) (W:=Y) (Q:=Q) l1;rw[l1,l2,←append_assoc (X.take _) (X.drop _),take_append_drop,show P.length+Y.length+(X.length-Y.length)=m by omega,show P.length=m-X.length by omega] at e;exact⟨P++Y,X.drop Y.length,X.take Y.length,Q,by rw[e];simp,l2,l1,by rw[length_append];omega,by rw[←append_assoc (X.take _) (X.drop _),take_append_drop];simp⟩
theorem ag7(h:r9 T cur m i j)(E:i<j):r9 T (j7 cur (m-i) (m+j-i) i) m i (j-i):=by
 obtain⟨P,X,Y,Q,rfl,rfl,rfl,hm,rfl⟩:=h;have l1:(Y.take (Y.length-X.length)).length=Y.length-X.length:=(by rw[length_take];omega)
 have l2:(Y.drop (Y.length-X.length)).length=X.length:=(by rw[length_drop];omega)
 have e:=Kh (P:=P) (U:=X) (M:=Y.take (Y.length-X.length)) (W:=Y.drop (Y.length-X.length)) (Q:=Q) l2.symm;rw[l1,←append_assoc (Y.take _) (Y.drop _),take_append_drop,show P.length+X.length+(Y.length-X.length)=m+Y.length-X.length by omega,show P.length=m-X.length by omega] at e;exact⟨P,Y.drop (Y.length-X.length),Y.take (Y.length-X.length),X++Q,e,l2,l1,hm,by rw[←append_assoc (Y.take _) (Y.drop _),take_append_drop]⟩
theorem ag8(h:r9 T cur m i i):j7 cur (m-i) m i=T:=by
 obtain⟨P,X,Y,Q,rfl,rfl,hl,hm,rfl⟩:=h;have e:=Kh (P:=P) (U:=X) (M:=[]) (W:=Y) (Q:=Q) hl.symm;rw[length_nil,Nat.add_zero,show P.length+X.length=m by omega,show P.length=m-X.length by omega] at e;simpa using e

end Go.Proofs.YtkgmonfgofobaaaGreatDoor.So
namespace Go.Proofs.YtkgmonfgofobaaaGreatDoor.So
open List
open Go.Proofs.Tryz
open Go.RowKit V Tw
variable {G:List (Nat×List Value)}
theorem Ki(l:List Int)(E la lb k cap I:Nat)(eA:D)(Sc:List ah)(gp:l.length=E)(h1:la+k≤lb)(h2:lb+k≤E)(h3:E≤cap)(h4:cap≤maxLen):VC Tryz.prog G 184 [aN (some ⟨I,0,none⟩) E cap,ae (la:Nat),ae (lb:Nat),ae (k:Nat),eA] (⟨I,3,cap*1,(l).flatMap cI⟩::Sc) (fun r S'=>r = .dh []∧S'=⟨I,3,cap*1,(j7 l la lb k).flatMap cI⟩::Sc):=by
 refine VC.body func184 rfl ntmps184 aQ fun X0 w0 bf=>?_;have cY:=dN;refine af [0,1,2,3,10] ?_;refine ez [0,1,2,3] (fun aR _ (i:Nat) aD=>(i≤k)∧aD=(⟨38,(10,ae (i:Nat))::aR,(⟨I,3,cap*1,(j7 l la lb i).flatMap cI⟩::Sc)⟩:St)) (fun (i:Nat)=>k-i) 0 ⟨(Nat.zero_le _),rfl⟩ ?_;rintro i _ ⟨hi,rfl⟩;refine af [0,1,2,3,10,13] ?_;refine ax ?_ ?_<;>intro aO bA
 ·have O:i<k:=(by omega)
  have hlen:(j7 l la lb i).length=E:=(by rw[BB,gp])
  have ha:la+i<(j7 l la lb i).length:=(by omega)
  have hb:lb+i<(j7 l la lb i).length:=(by omega)
  refine CD.skip ?_;refine CD.seq ?_;refine CD.block ?_;refine gX 22 (av (eraseIdx _ 0)) ?_ (fun _ h=>(Sublist.map _ (eraseIdx_sublist _ 0)).subset h);refine aC 0 rfl bG ?_;refine aC 1 rfl bG ?_;refine aC 2 rfl bG ?_;refine aC 3 rfl ql ?_;refine aC 4 rfl bG ?_;refine aC 5 rfl bG ?_;refine aC 6 rfl bG ?_;refine aC 7 rfl ql ?_;refine aC 8 rfl bG ?_;refine aC 9 rfl bG ?_;refine aC 10 rfl bG ?_;refine aC 11 rfl ql ?_;refine aC 12 rfl (dw 1) ?_;refine aC 14 rfl bG ?_;refine aC 15 rfl bG ?_;refine aC 16 rfl bG ?_;refine aC 17 rfl ql ?_;refine aC 18 rfl (dw 1) ?_;refine dH.later rfl ?_;refine AD.two (i:=13) (j:=19) aB ?_ ?_
  ·refine at_ rfl eW ?_;refine AD.one (i:=19) aB ?_;exact Xe
  refine at_ rfl eW ?_;refine AD.one (i:=13) aB ?_;exact Xe
 obtain rfl:i=k:=(by omega)
 refine aK _ ?_;exact⟨by first|rfl|(simp[*];done),rfl⟩

theorem ag9(l Tt:List Int)(Z a m b cap bd:Nat)(eA:D)(Sc:List ah)(h:r9 Tt l m (m-a) (b-m))(h1:a<m)(h2:m<b)(gp:l.length=Z)(E:Z≤cap)(I:cap≤maxLen):VC Tryz.prog G 177 [aN (some ⟨bd,0,none⟩) Z cap,ae (a:Nat),ae (m:Nat),ae (b:Nat),eA] (⟨bd,3,cap*1,(l).flatMap cI⟩::Sc) (fun r S'=>r = .dh []∧S'=⟨bd,3,cap*1,(Tt).flatMap cI⟩::Sc):=by
 refine VC.body func177 rfl ntmps177 aQ fun X0 w0 bf=>?_;have cY:=dN;have hlen:=h.len;refine cM [0,2,3,4,10] ?_;refine aP 2 ?_ (h:=by exact(dj rfl ot ot (gN (r:=((m-a:Nat):Int)) qT)));refine bD ?_;refine cM [0,2,4,10,11] ?_;refine aP 2 ?_ (h:=by exact(dj rfl ot ot (gN (r:=((b-m:Nat):Int)) qT)));refine bD ?_;refine ez [0,2,4] (fun aR _ (O:Nat×Nat×List Int) aD=>match O with|(i,j,cur)=>(r9 Tt cur m i j)∧(0<i)∧(0<j)∧((cur).length=Z)∧aD=(⟨58,(10,ae (i:Nat))::(11,ae (j:Nat))::aR,(⟨bd,3,cap*1,(cur).flatMap cI⟩::Sc)⟩:St)) (fun (O:Nat×Nat×List Int)=>match O with|(i,j,cur)=>i+j) ((m-a),(b-m),l) ⟨h,w4,w4,gp,rfl⟩ ?_;rintro⟨i,j,cur⟩ _ ⟨hr,hi,hj,U,rfl⟩;refine af [0,2,4,10,11,20] ?_;refine ax ?_ ?_<;>intro aO bA
 ·have rm:=hr.len;have hne:i≠j:=(by omega)
  refine af [0,2,4,10,11,23] ?_;refine ax ?_ ?_<;>intro aY cz
  ·have HS:j<i:=(by omega)
   refine aA 3 ?_;refine bQ (dj rfl ot ot (gN (r:=((m-i:Nat):Int)) qT)) ?_;refine aG 3 ?_;refine OD.call (R:=Sc) ap rfl rfl rfl call184 (Ki cur Z (m-i) m j cap bd eA [] U w4 w4 E I) ⟨ot,ot,ot,ot,ot,trivial⟩ (Perm.refl _) ?_;rintro _ _ ⟨rfl,rfl⟩;refine an 58 [0,2,4,10,11] ?_;refine gC [0,2,4,10,11] ?_;refine aP 2 ?_ (h:=by exact(dj rfl ot ot (gN (r:=((i-j:Nat):Int)) qT)));refine bD ?_;refine⟨((i-j),j,(j7 cur (m-i) m j)),_,cn,aJ,(ag6 hr HS),w4,hj,(by rw[BB];exact U),rfl⟩
  have aa:i<j:=(by omega)
  refine aA 3 ?_;refine bQ (dj rfl ot ot (gN (r:=((m-i:Nat):Int)) qT)) ?_;refine aG 4 ?_;refine bQ (dj rfl ot ot (gN (r:=((m+j-i:Nat):Int)) (by rw[show((m:Int)+j-i)=((m+j-i:Nat):Int) by omega];exact wrap_i64 w4 w4))) ?_;refine aG 2 ?_;refine OD.call (R:=Sc) ap rfl rfl rfl call184 (Ki cur Z (m-i) (m+j-i) i cap bd eA [] U w4 w4 E I) ⟨ot,ot,ot,ot,ot,trivial⟩ (Perm.refl _) ?_;rintro _ _ ⟨rfl,rfl⟩;refine an 58 [0,2,4,10,11] ?_;refine gC [0,2,4,10,11] ?_;refine aP 2 ?_ (h:=by exact(dj rfl ot ot (gN (r:=((j-i:Nat):Int)) qT)));refine bD ?_;refine⟨(i,(j-i),(j7 cur (m-i) (m+j-i) i)),_,cn,aJ,(ag7 hr aa),hi,w4,(by rw[BB];exact U),rfl⟩
 have rm:=hr.len;obtain rfl:i=j:=(by omega)
 have he:=ag8 hr;refine dG 3 ?_;refine bQ (dj rfl ot ot (gN (r:=((m-i:Nat):Int)) qT)) ?_;refine aG 3 ?_;refine OD.call (R:=Sc) ap rfl rfl rfl call184 (Ki cur Z (m-i) m i cap bd eA [] U w4 w4 E I) ⟨ot,ot,ot,ot,ot,trivial⟩ (Perm.refl _) ?_;rintro _ _ ⟨rfl,rfl⟩;refine an 58 [] ?_;refine aK _ ?_;exact⟨rfl,by rw[he];rfl⟩

end Go.Proofs.YtkgmonfgofobaaaGreatDoor.So
namespace Go.Proofs.YtkgmonfgofobaaaGreatDoor.So
open List
open Go.Proofs.Tryz
variable {x y:Int} {Z S:List Int} {cF:Int→Int→Int}
def oN(R:Int→Int→Prop)(l0 l:List Int)(a i:Nat):Prop :=
 ∃(P A B A0:List Int),l=P++(A++B)∧P.length=a∧a+A.length=i∧A.Pairwise R∧A.Perm A0∧l0=P++(A0++B)
def sS(R:Int→Int→Prop)(l0 l:List Int)(a i j:Nat):Prop :=
 ∃(P A:List Int) (x:Int) (B A0:List Int) (k:Nat),l=P++(A.take k++x::(A.drop k++B))∧P.length=a∧k≤A.length∧a+k=j∧a+A.length=i∧A.Pairwise R∧(k=A.length∨∃h:k<A.length,R x A[k])∧A.Perm A0∧l0=P++(A0++x::B)
variable {R Lt:Int→Int→Prop} {l0 l:List Int} {a i j:Nat}
theorem sS.len(h:sS R l0 l a i j):a≤j∧j≤i∧i<l.length∧l.length=l0.length:=by
 obtain⟨P,A,x,B,E,k,rfl,rfl,hk,rfl,rfl,hs,hx,hp,rfl⟩:=h;have:=hp.length_eq;simp only[length_append,length_cons,length_take,length_drop];omega
theorem Jn(h:a≤l.length):oN R l l a a :=
 ⟨l.take a,[],l.drop a,[],by simp,by rw[length_take];omega,by simp,Pairwise.nil,.refl _,by simp⟩
theorem afC(h:a<l.length):oN R l l a (a+1) :=
 ⟨l.take a,[l[a]],l.drop (a+1),[l[a]],by simp,by rw[length_take];omega,by simp,pairwise_singleton _ _,.refl _,by simp⟩
theorem ab9(h:oN R l0 l a i)(hi:i<l.length):sS R l0 l a i i:=by
 obtain⟨P,A,B,E,rfl,rfl,rfl,hs,hp,rfl⟩:=h;cases B with
 | nil=>simp at hi
 | cons x B=>exact⟨P,A,x,B,E,A.length,by simp,rfl,Nat.le_refl _,rfl,rfl,hs,.inl rfl,hp,rfl⟩
theorem Fv{P A B:List Int}{k:Nat}(hk:k<A.length):P++(A.take (k+1)++x::(A.drop (k+1)++B))=(P++A.take k)++A[k]::x::(A.drop (k+1)++B):=by
 rw[take_succ_eq_append_getElem hk];simp only[append_assoc,singleton_append]
theorem DU(n:Nat)(hn:n=Z.length)(h:n<(Z++y::S).length):(Z++y::S)[n]'h=y:=by subst hn;simp
theorem DV(n:Nat)(hn:n=Z.length+1)(h:n<(Z++y::x::S).length):(Z++y::x::S)[n]'h=x:=by subst hn;simp[getElem_append_right]
theorem aaX(h:sS R l0 l a i j)(hj:a<j)(h1:j<l.length)(h0:j-1<l.length)(hr:R l[j] l[j-1]):sS R l0 ((l.set j l[j-1]).set (j-1) l[j]) a i (j-1):=by
 obtain⟨P,A,x,B,E,k,rfl,rfl,hk,rfl,rfl,hs,hx,hp,rfl⟩:=h;obtain⟨k,rfl⟩:∃m,k=m+1:=⟨k-1,by omega⟩
 have e:=Fv (P:=P) (B:=B) (x:=x) hk;have hl:(P++A.take k).length=P.length+k:=(by rw[length_append,length_take];omega)
 simp only[e] at hr ⊢;rw[DU (P.length+(k+1)-1) w4,DV (P.length+(k+1)) w4] at hr ⊢;refine⟨P,A,x,B,E,k,?_,rfl,by omega,by omega,rfl,hs,.inr ⟨hk,hr⟩,hp,rfl⟩;rw[set_comm _ _ w4,show P.length+(k+1)-1=(P++A.take k).length by omega,show P.length+(k+1)=(P++A.take k).length+1 by omega,IZ];rw[show A.drop k=A[k]::A.drop (k+1) from drop_eq_getElem_cons hk];simp only[append_assoc,cons_append]
theorem acz(ht:∀{x y z:Int},R x y→R y z→R x z)(h:sS R l0 l a i j)(h1:j<l.length)(h0:j-1<l.length)(hr:j=a∨R l[j-1] l[j]):oN R l0 l a (i+1):=by
 obtain⟨P,A,x,B,E,k,rfl,rfl,hk,rfl,rfl,hs,hx,hp,rfl⟩:=h;refine⟨P,A.take k++x::A.drop k,B,E++[x],by simp,rfl,by simp;omega,TY ht hs hk ?_ hx,?_,by simp⟩
 ·rcases Nat.eq_zero_or_pos k with rfl|hp
  ·exact .inl rfl
  right;obtain⟨k,rfl⟩:∃m,k=m+1:=⟨k-1,by omega⟩
  refine⟨by omega,?_⟩;rcases hr with hr|hr
  ·omega
  have e:=Fv (P:=P) (B:=B) (x:=x) hk;have hl:(P++A.take k).length=P.length+k:=(by rw[length_append,length_take];omega)
  simp only[e] at hr;rw[DU (P.length+(k+1)-1) w4,DV (P.length+(k+1)) w4] at hr;exact hr
 refine List.perm_middle.trans ?_;rw[take_append_drop];exact(Perm.cons x hp).trans (perm_append_singleton x E).symm
theorem aey(h:sS R l0 l a i j)(hj:a<j)(h1:j<l.length)(h0:j-1<l.length)(hq:(l0.drop a).Pairwise Lt):Lt l[j-1] l[j]:=by
 obtain⟨P,A,x,B,E,k,rfl,rfl,hk,rfl,rfl,hs,hx,hp,rfl⟩:=h;obtain⟨k,rfl⟩:∃m,k=m+1:=⟨k-1,by omega⟩
 have e:=Fv (P:=P) (B:=B) (x:=x) hk;have hl:(P++A.take k).length=P.length+k:=(by rw[length_append,length_take];omega)
 simp only[e];rw[DU (P.length+(k+1)-1) w4,DV (P.length+(k+1)) w4];rw[drop_left' rfl,pairwise_append] at hq;exact hq.2.2 _ (hp.subset (getElem_mem hk)) x (mem_cons_self)
theorem sS.perm(h:sS R l0 l a i j):l.Perm l0:=by
 obtain⟨P,A,x,B,E,k,rfl,rfl,hk,rfl,rfl,hs,hx,hp,rfl⟩:=h;refine(perm_append_left_iff P).2 (List.perm_middle.trans ?_);rw[←append_assoc,take_append_drop];exact(Perm.cons x ((perm_append_right_iff B).2 hp)).trans List.perm_middle.symm
def Rc(cF:Int→Int→Int)(Lt:Int→Int→Prop)(x y:Int):Prop:=cF x y<0∨cF x y=0∧Lt x y
theorem E9(h:cF y x<0):Rc cF Lt y x:=.inl h
theorem FC(ha:∀x y,0≤cF y x→cF x y≤0)(E:Lt x y)(h:¬cF y x<0):Rc cF Lt x y:=by
 have:=ha x y w4;unfold Rc;rcases Int.lt_or_eq_of_le this with q|q
 ·exact .inl q
 exact .inr ⟨q,E⟩
def Part(R:Int→Int→Prop)(l0 l:List Int)(a b:Nat):Prop:=∃(P M M0 Q:List Int),l=P++(M++Q)∧l0=P++(M0++Q)∧P.length=a∧a+M.length=b∧M.Perm M0∧M.Pairwise R
theorem oN.part{b:Nat}(h:oN R l0 l a b):Part R l0 l a b:=by
 obtain⟨P,A,B,E,h1,h2,h3,hs,hp,h4⟩:=h;exact⟨P,A,E,B,h1,h4,h2,h3,hp,hs⟩

end Go.Proofs.YtkgmonfgofobaaaGreatDoor.So
namespace Go.Proofs.YtkgmonfgofobaaaGreatDoor.So
open List
open Go.Proofs.Tryz
open Go.RowKit V Tw
variable {G:List (Nat×List Value)}
theorem UZ(l:List Int)(U a b cap bd fc:Nat)(O:List D)(Z:List ah)(cF:Int→Int→Int)(V:Int→Prop)(Lt:Int→Int→Prop)(hV:∀x∈l,V x)(hc:∀x y,V x→V y→VC Tryz.prog G fc ([ae x,ae y]++O) Z (fun r S'=>r=ae (cF x y)∧S'=Z))(vv:∀args w,(callFunc fc args).run Tryz.prog w = .ok (.enter fc args) w)(ht:∀{x y z:Int},Rc cF Lt x y→Rc cF Lt y z→Rc cF Lt x z)(ha:∀x y,0≤cF y x→cF x y≤0)(hq:(l.drop a).Pairwise Lt)(h1:a≤b)(h2:b≤U)(gp:l.length=U)(qb:U≤cap)(rP:cap≤maxLen)(aqR:U<maxLen):VC Tryz.prog G 163 [aN (some ⟨bd,0,none⟩) U cap,ae (a:Nat),ae (b:Nat),.eA (.func fc) O] (⟨bd,3,cap*1,(l).flatMap cI⟩::Z) (fun r S'=>r = .dh []∧∃lz,Part (Rc cF Lt) l lz a b∧S'=⟨bd,3,cap*1,(lz).flatMap cI⟩::Z):=by
 refine VC.body func163 rfl ntmps163 aQ fun X0 w0 bf=>?_;have cY:=dN;refine af [0,1,2,3,8] ?_;refine ez [0,1,2,3] (fun aR _ (E:Nat×List Int) aD=>match E with|(i,cur)=>((i≤b→oN (Rc cF Lt) l cur a i))∧(a<i)∧((a<b→i≤b))∧((a=b→cur=l))∧((cur).length=U)∧aD=(⟨53,(8,ae (i:Nat))::aR,(⟨bd,3,cap*1,(cur).flatMap cI⟩::Z)⟩:St)) (fun (E:Nat×List Int)=>match E with|(i,cur)=>b-i) ((a+1),l) ⟨(fun q=>afC w4),(Nat.lt_succ_self _),(fun q=>q),(fun _=>rfl),gp,rfl⟩ ?_;rintro⟨i,cur⟩ _ ⟨hs,YR,hib,ri,ku,rfl⟩;refine af [0,1,2,3,8,14] ?_;refine ax ?_ ?_<;>intro aO bA
 ·have aa:i<b:=(by omega)
  refine af [0,1,2,3,8,9] ?_;refine ez [0,1,2,3,8] (fun aR _ (E:Nat×List Int) aD=>match E with|(j,lH)=>(sS (Rc cF Lt) l lH a i j)∧((lH).length=U)∧aD=(⟨53,(9,ae (j:Nat))::aR,(⟨bd,3,cap*1,(lH).flatMap cI⟩::Z)⟩:St)) (fun (E:Nat×List Int)=>match E with|(j,lH)=>j) (i,cur) ⟨(ab9 (hs w4) w4),ku,rfl⟩ ?_;rintro⟨j,lH⟩ _ ⟨hj,zE,rfl⟩;have jR:=hj.len;have qX:j<lH.length:=(by omega)
  have qW:j-1<lH.length:=(by omega)
  refine CD.seq ?_;refine CD.seq ?_;refine gX 14 (av (take 1 _)) ?_ (fun _ h=>(Sublist.map _ (take_sublist _ _)).subset h);refine aC 0 rfl bG ?_;refine aC 1 rfl bG ?_;refine aC 2 rfl ql ?_;refine aC 3 rfl bG ?_;refine dH.split (t:=21) lk (fun qQ=>?_) (fun qQ=>?_)
  ·have I:=qQ;(try simp only[V.nH,ne_eq] at I)
   refine aC 4 rfl bG ?_;refine aC 5 rfl bG ?_;refine aC 6 rfl bG ?_;refine aC 7 rfl (dw 1 (h:=by first|exact .l (j:=j) rfl w4|exact .r (j:=j) rfl w4)) ?_;refine aC 8 rfl eW ?_;refine aC 9 rfl bG ?_;refine aC 10 rfl bG ?_;refine aC 11 rfl (dj rfl ot bP (gN (r:=((j-1:Nat):Int)) (by rw[show((j:Int)-1)=((j-1:Nat):Int) by have Du:=of_decide_eq_true qQ;omega];exact wrap_i64 (by have Du:=of_decide_eq_true qQ;omega) w4))) ?_;refine aC 12 rfl (dw 1 (h:=by first|exact .l (j:=j-1) rfl w4|exact .r (j:=j-1) rfl w4)) ?_;refine aC 13 rfl eW ?_;refine dH.later rfl ?_;refine fw ?_;have YS:∀x∈lH,V x:=fun x hx=>hV x (hj.perm.subset hx);refine OD.lS (f:=fc) (args:=[_,_]) (Sf:=Z) iq rfl rfl ot vv (hc _ _ (YS _ (getElem_mem qX)) (YS _ (getElem_mem qW))) rfl ⟨ot,ot,trivial⟩ (perm_append_singleton _ _).symm ?_;rintro _ S2 ⟨rfl,iH⟩;rw[iH];clear iH;refine OD.perm (perm_append_singleton _ _) ?_;refine an 53 [0,1,2,3,8,9,34] ?_;refine ax ?_ ?_<;>intro aY cz
   ·have uv:a<j:=(by have q:=of_decide_eq_true qQ;omega)
    have ahw:cF (lH[j]'qX) (lH[j-1]'qW)<0:=cz;refine CD.skip ?_;refine CD.seq ?_;refine CD.block ?_;refine gX 16 (av (eraseIdx _ 0)) ?_ (fun _ h=>(Sublist.map _ (eraseIdx_sublist _ 0)).subset h);refine aC 0 rfl bG ?_;refine aC 1 rfl bG ?_;refine aC 2 rfl bG ?_;refine aC 3 rfl bG ?_;refine aC 4 rfl (dj rfl ot bP (gN (r:=((j-1:Nat):Int)) ML)) ?_;refine aC 5 rfl bG ?_;refine aC 6 rfl bG ?_;refine aC 7 rfl (dj rfl ot bP (gN (r:=((j-1:Nat):Int)) ML)) ?_;refine aC 8 rfl (dw 1 (h:=by first|exact .l (j:=j-1) rfl w4|exact .r (j:=j-1) rfl w4)) ?_;refine aC 10 rfl bG ?_;refine aC 11 rfl bG ?_;refine aC 12 rfl (dw 1 (h:=by first|exact .l (j:=j) rfl w4|exact .r (j:=j) rfl w4)) ?_;refine dH.later rfl ?_;refine AD.two (i:=9) (j:=13) aB ?_ ?_
    ·refine at_ rfl eW ?_;refine AD.one (i:=13) aB ?_;exact W8
    refine at_ rfl eW ?_;refine AD.one (i:=9) aB ?_;exact W8
   exact Xl
  have I:=qQ;(try simp only[V.nH,ne_eq] at I)
  refine mD 4 rfl ?_;refine mD 5 rfl ?_;refine mD 6 rfl ?_;refine mD 7 rfl ?_;refine mD 8 rfl ?_;refine mD 9 rfl ?_;refine mD 10 rfl ?_;refine mD 11 rfl ?_;refine mD 12 rfl ?_;refine mD 13 rfl ?_;refine dH.later rfl ?_;refine fw ?_;refine bp [0,1,2,3,8,9,34] ?_;refine fY ?_;exact Xl
 have ny:oN (Rc cF Lt) l cur a b:=(Nat.eq_or_lt_of_le h1).elim (fun q=>by subst q;rw[ri rfl];exact Jn w4) (fun q=>(show i=b by omega) ▸ hs w4);refine aK _ ?_;exact⟨rfl,_,ny.part,rfl⟩

end Go.Proofs.YtkgmonfgofobaaaGreatDoor.So
namespace Go.Proofs.YtkgmonfgofobaaaGreatDoor.So
open List
open Go.Proofs.Tryz
variable {i:Nat}
def Mv(P B Q:List Int)(x:Int)(t:Nat):List Int:=P++(B.take t++x::(B.drop t++Q))
variable {P B Q:List Int} {x:Int} {t:Nat}
theorem FR(h:t≤B.length):(Mv P B Q x t).length=P.length+(B.length+1+Q.length):=by
 unfold Mv;simp only[length_append,length_cons,length_take,length_drop];omega
theorem Fw(h:t<B.length):Mv P B Q x t=(P++B.take t)++x::B[t]::(B.drop (t+1)++Q):=by
 unfold Mv;rw[drop_eq_getElem_cons h];simp only[append_assoc,cons_append]
theorem Fx(h:t<B.length):Mv P B Q x (t+1)=(P++B.take t)++B[t]::x::(B.drop (t+1)++Q):=Fv h
theorem zC(h:t<B.length):(P++B.take t).length=P.length+t:=by rw[length_append,length_take];omega
theorem aha(h:t<B.length)(h0:P.length+t<(Mv P B Q x t).length):(Mv P B Q x t)[P.length+t]=x:=by
 simp only[Fw h];rw[DU _ (zC h).symm]
theorem afD(h:t<B.length)(h0:P.length+t+1<(Mv P B Q x t).length):(Mv P B Q x t)[P.length+t+1]=B[t]:=by
 simp only[Fw h];rw[DV _ (by rw[zC h])]
theorem adT(h:t<B.length):((Mv P B Q x t).set (P.length+t) B[t]).set (P.length+t+1) x=Mv P B Q x (t+1):=by
 rw[Fw h,Fx h,←zC (P:=P) h,IZ]
theorem afE(h:t<B.length):((Mv P B Q x (t+1)).set (P.length+t+1) B[t]).set (P.length+t) x=Mv P B Q x t:=by
 rw[Fw h,Fx h,←zC (P:=P) h,set_comm _ _ w4,IZ]

variable {R Lt:Int→Int→Prop} {l l1 l2 l3:List Int} {a s m e b mid:Nat}
theorem T0(ht:∀{x y z:Int},R x y→R y z→R x z){P B Q:List Int}{x:Int}{s t:Nat}(E:B.Pairwise R)(hs:s≤B.length)(hk:t≤B.length)(h1:t=0∨∃h:t-1<B.length,R B[t-1] x)(h2:t=B.length∨∃h:t<B.length,R x B[t]) :
  Part R (Mv P B Q x s) (Mv P B Q x t) P.length (P.length+(B.length+1)):=by
 have hp:∀t,(B.take t++x::B.drop t).Perm (x::B):=fun t=>List.perm_middle.trans (by rw[take_append_drop]);refine⟨P,B.take t++x::B.drop t,B.take s++x::B.drop s,Q,by unfold Mv;simp,by unfold Mv;simp,rfl,?_,(hp t).trans (hp s).symm,TY ht E hk h1 h2⟩;have:=(hp t).length_eq;simp only[length_cons] at this;rw[this]
def qu(R Lt:Int→Int→Prop)(l:List Int)(a m b:Nat):Prop:=∃(P A B Q:List Int),l=P++(A++(B++Q))∧P.length=a∧a+A.length=m∧m+B.length=b∧A.Pairwise R∧B.Pairwise R∧∀x∈A,∀y∈B,Lt x y
theorem qu.len(h:qu R Lt l a m b):a≤m∧m≤b∧b≤l.length:=by
 obtain⟨P,A,B,Q,rfl,rfl,rfl,rfl,_⟩:=h;simp only[length_append];omega
theorem qu.lt(h:qu R Lt l a m b){j:Nat}(h1:a≤i)(h2:i<m)(h3:m≤j)(h4:j<b)(hi:i<l.length)(hj:j<l.length):Lt l[i] l[j]:=by
 obtain⟨P,A,B,Q,rfl,rfl,rfl,rfl,_,_,h⟩:=h;refine h _ ?_ _ ?_
 ·rw[getElem_append_right h1,getElem_append_left w4];exact getElem_mem _
 rw[getElem_append_right w4,getElem_append_right w4,getElem_append_left w4];exact getElem_mem _
theorem Qk{P M Q:List Int}(h:M.Pairwise R):Part R (P++(M++Q)) (P++(M++Q)) P.length (P.length+M.length):=⟨P,M,M,Q,rfl,rfl,rfl,rfl,.refl _,h⟩
theorem RS{P E Q:List Int}{x y:Nat}(h:Part R (P++(E++Q)) l x y)(hx:x=P.length)(hy:y=P.length+E.length):∃M,l=P++(M++Q)∧M.Perm E∧M.Pairwise R:=by
 obtain⟨P',M,U,Q',h1,h2,h3,h4,h5,h6⟩:=h;have hl:=h5.length_eq;obtain⟨e1,e2⟩:=append_inj h2 w4;obtain⟨I,O⟩:=append_inj e2 w4;subst e1 I O;exact⟨M,h1,h5,h6⟩
def ug(R Lt:Int→Int→Prop)(l l1:List Int)(a s m e b mid:Nat):Prop:=∃(P A1 A2 B1 B2 Q:List Int),l=P++(A1++(A2++(B1++(B2++Q))))∧l1=P++(A1++(B1++(A2++(B2++Q))))∧P.length=a∧a+A1.length=s∧s+A2.length=m∧m+B1.length=e∧e+B2.length=b∧s+B1.length=mid ∧
 A1.Pairwise R∧A2.Pairwise R∧B1.Pairwise R∧B2.Pairwise R∧(∀x∈A1,∀y∈B1,Lt x y)∧(∀x∈A2,∀y∈B2,Lt x y)∧∀x∈A1++B1,∀y∈A2++B2,R x y
theorem afF (ht:∀{x y z:Int},R x y→R y z→R x z) (h:qu R Lt l a m b) (h1:a≤s) (h2:s≤m) (h3:m≤e) (h4:e≤b) (hm:s+(e-m)=mid)
  (k1:s=a∨e=b∨∃(p:s-1<l.length) (q:e<l.length),R l[s-1] l[e]) (k2:e=m∨s=m∨∃(p:e-1<l.length) (q:s<l.length),R l[e-1] l[s]):∃l1,ug R Lt l l1 a s m e b mid∧r9 l1 l m (m-s) (e-m):=by
 obtain⟨P,A,B,Q,rfl,rfl,rfl,rfl,hA,hB,aa⟩:=h;obtain⟨i,rfl⟩:∃i,s=P.length+i:=⟨s-P.length,by omega⟩
 obtain⟨j,rfl⟩:∃j,e=P.length+A.length+j:=⟨e-(P.length+A.length),by omega⟩
 have E:∀k (h:k<A.length) (q:P.length+k<(P++(A++(B++Q))).length),(P++(A++(B++Q)))[P.length+k]=A[k]:=fun k h q=>by
  rw[getElem_append_right w4,getElem_append_left w4];simp
 have I:∀k (h:k<B.length) (q:P.length+A.length+k<(P++(A++(B++Q))).length),(P++(A++(B++Q)))[P.length+A.length+k]=B[k]:=fun k h q=>by
  rw[getElem_append_right w4,getElem_append_right w4,getElem_append_left w4];congr 1;omega
 have hc:=ab8 (R:=R) ht hA hB (i:=i) (j:=j) w4 w4 (by
  rcases Nat.eq_zero_or_pos i with q|q
  ·exact .inl q
  rcases k1 with k1|k1|⟨p1,p2,k1⟩
  ·omega
  ·exact .inr (.inl w4)
  ·rcases Nat.lt_or_ge j B.length with q2|q2
   ·refine .inr (.inr ⟨by omega,q2,?_⟩);have e1:=E (i-1) w4 w4;simp only[show P.length+i-1=P.length+(i-1) by omega] at k1;rw[e1,I j q2] at k1;exact k1
   exact .inr (.inl w4)) (by
  rcases Nat.eq_zero_or_pos j with q|q
  ·exact .inl q
  rcases k2 with k2|k2|⟨p1,p2,k2⟩
  ·omega
  ·exact .inr (.inl w4)
  rcases Nat.lt_or_ge i A.length with q2|q2
  ·refine .inr (.inr ⟨by omega,q2,?_⟩);have e1:=I (j-1) w4 w4;simp only[show P.length+A.length+j-1=P.length+A.length+(j-1) by omega] at k2;rw[e1,E i q2] at k2;exact k2
  exact .inr (.inl w4))
 have la1:(A.take i).length=i:=(by rw[length_take];omega)
 have lb1:(B.take j).length=j:=(by rw[length_take];omega)
 have la2:(A.drop i).length=A.length-i:=length_drop;have lb2:(B.drop j).length=B.length-j:=length_drop;have O:A.take i++A.drop i=A:=take_append_drop ..;have U:B.take j++B.drop j=B:=take_append_drop ..;have Z:(A.take i++A.drop i).Pairwise R:=(by rw[O];exact hA)
 have pb:(B.take j++B.drop j).Pairwise R:=(by rw[U];exact hB)
 have ea:A++(B++Q)=A.take i++(A.drop i++(B.take j++(B.drop j++Q))):=(by rw[←append_assoc (A.take i),O,←append_assoc (B.take j),U])
 refine⟨P++(A.take i++(B.take j++(A.drop i++(B.drop j++Q)))),⟨P,A.take i,A.drop i,B.take j,B.drop j,Q,by rw[ea],rfl,rfl,by omega,by omega,by omega,by omega,by omega,(pairwise_append.1 Z).1,(pairwise_append.1 Z).2.1,(pairwise_append.1 pb).1,(pairwise_append.1 pb).2.1,fun x hx y hy=>aa x (mem_of_mem_take hx) y (mem_of_mem_take hy),fun x hx y hy=>aa x (mem_of_mem_drop hx) y (mem_of_mem_drop hy),hc⟩,
  P++A.take i,A.drop i,B.take j,B.drop j++Q,by rw[ea];simp,by omega,by omega,by rw[length_append];omega,by simp⟩
theorem ug.perm(h:ug R Lt l l1 a s m e b mid):l1.Perm l:=by
 obtain⟨P,E,I,O,B2,Q,rfl,rfl,_⟩:=h;refine Perm.append_left P (Perm.append_left E ?_);rw[←append_assoc O,←append_assoc I];exact List.perm_append_comm.append_right _
theorem afG(h:ug R Lt l l1 a s m e b mid):qu R Lt l1 a s mid:=by
 obtain⟨P,E,I,O,B2,Q,rfl,rfl,e1,e2,Z,e4,e5,U,p1,p2,p3,p4,q1,q2,q3⟩:=h;exact⟨P,E,O,I++(B2++Q),rfl,e1,e2,U,p1,p3,q1⟩
theorem RT(h:ug R Lt l l1 a s m e b mid)(hn:¬(a<s∧s<mid)):Part R l1 l1 a mid:=by
 obtain⟨P,E,O,I,B2,Q,rfl,rfl,rfl,e2,U,Z,e5,e6,p1,p2,p3,p4,q1,q2,q3⟩:=h;have:(E++I).Pairwise R:=by
  rcases Nat.eq_zero_or_pos E.length with h|h
  ·rw[length_eq_zero_iff.1 h];exact p3
  rw[length_eq_zero_iff.1 (show I.length=0 by omega),append_nil];exact p1
 have:=Qk (P:=P) (Q:=O++(B2++Q)) this;rw[append_assoc,length_append] at this;rwa [show P.length+(E.length+I.length)=mid by omega] at this
theorem Kj(h:ug R Lt l l1 a s m e b mid)(k:Part R l1 l2 a mid):∃(P I E O B2 Q M:List Int),l=P++(I++(E++(O++(B2++Q))))∧l2=P++(M++(E++(B2++Q)))∧P.length=a∧M.length+a=mid∧M.Perm (I++O)∧mid+E.length=e∧e+B2.length=b∧M.Pairwise R∧E.Pairwise R∧B2.Pairwise R∧(∀x∈E,∀y∈B2,Lt x y)∧∀x∈M,∀y∈E++B2,R x y:=by
 obtain⟨P,I,E,O,B2,Q,rfl,rfl,rfl,e2,Z,e4,e5,e6,p1,p2,p3,U,q1,q2,q3⟩:=h;rw[←append_assoc I] at k;obtain⟨M,h1,h2,h3⟩:=RS k rfl vE;have:=h2.length_eq;rw[length_append] at this;exact⟨P,I,E,O,B2,Q,M,rfl,h1,rfl,by omega,h2,by omega,by omega,h3,p2,U,q2,fun x hx=>q3 x (h2.subset hx)⟩
theorem adU(h:ug R Lt l l1 a s m e b mid)(k:Part R l1 l2 a mid):qu R Lt l2 mid e b:=by
 obtain⟨P,I,E,O,B2,Q,M,rfl,rfl,rfl,e1,e2,U,Z,p1,p2,p3,q1,q2⟩:=Kj h k;exact⟨P++M,E,B2,Q,by simp,by rw[length_append];omega,by omega,by omega,p2,p3,q1⟩
theorem Ps(h:ug R Lt l l1 a s m e b mid)(k:Part R l1 l2 a mid)(hn:¬(mid<e∧e<b)):Part R l2 l2 mid b:=by
 obtain⟨P,I,E,O,B2,Q,M,rfl,rfl,rfl,e1,e2,U,Z,p1,p2,p3,q1,q2⟩:=Kj h k;have:(E++B2).Pairwise R:=by
  rcases Nat.eq_zero_or_pos E.length with h|h
  ·rw[length_eq_zero_iff.1 h];exact p3
  rw[length_eq_zero_iff.1 (show B2.length=0 by omega),append_nil];exact p2
 have:=Qk (P:=P++M) (Q:=Q) this;rw[append_assoc,length_append,length_append,append_assoc] at this;rwa [show P.length+M.length+(E.length+B2.length)=b by omega,show P.length+M.length=mid by omega] at this
theorem Fb(h:ug R Lt l l1 a s m e b mid)(k:Part R l1 l2 a mid)(j:Part R l2 l3 mid b):Part R l l3 a b:=by
 obtain⟨P,E,I,O,B2,Q,M,rfl,rfl,rfl,e1,e2,Z,e4,p1,p2,p3,q1,q2⟩:=Kj h k;rw[←append_assoc I,←append_assoc P] at j;obtain⟨U,h1,h2,h3⟩:=RS j vE (by rw[length_append,length_append];omega);have hl:=e2.length_eq;have ir:=h2.length_eq;rw[length_append] at hl ir;refine⟨P,M++U,E++(I++(O++B2)),Q,by rw[h1];simp,by simp,rfl,by rw[length_append];omega,?_,pairwise_append.2 ⟨p1,h3,fun x hx y hy=>q2 x hx y (h2.subset hy)⟩⟩;refine(e2.append h2).trans ?_;rw[append_assoc E];refine Perm.append_left E ?_;rw[←append_assoc O,←append_assoc I];exact List.perm_append_comm.append_right B2
theorem Part.perm(h:Part R l l1 a b):l1.Perm l:=by
 obtain⟨P,M,E,Q,rfl,rfl,_,_,hp,_⟩:=h;exact(hp.append_right Q).append_left P
theorem Part.len(h:Part R l l1 a b):l1.length=l.length:=h.perm.length_eq
theorem acA{T cur:List Int}{j:Nat}(h:r9 T cur m i j)(hz:i=0∨j=0):T=cur:=by
 obtain⟨P,X,Y,Q,rfl,rfl,rfl,hm,rfl⟩:=h;rcases hz with h|h
 ·rw[length_eq_zero_iff.1 h];rfl
 rw[length_eq_zero_iff.1 h];rfl
theorem adV(ht:∀{x y z:Int},R x y→R y z→R x z)(h:qu R Lt l a m b)(hm:m=a+1)(h1:m≤i)(h2:i≤b)(k1:i=m∨∃(p:i-1<l.length) (q:a<l.length),R l[i-1] l[a])(k2:i=b∨∃(p:a<l.length) (q:i<l.length),R l[a] l[i]) :
  ∃(P B Q:List Int) (x:Int),P.length=a∧l=Mv P B Q x 0∧i-m≤B.length∧m+B.length=b∧Part R l (Mv P B Q x (i-m)) a b:=by
 obtain⟨P,A,B,Q,rfl,rfl,rfl,rfl,hA,hB,aa⟩:=h;obtain⟨x,rfl⟩:=length_eq_one_iff.1 (show A.length=1 by omega);have E:∀(q:P.length<(P++([x]++(B++Q))).length),(P++([x]++(B++Q)))[P.length]=x:=fun q=>by rw[getElem_append_right w4];simp
 have I:∀k (h:k<B.length) (q:P.length+1+k<(P++([x]++(B++Q))).length),(P++([x]++(B++Q)))[P.length+1+k]=B[k]:=fun k h q=>by
  rw[getElem_append_right w4,getElem_append_right ig,getElem_append_left ig];simp only[length_singleton];congr 1;omega
 have lF:([x]:List Int).length=1:=rfl;rw[lF] at *;obtain⟨t,rfl⟩:∃t,i=P.length+1+t:=⟨i-(P.length+1),by omega⟩
 rw[show P.length+1+t-(P.length+1)=t by omega];have hp:=T0 (R:=R) (P:=P) (B:=B) (Q:=Q) (x:=x) (s:=0) (t:=t) ht hB (Nat.zero_le _) w4 (by
  rcases Nat.eq_zero_or_pos t with q|q
  ·exact .inl q
  rcases k1 with k1|⟨p1,p2,k1⟩
  ·omega
  ·refine .inr ⟨by omega,?_⟩;have e1:=I (t-1) w4 w4;simp only[show P.length+1+t-1=P.length+1+(t-1) by omega] at k1;rw[E,e1] at k1;exact k1) (by
  rcases k2 with k2|⟨p1,p2,k2⟩
  ·exact .inl w4
  rcases Nat.lt_or_ge t B.length with q|q
  ·exact .inr ⟨q,by rw[E,I t q] at k2;exact k2⟩
  exact .inl w4)
 refine⟨P,B,Q,x,rfl,rfl,by omega,rfl,?_⟩;rw[show P.length+(B.length+1)=P.length+1+B.length by omega] at hp;exact hp
theorem acd(ht:∀{x y z:Int},R x y→R y z→R x z)(h:qu R Lt l a m b)(hm:b=m+1)(h1:a≤i)(h2:i≤m)(k1:i=a∨∃(p:i-1<l.length) (q:m<l.length),R l[i-1] l[m])(k2:i=m∨∃(p:m<l.length) (q:i<l.length),R l[m] l[i]) :
  ∃(P B Q:List Int) (x:Int),P.length=a∧l=Mv P B Q x (m-a)∧i-a≤B.length∧a+B.length=m∧Part R l (Mv P B Q x (i-a)) a b:=by
 obtain⟨P,A,B,Q,rfl,rfl,rfl,rfl,hA,hB,aa⟩:=h;obtain⟨x,rfl⟩:=length_eq_one_iff.1 (show B.length=1 by omega);have E:∀(q:P.length+A.length<(P++(A++([x]++Q))).length),(P++(A++([x]++Q)))[P.length+A.length]=x:=fun q=>by
  rw[getElem_append_right w4,getElem_append_right w4];simp
 have I:∀k (h:k<A.length) (q:P.length+k<(P++(A++([x]++Q))).length),(P++(A++([x]++Q)))[P.length+k]=A[k]:=fun k h q=>by
  rw[getElem_append_right w4,getElem_append_left w4];simp
 have lF:([x]:List Int).length=1:=rfl;rw[lF] at *;obtain⟨t,rfl⟩:∃t,i=P.length+t:=⟨i-P.length,by omega⟩
 rw[show P.length+t-P.length=t by omega,show P.length+A.length-P.length=A.length by omega];have he:P++(A++([x]++Q))=Mv P A Q x A.length:=(by unfold Mv;simp)
 have hp:=T0 (R:=R) (P:=P) (B:=A) (Q:=Q) (x:=x) (s:=A.length) (t:=t) ht hA (Nat.le_refl _) w4 (by
  rcases Nat.eq_zero_or_pos t with q|q
  ·exact .inl q
  rcases k1 with k1|⟨p1,p2,k1⟩
  ·omega
  ·refine .inr ⟨by omega,?_⟩;have e1:=I (t-1) w4 w4;simp only[show P.length+t-1=P.length+(t-1) by omega] at k1;rw[E,e1] at k1;exact k1) (by
  rcases k2 with k2|⟨p1,p2,k2⟩
  ·exact .inl w4
  rcases Nat.lt_or_ge t A.length with q|q
  ·exact .inr ⟨q,by rw[E,I t q] at k2;exact k2⟩
  exact .inl w4)
 refine⟨P,A,Q,x,rfl,he,by omega,rfl,?_⟩;rw[he,show P.length+A.length+1=P.length+(A.length+1) by omega];exact hp
theorem adW(h:t<B.length)(h0:P.length+t<(Mv P B Q x (t+1)).length):(Mv P B Q x (t+1))[P.length+t]=B[t]:=by
 simp only[Fx h];rw[DU _ (zC h).symm]
theorem adX(h:t<B.length)(h0:P.length+t+1<(Mv P B Q x (t+1)).length):(Mv P B Q x (t+1))[P.length+t+1]=x:=by
 simp only[Fx h];rw[DV _ (by rw[zC h])]
theorem agb(h:t<B.length)(ha:P.length=a)(h0:a+t<(Mv P B Q x t).length)(h1:a+t+1<(Mv P B Q x t).length):((Mv P B Q x t).set (a+t) (Mv P B Q x t)[a+t+1]).set (a+t+1) (Mv P B Q x t)[a+t]=Mv P B Q x (t+1):=by
 subst ha;rw[afD h,aha h,adT h]
theorem aga(h:t<B.length)(ha:P.length=a)(h0:a+t<(Mv P B Q x (t+1)).length)(h1:a+t+1<(Mv P B Q x (t+1)).length):((Mv P B Q x (t+1)).set (a+t+1) (Mv P B Q x (t+1))[a+t]).set (a+t) (Mv P B Q x (t+1))[a+t+1]=Mv P B Q x t:=by
 subst ha;rw[adW h,adX h,afE h]

end Go.Proofs.YtkgmonfgofobaaaGreatDoor.So
namespace Go.Proofs.YtkgmonfgofobaaaGreatDoor.So
open List
open Go.Proofs.Tryz
open Go.RowKit V Tw
variable {G:List (Nat×List Value)}
theorem adY(ln cap O fc:Nat)(U:List D)(I:List ah)(cF:Int→Int→Int)(V:Int→Prop)(Lt:Int→Int→Prop)(hc:∀x y,V x→V y→VC Tryz.prog G fc ([ae x,ae y]++U) I (fun r S'=>r=ae (cF x y)∧S'=I))(Z:∀args w,(callFunc fc args).run Tryz.prog w = .ok (.enter fc args) w)(ht:∀{x y z:Int},Rc cF Lt x y→Rc cF Lt y z→Rc cF Lt x z)(ha:∀x y,0≤cF y x→cF x y≤0)(qb:ln≤cap)(rP:cap≤maxLen)(nJ:ln≤1000000)(n:Nat)(ih:∀k,k<n→∀(l:List Int) (a m b:Nat),b-a=k→qu (Rc cF Lt) Lt l a m b→a<m→m<b→l.length=ln→(∀x∈l,V x)→VC Tryz.prog G 164 [aN (some ⟨O,0,none⟩) ln cap,ae (a:Nat),ae (m:Nat),ae (b:Nat),.eA (.func fc) U] (⟨O,3,cap*1,(l).flatMap cI⟩::I) (fun r S'=>r = .dh []∧∃lz,Part (Rc cF Lt) l lz a b∧S'=⟨O,3,cap*1,(lz).flatMap cI⟩::I))(l:List Int)(a m b:Nat)(hn:b-a=n)(h:qu (Rc cF Lt) Lt l a m b)(h1:a<m)(h2:m<b)(gp:l.length=ln)(hV:∀x∈l,V x):VC Tryz.prog G 164 [aN (some ⟨O,0,none⟩) ln cap,ae (a:Nat),ae (m:Nat),ae (b:Nat),.eA (.func fc) U] (⟨O,3,cap*1,(l).flatMap cI⟩::I) (fun r S'=>r = .dh []∧∃lz,Part (Rc cF Lt) l lz a b∧S'=⟨O,3,cap*1,(lz).flatMap cI⟩::I):=by
 refine VC.body func164 rfl ntmps164 aQ fun X0 w0 bf=>?_;have cY:=dN;have hlen:=h.len;refine cM [0,1,2,3,4,28] ?_;refine aP 2 ?_ (h:=by exact(dj rfl ot ot (gN (r:=((m-a:Nat):Int)) qT)));refine bD ?_;refine ax ?_ ?_<;>intro aO bA
 ·have Dt:m=a+1:=(by omega)
  refine af [0,1,3,4,10] ?_;refine af [0,1,4,10,11] ?_;refine ez [0,1,4] (fun aR _ (E:Nat×Nat) aD=>match E with|(i,j)=>(m≤i)∧(i≤j)∧(j≤b)∧((i=m∨∃(p:i-1<l.length) (q:a<l.length),(Rc cF Lt) l[i-1] l[a]))∧((j=b∨∃(p:a<l.length) (q:j<l.length),(Rc cF Lt) l[a] l[j]))∧aD=(⟨220,(10,ae (i:Nat))::(11,ae (j:Nat))::aR,(⟨O,3,cap*1,(l).flatMap cI⟩::I)⟩:St)) (fun (E:Nat×Nat)=>match E with|(i,j)=>j-i) (m,b) ⟨(Nat.le_refl _),w4,(Nat.le_refl _),(.inl rfl),(.inl rfl),rfl⟩ ?_;rintro⟨i,j⟩ _ ⟨mK,YI,hjb,dL,fF,rfl⟩;refine af [0,1,4,10,11,33] ?_;refine ax ?_ ?_<;>intro aY cz
  ·have hh:i<j:=(by omega)
   have hH:((i+j)/2)<l.length:=(by omega)
   have hA:a<l.length:=(by omega)
   refine cM [0,1,4,10,11,12] ?_;refine aP 2 ?_ (h:=by exact(dj rfl ot ot (kz (r:=((i+j:Nat):Int)) Ad)));refine aP 0 ?_ (h:=by exact(oQ rfl ot (oS (r:=((i+j:Nat):Int)) runUnderlying3 runUnderlying225 (IntWalk.u64_in _ w4))));refine aP 0 ?_ (h:=by exact(dj rfl ot bP (y4 w8 BU)));refine aP 0 ?_ (h:=by exact(oQ rfl ot (oS (r:=((((i+j)/2):Nat):Int)) runUnderlying225 runUnderlying3 (wrap_i64 w4 w4))));refine bD ?_;refine CD.seq ?_;refine gX 9 (av (take 1 _)) ?_ (fun _ h=>(Sublist.map _ (take_sublist _ _)).subset h);refine aC 0 rfl bG ?_;refine aC 1 rfl bG ?_;refine aC 2 rfl bG ?_;refine aC 3 rfl (dw 1 (h:=by first|exact .l (j:=((i+j)/2)) rfl w4|exact .r (j:=((i+j)/2)) rfl w4)) ?_;refine aC 4 rfl eW ?_;refine aC 5 rfl bG ?_;refine aC 6 rfl bG ?_;refine aC 7 rfl (dw 1 (h:=by first|exact .l (j:=a) rfl w4|exact .r (j:=a) rfl w4)) ?_;refine aC 8 rfl eW ?_;refine dH.later rfl ?_;refine fw ?_;refine OD.lS (f:=fc) (args:=[_,_]) (Sf:=I) ap rfl rfl ot Z (hc _ _ (hV _ (getElem_mem hH)) (hV _ (getElem_mem hA))) rfl ⟨ot,ot,trivial⟩ (perm_append_singleton _ _).symm ?_;rintro _ S2 ⟨rfl,iH⟩;rw[iH];clear iH;refine OD.perm (perm_append_singleton _ _) ?_;refine an 220 [0,1,4,10,11,12,50] ?_;refine ax ?_ ?_<;>intro cc cN
   ·have uj:(Rc cF Lt) (l[((i+j)/2)]'hH) (l[a]'hA):=E9 cN;refine bX [0,1,4,10,11] ?_;exact XK
   have Av:(Rc cF Lt) (l[a]'hA) (l[((i+j)/2)]'hH):=FC ha (h.lt (Nat.le_refl _) w4 w4 w4 hA hH) w4;refine bX [0,1,4,10,11] ?_;exact VT
  obtain rfl:i=j:=(by omega)
  obtain⟨P,B,Q,x,hP,hl,hiB,hB,KX⟩:=adV (R:=Rc cF Lt) (l:=l) (a:=a) (m:=m) (b:=b) (i:=i) ht h Dt mK hjb dL fF;subst hl;have lj:∀t,t≤B.length→(Mv P B Q x (t)).length=ln:=fun t ht=>by rw[FR ht,←gp,FR (Nat.zero_le _)]
  refine af [0,10,13] ?_;refine ez [0,10] (fun aR _ (t:Nat) aD=>(t≤i-m)∧aD=(⟨220,(13,ae (a+t:Nat))::aR,(⟨O,3,cap*1,(Mv P B Q x (t)).flatMap cI⟩::I)⟩:St)) (fun (t:Nat)=>i-m-t) 0 ⟨(Nat.zero_le _),rfl⟩ ?_;rintro t _ ⟨hti,rfl⟩;refine cM [0,10,13,58] ?_;refine aP 2 ?_ (h:=by exact(dj rfl ot bP (gN (r:=((i-1:Nat):Int)) (by rw[show(((i:Nat):Int)-1)=((i-1:Nat):Int) by omega];exact wrap_i64 w4 w4))));refine bD ?_;refine ax ?_ ?_<;>intro cQ ek
  ·have MZ:t<B.length:=(by omega)
   have tq:=lj t w4;refine CD.skip ?_;refine CD.seq ?_;refine CD.block ?_;refine gX 16 (av (eraseIdx _ 0)) ?_ (fun _ h=>(Sublist.map _ (eraseIdx_sublist _ 0)).subset h);refine aC 0 rfl bG ?_;refine aC 1 rfl bG ?_;refine aC 2 rfl bG ?_;refine aC 3 rfl bG ?_;refine aC 4 rfl (dj rfl ot bP (kz (r:=((a+t+1:Nat):Int)) (by rw[show(((a+t:Nat):Int)+1)=((a+t+1:Nat):Int) by omega];exact wrap_i64 w4 w4))) ?_;refine aC 5 rfl bG ?_;refine aC 6 rfl bG ?_;refine aC 7 rfl (dj rfl ot bP (kz (r:=((a+t+1:Nat):Int)) (by rw[show(((a+t:Nat):Int)+1)=((a+t+1:Nat):Int) by omega];exact wrap_i64 w4 w4))) ?_;refine aC 8 rfl (dw 1 (h:=by first|exact .l (j:=a+t+1) rfl w4|exact .r (j:=a+t+1) rfl w4)) ?_;refine aC 10 rfl bG ?_;refine aC 11 rfl bG ?_;refine aC 12 rfl (dw 1 (h:=by first|exact .l (j:=a+t) rfl w4|exact .r (j:=a+t) rfl w4)) ?_;refine dH.later rfl ?_;refine AD.two (i:=9) (j:=13) aB ?_ ?_
   ·refine at_ rfl eW ?_;refine AD.one (i:=13) aB ?_;exact z28
   refine at_ rfl eW ?_;refine AD.one (i:=9) aB ?_;exact z28
  obtain rfl:t=i-m:=(by omega)
  exact Hh
 refine cM [0,1,2,3,4,80] ?_;refine aP 2 ?_ (h:=by exact(dj rfl ot ot (gN (r:=((b-m:Nat):Int)) qT)));refine bD ?_;refine ax ?_ ?_<;>intro dV fB
 ·have Dt:b=m+1:=(by omega)
  refine af [0,2,4,14] ?_;refine af [0,2,4,14,15] ?_;refine ez [0,2,4] (fun aR _ (E:Nat×Nat) aD=>match E with|(i,j)=>(a≤i)∧(i≤j)∧(j≤m)∧((i=a∨∃(p:i-1<l.length) (q:m<l.length),(Rc cF Lt) l[i-1] l[m]))∧((j=m∨∃(p:m<l.length) (q:j<l.length),(Rc cF Lt) l[m] l[j]))∧aD=(⟨220,(14,ae (i:Nat))::(15,ae (j:Nat))::aR,(⟨O,3,cap*1,(l).flatMap cI⟩::I)⟩:St)) (fun (E:Nat×Nat)=>match E with|(i,j)=>j-i) (a,m) ⟨(Nat.le_refl _),w4,(Nat.le_refl _),(.inl rfl),(.inl rfl),rfl⟩ ?_;rintro⟨i,j⟩ _ ⟨YR,YI,Nw,dL,fF,rfl⟩;refine af [0,2,4,14,15,85] ?_;refine ax ?_ ?_<;>intro fD gG
  ·have hh:i<j:=(by omega)
   have hH:((i+j)/2)<l.length:=(by omega)
   have hM:m<l.length:=(by omega)
   refine cM [0,2,4,14,15,16] ?_;refine aP 2 ?_ (h:=by exact(dj rfl ot ot (kz (r:=((i+j:Nat):Int)) Ad)));refine aP 0 ?_ (h:=by exact(oQ rfl ot (oS (r:=((i+j:Nat):Int)) runUnderlying3 runUnderlying225 (IntWalk.u64_in _ w4))));refine aP 0 ?_ (h:=by exact(dj rfl ot bP (y4 w8 BU)));refine aP 0 ?_ (h:=by exact(oQ rfl ot (oS (r:=((((i+j)/2):Nat):Int)) runUnderlying225 runUnderlying3 (wrap_i64 w4 w4))));refine bD ?_;refine CD.seq ?_;refine gX 9 (av (take 1 _)) ?_ (fun _ h=>(Sublist.map _ (take_sublist _ _)).subset h);refine aC 0 rfl bG ?_;refine aC 1 rfl bG ?_;refine aC 2 rfl bG ?_;refine aC 3 rfl (dw 1 (h:=by first|exact .l (j:=m) rfl w4|exact .r (j:=m) rfl w4)) ?_;refine aC 4 rfl eW ?_;refine aC 5 rfl bG ?_;refine aC 6 rfl bG ?_;refine aC 7 rfl (dw 1 (h:=by first|exact .l (j:=((i+j)/2)) rfl w4|exact .r (j:=((i+j)/2)) rfl w4)) ?_;refine aC 8 rfl eW ?_;refine dH.later rfl ?_;refine fw ?_;refine OD.lS (f:=fc) (args:=[_,_]) (Sf:=I) ap rfl rfl ot Z (hc _ _ (hV _ (getElem_mem hM)) (hV _ (getElem_mem hH))) rfl ⟨ot,ot,trivial⟩ (perm_append_singleton _ _).symm ?_;rintro _ S2 ⟨rfl,iH⟩;rw[iH];clear iH;refine OD.perm (perm_append_singleton _ _) ?_;refine an 220 [0,2,4,14,15,16,103] ?_;refine ax ?_ ?_<;>intro iP o9
   ·have uj:(Rc cF Lt) (l[((i+j)/2)]'hH) (l[m]'hM):=FC ha (h.lt w4 w4 (Nat.le_refl _) w4 hH hM) w4;refine bX [0,2,4,14,15] ?_;exact XK
   have Av:(Rc cF Lt) (l[m]'hM) (l[((i+j)/2)]'hH):=E9 o9;refine bX [0,2,4,14,15] ?_;exact VT
  obtain rfl:i=j:=(by omega)
  obtain⟨P,B,Q,x,hP,hl,hiB,hB,KX⟩:=acd (R:=Rc cF Lt) (l:=l) (a:=a) (m:=m) (b:=b) (i:=i) ht h Dt YR Nw dL fF;subst hl;have lj:∀t,t≤B.length→(Mv P B Q x (t)).length=ln:=fun t ht=>by rw[FR ht,←gp,FR w4]
  refine af [0,14,17] ?_;refine ez [0,14] (fun aR _ (t:Nat) aD=>(i-a≤t)∧(t≤m-a)∧aD=(⟨220,(17,ae (a+t:Nat))::aR,(⟨O,3,cap*1,(Mv P B Q x (t)).flatMap cI⟩::I)⟩:St)) (fun (t:Nat)=>t) (m-a) ⟨w4,(Nat.le_refl _),rfl⟩ ?_;rintro t _ ⟨hti,htm,rfl⟩;refine af [0,14,17,110] ?_;refine ax ?_ ?_<;>intro iG mU
  ·obtain⟨t,rfl⟩:∃k,t=k+1:=⟨t-1,by omega⟩
   have MZ:t<B.length:=(by omega)
   have tq:=lj (t+1) w4;refine CD.skip ?_;refine CD.seq ?_;refine CD.block ?_;refine gX 16 (av (eraseIdx _ 0)) ?_ (fun _ h=>(Sublist.map _ (eraseIdx_sublist _ 0)).subset h);refine aC 0 rfl bG ?_;refine aC 1 rfl bG ?_;refine aC 2 rfl bG ?_;refine aC 3 rfl bG ?_;refine aC 4 rfl (dj rfl ot bP (gN (r:=((a+t:Nat):Int)) MK)) ?_;refine aC 5 rfl bG ?_;refine aC 6 rfl bG ?_;refine aC 7 rfl (dj rfl ot bP (gN (r:=((a+t:Nat):Int)) MK)) ?_;refine aC 8 rfl (dw 1 (h:=by first|exact .l (j:=a+t) rfl w4|exact .r (j:=a+t) rfl w4)) ?_;refine aC 10 rfl bG ?_;refine aC 11 rfl bG ?_;refine aC 12 rfl (dw 1 (h:=by first|exact .l (j:=a+t+1) rfl w4|exact .r (j:=a+t+1) rfl w4)) ?_;refine dH.later rfl ?_;refine AD.two (i:=9) (j:=13) aB ?_ ?_
   ·refine at_ rfl eW ?_;refine AD.one (i:=13) aB ?_;exact W7
   refine at_ rfl eW ?_;refine AD.one (i:=9) aB ?_;exact W7
  obtain rfl:t=i-a:=(by omega)
  exact Hh
 obtain⟨mid,alc⟩:∃q,q=(a+b)/2:=⟨_,rfl⟩
 refine cM [0,1,2,3,4,18] ?_;refine aP 2 ?_ (h:=by exact(dj rfl ot ot (kz (r:=((a+b:Nat):Int)) Ad)));refine aP 0 ?_ (h:=by exact(oQ rfl ot (oS (r:=((a+b:Nat):Int)) runUnderlying3 runUnderlying225 (IntWalk.u64_in _ w4))));refine aP 0 ?_ (h:=by exact(dj rfl ot bP (y4 w8 BU)));refine aP 0 ?_ (h:=by exact(oQ rfl ot (oS (r:=((mid:Nat):Int)) runUnderlying225 runUnderlying3 (by rw[show(((a+b)/2:Nat):Int)=((mid:Nat):Int) by rw[alc]];exact wrap_i64 w4 w4))));refine bD ?_;refine cM [0,1,2,3,4,18,19] ?_;refine aP 2 ?_ (h:=by exact(dj rfl ot ot (kz (r:=((mid+m:Nat):Int)) Ad)));refine bD ?_;refine af [0,1,2,3,4,18,19] ?_;refine iv [0,1,2,3,4,18,19] (fun aR lK aD=>∃(s0:Nat),∃(r0:Nat),((mid<m∧s0=mid+m-b∧r0=mid)∨(m≤mid∧s0=a∧r0=m))∧aD=(⟨220,(20,ae (s0:Nat))::(21,ae (r0:Nat))::aR,lK⟩:St)) ?_ ?_
 ·refine af [0,1,2,3,4,18,19,140] ?_;refine ax ?_ ?_<;>intro qi zP
  ·refine cM [0,1,2,3,4,18,19,20] ?_;refine aP 2 ?_ (h:=by exact(dj rfl ot ot (gN (r:=(((mid+m)-b:Nat):Int)) qT)));refine bD ?_;refine bX [0,1,2,3,4,18,19,20,21] ?_;refine⟨_,aJ,(mid+m-b),mid,(.inl ⟨by omega,rfl,rfl⟩),rfl⟩
  refine af [0,1,2,3,4,18,19,20] ?_;refine bX [0,1,2,3,4,18,19,20,21] ?_;refine⟨_,aJ,a,m,(.inr ⟨by omega,rfl,rfl⟩),rfl⟩
 rintro _ ⟨s0,r0,HT,rfl⟩;refine cM [0,1,2,3,4,18,19,20,21,22] ?_;refine aP 1 ?_ (h:=by exact(dj rfl ot bP (gN (r:=(((mid+m)-1:Nat):Int)) (by rw[show((((mid+m):Nat):Int)-1)=(((mid+m)-1:Nat):Int) by omega];exact wrap_i64 w4 w4))));refine bD ?_;refine ez [0,1,2,3,4,18,19,22] (fun aR _ (E:Nat×Nat) aD=>match E with|(s,r)=>(s0≤s)∧(s≤r)∧(r≤r0)∧((s=s0∨∃(p:s-1<l.length) (q:mid+m-s<l.length),(Rc cF Lt) l[s-1] l[mid+m-s]))∧((r=r0∨∃(p:mid+m-r-1<l.length) (q:r<l.length),(Rc cF Lt) l[mid+m-r-1] l[r]))∧aD=(⟨220,(20,ae (s:Nat))::(21,ae (r:Nat))::aR,(⟨O,3,cap*1,(l).flatMap cI⟩::I)⟩:St)) (fun (E:Nat×Nat)=>match E with|(s,r)=>r-s) (s0,r0) ⟨(Nat.le_refl _),w4,(Nat.le_refl _),(.inl rfl),(.inl rfl),rfl⟩ ?_;rintro⟨s,r⟩ _ ⟨nJ,aqS,YT,dL,fF,rfl⟩;refine af [0,1,2,3,4,18,19,20,21,22,151] ?_;refine ax ?_ ?_<;>intro uD Ck
 ·have hh:s<r:=(by omega)
  have hC:((s+r)/2)<l.length:=(by omega)
  have hQ:(mid+m-1-((s+r)/2))<l.length:=(by omega)
  refine cM [0,1,2,3,4,18,19,20,21,22,23] ?_;refine aP 2 ?_ (h:=by exact(dj rfl ot ot (kz (r:=((s+r:Nat):Int)) Ad)));refine aP 0 ?_ (h:=by exact(oQ rfl ot (oS (r:=((s+r:Nat):Int)) runUnderlying3 runUnderlying225 (IntWalk.u64_in _ w4))));refine aP 0 ?_ (h:=by exact(dj rfl ot bP (y4 w8 BU)));refine aP 0 ?_ (h:=by exact(oQ rfl ot (oS (r:=((((s+r)/2):Nat):Int)) runUnderlying225 runUnderlying3 (wrap_i64 w4 w4))));refine bD ?_;refine CD.seq ?_;refine gX 11 (av (take 1 _)) ?_ (fun _ h=>(Sublist.map _ (take_sublist _ _)).subset h);refine aC 0 rfl bG ?_;refine aC 1 rfl bG ?_;refine aC 2 rfl bG ?_;refine aC 3 rfl bG ?_;refine aC 4 rfl (dj rfl ot ot (gN (r:=(((mid+m-1)-((s+r)/2):Nat):Int)) qT)) ?_;refine aC 5 rfl (dw 1 (h:=by first|exact .l (j:=(mid+m-1-((s+r)/2))) rfl w4|exact .r (j:=(mid+m-1-((s+r)/2))) rfl w4)) ?_;refine aC 6 rfl eW ?_;refine aC 7 rfl bG ?_;refine aC 8 rfl bG ?_;refine aC 9 rfl (dw 1 (h:=by first|exact .l (j:=((s+r)/2)) rfl w4|exact .r (j:=((s+r)/2)) rfl w4)) ?_;refine aC 10 rfl eW ?_;refine dH.later rfl ?_;refine fw ?_;refine OD.lS (f:=fc) (args:=[_,_]) (Sf:=I) ap rfl rfl ot Z (hc _ _ (hV _ (getElem_mem hQ)) (hV _ (getElem_mem hC))) rfl ⟨ot,ot,trivial⟩ (perm_append_singleton _ _).symm ?_;rintro _ S2 ⟨rfl,iH⟩;rw[iH];clear iH;refine OD.perm (perm_append_singleton _ _) ?_
  refine an 220 [0,1,2,3,4,18,19,20,21,22,23,171] ?_;refine ax ?_ ?_<;>intro GD F9
  ·have ald:(Rc cF Lt) (l[((s+r)/2)]'hC) (l[(mid+m-1-((s+r)/2))]'hQ):=FC ha (h.lt w4 w4 w4 w4 hC hQ) w4;have uj:(Rc cF Lt) (l[((s+r)/2)+1-1]'w4) (l[mid+m-(((s+r)/2)+1)]'w4):=(by simpa only[show((s+r)/2)+1-1=((s+r)/2) by omega,show mid+m-(((s+r)/2)+1)=(mid+m-1-((s+r)/2)) by omega] using ald)
   refine bX [0,1,2,3,4,18,19,20,21,22] ?_;refine⟨((((s+r)/2)+1),r),_,cn,aJ,w4,w4,w4,(.inr ⟨by omega,by omega,uj⟩),fF,rfl⟩
  have ale:(Rc cF Lt) (l[(mid+m-1-((s+r)/2))]'hQ) (l[((s+r)/2)]'hC):=E9 F9;have Av:(Rc cF Lt) (l[mid+m-((s+r)/2)-1]'w4) (l[((s+r)/2)]'w4):=(by simpa only[show mid+m-((s+r)/2)-1=(mid+m-1-((s+r)/2)) by omega] using ale)
  refine bX [0,1,2,3,4,18,19,20,21,22] ?_;refine⟨(s,((s+r)/2)),_,cn,aJ,w4,w4,w4,dL,(.inr ⟨by omega,by omega,Av⟩),rfl⟩
 obtain rfl:s=r:=(by omega)
 obtain⟨l1,qP,Lw⟩:=afF (R:=Rc cF Lt) (l:=l) (a:=a) (m:=m) (b:=b) (s:=s) (e:=mid+m-s) (mid:=mid) ht h w4 w4 w4 w4 w4 (by rcases dL with q|q;(rcases HT with q2|q2;exact .inr (.inl w4);exact .inl w4);exact .inr (.inr q)) (by rcases fF with q|q;(rcases HT with q2|q2;exact .inl w4;exact .inr (.inl w4));exact .inr (.inr q));have lF:=Lw.len.2.2;refine cM [0,1,2,3,4,18,20,24] ?_;refine aP 2 ?_ (h:=by exact(dj rfl ot ot (gN (r:=(((mid+m)-s:Nat):Int)) qT)));refine bD ?_;refine iv [0,1,3,4,18,20,24] (fun aR _ aD=>aD=(⟨220,aR,(⟨O,3,cap*1,(l1).flatMap cI⟩::I)⟩:St)) ?_ ?_
 ·refine aA 4 ?_;refine bW 181 (fun aiz ahb=>?_) (fun aiz ahb=>?_)
  ·refine bp [0,1,2,3,4,18,20,24,185] ?_;refine ax ?_ ?_<;>intro vq FW
   ·refine dG 5 ?_;refine OD.call (R:=I) ap rfl rfl rfl call177 (ag9 l l1 ln s m (mid+m-s) cap O (.eA (.func fc) U) [] Lw w4 w4 gp qb w4) ⟨ot,ot,ot,ot,ot,trivial⟩ (Perm.refl _) ?_;rintro _ _ ⟨rfl,rfl⟩;refine an 220 [0,1,3,4,18,20,24] ?_;refine⟨_,aJ,rfl⟩
   exact z105
  refine bp [0,1,2,3,4,18,20,24,185] ?_;refine fY ?_;exact z105
 rintro _ ⟨rfl⟩;refine iv [0,3,4,18,24] (fun aR _ aD=>∃(l2:List Int),(Part (Rc cF Lt) l1 l2 a mid)∧aD=(⟨220,aR,(⟨O,3,cap*1,(l2).flatMap cI⟩::I)⟩:St)) ?_ ?_
 ·refine aA 4 ?_;refine bW 195 (fun aiA ahc=>?_) (fun aiA ahc=>?_)
  ·refine bp [0,1,3,4,18,20,24,199] ?_;refine ax ?_ ?_<;>intro aqT ah6
   ·refine dG 5 ?_;refine OD.call (R:=[]) ap rfl rfl rfl call164 (ih (mid-a) w4 l1 a s mid rfl (afG qP) w4 w4 (lF.trans gp) (fun z hz=>hV z (qP.perm.subset hz))) ⟨ot,ot,ot,ot,ot,trivial⟩ pu ?_;rintro _ _ ⟨rfl,l2,oK,rfl⟩;refine OD.perm (S':=⟨O,3,cap*1,(l2).flatMap cI⟩::I) pu ?_;refine an 220 [0,3,4,18,24] ?_;refine⟨_,aJ,l2,oK,rfl⟩
   refine CD.skip ?_;refine⟨_,aJ,l1,(RT qP w4),rfl⟩
  refine bp [0,1,3,4,18,20,24,199] ?_;refine fY ?_;refine CD.skip ?_;refine⟨_,aJ,l1,(RT qP w4),rfl⟩
 rintro _ ⟨l2,oK,rfl⟩;refine aA 4 ?_;refine bW 209 (fun aiB ahd=>?_) (fun aiB ahd=>?_)
 ·refine bp [0,3,4,18,24,213] ?_;refine ax ?_ ?_<;>intro aqU ah7
  ·refine dG 5 ?_;refine OD.call (R:=[]) ap rfl rfl rfl call164 (ih (b-mid) w4 l2 mid (mid+m-s) b rfl (adU qP oK) w4 w4 (oK.len.trans (lF.trans gp)) (fun z hz=>hV z (qP.perm.subset (oK.perm.subset hz)))) ⟨ot,ot,ot,ot,ot,trivial⟩ pu ?_;rintro _ _ ⟨rfl,l3,Xj,rfl⟩;refine OD.perm (S':=⟨O,3,cap*1,(l3).flatMap cI⟩::I) pu ?_;refine an 220 [] ?_;exact Hh
  exact Hh
 refine bp [0,3,4,18,24,213] ?_;refine fY ?_;refine aK _ ?_;first|exact⟨rfl,_,KX,rfl⟩|exact⟨rfl,_,Fb qP oK Xj,rfl⟩|exact⟨rfl,_,Fb qP oK (Ps qP oK w4),rfl⟩
theorem U0(I cap bd O:Nat)(E:List D)(U:List ah)(cF:Int→Int→Int)(V:Int→Prop)(Lt:Int→Int→Prop)(hc:∀x y,V x→V y→VC Tryz.prog G O ([ae x,ae y]++E) U (fun r S'=>r=ae (cF x y)∧S'=U))(Z:∀args w,(callFunc O args).run Tryz.prog w = .ok (.enter O args) w)(ht:∀{x y z:Int},Rc cF Lt x y→Rc cF Lt y z→Rc cF Lt x z)(ha:∀x y,0≤cF y x→cF x y≤0)(qb:I≤cap)(rP:cap≤maxLen)(nJ:I≤1000000):∀(n:Nat) (l:List Int) (a m b:Nat),b-a=n→qu (Rc cF Lt) Lt l a m b→a<m→m<b→l.length=I→(∀x∈l,V x)→VC Tryz.prog G 164 [aN (some ⟨bd,0,none⟩) I cap,ae (a:Nat),ae (m:Nat),ae (b:Nat),.eA (.func O) E] (⟨bd,3,cap*1,(l).flatMap cI⟩::U) (fun r S'=>r = .dh []∧∃lz,Part (Rc cF Lt) l lz a b∧S'=⟨bd,3,cap*1,(lz).flatMap cI⟩::U):=fun n=>Nat.strongRecOn n (adY I cap bd O E U cF V Lt hc Z ht ha qb rP nJ)

end Go.Proofs.YtkgmonfgofobaaaGreatDoor.So
namespace Go.Proofs.YtkgmonfgofobaaaGreatDoor.So
open List
open Go.Proofs.Tryz
variable {R Lt:Int→Int→Prop} {l l1 cur nV:List Int} {a b m n k:Nat}
theorem I0(h:Part R l l1 a b):l1.drop b=l.drop b:=by
 obtain⟨P,M,E,Q,rfl,rfl,rfl,rfl,hp,_⟩:=h;rw[←append_assoc,drop_left' (by rw[length_append]),←append_assoc,drop_left' (by rw[length_append,hp.length_eq])]
theorem RU(h:Part R l l1 a a):l1=l:=by
 obtain⟨P,M,E,Q,rfl,rfl,rfl,h1,hp,_⟩:=h;have hl:=hp.length_eq;rw[length_eq_zero_iff.1 (show M.length=0 by omega),length_eq_zero_iff.1 (show E.length=0 by omega)]
theorem Jt(h:Part R l l1 0 n)(hn:l.length=n):l1.Perm l∧l1.Pairwise R:=by
 refine⟨h.perm,?_⟩;obtain⟨P,M,E,Q,rfl,rfl,h1,h2,hp,hs⟩:=h;have hl:=hp.length_eq;simp only[length_append] at hn;rw[length_eq_zero_iff.1 h1,length_eq_zero_iff.1 (show Q.length=0 by omega)];simpa using hs
def yx(R:Int→Int→Prop)(l cur:List Int)(k:Nat):Prop:=(k=0∧cur=l)∨(k=1∧Part R l cur 0 20)∨(k=2∧∃l1,Part R l l1 0 20∧Part R l1 cur 20 40)
def GL(R:Int→Int→Prop)(l cur:List Int)(n:Nat):Prop:=∃l1,Part R l l1 0 20∧Part R l1 cur 20 n
theorem yx.perm(h:yx R l cur k):cur.Perm l:=by
 rcases h with ⟨_,rfl⟩|⟨_,h⟩|⟨_,l1,h1,h2⟩
 ·exact .refl _
 ·exact h.perm
 exact h2.perm.trans h1.perm
theorem adZ(h:yx R l cur k)(hk:k≤1)(hp:Part R cur nV (20*k) (20*(k+1))):yx R l nV (k+1):=by
 rcases h with ⟨rfl,rfl⟩|⟨rfl,h⟩|⟨rfl,_⟩
 ·exact .inr (.inl ⟨rfl,hp⟩)
 ·exact .inr (.inr ⟨rfl,_,h,hp⟩)
 omega
theorem ad0(h:yx R l cur k):cur.drop (20*k)=l.drop (20*k):=by
 rcases h with ⟨rfl,rfl⟩|⟨rfl,h⟩|⟨rfl,l1,h1,h2⟩
 ·rfl
 ·exact I0 h
 rw[I0 h2];have:=congrArg (drop 20) (I0 h1);rw[drop_drop,drop_drop] at this;exact this
theorem afH(h:yx R l cur k)(h1:20*k≤n)(h2:n<20*(k+1))(h3:n≤40)(hl:l.length=n)(hp:Part R cur nV (20*k) n):(n≤20∧nV.Perm l∧nV.Pairwise R)∨(20<n∧GL R l nV n):=by
 rcases h with ⟨rfl,rfl⟩|⟨rfl,h⟩|⟨rfl,l1,p1,p2⟩
 ·exact .inl ⟨by omega,Jt hp hl⟩
 ·rcases Nat.lt_or_ge 20 n with q|q
  ·exact .inr ⟨q,_,h,hp⟩
  obtain rfl:n=20:=(by omega)
  rw[RU hp];exact .inl ⟨q,Jt h hl⟩
 obtain rfl:n=40:=(by omega)
 rw[RU hp];exact .inr ⟨by omega,_,p1,p2⟩
theorem ad4(h:GL R l cur n)(hq:l.Pairwise Lt):qu R Lt cur 0 20 n:=by
 obtain⟨l1,⟨P,M,M0,Q,rfl,rfl,h1,h2,hp,hs⟩,p2⟩:=h;obtain rfl:=length_eq_zero_iff.1 h1;obtain⟨O,U,Z,I,rfl,h4,h5,h6,oK,E⟩:=p2;obtain⟨e1,e2⟩:=append_inj (show M++Q=O++(Z++I) from h4) w4;subst e1 e2;rw[nil_append,pairwise_append] at hq;exact⟨[],M,U,I,by simp,rfl,by omega,by omega,hs,E,fun x hx y hy=>hq.2.2 x (hp.subset hx) y (mem_append_left _ (oK.subset hy))⟩
theorem RV(h:GL R l cur n)(hp:Part R cur nV 0 n)(hl:l.length=n):nV.Perm l∧nV.Pairwise R:=by
 obtain⟨l1,p1,p2⟩:=h;have:=Jt hp (by rw[p2.len,p1.len,hl]);exact⟨this.1.trans (p2.perm.trans p1.perm),this.2⟩

end Go.Proofs.YtkgmonfgofobaaaGreatDoor.So
namespace Go.Proofs.YtkgmonfgofobaaaGreatDoor.So
open List
open Go.Proofs.Tryz
open Go.RowKit V Tw
variable {G:List (Nat×List Value)}
theorem ace(I cap U fc:Nat)(O:List D)(Z:List ah)(cF:Int→Int→Int)(V:Int→Prop)(Lt:Int→Int→Prop)(hc:∀x y,V x→V y→VC Tryz.prog G fc ([ae x,ae y]++O) Z (fun r S'=>r=ae (cF x y)∧S'=Z))(vv:∀args w,(callFunc fc args).run Tryz.prog w = .ok (.enter fc args) w)(ht:∀{x y z:Int},Rc cF Lt x y→Rc cF Lt y z→Rc cF Lt x z)(ha:∀x y,0≤cF y x→cF x y≤0)(qb:I≤cap)(rP:cap≤maxLen)(nJ:I≤40)(l:List Int)(hq:l.Pairwise Lt)(gp:l.length=I)(hV:∀x∈l,V x):VC Tryz.prog G 150 [aN (some ⟨U,0,none⟩) I cap,ae (I:Nat),.eA (.func fc) O] (⟨U,3,cap*1,(l).flatMap cI⟩::Z) (fun r S'=>r = .dh []∧∃(lz:List Int),(lz.Perm l∧lz.Pairwise (Rc cF Lt))∧S'=⟨U,3,cap*1,(lz).flatMap cI⟩::Z):=by
 refine VC.body func150 rfl ntmps150 aQ fun X0 w0 bf=>?_;have cY:=dN;refine af [0,1,2,6] ?_;refine af [0,1,2,6,7,8] ?_;refine CD.seq ?_;refine CD.block ?_;refine ni (fun (E:Nat×List Int) aD=>match E with|(k,cur)=>(20*k≤I)∧(yx (Rc cF Lt) l cur k)∧aD=(⟨63,[(0,aN (some ⟨U,0,none⟩) I cap),(1,ae (I:Nat)),(2,.eA (.func fc) O),(6,ae 20),(7,ae (20*k:Nat)),(8,ae (20*(k+1):Nat))],(⟨U,3,cap*1,(cur).flatMap cI⟩::Z)⟩:St)) (fun (E:Nat×List Int)=>match E with|(k,cur)=>3-k) (0,l) ⟨(Nat.zero_le _),(.inl ⟨rfl,rfl⟩),rfl⟩ (aJ (h:=by repeat (first|exact trivial|refine⟨(by (repeat (first|exact fI|(apply fX;focus (first|rfl|(rw[show(20*(k+1):Nat)=20*k+20 by omega];rfl)|(simp;done)|(congr 3;omega)))|(apply fN;focus rfl)));done),?_⟩))) ?_;rintro⟨k,cur⟩ _ ⟨hk,fL,rfl⟩;have ku:=fL.perm.length_eq;have sZ:(cur.drop (20*k)).Pairwise Lt:=(by rw[ad0 fL];exact hq.drop)
 have DW:∀x∈cur,V x:=fun x hx=>hV x (fL.perm.subset hx);refine af [0,1,2,6,7,8,13] ?_;refine ax ?_ ?_<;>intro aO bA
 ·have yw:20*(k+1)≤I:=(by omega)
  refine aA 4 ?_;refine OD.call (R:=[]) ap rfl rfl rfl call163 (UZ cur I (20*k) (20*(k+1)) cap U fc O Z cF V Lt DW hc vv ht ha sZ w4 w4 w4 qb rP w4) ⟨ot,ot,ot,ot,trivial⟩ pu ?_;rintro _ _ ⟨rfl,c1,alf,rfl⟩;refine OD.perm (S':=⟨U,3,cap*1,(c1).flatMap cI⟩::Z) pu ?_;refine an 63 [0,1,2,6,8] ?_;refine af [0,1,2,6,7,8] ?_;refine gC [0,1,2,6,7,8] ?_;refine aP 2 ?_ (h:=by exact(dj rfl ot ot (kz (r:=((20*(k+1+1):Nat):Int)) (by rw[show(((20*(k+1):Nat):Int)+20)=((20*(k+1+1):Nat):Int) by omega];exact wrap_i64 w4 w4))));refine bD ?_;refine⟨((k+1),c1),_,cn,(aJ (h:=by repeat (first|exact trivial|refine⟨(by (repeat (first|exact fI|(apply fX;focus (first|rfl|(rw[show(20*(k+1):Nat)=20*k+20 by omega];rfl)|(simp;done)|(congr 3;omega)))|(apply fN;focus rfl)));done),?_⟩))),w4,(adZ fL w4 alf),rfl⟩
 have yw:I<20*(k+1):=(by omega)
 refine aA 4 ?_;refine OD.call (R:=[]) ap rfl rfl rfl call163 (UZ cur I (20*k) I cap U fc O Z cF V Lt DW hc vv ht ha sZ w4 w4 w4 qb rP w4) ⟨ot,ot,ot,ot,trivial⟩ pu ?_;rintro _ _ ⟨rfl,c2,Wz,rfl⟩;refine OD.perm (S':=⟨U,3,cap*1,(c2).flatMap cI⟩::Z) pu ?_;have fh:=afH fL hk yw nJ gp Wz;have WA:c2.Perm l:=Wz.perm.trans fL.perm;refine an 63 [0,1,2,6] ?_;refine ez [0,1,2] (fun aR _ (E:Nat×List Int) aD=>match E with|(q,cur)=>((q=20∧cur=c2)∨(q=40∧(cur.Perm l∧cur.Pairwise (Rc cF Lt))))∧aD=(⟨63,(6,ae (q:Nat))::aR,(⟨U,3,cap*1,(cur).flatMap cI⟩::Z)⟩:St)) (fun (E:Nat×List Int)=>match E with|(q,cur)=>40-q) (20,c2) ⟨(.inl ⟨rfl,rfl⟩),rfl⟩ ?_;rintro⟨q,cur⟩ _ ⟨Du,rfl⟩;refine af [0,1,2,6,30] ?_;refine ax ?_ ?_<;>intro aY cz
 ·obtain⟨rfl,rfl⟩:q=20∧cur=c2:=(by (rcases Du with h|h;exact h;omega))
  have Ll:GL (Rc cF Lt) l cur I:=(by (rcases fh with h|h;omega;exact h.2))
  have WB:=ad4 Ll hq;have ku:=WA.length_eq;have DW:∀x∈cur,V x:=fun x hx=>hV x (WA.subset hx);refine af [0,1,2,6,7,8] ?_;refine ez [0,1,2,6] (fun aR _ (E:Nat×List Int) aD=>match E with|(j,c3)=>((j=0∧c3=cur)∨(j=1∧I=40∧(c3.Perm l∧c3.Pairwise (Rc cF Lt))))∧aD=(⟨63,(7,ae (40*j:Nat))::(8,ae (40*(j+1):Nat))::aR,(⟨U,3,cap*1,(c3).flatMap cI⟩::Z)⟩:St)) (fun (E:Nat×List Int)=>match E with|(j,c3)=>1-j) (0,cur) ⟨(.inl ⟨rfl,rfl⟩),rfl⟩ ?_;rintro⟨j,c3⟩ _ ⟨qX,rfl⟩;refine af [0,1,2,6,7,8,35] ?_;refine ax ?_ ?_<;>intro cc cN
  ·obtain⟨qW,rfl⟩:j=0∧c3=cur:=(by (rcases qX with h|h;exact h;omega))
   have LV:I=40:=(by omega)
   refine aA 4 ?_;refine bQ (dj rfl ot ot (kz (r:=((20:Nat):Int)) (by rw[qW];rfl))) ?_;refine aG 2 ?_;have apT:=LV;refine OD.call (R:=[]) ap rfl rfl rfl call164 (U0 I cap U fc O Z cF V Lt hc vv ht ha qb rP w4 _ c3 (40*j) 20 (40*(j+1)) rfl (by rw[show 40*j=0 by omega,show 40*(j+1)=I by omega];exact WB) w4 w4 w4 DW) ⟨ot,ot,ot,ot,ot,trivial⟩ pu ?_;rintro _ _ ⟨rfl,c5,alg,rfl⟩;refine OD.perm (S':=⟨U,3,cap*1,(c5).flatMap cI⟩::Z) pu ?_;have alh:Part (Rc cF Lt) c3 c5 0 I:=(by have:=alg;rwa [show 40*j=0 by omega,show 40*(j+1)=I by omega] at this)
   refine an 63 [0,1,2,6,8] ?_;refine af [0,1,2,6,7,8] ?_;refine bX [0,1,2,6,7,8] ?_;refine⟨(1,c5),_,cn,aJ,(.inr ⟨rfl,LV,RV Ll alh gp⟩),rfl⟩
  refine CD.exit ?_;refine iv [0,1,2,6] (fun aR _ aD=>∃(c4:List Int),((c4.Perm l∧c4.Pairwise (Rc cF Lt)))∧aD=(⟨63,aR,(⟨U,3,cap*1,(c4).flatMap cI⟩::Z)⟩:St)) ?_ ?_
  ·refine cM [0,1,2,6,7,9] ?_;refine aP 2 ?_ (h:=by exact(dj rfl ot ot (kz (r:=((40*j+20:Nat):Int)) (by rw[show(((40*j:Nat):Int)+((20:Nat):Int))=((40*j+20:Nat):Int) by omega];exact wrap_i64 w4 w4))));refine bD ?_;refine af [0,1,2,6,7,9,54] ?_;refine ax ?_ ?_<;>intro cQ ek
   ·obtain⟨qW,rfl⟩:j=0∧c3=cur:=(by (rcases qX with h|h;exact h;omega))
    refine dG 5 ?_;refine OD.call (R:=[]) ap rfl rfl rfl call164 (U0 I cap U fc O Z cF V Lt hc vv ht ha qb rP w4 _ c3 (40*j) (40*j+20) I rfl (by rw[show 40*j=0 by omega];exact WB) w4 w4 w4 DW) ⟨ot,ot,ot,ot,ot,trivial⟩ pu ?_;rintro _ _ ⟨rfl,c6,ali,rfl⟩;refine OD.perm (S':=⟨U,3,cap*1,(c6).flatMap cI⟩::Z) pu ?_;have alj:Part (Rc cF Lt) c3 c6 0 I:=(by have:=ali;rwa [show 40*j=0 by omega] at this)
    refine an 63 [0,1,2,6] ?_;refine⟨_,aJ,c6,(RV Ll alj gp),rfl⟩
   have HT:(c3.Perm l∧c3.Pairwise (Rc cF Lt)):=(by (rcases qX with h|h;omega;exact h.2.2))
   refine CD.skip ?_;refine⟨_,aJ,c3,HT,rfl⟩
  rintro _ ⟨c4,dV,rfl⟩;refine bX [0,1,2,6] ?_;refine⟨(40,c4),_,cn,aJ,(.inr ⟨rfl,dV⟩),rfl⟩
 have ny:(cur.Perm l∧cur.Pairwise (Rc cF Lt)):=(by (rcases Du with ⟨rfl,rfl⟩|h;(rcases fh with h|h;exact h.2;omega);exact h.2))
 refine aK _ ?_;exact⟨rfl,_,ny,rfl⟩
theorem afI(O cap U Z:Nat)(E:List D)(I:List ah)(cF:Int→Int→Int)(V:Int→Prop)(Lt:Int→Int→Prop)(hc:∀x y,V x→V y→VC Tryz.prog G Z ([ae x,ae y]++E) I (fun r S'=>r=ae (cF x y)∧S'=I))(vv:∀args w,(callFunc Z args).run Tryz.prog w = .ok (.enter Z args) w)(ht:∀{x y z:Int},Rc cF Lt x y→Rc cF Lt y z→Rc cF Lt x z)(ha:∀x y,0≤cF y x→cF x y≤0)(qb:O≤cap)(rP:cap≤maxLen)(nJ:O≤40)(l:List Int)(hq:l.Pairwise Lt)(gp:l.length=O)(hV:∀x∈l,V x):VC Tryz.prog G 111 [aN (some ⟨U,0,none⟩) O cap,.eA (.func Z) E] (⟨U,3,cap*1,(l).flatMap cI⟩::I) (fun r S'=>r = .dh []∧∃(lz:List Int),(lz.Perm l∧lz.Pairwise (Rc cF Lt))∧S'=⟨U,3,cap*1,(lz).flatMap cI⟩::I):=by
 refine VC.body func111 rfl ntmps111 aQ fun X0 w0 bf=>?_;have cY:=dN;refine dG 4 ?_;refine OD.call (R:=[]) ap rfl rfl rfl call150 (ace O cap U Z E I cF V Lt hc vv ht ha qb rP nJ l hq gp hV) ⟨ot,ot,ot,trivial⟩ pu ?_;rintro _ _ ⟨rfl,lz,yp,rfl⟩;refine OD.perm (S':=⟨U,3,cap*1,(lz).flatMap cI⟩::I) pu ?_;refine an 9 [] ?_;refine aK _ ?_;exact⟨rfl,_,yp,rfl⟩

end Go.Proofs.YtkgmonfgofobaaaGreatDoor.So
namespace Go.Proofs.YtkgmonfgofobaaaGreatDoor.Ba
open List
open Go.Proofs.Tryz
open Go.RowKit V Pk Tr Vl Go.Proofs.YtkgmonfgofobaaaGreatDoor.Nm Pc Cd Ex Tw Go.Proofs.YtkgmonfgofobaaaGreatDoor.So
variable {t:aH} {o n:Nat} {i k:Int}
theorem Fy(a b:Vl):fg a b<0↔a.k<b.k∨(a.k=b.k∧(a.n<b.n∨(a.n=b.n∧Go.Lib.compareBytes a.s.data.toList b.s.data.toList<0))):=by
 exact z80
theorem Ql{a b:Vl}(h:fg a b=0):a=b:=by
 unfold fg cmpL gm gm gm gm at h;have hs:a.k=b.k∧a.n=b.n∧Go.Lib.compareBytes a.s.data.toList b.s.data.toList=0:=by
  rcases su a.k b.k with ⟨h1,h2⟩|⟨h1,h2⟩|⟨h1,h2⟩<;>rcases su a.n b.n with ⟨k1,k2⟩|⟨k1,k2⟩|⟨k1,k2⟩<;>simp only[h1,k1] at h<;>(repeat' split at h)<;>first|omega|(refine⟨h2,k2,?_⟩;omega)
 obtain⟨e1,e2,E⟩:=hs;obtain⟨k,n,s⟩:=a;obtain⟨k',n',s'⟩:=b;simp only at e1 e2 E;subst e1 e2;rw[Fc (tY.1 E)]
theorem T1{a b c:Vl}(h1:fg a b<0)(h2:fg b c<0):fg a c<0:=by
 rw[Fy] at h1 h2 ⊢;rcases h1 with h1|⟨h1,h1|⟨E,h1⟩⟩<;>rcases h2 with h2|⟨h2,h2|⟨I,h2⟩⟩<;>first|omega|(refine .inr ⟨by omega,.inr ⟨by omega,?_⟩⟩;exact lR h1 h2)
def cellAt(t:aH)(o:Nat)(i:Int):Vl:=(rowAt t i).getD o bu
def j5(t:aH)(down:Bool)(o:Nat)(i k:Int):Int:=if down=true then -(fg (cellAt t o i) (cellAt t o k)) else fg (cellAt t o i) (cellAt t o k)
def DX(t:aH)(i k:Int):Prop:=bC (cH (rowAt t i)) (cH (rowAt t k))
theorem EC(t:aH)(down:Bool)(o:Nat)(i k:Int):j5 t down o k i = -(j5 t down o i k):=by
 unfold j5;rw[Bb (cellAt t o i) (cellAt t o k)];split<;>omega
theorem T2{down:Bool}{l:Int}(h1:j5 t down o i k<0)(h2:j5 t down o k l<0):j5 t down o i l<0:=by
 unfold j5 at *;split at h1
 ·rename_i hd;rw[if_pos hd] at h2 ⊢;have e1:=Bb (cellAt t o i) (cellAt t o k);have e2:=Bb (cellAt t o k) (cellAt t o l);have E:=Bb (cellAt t o i) (cellAt t o l);have:=T1 (a:=cellAt t o l) (b:=cellAt t o k) (c:=cellAt t o i) w4 w4;omega
 rename_i hd;rw[if_neg hd] at h2 ⊢;exact T1 h1 h2
theorem Bj{down:Bool}(h:j5 t down o i k=0):cellAt t o i=cellAt t o k:=by
 unfold j5 at h;split at h
 ·exact Ql w4
 exact Ql h
theorem BC{down:Bool}(h:cellAt t o i=cellAt t o k)(l:Int):j5 t down o i l=j5 t down o k l:=by unfold j5;rw[h]
theorem RW{down:Bool}(h:cellAt t o i=cellAt t o k)(l:Int):j5 t down o l i=j5 t down o l k:=by unfold j5;rw[h]
abbrev mL(t:aH)(down:Bool)(o:Nat):Int→Int→Prop:=Rc (j5 t down o) (DX t)
theorem ahe(t:aH)(down:Bool)(o:Nat){x y z:Int}(h1:mL t down o x y)(h2:mL t down o y z):mL t down o x z:=by
 rcases h1 with h1|⟨h1,E⟩<;>rcases h2 with h2|⟨h2,I⟩
 ·exact .inl (T2 h1 h2)
 ·exact .inl (by rw[←RW (Bj h2)];exact h1)
 ·exact .inl (by rw[BC (Bj h1)];exact h2)
 exact .inr ⟨by rw[BC (Bj h1)];exact h2,lR E I⟩
theorem RX{down:Bool}{x y:Int}(h1:mL t down o x y)(h2:mL t down o y x):False:=by
 have e:=EC t down o x y;rcases h1 with h1|⟨h1,E⟩<;>rcases h2 with h2|⟨h2,I⟩
 ·omega
 ·omega
 ·omega
 exact jV _ (lR E I)
noncomputable def vm(t:aH)(down:Bool)(o:Nat)(l:List Int):List Int:=Classical.epsilon fun lz=>lz.Perm l∧lz.Pairwise (mL t down o)
theorem Kk{down:Bool}{l lz:List Int}(h:lz.Perm l∧lz.Pairwise (mL t down o)):lz=vm t down o l:=by
 have hs:=Classical.epsilon_spec (p:=fun lz=>lz.Perm l∧lz.Pairwise (mL t down o)) ⟨lz,h⟩;exact Perm.eq_of_pairwise (fun a b _ _ h1 h2=>(RX h1 h2).elim) h.2 hs.2 (h.1.trans hs.1.symm)
theorem EY(t:aH)(w:List aS):∀(l:List (K×Int)) (acc:List Int),(lE t w acc l).1.Sublist (acc++l.map Prod.snd)
 | [],acc=>by unfold lE;simp
 | x::r,acc=>by
  have h1:(lE t w acc r).1.Sublist (acc++(x::r).map Prod.snd):=(EY t w r acc).trans (Sublist.append_left (sublist_cons_self _ _) acc);have h2:(lE t w (acc++[x.2]) r).1.Sublist (acc++(x::r).map Prod.snd):=(by have:=EY t w r (acc++[x.2]);rwa [append_assoc] at this)
  unfold lE;split
  ·split
   ·exact nil_sublist _
   split
   ·exact h1
   exact h2
  exact h2
def eR(t:aH)(i:Int):Prop:=0≤i∧∃h:i.toNat<t.rows.length,t.rows[i.toNat]≠[]
theorem ad5{i:Nat}{c:Pc.cx}{v:Vl}(h:Pc.lY i c v=0):cl v=0:=by
 unfold Pc.lY at h;split at h
 ·exact h
 rename_i h1;exact Decidable.not_not.1 h1
theorem Qm:∀(i:Nat) (cs:List Pc.cx) (vs:List Vl),Pc.pc i cs vs=0→vs.length≤cs.length→∀v∈vs,cl v=0
 | i,c::cs,v::vs,h,hl,w,hw=>by
  unfold Pc.pc at h;split at h
  ·rename_i h1;exact absurd h h1
  rename_i h1;rcases mem_cons.1 hw with rfl|hw
  ·exact ad5 (Decidable.not_not.1 h1)
  exact Qm (i+1) cs vs h vJ w hw
 | _,_,[],_,_,_,hw=>by cases hw
 | _,[],_::_,_,hl,_,_=>by simp at hl
theorem Ju{r:List Vl}(h:Pc.dR bY r=0):∀v∈r,cl v=0:=by
 have h4:=o8 h;unfold Pc.dR at h;rw[if_neg Aj,if_neg sX] at h;exact Qm 0 bY r h sX
theorem eR.ok(g:dB t n)(h:eR t i):(rowAt t i).length=4∧(∀v∈rowAt t i,v.Ok∧cl v=0):=by
 obtain⟨h0,h1,h2⟩:=h;rw[iY h1];obtain⟨g1,g2,_⟩:=g.row _ h1 h2;exact⟨o8 g1,fun v E=>⟨g2 v E,Ju g1 v E⟩⟩
theorem pV(g:dB t n)(w:List aS):∀i∈(aq t w).1,eR t i:=fun i hi=>by
 unfold aq at hi;split at hi
 ·cases hi
 have h1:=(EY t w _ []).subset hi;rw[nil_append] at h1;obtain⟨x,hx,rfl⟩:=mem_map.1 h1;obtain⟨h2,h3,h4,_⟩:=g.gZ x (EX x hx);exact⟨h2,h3,h4⟩
theorem EZ(g:dB t n)(w:List aS):(aq t w).1.Pairwise (DX t):=by
 unfold aq;split
 ·exact Pairwise.nil
 refine Pairwise.sublist (EY t w _ []) ?_;rw[nil_append,pairwise_map];have hr:(oZ t.ix (iK t.ay w).1.1 (iK t.ay w).1.2).Pairwise fun x y=>bC x.1 y.1:=(abX g.ix.val _).sublist (takeWhile_sublist _);refine hr.imp_of_mem fun {x y} hx hy h=>?_;obtain⟨_,p1,_,p2⟩:=g.gZ x (EX x hx);obtain⟨_,q1,_,q2⟩:=g.gZ y (EX y hy);unfold DX;rw[iY p1,iY q1,←p2,←q2];exact h
theorem y8(g:dB t n)(w:List aS):(aq t w).1.length≤40:=by
 have hp:=EZ g w;have E:=pV g w;have hnd:((aq t w).1.map Int.toNat).Nodup:=by
  rw[Nodup,pairwise_map];refine hp.imp_of_mem fun {x y} hx hy h e=>?_;obtain⟨x0,_⟩:=E x hx;obtain⟨y0,_⟩:=E y hy;have:x=y:=(by omega)
  subst this;exact jV _ h
 have I:∀j∈(aq t w).1.map Int.toNat,j∈range t.rows.length:=fun j hj=>by
  obtain⟨x,hx,rfl⟩:=mem_map.1 hj;obtain⟨_,h1,_⟩:=E x hx;exact mem_range.2 h1
 have:=hnd.length_le_of_subset I;rw[length_map,length_range] at this;exact Nat.le_trans this g.eI
variable {G:List (Nat×List Value)} {m:Int}

open Pa (bJ bj)
theorem VA:∀x y:K,-1≤Go.Lib.compareBytes x y∧Go.Lib.compareBytes x y≤1
 | [],[]=>⟨by decide,by decide⟩
 | [],_::_=>⟨(by show(-1:Int)≤-1;decide),(by show(-1:Int)≤1;decide)⟩
 | _::_,[]=>⟨(by show(-1:Int)≤1;decide),(by show(1:Int)≤1;decide)⟩
 | a::x,b::y=>by
  have:=VA x y;rw[HI];repeat' split
  all_goals first|exact this|omega
theorem T3(a b:Vl):-1≤fg a b∧fg a b≤1:=by
 have:=VA a.s.data.toList b.s.data.toList;exact z80
def pM(t:aH)(names:List ByteArray):List Int:=if names.length=0 then (range t.ay.length).map Int.ofNat else names.map (bz t.ay)
def qd(t:aH)(s:bJ):Int:=if (s.order.toList==(⟨#[]⟩:ByteArray).toList)=true then 0 else bz t.ay s.order
def jF(dY:Int)(l:List Int):List Int:=if 0≤dY∧dY<l.length then l.take dY.toNat else l
def vw(t:aH)(ats:List Int)(i:Int):List Vl:=ats.map fun c=>(rowAt t i).getD c.toNat bu
noncomputable def rB(t:aH)(s:bJ):List Int:=jF s.gS (vm t s.down (qd t s).toNat (aq t s.aj).1)
noncomputable def lW(t:aH)(s:bJ):(List (List Vl)×Int)×Int :=
 if (s.names.any fun n=>decide (bz t.ay n<0))=true then (([],0),8)
 else if qd t s<0 then (([],0),8)
 else if (aq t s.aj).2≠0 then (([],0),(aq t s.aj).2)
 else if s.count=true then (([[⟨2,(rB t s).length,⟨#[]⟩⟩]],(rB t s).length),0)
 else (((rB t s).map (vw t (pM t s.names)),(rB t s).length),0)
def AU(p:(List (List Vl)×Int)×Int):D:=.dh [.agg [au 1 gl p.1.1,ae p.1.2],ae p.2]
theorem KP{l:List cx}{nm:ByteArray}:-1≤bz l nm∧bz l nm<l.length:=by
 unfold bz dA;split
 ·rename_i i h;have:=(findIdx?_eq_some_iff_getElem.1 h).1;omega
 omega
theorem afJ(t:aH)(g:dB t n)(s:bJ)(o:Nat)(ho:o<4)(b2 I b3:Nat)(i k:Int)(hi:eR t i)(hk:eR t k):VC Tryz.prog G 112 ([ae i,ae k]++[cU b2,cU I,cU b3]) [⟨b2,77,5,cX t⟩,⟨I,3,1,[ae (o:Nat)]⟩,⟨b3,46,12,bj s⟩] (fun r S=>r=ae (j5 t s.down o i k)∧S=[⟨b2,77,5,cX t⟩,⟨I,3,1,[ae (o:Nat)]⟩,⟨b3,46,12,bj s⟩]):=by
 refine VC.body func112 rfl ntmps112 aQ fun X0 w0 bf=>?_;obtain⟨O,E,lI⟩:=hi;obtain⟨xR,dL,fF⟩:=hk;obtain⟨gi1,U⟩:=eR.ok g ⟨O,E,lI⟩;obtain⟨gk1,Z⟩:=eR.ok g ⟨xR,dL,fF⟩;rw[iY E] at gi1 U;rw[iY dL] at gk1 Z;have Og:o<(t.rows[i.toNat]'E).length:=(by omega)
 have rq:o<(t.rows[k.toNat]'dL).length:=(by omega)
 have hci:cellAt t o i=(t.rows[i.toNat]'E)[o]:=(by unfold cellAt;rw[iY E,getD_eq_getElem?_getD,getElem?_eq_getElem Og];rfl)
 have HU:cellAt t o k=(t.rows[k.toNat]'dL)[o]:=(by unfold cellAt;rw[iY dL,getD_eq_getElem?_getD,getElem?_eq_getElem rq];rfl)
 have eV:=O8 (G:=G) (t.rows[i.toNat]'E)[o] (t.rows[k.toNat]'dL)[o] (U _ (getElem_mem Og)).1 (Z _ (getElem_mem rq)).1;have Oh:lU (t.rows[i.toNat]'E)[o] (t.rows[k.toNat]'dL)[o]=0:=(by unfold lU;rw[if_neg (by simp[(U _ (getElem_mem Og)).2]),(Z _ (getElem_mem rq)).2])
 unfold Gz at eV;rw[Oh,if_neg w8] at eV;have AJ:=T3 (t.rows[i.toNat]'E)[o] (t.rows[k.toNat]'dL)[o];unfold cX bj;have aW:j5 t s.down o i k=if s.down=true then -(fg (t.rows[i.toNat]'E)[o] (t.rows[k.toNat]'dL)[o]) else fg (t.rows[i.toNat]'E)[o] (t.rows[k.toNat]'dL)[o]:=by unfold j5;rw[hci,HU]
 refine af [0,1,2,3,4] ?_;refine cM [4,8] ?_;refine aP 3 ?_ (h:=by exact(dw 1 (h:=by first|exact .l (j:=i.toNat) (Int.toNat_of_nonneg O).symm E|exact .r (j:=i.toNat) (Int.toNat_of_nonneg O).symm E)));refine aP 7 ?_ (h:=by exact(dw 1 (h:=by first|exact .l (j:=k.toNat) (Int.toNat_of_nonneg xR).symm dL|exact .r (j:=k.toNat) (Int.toNat_of_nonneg xR).symm dL)));refine cJ (eV) ?_;refine bD ?_;refine af [8,31] ?_;refine ax ?_ ?_<;>intro aO bA
 ·have hd:s.down=true:=aO;refine cM [7] ?_;refine aP 1 ?_ (h:=by exact(Bm rfl ot (FE (wrap_i64 w4 w4))));refine bD ?_;refine aK [_,_,_] ?_;first|(rw[aW,hd,if_pos rfl,←Int.zero_sub];exact⟨rfl,rfl⟩)|(rw[aW,hd,if_neg w8];exact⟨rfl,rfl⟩)
 have hd:s.down=false:=aO;refine af [7] ?_;refine aK [_,_,_] ?_;first|(rw[aW,hd,if_pos rfl,←Int.zero_sub];exact⟨rfl,rfl⟩)|(rw[aW,hd,if_neg w8];exact⟨rfl,rfl⟩)
theorem afK(eA:D):VP Tryz.prog G 163 [bF,ae 0,ae 0,eA] (.dh []):=by
 refine VC.body func163 rfl ntmps163 aQ fun X0 w0 bf=>?_;refine af [0,1,2,3,8] ?_;refine ez [0,1,2,3] (fun aR _ (z:Nat) aD=>(True)∧aD=(⟨53,(8,ae (0+1))::aR,[]⟩:St)) (fun (z:Nat)=>0) 0 ⟨trivial,rfl⟩ ?_;rintro z _ ⟨_,rfl⟩;refine af [0,1,2,3,8,14] ?_;refine ax ?_ ?_<;>intro aO bA
 ·exact zI
 exact nE
theorem aaI(eA:D):VP Tryz.prog G 150 [bF,ae 0,eA] (.dh []):=by
 refine VC.body func150 rfl ntmps150 aQ fun X0 w0 bf=>?_;refine af [0,1,2,6] ?_;refine af [0,1,2,6,7,8] ?_;refine ez [0,1,2,6] (fun aR _ (z:Nat) aD=>(True)∧aD=(⟨63,(7,ae 0)::(8,ae 20)::aR,[]⟩:St)) (fun (z:Nat)=>0) 0 ⟨trivial,rfl⟩ ?_;rintro z _ ⟨_,rfl⟩;refine af [0,1,2,6,7,8,13] ?_;refine ax ?_ ?_<;>intro aO bA
 ·exact zI
 refine cL [0,1,2,6] (afK eA) ?_;refine ez [0,1,2] (fun aR _ (z:Nat) aD=>(True)∧aD=(⟨63,(6,ae 20)::aR,[]⟩:St)) (fun (z:Nat)=>0) 0 ⟨trivial,rfl⟩ ?_;rintro z _ ⟨_,rfl⟩;refine af [0,1,2,6,30] ?_;refine ax ?_ ?_<;>intro aY cz
 ·exact absurd aY (by simp at aY)
 exact nE
theorem ad6(eA:D):VP Tryz.prog G 111 [bF,eA] (.dh []):=by
 refine VC.body func111 rfl ntmps111 aQ fun X0 w0 bf=>?_;refine gC [] ?_;refine cJ (aaI eA) ?_;refine jI ?_;exact nE

end Go.Proofs.YtkgmonfgofobaaaGreatDoor.Ba

namespace Go.Proofs.YtkgmonfgofobaaaGreatDoor.Ba
open List
open Go.Proofs.Tryz
open Go.RowKit V Pk Go.Proofs.YtkgmonfgofobaaaGreatDoor.Tr Go.Proofs.YtkgmonfgofobaaaGreatDoor.Vl Go.Proofs.YtkgmonfgofobaaaGreatDoor.Nm Go.Proofs.YtkgmonfgofobaaaGreatDoor.Pc Go.Proofs.YtkgmonfgofobaaaGreatDoor.Cd Go.Proofs.YtkgmonfgofobaaaGreatDoor.Ex Go.Proofs.YtkgmonfgofobaaaGreatDoor.Tw
open Pa (bJ bj)
variable {j sz:Nat} {ds:List D}
section mid
variable {P:Program} {G:List (Nat×List Value)} {x:St} {o:Oper} {t b off:Nat} {y:Operand} {B:ah} {pre c post:List D} {d:D}
theorem ahf(hp:pre.length=off)(hj:c[j]?=some d):(pre++(c++post))[off+j]?=some d:=by
 subst hp;rw[getElem?_append_right w4,Nat.add_sub_cancel_left,getElem?_append_left (List.getElem?_eq_some_iff.1 hj).1];exact hj
theorem RY{m:List D}(hp:pre.length=off)(hm:qp j c m)(hd:mF sz m ds):((pre++(c++post)).drop (off+j)).take sz=ds:=by
 subst hp;obtain⟨h1,h2⟩:=hd.eq;have h3:=hm.eq;have hl:j+sz≤c.length∨sz=0:=by
  have:=congrArg length h1;rw[length_take,h2,←h3,length_drop] at this;omega
 rw[←drop_drop,drop_left' rfl];rcases hl with hl|rfl
 ·rw[drop_append_of_le_length w4,h3,take_append_of_le_length (by rw[←h3,length_drop];omega)];exact h1
 rw[List.take_zero];rw[List.take_zero] at h1;exact h1
theorem BD{E:List D}(hp:pre.length=off)(hl:j+ds.length≤c.length)(hc:c8 c j ds=E):c8 (pre++(c++post)) (off+j) ds=pre++(E++post):=by
 subst hp hc;rw[vZ _ _ _ hl,vZ _ _ _ (by simp only[length_append];omega)];rw[take_append,take_of_length_le w4,Nat.add_sub_cancel_left,take_append_of_le_length w4,Nat.add_assoc,←drop_drop (l:=pre++(c++post)),drop_left' rfl,drop_append_of_le_length w4];simp only[append_assoc]
theorem oO(k:Nat)(ho:o.op = .load t y:=by exact rfl)(hy:aE x y = .v (.pointer (some ⟨b,off+j,none⟩)):=by exact ot)(ha:rf P t false=true:=by kernel_rfl)(hk:x.S[k]?=some B:=by exact rfl)(hb:B.b=b:=by exact rfl)(de:B.cs=pre++(c++post):=by exact rfl)(hp:pre.length=off:=by assumption)(hj:c[j]?=some d:=by exact rfl)(hne:isMap B.e=false:=by exact rfl):bU P G x o (.fG k) d :=
 Eb (hne:=hne) ho hy hk hb (iM ha) (by rw[de];exact ahf hp hj)
theorem xF(k:Nat){m:List D}(ho:o.op = .load t y:=by exact rfl)(hy:aE x y = .v (.pointer (some ⟨b,off+j,none⟩)):=by exact ot)(hn:q9 P t sz=true:=by exact Sz.h)(ha:rf P t true=true:=by kernel_rfl)(hk:x.S[k]?=some B:=by exact rfl)(hb:B.b=b:=by exact rfl)(de:B.cs=pre++(c++post):=by exact rfl)(hp:pre.length=off:=by assumption)(hm:qp j c m:=by exact qK)(hd:mF sz m ds:=by exact nv)(hne:isMap B.e=false:=by exact rfl):bU P G x o (.fG k) (.agg ds) :=
 A3 (hne:=hne) ho hy hk hb (iM ha) (lT hn) hd.eq.2 (by rw[de];exact RY hp hm hd)
theorem Ml(k:Nat)(ho:o.op = .load t y:=by exact rfl)(hy:aE x y = .v (.pointer (some ⟨b,off,none⟩)):=by exact ot)(hn:q9 P t sz=true:=by exact Sz.h)(ha:rf P t true=true:=by kernel_rfl)(hk:x.S[k]?=some B:=by exact rfl)(hb:B.b=b:=by exact rfl)(de:B.cs=pre++(c++post):=by exact rfl)(hp:pre.length=off:=by assumption)(hd:mF sz c ds:=by exact nv)(hne:isMap B.e=false:=by exact rfl):bU P G x o (.fG k) (.agg ds) :=
 A3 (hne:=hne) ho hy hk hb (iM ha) (lT hn) hd.eq.2 (by rw[de];exact RY (j:=0) hp .z hd)
end mid
variable {G:List (Nat×List Value)} {m:Int}
noncomputable def gB(t:aH)(row:List Vl):aH×Int :=
 if Pc.dR t.ay row≠0 then (t,Pc.dR t.ay row) else if iA t.ix (cH row) (dr t.ix)=true then (t,9) else if t.rows.length=40 then (t,10)
 else ({t with rows:=t.rows++[row],ix:=gH t.ix (dr t.ix) (cH row) t.rows.length},0)
def tC(t:aH)(ad:Option Addr)(cap:Nat):List D:=[aZ t.nm,au 2 cC t.ay,aN ad t.rows.length cap,au 5 cP t.ix.ag,ae t.ix.root]
abbrev vy(t:aH)(ad:Option Addr)(cap:Nat)(S:List ah):Prop:=bg 43 1 (t.rows.flatMap gl) t.rows.length ad cap S
theorem wC{r:List Vl}(h:Pc.dR bY r=0):1≤(cH r).length∧(cH r).length≤100:=by
 refine⟨?_,TW _⟩;have h4:=o8 h;have hz:=Ju h;match r,h4 with
 | [a,b,c,d],_ =>
  have ha:cl a=0:=hz a mem_cons_self;unfold cH ga;rw[if_neg bq,if_neg (by simp[sO,ha])];have hl:(fj [a]).length≤43:=(by have:=EN (l:=[a]) (fun v E=>by rw[mem_singleton] at E;rw[E];exact ha);simpa using this)
  rw[if_neg (by show ¬(fj [a]).length>100;omega)];show 1≤(fj [a]).length;unfold fj Cd.pY;simp

theorem aaJ:(Tryz.prog.info? 43).map (fun i=>(i.zero,i.size,i.bytes))=some (some (.slice none 0 0),1,24):=by kernel_rfl

theorem IW(hm:(3,marksC)∈G)(hw:(1,wordsC)∈G)(ht:(0,typesC)∈G)(hG:(2,[Value.int .i64 m])∈G)(t:aH){n:Nat}(g:dB t n)(hn:n≤300)(row:List Vl)(rm:row.length≤1000)(aV:∀v∈row,v.Ok)(bt off I:Nat)(pre post:List D)(hp:pre.length=off)(ad:Option Addr)(cap:Nat)(Sr:List ah)(Z:vy t ad cap Sr):VC Tryz.prog G 56 [.v (.pointer (some ⟨bt,off,none⟩)),au 3 cV row] (⟨bt,77,I,pre++(tC t ad cap++post)⟩::Sr) (fun r S=>r=ae (gB t row).2∧((gB t row).2=0→∃nZ E oP,vy (gB t row).1 nZ E oP∧S=⟨bt,77,I,pre++(tC (gB t row).1 nZ E++post)⟩::oP)):=by
 refine VC.body func56 rfl ntmps56 aQ fun X0 w0 bf=>?_;have hko:=fun h=>wC (r:=row) h;have yy:=KD (G:=G) hm hw ht t.ay xL xK row (Nat.le_trans rm w8);have cY:=dN;have mY:=g.eI;unfold tC;refine af [0,1] ?_;refine cM [0,1,5] ?_;refine aP 3 ?_ (h:=by exact(oO 0));refine cJ (yy) ?_;refine bD ?_;refine af [0,1,5,17] ?_;refine ax ?_ ?_<;>intro aO bA
 ·have hne:Pc.dR t.ay row≠0:=(by simpa using aO)
  have aW:gB t row=(t,Pc.dR t.ay row):=if_pos hne;refine af [4] ?_;refine aK [] ?_;rw[aW];exact⟨rfl,fun h=>absurd h hne⟩
 have hz:Pc.dR t.ay row=0:=(by simpa using aO)
 have yc:Pc.dR bY row=0:=(by rw[←g.ay];exact hz)
 have dU:=hko yc;have hr4:=o8 yc;have O:=zf (G:=G) hG row w4 w4 aV;refine CD.skip ?_;refine CD.seq ?_;refine CD.seq ?_;rcases iV:iA t.ix (cH row) (dr t.ix) with _|_
 ·have fx:=KL (G:=G) g.ix (cH row);rw[afA g.ix dU iV] at fx;unfold Tw.cT at fx;have U:=RO (G:=G) g.ix (cH row) (t.rows.length:Int);rw[UU g.ix hn dU w4 iV] at U;unfold Tw.cT at U;refine gC [0,1,7] ?_;refine aP 3 ?_ (h:=by exact(xF 0));refine cJ (O) ?_;refine cJ (fx) ?_;refine bD ?_;refine af [0,1,30] ?_;refine ax ?_ ?_<;>intro aY cz
  ·exact absurd aY (by simp at aY)
  refine cM [0,1,36] ?_;refine aP 3 ?_ (h:=by exact(oO 0));refine bD ?_;refine ax ?_ ?_<;>intro cc cN
  ·have aW:gB t row=(t,10):=(by unfold gB;rw[if_neg (by simp[hz]),if_neg xM,if_pos w4])
   refine af [4] ?_;refine aK [] ?_;rw[aW];exact⟨rfl,fun h=>absurd (show(10:Int)=0 from h) w8⟩
  have aW:gB t row=({t with rows:=t.rows++[row],ix:=gH t.ix (dr t.ix) (cH row) t.rows.length},0):=(by unfold gB;rw[if_neg (by simp[hz]),if_neg xM,if_neg w4])
  refine CD.skip ?_;refine CD.seq ?_;refine s8 16 15 [0,1,8,50,51] ?_;refine aP 3 ?_ (h:=by exact(xF 0));refine cJ (O) ?_;refine aP 3 ?_ (h:=by exact(oO 0));refine cJ (U) ?_;refine mG 3 ?_;refine pA ?_;refine jI ?_;refine⟨rfl,fun b8=>?_⟩;refine aM 0 [_,_] sizeOf75 ?_;refine an 70 [0,1,8,9] ?_;refine af [0,1,8,9,53] ?_;refine ax ?_ ?_<;>intro cQ ek
  ·exact absurd cQ (by simp at cQ)
  refine aA 4 ?_;refine OD.storeAt (k:=1) (cs':=pre++([aZ t.nm,au 2 cC t.ay,aN ad t.rows.length cap,.list 5 ((gH t.ix (dr t.ix) (cH row) t.rows.length).ag.flatMap cP) (gH t.ix (dr t.ix) (cH row) t.rows.length).ag.length,ae (gH t.ix (dr t.ix) (cH row) t.rows.length).root]++post)) ap rfl rfl ot rfl rfl ot rfl rfl sizeOf75 rfl (by show off+3+2≤(pre++(([aZ t.nm,au 2 cC t.ay,aN ad t.rows.length cap,au 5 cP t.ix.ag,ae t.ix.root]:List D)++post)).length;simp only[length_append,length_cons,length_nil];omega) (by exact BD (j:=3) hp aQ rfl) ?_;refine an 70 [0,1] ?_;refine CD.seq ?_;refine gX 9 (av (take 2 _)) ?_ (fun _ h=>(Sublist.map _ (take_sublist _ _)).subset h);refine aC 0 rfl bG ?_;refine aC 1 rfl bG ?_;refine aC 2 rfl qg ?_;refine aC 3 rfl (dF 2) ?_;refine aC 4 rfl (oO 1) ?_;refine aC 5 rfl bG ?_;refine dH.later rfl ?_;refine AD.one (i:=6) aB ?_;refine qk call33 (Qf row w4) ?_;refine AD.one (i:=7) aB ?_;refine nF (cu 0 [_]) [.slice none 0 0] [_] zeroValue43 runUnderlying37 sizeOf43 (fun pH=>?_);refine nG 0 66 1 1 ?_;refine AD.one (i:=8) aB ?_;refine bB.eB (ls:=t.rows) (new:=[row]) (Sq:=Sr) kg RQ rfl ap rfl rfl underlying37 aaJ rfl w8 ot Z (dg (A:=[_,_])) ot bq nB nC (fun qY rL Gp Gq=>?_);refine AD.perm (dW (S1:=[⟨qY,43,rL*1,flatMap gl (t.rows++[row])⟩]) (A:=[_,_])) ?_;refine fw ?_;refine aG 2 ?_
  refine OD.storeAt (k:=1) (cs':=pre++((([aZ t.nm,au 2 cC t.ay,aN ad t.rows.length cap,.list 5 ((gH t.ix (dr t.ix) (cH row) t.rows.length).ag.flatMap cP) (gH t.ix (dr t.ix) (cH row) t.rows.length).ag.length,ae (gH t.ix (dr t.ix) (cH row) t.rows.length).root]:List D)).set 2 (aN (some ⟨qY,0,none⟩) ((t.rows++[row])).length rL)++post)) ap rfl rfl ot rfl rfl ot rfl rfl sizeOf37 rfl (by show off+2+1≤(pre++(([aZ t.nm,au 2 cC t.ay,aN ad t.rows.length cap,.list 5 ((gH t.ix (dr t.ix) (cH row) t.rows.length).ag.flatMap cP) (gH t.ix (dr t.ix) (cH row) t.rows.length).ag.length,ae (gH t.ix (dr t.ix) (cH row) t.rows.length).root]:List D)++post)).length;simp only[length_append,length_cons,length_nil];omega) (by exact BD (j:=2) hp aQ rfl) ?_;refine an 70 [] ?_;refine af [4] ?_;refine aK (⟨bt,77,I,pre++(_++post)⟩::[⟨qY,43,rL*1,flatMap gl (t.rows++[row])⟩]) ?_;rw[aW];exact⟨rfl,fun _=>⟨(some ⟨qY,0,none⟩),rL,[⟨qY,43,rL*1,flatMap gl (t.rows++[row])⟩],(bM Gp Gq),rfl⟩⟩
 obtain⟨rw0,alk⟩:=(Bi g.ix (cH row)).1 iV;have fx:=KL (G:=G) g.ix (cH row);rw[RN g.ix dU alk] at fx;unfold Tw.cT at fx;have aW:gB t row=(t,9):=(by unfold gB;rw[if_neg (by simp[hz]),if_pos iV])
 refine gC [0,1,7] ?_;refine aP 3 ?_ (h:=by exact(xF 0));refine cJ (O) ?_;refine cJ (fx) ?_;refine bD ?_;refine af [0,1,30] ?_;refine ax ?_ ?_<;>intro aY cz
 ·refine af [4] ?_;refine aK [] ?_;rw[aW];exact⟨rfl,fun h=>absurd (show(9:Int)=0 from h) w8⟩
 exact absurd aY (by simp at aY)

end Go.Proofs.YtkgmonfgofobaaaGreatDoor.Ba

namespace Go.Proofs.YtkgmonfgofobaaaGreatDoor.Ba
open List
open Go.Proofs.Tryz
open Go.RowKit V Pk Tr Vl Go.Proofs.YtkgmonfgofobaaaGreatDoor.Nm Pc Cd Ex Tw
open Pa (bJ bj)
variable {G:List (Nat×List Value)} {m:Int}
variable {t:aH} {n:Nat} {i:Int}
theorem Fz{t:aF}(g:iN t n){x y:K×Int}(hx:x∈eu t)(hy:y∈eu t)(h:x.1=y.1):x=y:=by
 have hr:(eu t).Pairwise (fun a b=>bC a.1 b.1):=IT g.val;obtain⟨i,hi,rfl⟩:=mem_iff_getElem.1 hx;obtain⟨j,hj,rfl⟩:=mem_iff_getElem.1 hy;have hp:=pairwise_iff_getElem.1 hr;rcases Nat.lt_trichotomy i j with q|q|q
 ·have:=hp i j hi hj q;rw[h] at this;exact absurd this (jV _)
 ·subst q;rfl
 have:=hp j i hj hi q;rw[h] at this;exact absurd this (jV _)
theorem eR.gZ(g:dB t n)(h:eR t i):(cH (rowAt t i),i)∈eu t.ix:=by
 obtain⟨h0,h1,h2⟩:=h;have:=(g.row _ h1 h2).2.2;rw[iY h1];rwa [Int.toNat_of_nonneg h0] at this
noncomputable def nY(t:aH)(i:Int):aH:={t with rows:=t.rows.set i.toNat [],ix:=gI t.ix (dr t.ix) (cH (rowAt t i))}
noncomputable def rS:aH→List Int→aH
 | t,[]=>t
 | t,i::r=>rS (nY t i) r
noncomputable def mP(t:aH)(w:List aS):aH×Int×Int:=if (aq t w).2≠0 then (t,0,(aq t w).2) else (rS t (aq t w).1,(aq t w).1.length,0)
theorem ahg(g:dB t n)(h:eR t i):iN (gI t.ix (dr t.ix) (cH (rowAt t i))) n∧∀x,x∈eu (gI t.ix (dr t.ix) (cH (rowAt t i)))↔x∈eu t.ix∧x.1≠cH (rowAt t i) :=
 Js g.ix ((Bh g.ix.val _).2 ⟨i,h.gZ g⟩)
theorem Qn(g:dB t n)(h:eR t i):dB (nY t i) n:=by
 obtain⟨d1,d2⟩:=ahg g h;have I:=h.gZ g;obtain⟨h0,h1,h2⟩:=h;refine⟨g.nm,g.ay,by show(t.rows.set _ _).length≤40;rw[length_set];exact g.eI,d1,fun j hj hne=>?_,fun x hx=>?_⟩
 ·simp only[nY] at hj hne ⊢;rw[length_set] at hj;rw[getElem_set] at hne;split at hne
  ·exact absurd rfl hne
  rename_i E;have he:(t.rows.set i.toNat [])[j]'xI=t.rows[j]:=getElem_set_ne E _;rw[he];obtain⟨p1,p2,p3⟩:=g.row j hj hne;refine⟨p1,p2,(d2 _).2 ⟨p3,fun e=>?_⟩⟩;have:=Fz g.ix p3 I e;simp only[Prod.mk.injEq] at this;omega
 obtain⟨x1,O⟩:=(d2 x).1 hx;obtain⟨p0,p1,p2,p3⟩:=g.gZ x x1;have E:i.toNat≠x.2.toNat:=fun e=>by
  refine O ?_;rw[p3,iY h1];congr 1;simp only[e]
 refine⟨p0,by show _<(t.rows.set _ _).length;rw[length_set];exact p1,?_⟩;have he:(t.rows.set i.toNat [])[x.2.toNat]'(by rw[length_set];exact p1)=t.rows[x.2.toNat]:=getElem_set_ne E _;show(t.rows.set i.toNat [])[x.2.toNat]'(by rw[length_set];exact p1)≠[]∧x.1=cH ((t.rows.set i.toNat [])[x.2.toNat]'(by rw[length_set];exact p1));rw[he];exact⟨p2,p3⟩
theorem T4{j:Int}(h:eR t j)(E:j≠i)(hi:0≤i):eR (nY t i) j:=by
 obtain⟨h0,h1,h2⟩:=h;refine⟨h0,by show _<(t.rows.set _ _).length;rw[length_set];exact h1,?_⟩;show(t.rows.set i.toNat [])[j.toNat]'(by rw[length_set];exact h1)≠[];have e:=getElem_set_ne (l:=t.rows) (i:=i.toNat) (j:=j.toNat) (a:=[]) w4 (by rw[length_set];exact h1);rw[e];exact h2
theorem yK(g:dB t n)(w:List aS):(aq t w).1.Nodup:=(EZ g w).imp fun h e=>by rw[e] at h;exact jV _ h
theorem acf(hm:(3,marksC)∈G)(hw:(1,wordsC)∈G)(ht:(0,typesC)∈G)(hG:(2,[Value.int .i64 m])∈G)(t:aH)(g:dB t n)(s:bJ)(ho:∀o∈s.aj,o.nm.size≤maxLen)(fT:∀o∈s.aj,o.v.Ok)(bt off qv:Nat)(pre post:List D)(hp:pre.length=off)(ad:Option Addr)(cap:Nat)(Sr:List ah)(kI:vy t ad cap Sr):VC Tryz.prog G 59 [.v (.pointer (some ⟨bt,off,none⟩)),.agg (bj s)] (⟨bt,77,qv,pre++(tC t ad cap++post)⟩::Sr) (fun r S=>r = .dh [ae (mP t s.aj).2.1,ae (mP t s.aj).2.2]∧((mP t s.aj).2.2=0→∃nZ kJ oP,vy (mP t s.aj).1 nZ kJ oP∧S=⟨bt,77,qv,pre++(tC (mP t s.aj).1 nZ kJ++post)⟩::oP)):=by
 refine VC.body func59 rfl ntmps59 aQ fun X0 w0 bf=>?_;have cY:=dN;have mY:=g.eI;have DY:=y8 g s.aj;have mK:=pV g s.aj;have hnd:=yK g s.aj;unfold tC;unfold bj;refine bS ?_;refine OD.box (ds:=[_,_,_,_,_,_,_,_,_,_,_,_]) ap rfl rfl ot rfl rfl (fun b3=>?_);refine an 56 [0,3] ?_;refine CD.seq ?_;refine gX 9 (av (take 2 _)) ?_ (fun _ h=>(Sublist.map _ (take_sublist _ _)).subset h);refine aC 0 rfl bG ?_;refine aC 1 rfl qg ?_;refine aC 2 rfl (Ml 1) ?_;refine aC 3 rfl (dF 6) ?_;refine aC 4 rfl (dK 0) ?_;refine dH.later rfl ?_;refine AD.one (i:=5) aB ?_;refine bB.K6 rfl ap rfl rfl rfl call110 (KO hm hw ht hG t g s.aj ho fT) (fun r S h=>h.flat) ⟨⟨_,ot,(uQ ⟨eO,eO,lq kI (cm kg _) (fun B hB=>by simp[hB]),eO,eO,trivial⟩:View _ (.agg [aZ t.nm,au 2 cC t.ay,aN ad t.rows.length cap,au 5 cP t.ix.ag,ae t.ix.root]) (.agg (cX t)))⟩,⟨_,ot,eO⟩,trivial⟩ ?_;rintro _ Sx ⟨dz,cZ,rfl,dX⟩;refine AD.perm (kf (A:=[_,_])) ?_;refine c9 6 rfl bG ?_;refine c9 7 rfl Nc ?_;refine c9 8 rfl Nc ?_;refine fw ?_;refine bp [0,6,7] ?_;refine af [0,6,7,20] ?_;refine ax ?_ ?_<;>intro aO bA
 ·have hne:(aq t s.aj).2≠0:=(by simpa using aO)
  have aW:mP t s.aj=(t,0,(aq t s.aj).2):=if_pos hne;refine af [4,5] ?_;refine aK [] ?_;rw[aW];exact⟨rfl,fun h=>absurd h hne⟩
 have hz:(aq t s.aj).2=0:=(by simpa using aO)
 have aW:mP t s.aj=(rS t (aq t s.aj).1,((aq t s.aj).1.length:Int),0):=if_neg (fun h=>h hz);refine CD.skip ?_;refine CD.seq ?_;refine CD.seq ?_;refine CD.ic (t:=6) (Sq:=Sx) lk dX (cm Tw.eG _) (oT (A:=[_,_])) ?_;refine th ?_;refine bp [0,6,22,23,24] ?_;refine ez [0,6,22,23] (fun aR _ (U:Nat×aH×Option Addr×Nat×List ah) aD=>match U with|(k,u,Z,E,O)=>(k≤(aq t s.aj).1.length)∧(rS u ((aq t s.aj).1.drop k)=rS t (aq t s.aj).1)∧(dB u n)∧(∀i∈(aq t s.aj).1.drop k,eR u i)∧(vy u Z E O)∧aD=(⟨56,(24,ae (k:Nat))::aR,(⟨b3,46,12,bj s⟩::⟨bt,77,qv,pre++([aZ u.nm,au 2 cC u.ay,aN Z u.rows.length E,au 5 cP u.ix.ag,ae u.ix.root]++post)⟩::O)⟩:St)) (fun (U:Nat×aH×Option Addr×Nat×List ah)=>match U with|(k,u,Z,E,O)=>(aq t s.aj).1.length-k) (0,t,ad,cap,Sr) ⟨(Nat.zero_le _),rfl,g,mK,kI,rfl⟩ ?_;rintro⟨k,u,Z,E,O⟩ _ ⟨hk,WD,gu,jv,vS,rfl⟩;refine af [0,6,22,23,24,25] ?_;refine ax ?_ ?_<;>intro aY cz
 ·have aa:k<(aq t s.aj).1.length:=(by omega)
  have js:(aq t s.aj).1.drop k=((aq t s.aj).1[k]'aa)::(aq t s.aj).1.drop (k+1):=drop_eq_getElem_cons aa;have sb:eR u ((aq t s.aj).1[k]'aa):=jv _ (by rw[js];exact mem_cons_self);obtain⟨fH,I,mo⟩:=id sb;obtain⟨br,rfl,mh,mi,rfl⟩:=vS.pos w4;have gu2:=Qn gu sb;have gp:(nY u ((aq t s.aj).1[k]'aa)).rows.length=u.rows.length:=length_set;have aiC:rS (nY u ((aq t s.aj).1[k]'aa)) ((aq t s.aj).1.drop (k+1))=rS t (aq t s.aj).1:=(by rw[←WD,js];rfl)
  have Mb:∀i∈(aq t s.aj).1.drop (k+1),eR (nY u ((aq t s.aj).1[k]'aa)) i:=fun i hi=>T4 (jv i (by rw[js];exact mem_cons_of_mem _ hi)) (fun e=>by subst e;have h9:=hnd.sublist (drop_sublist k _);rw[js,nodup_cons] at h9;exact h9.1 hi) fH;have CH:vy (nY u ((aq t s.aj).1[k]'aa)) (some ⟨br,0,none⟩) E [⟨br,43,E*1,(nY u ((aq t s.aj).1[k]'aa)).rows.flatMap gl⟩]:=bM (by show(u.rows.set _ _).length≤_;rw[length_set];exact mh) mi;obtain⟨YU,DZ⟩:=eR.ok gu sb;have qw:=zf (G:=G) hG (u.rows[((aq t s.aj).1[k]'aa).toNat]) (by rw[←iY I];omega) (by rw[←iY I];omega) (fun v hv=>(DZ v (by rw[iY I];exact hv)).1);rw[show cH (u.rows[((aq t s.aj).1[k]'aa).toNat])=cH (rowAt u ((aq t s.aj).1[k]'aa)) from by rw[iY I]] at qw;have yz:=RP (G:=G) gu.ix (cH (rowAt u ((aq t s.aj).1[k]'aa)));rw[TQ gu.ix (wC (by rw[iY I];exact(gu.row _ I mo).1)) ((Bi gu.ix _).2 ⟨_,sb.gZ gu⟩)] at yz;unfold Tw.cT at yz;have apU:=gu.eI;refine af [0,6,9,22,23,24] ?_;refine CD.seq ?_;refine nD 17 [0,6,9,22,23,24,29,43] ?_;refine aP 4 ?_ (h:=by exact(xF 1));refine aP 3 ?_ (h:=by exact(oO 1));refine aP 1 ?_ (h:=by exact(dw 1 (h:=by first|exact .l (j:=((aq t s.aj).1[k]'aa).toNat) (Int.toNat_of_nonneg fH).symm I|exact .r (j:=((aq t s.aj).1[k]'aa).toNat) (Int.toNat_of_nonneg fH).symm I)))
  refine aP 0 ?_ (h:=by exact(cR (mk:=Op.load 43) rfl ot (iZ (k:=2) (i:=((aq t s.aj).1[k]'aa).toNat) (ls:=u.rows) kg rfl rfl rfl isAgg43 I rfl)));refine cJ (qw) ?_;refine cJ (yz) ?_;refine bD ?_;refine aG 2 ?_;refine OD.storeAt (k:=1) (cs':=pre++([aZ u.nm,au 2 cC u.ay,aN (some ⟨br,0,none⟩) (nY u ((aq t s.aj).1[k]'aa)).rows.length E,.list 5 ((nY u ((aq t s.aj).1[k]'aa)).ix.ag.flatMap cP) (nY u ((aq t s.aj).1[k]'aa)).ix.ag.length,ae (nY u ((aq t s.aj).1[k]'aa)).ix.root]++post)) ap rfl rfl ot rfl rfl ot rfl rfl sizeOf75 rfl (by show off+3+2≤(pre++(([aZ u.nm,au 2 cC u.ay,aN (some ⟨br,0,none⟩) u.rows.length E,au 5 cP u.ix.ag,ae u.ix.root]:List D)++post)).length;simp only[length_append,length_cons,length_nil];omega) (by exact BD (j:=3) hp aQ (by rw[gp];rfl)) ?_;refine an 56 [0,6,9,22,23,24] ?_;refine dG 3 ?_;refine bQ (oO 1) ?_;refine aG 1 ?_;refine bQ (dw 1 (h:=by first|exact .l (j:=((aq t s.aj).1[k]'aa).toNat) (Int.toNat_of_nonneg fH).symm (by rw[gp];exact I)|exact .r (j:=((aq t s.aj).1[k]'aa).toNat) (Int.toNat_of_nonneg fH).symm (by rw[gp];exact I))) ?_
  refine OD.storeAt (k:=2) (cs':=(u.rows.flatMap gl).set ((aq t s.aj).1[k]'aa).toNat (bF)) ap rfl rfl ot rfl rfl bP rfl rfl sizeOf43 rfl (by show 0+((aq t s.aj).1[k]'aa).toNat*1+1≤(u.rows.flatMap gl).length;rw[cm kg];omega) (by show(u.rows.flatMap gl).set (0+((aq t s.aj).1[k]'aa).toNat*1) _=_;rw[Nat.zero_add,Nat.mul_one]) ?_;refine OD.cells (k:=2) (cs':=(nY u ((aq t s.aj).1[k]'aa)).rows.flatMap gl) (S':=[_,_,_]) rfl (by have:=S5 (ey (sz:=3)) (u.rows.flatMap gl) ((aq t s.aj).1[k]'aa).toNat;rw[show(u.rows.flatMap gl).set ((aq t s.aj).1[k]'aa).toNat (.list 3 [] 0)=(u.rows.set ((aq t s.aj).1[k]'aa).toNat []).flatMap gl from by have:=oq kg u.rows [] I;rw[Nat.mul_one] at this;exact this] at this;exact this) rfl ?_;refine an 56 [0,6,22,23,24] ?_;refine bX [0,6,22,23,24] ?_;refine⟨((k+1),(nY u ((aq t s.aj).1[k]'aa)),(some ⟨br,0,none⟩),E,[⟨br,43,E*1,(nY u ((aq t s.aj).1[k]'aa)).rows.flatMap gl⟩]),_,cn,aJ,w4,aiC,gu2,Mb,CH,rfl⟩
 have ny:u=rS t (aq t s.aj).1:=(by rw[←WD,drop_of_length_le w4];rfl)
 subst ny;refine af [4,5] ?_;refine aK (⟨bt,77,qv,pre++(_++post)⟩::O) ?_;rw[aW];exact⟨rfl,fun _=>⟨Z,E,O,vS,rfl⟩⟩

end Go.Proofs.YtkgmonfgofobaaaGreatDoor.Ba
namespace Go.Proofs.YtkgmonfgofobaaaGreatDoor.Ba
open List
open Go.Proofs.Tryz
open Go.RowKit V Pk Tr Vl Go.Proofs.YtkgmonfgofobaaaGreatDoor.Nm Pc Cd Ex Tw
open Pa (bJ bj)
variable {i c n:Nat} {v:Vl} {ops:List aS} {row:List Vl} {t:aH} {L:List cf} {S:List ah} {o:cf} {p:(List (List Vl)×Int)×Int}
theorem Jv:∀(i:Nat) (cs:List cx) (vs:List Vl),cs.length=vs.length→(Pc.pc i cs vs=0↔∀j (h1:j<cs.length) (h2:j<vs.length),Pc.lY (i+j) cs[j] vs[j]=0)
 | _,[],[],_=>⟨fun _ j h1=>absurd h1 (Nat.not_lt_zero j),fun _=>rfl⟩
 | _,[],_::_,h=>by cases h
 | _,_::_,[],h=>by cases h
 | i,c::cs,v::vs,h=>by
  rw[Pc.pc];have E:=Jv (i+1) cs vs (Nat.succ.inj h);by_cases he:Pc.lY i c v=0
  ·rw[if_neg (fun h=>h he),E];constructor
   ·intro k j h1 h2;cases j with
    | zero=>exact he
    | succ j=>have:=k j (Nat.lt_of_succ_lt_succ h1) (Nat.lt_of_succ_lt_succ h2);rw[show i+(j+1)=i+1+j by omega];exact this
   intro k j h1 h2;have:=k (j+1) (Nat.succ_lt_succ h1) (Nat.succ_lt_succ h2);rw[show i+(j+1)=i+1+j by omega] at this;exact this
  rw[if_pos he];exact⟨fun h=>absurd h he,fun k=>absurd (k 0 (Nat.succ_pos _) (Nat.succ_pos _)) he⟩
theorem Kl{r:List Vl}:Pc.dR bY r=0↔r.length=4∧∀j (h1:j<bY.length) (h2:j<r.length),Pc.lY j bY[j] r[j]=0:=by
 constructor
 ·intro h;have h4:=o8 h;unfold Pc.dR at h;rw[if_neg Aj,if_neg sX,Jv 0 bY r (by rw[h4];rfl)] at h;refine⟨h4,fun j h1 h2=>?_⟩;have:=h j h1 h2;rwa [Nat.zero_add] at this
 intro ⟨h4,h⟩;unfold Pc.dR;rw[if_neg Aj,if_neg sX,Jv 0 bY r (by rw[h4];rfl)];intro j h1 h2;rw[Nat.zero_add];exact h j h1 h2
theorem afL{c:cx}(h:Pc.lY i c v=0):jX c.k v:=by
 unfold Pc.lY at h;by_cases h1:cl v=0
 ·rw[if_neg (fun e=>e h1)] at h;by_cases h2:v.k≠c.k∧(i=0∨v.k≠0)
  ·rw[if_pos h2] at h;cases h
  exact⟨h1,by omega⟩
 rw[if_pos h1] at h;exact absurd h h1
theorem T5{r:List Vl}(h:Pc.dR bY r=0):Gb bY r:=fun i=>by
 obtain⟨h4,hf⟩:=Kl.1 h;have hc:bY.length=4:=rfl;rw[getD_eq_getElem?_getD,getD_eq_getElem?_getD];by_cases hi:i<4
 ·rw[getElem?_eq_getElem w4,getElem?_eq_getElem w4];exact afL (hf i w4 w4)
 rw[getElem?_eq_none w4,getElem?_eq_none w4];exact BH
theorem T6{r:List Vl}(h:Pc.dR bY r=0)(hc:c<bY.length)(E:jX bY[c].k v)(h0:c=0→v.k≠0):Pc.dR bY (r.set c v)=0:=by
 obtain⟨h4,hf⟩:=Kl.1 h;refine Kl.2 ⟨by rw[length_set];exact h4,fun j h1 h2=>?_⟩;rw[length_set] at h2;rw[getElem_set];split
 ·rename_i e;subst e;unfold Pc.lY;rw[if_neg (fun e=>e E.1),if_neg (fun e=>?_)];have:=E.2;have:=e.2;have:=e.1;by_cases I:c=0
  ·have:=h0 I;omega
  omega
 exact hf j h1 h2
theorem E0:∀(ops:List aS) (h:Int),fP h ops=0→∀o∈ops,∃h',gq h' o=0
 | [],_,_,o,ho=>by cases ho
 | x::r,h,hx,o,ho=>by
  rw[fP] at hx;by_cases he:gq h x=0
  ·rw[if_pos he] at hx;rcases mem_cons.1 ho with rfl|ho
   ·exact⟨_,he⟩
   exact E0 r _ hx o ho
  rw[if_neg he] at hx;exact absurd hx he
theorem acg{l:List cx}(lf:∀o∈ops,o.nm.size≤maxLen)(fT:∀o∈ops,o.v.Ok)(hk:(dm l ops).2=0):∀o∈ops,qM l o:=fun o ho=>by
 obtain⟨_,hx,he⟩:=Fp hk;obtain⟨h',h1⟩:=E0 ops 0 (wA hx).2 o ho;obtain⟨_,h2,h3,_⟩:=wo h1;exact⟨lf o ho,fT o ho,Be h3,h2.1,h2.2,PV (by rw[he] at hk;exact hk) o ho⟩
theorem RZ{l:List cx}{row:List Vl}(hr:∀v∈row,v.Ok):∀(ops:List aS),(∀o∈ops,o.v.Ok)→∀st:List Vl,(∀v∈st,v.Ok)→(jE bu (gj l row) ops st).1.Ok
 | [],_,st,fL=>JY fL 0
 | o::r,hg,st,fL=>by
  have I:(gj l row o (fp bu o.k st) (fq bu o.k st)).1.Ok:=TC hr (hg o mem_cons_self) (JZ fL _) (J0 fL _);by_cases hz:(gj l row o (fp bu o.k st) (fq bu o.k st)).2=0
  ·rw[J2 hz];refine RZ hr r (fun x hx=>hg x (mem_cons_of_mem _ hx)) _ fun v E=>?_;rcases mem_append.1 E with E|E
   ·exact fL v (mem_of_mem_take E)
   rw[mem_singleton] at E;rw[E];exact I
  rw[Jg hz];exact rH
theorem afM{l:List cx}(hr:∀v∈row,v.Ok)(fT:∀o∈ops,o.v.Ok):(dZ l row ops).1.Ok:=by
 unfold dZ;repeat' split
 all_goals first|exact rH|exact RZ hr ops fT [] (fun v E=>by cases E)
theorem ad8(lf:∀o∈ops,o.nm.size≤maxLen)(fT:∀o∈ops,o.v.Ok)(hw:Pc.dR bY row=0)(hk:(dm bY ops).2=0)(he:(dZ bY row ops).2=0):jX (dm bY ops).1 (dZ bY row ops).1:=by
 obtain⟨_,_,_,h4⟩:=PX E8 hw (T5 hw) (acg lf fT hk) (Fp hk).2.1;obtain⟨_,h5|h5⟩:=h4 hk
 ·rw[h5] at he;cases he
 exact h5.2
def fZ(t:aH)(c:Int)(e:List aS):List Vl→List Int→List Vl×Int
 | acc,[]=>(acc,0)
 | acc,i::r=>if (dZ t.ay (rowAt t i) e).2≠0 then ([],(dZ t.ay (rowAt t i) e).2) else if c=0∧(dZ t.ay (rowAt t i) e).1.k=0 then ([],4) else fZ t c e (acc++[(dZ t.ay (rowAt t i) e).1]) r
def pn(t:aH)(i:Int)(c:Nat)(v:Vl):aH:={t with rows:=t.rows.set i.toNat ((rowAt t i).set c v)}
def jH(c:Nat):aH→List Int→List Vl→aH
 | t,i::r,v::s=>jH c (pn t i c v) r s
 | t,_,_=>t
noncomputable def oC(t:aH):aF→List Int→aF
 | x,[]=>x
 | x,i::r=>oC t (gI x (dr x) (cH (rowAt t i))) r
noncomputable def kG:aH→List Int→List Vl→aH×Int
 | t,i::r,v::s=>if iA t.ix (cH (rowAt (pn t i 0 v) i)) (dr t.ix)=true then (t,9) else kG {pn t i 0 v with ix:=gH t.ix (dr t.ix) (cH (rowAt (pn t i 0 v) i)) i} r s
 | t,_,_=>(t,0)
noncomputable def eN(t:aH)(s:bJ):aH×Int×Int :=
 if bz t.ay s.set<0 then (t,0,8) else if (dm t.ay s.bN).2≠0 then (t,0,(dm t.ay s.bN).2)
 else if (dm t.ay s.bN).1≠(t.ay.getD (bz t.ay s.set).toNat ⟨⟨#[]⟩,0⟩).k∧(dm t.ay s.bN).1≠0 then (t,0,4)
 else if (aq t s.aj).2≠0 then (t,0,(aq t s.aj).2)
 else if (fZ t (bz t.ay s.set) s.bN [] (aq t s.aj).1).2≠0 then (t,0,(fZ t (bz t.ay s.set) s.bN [] (aq t s.aj).1).2)
 else if 0<bz t.ay s.set then (jH (bz t.ay s.set).toNat t (aq t s.aj).1 (fZ t (bz t.ay s.set) s.bN [] (aq t s.aj).1).1,(aq t s.aj).1.length,0)
 else if (kG {t with ix:=oC t t.ix (aq t s.aj).1} (aq t s.aj).1 (fZ t (bz t.ay s.set) s.bN [] (aq t s.aj).1).1).2≠0 then (t,0,(kG {t with ix:=oC t t.ix (aq t s.aj).1} (aq t s.aj).1 (fZ t (bz t.ay s.set) s.bN [] (aq t s.aj).1).1).2)
 else ((kG {t with ix:=oC t t.ix (aq t s.aj).1} (aq t s.aj).1 (fZ t (bz t.ay s.set) s.bN [] (aq t s.aj).1).1).1,(aq t s.aj).1.length,0)

variable {G:List (Nat×List Value)} {m:Int}
def GM(t:aH)(L:List cf)(ad:Option Addr)(cap:Nat)(Sr:List ah):Prop:=L.map cf.r=t.rows∧(∀o∈L,n9 o)∧sR L ad cap Sr
theorem R3{ad:Option Addr}{cap:Nat}{E:List ah}(h:GM t L ad cap E)(hs:∀B∈E++L.flatMap bR,B∈S):View S (.agg (tC t ad cap)) (.agg (cX t)) :=
 TS (o:=⟨t,L.flatMap gR,ad,cap,E,L.flatMap bR⟩) (qt.w ⟨L,rfl,rfl,h.2.1,h.1,h.2.2⟩) hs
theorem R4(aV:∀o∈L,n9 o)(hi:i<L.length)(hs:∀B∈L.flatMap bR,B∈S):View S (aN L[i].ad L[i].r.length L[i].cap) (.list 3 (L[i].r.flatMap cV) L[i].r.length) :=
 lq (aV _ (getElem_mem hi)) (cm eZ _) (fun B E=>hs B (mem_flatMap.2 ⟨_,getElem_mem hi,E⟩))
theorem Km(f:ah→Nat):∀(L:List cf) (i:Nat) (o:cf) (h:i<L.length),(((L.set i o).flatMap bR).map f).sum=(o.S.map f).sum+(((L.eraseIdx i).flatMap bR).map f).sum
 | [],_,_,h=>absurd h (Nat.not_lt_zero _)
 | x::L,0,o,_=>by simp[bR]
 | x::L,i+1,o,h=>by
  have:=Km f L i o (Nat.lt_of_succ_lt_succ h);simp only[set_cons_succ,flatMap_cons,map_append,sum_append,eraseIdx_cons_succ,this];omega
theorem R5{A B C X:ah}(h:i<L.length)(hS:L[i].S=[X]):(A::B::([C]++L.flatMap bR)).Perm (X::A::B::C::(L.eraseIdx i).flatMap bR):=jK fun f=>by
 have:=Km f L i L[i] h;rw[set_getElem_self,hS] at this;simp only[map_cons,sum_cons,map_append,sum_append,map_nil,sum_nil,this];omega
theorem T7{A B C X:ah}(h:i<L.length)(hS:o.S=[X]):(X::A::B::C::(L.eraseIdx i).flatMap bR).Perm (A::B::([C]++(L.set i o).flatMap bR)):=jK fun f=>by
 have:=Km f L i o h;rw[hS] at this;simp only[map_cons,sum_cons,map_append,sum_append,map_nil,sum_nil,this];omega
theorem R6{t:aH}{c:Int}{e:List aS}:∀(l:List Int) (acc:List Vl),(fZ t c e acc l).2=0→(fZ t c e acc l).1.length=acc.length+l.length
 | [],acc,_=>rfl
 | i::r,acc,h=>by
  rw[fZ] at h ⊢;split
  ·rename_i h1;rw[if_pos h1] at h;exact absurd h h1
  rename_i h1;rw[if_neg h1] at h;split
  ·rename_i h2;rw[if_pos h2] at h;cases h
  rename_i h2;rw[if_neg h2] at h;rw[R6 r _ h,length_append,length_cons,length_cons,length_nil];omega
theorem Jw{t:aH}{n:Nat}(g:dB t n){c:Int}{e:List aS}(lf:∀o∈e,o.nm.size≤maxLen)(fT:∀o∈e,o.v.Ok)(hk:(dm bY e).2=0):∀(l:List Int) (acc:List Vl),(∀i∈l,eR t i)→(fZ t c e acc l).2=0 →
  (∀v∈acc,v.Ok∧jX (dm bY e).1 v∧(c=0→v.k≠0))→∀v∈(fZ t c e acc l).1,v.Ok∧jX (dm bY e).1 v∧(c=0→v.k≠0)
 | [],acc,_,_,ha=>ha
 | i::r,acc,hl,h,ha=>by
  rw[fZ] at h ⊢;have hi:=hl i mem_cons_self;obtain⟨h0,h1,h2⟩:=id hi;obtain⟨p1,p2,_⟩:=g.row _ h1 h2;rw[←iY h1] at p1 p2;split
  ·rename_i h1;rw[if_pos h1] at h;exact absurd h h1
  rename_i hne;rw[if_neg hne] at h;split
  ·rename_i h2;rw[if_pos h2] at h;cases h
  rename_i h3;rw[if_neg h3] at h;refine Jw g lf fT hk r _ (fun j hj=>hl j (mem_cons_of_mem _ hj)) h fun v E=>?_;rcases mem_append.1 E with E|E
  ·exact ha v E
  rw[mem_singleton] at E;subst E;rw[g.ay] at hne h3 ⊢;exact⟨afM p2 fT,ad8 lf fT p1 hk (Classical.not_not.1 hne),fun hc hz=>h3 ⟨hc,hz⟩⟩
theorem Kn{g:cf→List D}:∀(M:List cf) (i:Nat) (h:i<M.length) (o:cf),g o=g M[i]→(M.set i o).flatMap g=M.flatMap g
 | [],_,h,_,_=>absurd h (Nat.not_lt_zero _)
 | x::M,0,_,o,e=>by
  rw[set_cons_zero,flatMap_cons,flatMap_cons,e];rfl
 | x::M,i+1,h,o,e=>by
  rw[set_cons_succ,flatMap_cons,flatMap_cons,Kn M i (Nat.lt_of_succ_lt_succ h) o e]
theorem Qo{x:aF}{M:List cf}{i:Int}(h:i.toNat<M.length):rowAt {t with rows:=M.map cf.r,ix:=x} i=M[i.toNat].r:=by
 rw[iY (by show _<(M.map cf.r).length;rw[length_map];exact h)];exact getElem_map ..
theorem T8{x:aF}{M:List cf}{i:Int}(h:i.toNat<M.length)(ho:o.r=M[i.toNat].r.set c v):pn {t with rows:=M.map cf.r,ix:=x} i c v={t with rows:=(M.set i.toNat o).map cf.r,ix:=x}:=by
 unfold pn;rw[Qo h,map_set,ho]
theorem ad9{l:List Vl}:jH c t [] l=t:=by unfold jH;rfl
theorem ach{l:List Vl}:kG t [] l=(t,0):=by unfold kG;rfl
theorem GN{l:List (List Vl)}(h:L.map cf.r=l)(h1:i<L.length)(h2:i<l.length):L[i].r=l[i]:=by subst h;rw[getElem_map]
theorem aaK:(Tryz.prog.info? 33).map (fun i=>(i.zero,i.size,i.bytes))=some (some (.agg #[.int .i64 0,.int .i64 0,.string ⟨#[]⟩]),3,32):=by kernel_rfl
theorem aci(hm:(3,marksC)∈G)(hw:(1,wordsC)∈G)(ht:(0,typesC)∈G)(hG:(2,[Value.int .i64 m])∈G)(t:aH)(g:dB t n)(s:bJ)(ho:∀o∈s.aj,o.nm.size≤maxLen)(fT:∀o∈s.aj,o.v.Ok)(rq:∀o∈s.bN,o.nm.size≤maxLen)(GO:∀o∈s.bN,o.v.Ok)(hn:n≤260)(bt off qv:Nat)(pre post:List D)(hp:pre.length=off)(L:List cf)(ad:Option Addr)(cap:Nat)(Sr:List ah)(hL:L.map cf.r=t.rows)(aV:∀o∈L,n9 o)(kI:sR L ad cap Sr):VC Tryz.prog G 58 [.v (.pointer (some ⟨bt,off,none⟩)),.agg (bj s)] (⟨bt,77,qv,pre++(tC t ad cap++post)⟩::(Sr++L.flatMap bR)) (fun r S=>r = .dh [ae (eN t s).2.1,ae (eN t s).2.2]∧((eN t s).2.2=0→∃L' nZ kJ oP,GM (eN t s).1 L' nZ kJ oP∧S=⟨bt,77,qv,pre++(tC (eN t s).1 nZ kJ++post)⟩::(oP++L'.flatMap bR))):=by
 refine VC.body func58 rfl ntmps58 aQ fun X0 w0 bf=>?_;have cY:=dN;have HR:GM t L ad cap Sr:=⟨hL,aV,kI⟩
 have rZ:L.length=t.rows.length:=(by rw[←hL];(first|rw[length_map]|(unfold au;rw[length_map])))
 have mY:=g.eI;have DY:=y8 g s.aj;have mK:=pV g s.aj;have hnd:=yK g s.aj;have alm:t.ay.length=4:=(by rw[g.ay];rfl)
 have aiD:=IY (G:=G) t w4 s.set;have qw:=Fm (G:=G) hm hw ht t.ay xL xK s.bN rq;unfold ph at qw;have YV:=wz (fun c:cx=>c.n.toList==s.set.toList) t.ay;rw[show dA (fun c:cx=>c.n.toList==s.set.toList) t.ay=(bz t.ay s.set) from rfl] at YV;unfold tC;unfold bj;refine bS ?_;refine OD.box (ds:=[_,_,_,_,_,_,_,_,_,_,_,_]) ap rfl rfl ot rfl rfl (fun b3=>?_);refine an 205 [0,3] ?_;refine cM [0,3,6] ?_;refine aP 2 ?_ (h:=by exact(Ml 1));refine mG 2 ?_;refine zN (aiD) (ha:=by exact⟨⟨_,ot,(R3 HR (fun B U=>by repeat (first|exact U|apply mem_append_right|apply mem_cons_of_mem)):View _ (.agg (tC t ad cap)) _)⟩,⟨_,ot,eO⟩,trivial⟩) (K:=?_);refine bD ?_;refine af [0,3,6,30] ?_;refine ax ?_ ?_<;>intro aO bA
 ·have hA:(bz t.ay s.set)<0:=(by simpa using aO)
  have aW:eN t s=(t,0,8):=(by unfold eN;rw[if_pos hA])
  exact xn
 have hA:¬(bz t.ay s.set)<0:=(by simpa using aO)
 have ku:(bz t.ay s.set).toNat<t.ay.length:=(by omega)
 refine cM [0,3,6,7,8] ?_;refine aP 3 ?_ (h:=by exact(oO 1));refine cJ (qw) ?_;refine bD ?_;refine af [0,3,6,7,8,42] ?_;refine ax ?_ ?_<;>intro aY cz
 ·have U:(dm t.ay s.bN).2≠0:=(by simpa using aY)
  have aW:eN t s=(t,0,(dm t.ay s.bN).2):=(by unfold eN;rw[if_neg hA,if_pos U])
  exact xn
 have U:¬(dm t.ay s.bN).2≠0:=(by simpa using aY)
 have jt:t.ay.getD (bz t.ay s.set).toNat ⟨⟨#[]⟩,0⟩=t.ay[(bz t.ay s.set).toNat]:=(by rw[getD_eq_getElem?_getD,getElem?_eq_getElem ku];rfl)
 refine CD.skip ?_;refine iv [0,3,6] (fun aR lK aD=>(¬((dm t.ay s.bN).1≠(t.ay.getD (bz t.ay s.set).toNat ⟨⟨#[]⟩,0⟩).k∧(dm t.ay s.bN).1≠0))∧aD=(⟨205,aR,lK⟩:St)) ?_ ?_
 ·refine aA 4 ?_;refine bQ (oO 1) ?_;refine aG 1 ?_;refine bQ (dw 2 (h:=by first|exact .l (j:=(bz t.ay s.set).toNat) (Int.toNat_of_nonneg w4).symm ku|exact .r (j:=(bz t.ay s.set).toNat) (Int.toNat_of_nonneg w4).symm ku)) ?_;refine aG 4 ?_;refine bW 54 (fun zT zk=>?_) (fun zT zk=>?_)
  ·refine an 205 [0,3,6,57] ?_;refine ax ?_ ?_<;>intro cc cN
   ·have hC:(dm t.ay s.bN).1≠(t.ay.getD (bz t.ay s.set).toNat ⟨⟨#[]⟩,0⟩).k∧(dm t.ay s.bN).1≠0:=(by rw[jt];exact⟨by simpa using zT,by simpa using cc⟩)
    have aW:eN t s=(t,0,4):=(by unfold eN;rw[if_neg hA,if_neg U,if_pos hC])
    exact xn
   exact z72
  refine an 205 [0,3,6,57] ?_;refine fY ?_;exact z72
 rintro _ ⟨hC,rfl⟩;refine cM [0,3,6,8,9] ?_;refine aP 2 ?_ (h:=by exact(Ml 1));refine mG 2 ?_;refine zM (KO hm hw ht hG t g s.aj ho fT) (fun r S h=>h.flat) (fun r S h=>h.view) (ha:=by exact⟨⟨_,ot,(R3 HR (fun B U=>by repeat (first|exact U|apply mem_append_right|apply mem_cons_of_mem)):View _ (.agg (tC t ad cap)) _)⟩,⟨_,ot,eO⟩,trivial⟩) (K:=?_);refine bD ?_;refine af [0,3,6,8,9,68] ?_;refine ax ?_ ?_<;>intro cQ ek
 ·have hD:(aq t s.aj).2≠0:=(by simpa using cQ)
  have aW:eN t s=(t,0,(aq t s.aj).2):=(by unfold eN;rw[if_neg hA,if_neg U,if_neg hC,if_pos hD])
  exact xn
 have hD:¬(aq t s.aj).2≠0:=(by simpa using cQ)
 refine bS ?_;refine bp [0,3,6,9,10] ?_;refine af [0,3,6,9,10,70,71,72] ?_;refine ez [0,3,6,9,70,71] (fun aR _ (E:Nat×List Vl×Option Addr×Nat×List ah) aD=>match E with|(k,acc,dz,cZ,Sx)=>(k≤(aq t s.aj).1.length)∧((acc).length=k)∧((fZ t (bz t.ay s.set) s.bN [] (aq t s.aj).1)=fZ t (bz t.ay s.set) s.bN acc ((aq t s.aj).1.drop k))∧(bg 33 3 ((acc).flatMap cV) (acc).length dz cZ Sx)∧aD=(⟨205,(10,aN dz (acc).length cZ)::(72,ae (k:Nat))::aR,(⟨b3,46,12,bj s⟩::⟨bt,77,qv,pre++([aZ t.nm,au 2 cC t.ay,aN ad t.rows.length cap,au 5 cP t.ix.ag,ae t.ix.root]++post)⟩::(Sr++(Sx++L.flatMap bR)))⟩:St)) (fun (E:Nat×List Vl×Option Addr×Nat×List ah)=>match E with|(k,acc,dz,cZ,Sx)=>(aq t s.aj).1.length-k) (0,([]:List Vl),none,0,[]) ⟨(Nat.zero_le _),rfl,rfl,iz,rfl⟩ ?_;rintro⟨k,acc,dz,cZ,Sx⟩ _ ⟨hk,rR,Au,dX,rfl⟩;refine af [0,3,6,9,10,70,71,72,73] ?_;refine ax ?_ ?_<;>intro dV fB
 ·have aa:k<(aq t s.aj).1.length:=(by omega)
  have js:(aq t s.aj).1.drop k=((aq t s.aj).1[k]'aa)::(aq t s.aj).1.drop (k+1):=drop_eq_getElem_cons aa;have sb:eR t ((aq t s.aj).1[k]'aa):=mK _ (getElem_mem aa);obtain⟨fH,O,mo⟩:=id sb;have gg:((aq t s.aj).1[k]'aa).toNat<L.length:=(by rw[rZ];exact O)
  obtain⟨br,rfl,mh,mi,rfl⟩:=kI.pos w4;have vT:L[((aq t s.aj).1[k]'aa).toNat].r=rowAt t ((aq t s.aj).1[k]'aa):=(by rw[iY O];exact(GN hL gg O))
  obtain⟨YU,DZ⟩:=eR.ok g sb;have Mm:=J1 (G:=G) hm hw ht t.ay xL xK L[((aq t s.aj).1[k]'aa).toNat].r (by rw[vT];omega) (by rw[vT];exact fun v hv=>(DZ v hv).1) s.bN rq GO;rw[show dZ t.ay L[((aq t s.aj).1[k]'aa).toNat].r s.bN=(dZ t.ay (rowAt t ((aq t s.aj).1[k]'aa)) s.bN) from by rw[vT]] at Mm;unfold mI at Mm;refine af [0,3,6,9,10,12,70,71,72] ?_;refine CD.seq ?_;refine s8 18 17 [0,3,6,9,10,13,70,71,72,91,92] ?_;refine aP 3 ?_ (h:=by exact(oO 1));refine aP 3 ?_ (h:=by exact(oO 1));refine aP 1 ?_ (h:=by exact(dw 1 (h:=by first|exact .l (j:=((aq t s.aj).1[k]'aa).toNat) (Int.toNat_of_nonneg fH).symm O|exact .r (j:=((aq t s.aj).1[k]'aa).toNat) (Int.toNat_of_nonneg fH).symm O)));refine aP 0 ?_ (h:=by exact(cR (mk:=Op.load 43) rfl ot (iZ (k:=2) (i:=((aq t s.aj).1[k]'aa).toNat) (ls:=L) u9 rfl rfl rfl isAgg43 gg rfl)));refine mG 2 ?_;refine zN (Mm) (ha:=by exact⟨⟨_,ot,eO⟩,⟨_,ot,(R4 aV gg (fun B U=>by repeat (first|exact U|apply mem_append_right|apply mem_cons_of_mem)))⟩,⟨_,ot,eO⟩,trivial⟩) (K:=?_);refine mG 3 ?_;refine pA ?_;refine jI ?_;refine⟨rfl,fun lN=>?_⟩;refine aM 0 [_,_,_] sizeOf33 ?_;refine an 205 [0,3,6,9,10,13,14,70,71,72] ?_;refine af [0,3,6,9,10,13,14,70,71,72,94] ?_;refine ax ?_ ?_<;>intro fD gG
  ·have hE:(dZ t.ay (rowAt t ((aq t s.aj).1[k]'aa)) s.bN).2≠0:=(by simpa using fD)
   have iI:(fZ t (bz t.ay s.set) s.bN [] (aq t s.aj).1)=([],(dZ t.ay (rowAt t ((aq t s.aj).1[k]'aa)) s.bN).2):=(by rw[Au,js,fZ,if_pos hE])
   have aW:eN t s=(t,0,(dZ t.ay (rowAt t ((aq t s.aj).1[k]'aa)) s.bN).2):=(by unfold eN;rw[if_neg hA,if_neg U,if_neg hC,if_neg hD,iI,if_pos hE])
   exact xn
  have hE:¬(dZ t.ay (rowAt t ((aq t s.aj).1[k]'aa)) s.bN).2≠0:=(by simpa using fD)
  refine CD.skip ?_;refine iv [0,3,6,9,10,13,70,71,72] (fun aR lK aD=>((fZ t (bz t.ay s.set) s.bN [] (aq t s.aj).1)=fZ t (bz t.ay s.set) s.bN (acc++[(dZ t.ay (rowAt t ((aq t s.aj).1[k]'aa)) s.bN).1]) ((aq t s.aj).1.drop (k+1)))∧aD=(⟨205,aR,lK⟩:St)) ?_ ?_
  ·refine aA 3 ?_;refine bW 98 (fun zD Ge=>?_) (fun zD Ge=>?_)
   ·refine bp [0,3,6,9,10,13,70,71,72,102] ?_;refine ax ?_ ?_<;>intro iP o9
    ·have hF:(bz t.ay s.set)=0∧(dZ t.ay (rowAt t ((aq t s.aj).1[k]'aa)) s.bN).1.k=0:=⟨Ge,by simpa using iP⟩
     have iI:(fZ t (bz t.ay s.set) s.bN [] (aq t s.aj).1)=([],4):=(by rw[Au,js,fZ,if_neg hE,if_pos hF])
     have aW:eN t s=(t,0,4):=(by unfold eN;rw[if_neg hA,if_neg U,if_neg hC,if_neg hD,iI,if_pos w8])
     exact xn
    exact Xi
   refine bp [0,3,6,9,10,13,70,71,72,102] ?_;refine fY ?_;exact Xi
  rintro _ ⟨nf,rfl⟩;refine dG 2 ?_;refine ew (cu 0 [_]) [.int .i64 0,.int .i64 0,.string ⟨#[]⟩] [_,_,_] zeroValue33 runUnderlying43 sizeOf33 (fun aqV=>?_);refine fS 0 105 3 1 ?_;refine OD.eB (ls:=acc) (new:=[(dZ t.ay (rowAt t ((aq t s.aj).1[k]'aa)) s.bN).1]) (Sq:=Sx) eZ BF ap rfl rfl underlying43 aaK rfl w8 ot dX (tF (A:=[_,_,_]) (S1:=[⟨br,43,cap*1,L.flatMap gR⟩]) (S2:=Sx) (S3:=L.flatMap bR)) ot bq nB nC (fun Mn Lm aiE aiF=>?_);refine OD.perm (wi (S2:=[⟨Mn,33,Lm*3,flatMap cV (acc++[(dZ t.ay (rowAt t ((aq t s.aj).1[k]'aa)) s.bN).1])⟩]) (A:=[_,_,_])) ?_;refine an 205 [0,3,6,9,10,70,71,72] ?_;refine bX [0,3,6,9,10,70,71,72] ?_;refine⟨((k+1),(acc++[(dZ t.ay (rowAt t ((aq t s.aj).1[k]'aa)) s.bN).1]),(some ⟨Mn,0,none⟩),Lm,[⟨Mn,33,Lm*3,flatMap cV (acc++[(dZ t.ay (rowAt t ((aq t s.aj).1[k]'aa)) s.bN).1])⟩]),_,cn,aJ,w4,CN,nf,(bM aiE aiF),rfl⟩
 have D0:(fZ t (bz t.ay s.set) s.bN [] (aq t s.aj).1)=(acc,0):=(by rw[Au,drop_of_length_le w4];rfl)
 have hN:¬(fZ t (bz t.ay s.set) s.bN [] (aq t s.aj).1).2≠0:=(by rw[D0];exact fun h=>h rfl)
 have rh:acc.length=(aq t s.aj).1.length:=(by omega)
 have WE:=Jw g rq GO (c:=(bz t.ay s.set)) (by rw[←g.ay];exact Classical.not_not.1 U) (aq t s.aj).1 [] mK (Classical.not_not.1 hN) (fun v hv=>by cases hv);rw[D0] at WE;have hl4:∀i∈(aq t s.aj).1,∃h:i.toNat<L.length,L[i.toNat].r.length=4:=fun i hi=>by obtain⟨h0,h1,h2⟩:=mK i hi;have:=(eR.ok g (mK i hi)).1;rw[iY h1] at this;exact⟨by omega,by rw[GN hL w4 h1];exact this⟩
 have hl5:∀i∈(aq t s.aj).1,∃h:i.toNat<L.length,Pc.dR bY L[i.toNat].r=0∧∀v∈L[i.toNat].r,v.Ok:=fun i hi=>by obtain⟨h0,h1,h2⟩:=mK i hi;obtain⟨p1,p2,_⟩:=g.row _ h1 h2;exact⟨by omega,by rw[GN hL w4 h1];exact⟨p1,p2⟩⟩
 refine CD.exit ?_;refine CD.seq ?_;refine CD.seq ?_;refine CD.ic (t:=10) (Sq:=Sx) lk dX (cm eZ _) (tF (A:=[_,_])) ?_;refine th ?_;refine bp [0,6,9,10,109] ?_;refine ax ?_ ?_<;>intro iG mU
 ·have hP:0<(bz t.ay s.set):=(by simpa using iG)
  refine af [0,6,9,10,110,111,112] ?_;refine ez [0,6,9,10,110,111] (fun aR _ (E:Nat×List cf) aD=>match E with|(k,M)=>(k≤(aq t s.aj).1.length)∧(jH (bz t.ay s.set).toNat {t with rows:=M.map cf.r} ((aq t s.aj).1.drop k) (acc.drop k)=jH (bz t.ay s.set).toNat t (aq t s.aj).1 acc)∧(∀o∈M,n9 o)∧(sR M ad cap Sr)∧(M.length=t.rows.length)∧(∀i∈(aq t s.aj).1,∃h:i.toNat<M.length,M[i.toNat].r.length=4)∧aD=(⟨205,(112,ae (k:Nat))::aR,(⟨b3,46,12,bj s⟩::⟨bt,77,qv,pre++([aZ t.nm,au 2 cC t.ay,aN ad t.rows.length cap,au 5 cP t.ix.ag,ae t.ix.root]++post)⟩::(Sr++M.flatMap bR))⟩:St)) (fun (E:Nat×List cf)=>match E with|(k,M)=>(aq t s.aj).1.length-k) (0,L) ⟨(Nat.zero_le _),(by rw[hL];rfl),aV,kI,rZ,hl4,rfl⟩ ?_;rintro⟨k,M⟩ _ ⟨dL,WG,Z,vS,xJ,YW,rfl⟩;refine af [0,6,9,10,110,111,112,113] ?_;refine ax ?_ ?_<;>intro qi zP
  ·have aa:k<(aq t s.aj).1.length:=(by omega)
   have dc:k<acc.length:=(by omega)
   have js:(aq t s.aj).1.drop k=((aq t s.aj).1[k]'aa)::(aq t s.aj).1.drop (k+1):=drop_eq_getElem_cons aa;have lJ:acc.drop k=(acc[k]'dc)::acc.drop (k+1):=drop_eq_getElem_cons dc;obtain⟨fH,O,mo⟩:=mK _ (getElem_mem aa);obtain⟨gg,sc⟩:=YW _ (getElem_mem aa);obtain⟨br,rfl,mh,mi,rfl⟩:=vS.pos w4;obtain⟨I,yA,CO,D2,Oi⟩:=(Z _ (getElem_mem gg)).pos w4;have jZ:∀o∈(M.set ((aq t s.aj).1[k]'aa).toNat (⟨M[((aq t s.aj).1[k]'aa).toNat].r.set (bz t.ay s.set).toNat (acc[k]'dc),some ⟨I,0,none⟩,M[((aq t s.aj).1[k]'aa).toNat].cap,[⟨I,33,M[((aq t s.aj).1[k]'aa).toNat].cap*3,(M[((aq t s.aj).1[k]'aa).toNat].r.set (bz t.ay s.set).toNat (acc[k]'dc)).flatMap cV⟩]⟩:cf)),n9 o:=fun o ho=>by rcases mem_or_eq_of_mem_set ho with h|h;exact Z o h;rw[h];exact bM (g:=cV) G1 D2
   have Oj:(M.set ((aq t s.aj).1[k]'aa).toNat (⟨M[((aq t s.aj).1[k]'aa).toNat].r.set (bz t.ay s.set).toNat (acc[k]'dc),some ⟨I,0,none⟩,M[((aq t s.aj).1[k]'aa).toNat].cap,[⟨I,33,M[((aq t s.aj).1[k]'aa).toNat].cap*3,(M[((aq t s.aj).1[k]'aa).toNat].r.set (bz t.ay s.set).toNat (acc[k]'dc)).flatMap cV⟩]⟩:cf)).flatMap gR=M.flatMap gR:=Kn M _ gg _ (by show[D.v (.slice _ (M[((aq t s.aj).1[k]'aa).toNat].r.set (bz t.ay s.set).toNat (acc[k]'dc)).length _)]=[D.v (.slice _ _ _)];rw[length_set,yA]);have CH:sR (M.set ((aq t s.aj).1[k]'aa).toNat (⟨M[((aq t s.aj).1[k]'aa).toNat].r.set (bz t.ay s.set).toNat (acc[k]'dc),some ⟨I,0,none⟩,M[((aq t s.aj).1[k]'aa).toNat].cap,[⟨I,33,M[((aq t s.aj).1[k]'aa).toNat].cap*3,(M[((aq t s.aj).1[k]'aa).toNat].r.set (bz t.ay s.set).toNat (acc[k]'dc)).flatMap cV⟩]⟩:cf)) (some ⟨br,0,none⟩) cap [⟨br,43,cap*1,M.flatMap gR⟩]:=(by rw[←Oj];exact bM (by rw[length_set];exact mh) mi)
   have aln:∀i∈(aq t s.aj).1,∃h:i.toNat<(M.set ((aq t s.aj).1[k]'aa).toNat (⟨M[((aq t s.aj).1[k]'aa).toNat].r.set (bz t.ay s.set).toNat (acc[k]'dc),some ⟨I,0,none⟩,M[((aq t s.aj).1[k]'aa).toNat].cap,[⟨I,33,M[((aq t s.aj).1[k]'aa).toNat].cap*3,(M[((aq t s.aj).1[k]'aa).toNat].r.set (bz t.ay s.set).toNat (acc[k]'dc)).flatMap cV⟩]⟩:cf)).length,(M.set ((aq t s.aj).1[k]'aa).toNat (⟨M[((aq t s.aj).1[k]'aa).toNat].r.set (bz t.ay s.set).toNat (acc[k]'dc),some ⟨I,0,none⟩,M[((aq t s.aj).1[k]'aa).toNat].cap,[⟨I,33,M[((aq t s.aj).1[k]'aa).toNat].cap*3,(M[((aq t s.aj).1[k]'aa).toNat].r.set (bz t.ay s.set).toNat (acc[k]'dc)).flatMap cV⟩]⟩:cf))[i.toNat].r.length=4:=fun i hi=>by obtain⟨h1,h2⟩:=YW i hi;refine⟨by rw[length_set];exact h1,?_⟩;rw[getElem_set];split;(show(M[((aq t s.aj).1[k]'aa).toNat].r.set (bz t.ay s.set).toNat (acc[k]'dc)).length=4;rw[length_set];exact sc);exact h2
   have aiG:jH (bz t.ay s.set).toNat {t with rows:=(M.set ((aq t s.aj).1[k]'aa).toNat (⟨M[((aq t s.aj).1[k]'aa).toNat].r.set (bz t.ay s.set).toNat (acc[k]'dc),some ⟨I,0,none⟩,M[((aq t s.aj).1[k]'aa).toNat].cap,[⟨I,33,M[((aq t s.aj).1[k]'aa).toNat].cap*3,(M[((aq t s.aj).1[k]'aa).toNat].r.set (bz t.ay s.set).toNat (acc[k]'dc)).flatMap cV⟩]⟩:cf)).map cf.r} ((aq t s.aj).1.drop (k+1)) (acc.drop (k+1))=jH (bz t.ay s.set).toNat t (aq t s.aj).1 acc:=(by rw[←WG,js,lJ,jH];congr 1;exact(T8 (x:=t.ix) gg rfl).symm)
   refine CD.perm (R5 gg Oi) ?_;refine af [0,6,9,10,15,16,110,111,112] ?_;refine nD 12 [0,6,9,10,110,111,112,123,124,128] ?_;refine aP 3 ?_ (h:=by exact(oO 2));refine aP 1 ?_ (h:=by exact(dw 1 (h:=by first|exact .l (j:=((aq t s.aj).1[k]'aa).toNat) (Int.toNat_of_nonneg fH).symm vG|exact .r (j:=((aq t s.aj).1[k]'aa).toNat) (Int.toNat_of_nonneg fH).symm vG)));refine aP 0 ?_ (h:=by exact(cR (mk:=Op.load 43) rfl ot (iZ (k:=3) (i:=((aq t s.aj).1[k]'aa).toNat) (ls:=M) (d:=aN (some ⟨I,0,none⟩) M[((aq t s.aj).1[k]'aa).toNat].r.length M[((aq t s.aj).1[k]'aa).toNat].cap) u9 rfl rfl rfl isAgg43 gg (by rw[←yA];rfl))));refine bD ?_;refine bQ (dw 3 (h:=by first|exact .l (j:=(bz t.ay s.set).toNat) (Int.toNat_of_nonneg w4).symm (by rw[sc];omega)|exact .r (j:=(bz t.ay s.set).toNat) (Int.toNat_of_nonneg w4).symm (by rw[sc];omega))) ?_;refine OD.storeAt (k:=0) (cs':=(M[((aq t s.aj).1[k]'aa).toNat].r.set (bz t.ay s.set).toNat (acc[k]'dc)).flatMap cV) ap rfl rfl ot rfl rfl ot rfl rfl sizeOf33 rfl (by show 0+(bz t.ay s.set).toNat*3+3≤(M[((aq t s.aj).1[k]'aa).toNat].r.flatMap cV).length;rw[cm eZ,sc];omega) (by show c8 (M[((aq t s.aj).1[k]'aa).toNat].r.flatMap cV) (0+(bz t.ay s.set).toNat*3) (cV (acc[k]'dc))=_;rw[Nat.zero_add];exact oq eZ _ _ (by rw[sc];omega)) ?_;refine an 205 [0,6,9,10,110,111,112] ?_;refine dG 1 ?_
   refine OD.perm (T7 gg (o:=(⟨M[((aq t s.aj).1[k]'aa).toNat].r.set (bz t.ay s.set).toNat (acc[k]'dc),some ⟨I,0,none⟩,M[((aq t s.aj).1[k]'aa).toNat].cap,[⟨I,33,M[((aq t s.aj).1[k]'aa).toNat].cap*3,(M[((aq t s.aj).1[k]'aa).toNat].r.set (bz t.ay s.set).toNat (acc[k]'dc)).flatMap cV⟩]⟩:cf)) rfl) ?_;refine an 205 [0,6,9,10,110,111,112] ?_;refine⟨((k+1),(M.set ((aq t s.aj).1[k]'aa).toNat (⟨M[((aq t s.aj).1[k]'aa).toNat].r.set (bz t.ay s.set).toNat (acc[k]'dc),some ⟨I,0,none⟩,M[((aq t s.aj).1[k]'aa).toNat].cap,[⟨I,33,M[((aq t s.aj).1[k]'aa).toNat].cap*3,(M[((aq t s.aj).1[k]'aa).toNat].r.set (bz t.ay s.set).toNat (acc[k]'dc)).flatMap cV⟩]⟩:cf))),_,cn,aJ,w4,aiG,jZ,CH,(by rw[length_set];exact xJ),aln,rfl⟩
  have aiH:jH (bz t.ay s.set).toNat t (aq t s.aj).1 acc={t with rows:=M.map cf.r}:=(by rw[←WG,drop_of_length_le (l:=(aq t s.aj).1) w4,ad9])
  have aW:eN t s=({t with rows:=M.map cf.r},((aq t s.aj).1.length:Int),0):=(by unfold eN;rw[if_neg hA,if_neg U,if_neg hC,if_neg hD,if_neg hN,if_pos hP,D0,aiH])
  refine af [4,5] ?_;refine aK (⟨bt,77,qv,pre++(_++post)⟩::(Sr++M.flatMap bR)) ?_;rw[aW];exact⟨rfl,fun _=>⟨M,ad,cap,Sr,⟨rfl,Z,vS⟩,by simp only[tC,length_map,xJ]⟩⟩
 have hP:¬0<(bz t.ay s.set):=(by simpa using iG)
 have yB:(bz t.ay s.set)=0:=(by omega)
 refine af [0,9,10,133,134,135] ?_;refine ez [0,9,10,133,134] (fun aR _ (E:Nat×aF) aD=>match E with|(k,x)=>(k≤(aq t s.aj).1.length)∧(oC t x ((aq t s.aj).1.drop k)=oC t t.ix (aq t s.aj).1)∧(iN x n)∧(∀i∈(aq t s.aj).1.drop k,(cH (rowAt t i),i)∈eu x)∧aD=(⟨205,(135,ae (k:Nat))::aR,(⟨b3,46,12,bj s⟩::⟨bt,77,qv,pre++([aZ t.nm,au 2 cC t.ay,aN ad t.rows.length cap,au 5 cP x.ag,ae x.root]++post)⟩::(Sr++L.flatMap bR))⟩:St)) (fun (E:Nat×aF)=>match E with|(k,x)=>(aq t s.aj).1.length-k) (0,t.ix) ⟨(Nat.zero_le _),rfl,g.ix,(fun i hi=>(mK i hi).gZ g),rfl⟩ ?_;rintro⟨k,x⟩ _ ⟨fF,Mo,gx,yo,rfl⟩;refine af [0,9,10,133,134,135,136] ?_;refine ax ?_ ?_<;>intro uD Ck
 ·have aa:k<(aq t s.aj).1.length:=(by omega)
  have js:(aq t s.aj).1.drop k=((aq t s.aj).1[k]'aa)::(aq t s.aj).1.drop (k+1):=drop_eq_getElem_cons aa;have sb:eR t ((aq t s.aj).1[k]'aa):=mK _ (getElem_mem aa);obtain⟨fH,O,mo⟩:=id sb;have gg:((aq t s.aj).1[k]'aa).toNat<L.length:=(by rw[rZ];exact O)
  obtain⟨br,rfl,mh,mi,rfl⟩:=kI.pos w4;have vT:L[((aq t s.aj).1[k]'aa).toNat].r=rowAt t ((aq t s.aj).1[k]'aa):=(by rw[iY O];exact(GN hL gg O))
  obtain⟨YU,DZ⟩:=eR.ok g sb;have WH:=KM (G:=G) hG L[((aq t s.aj).1[k]'aa).toNat].r (by rw[vT];omega) (by rw[vT];omega) (by rw[vT];exact fun v hv=>(DZ v hv).1);rw[show cH L[((aq t s.aj).1[k]'aa).toNat].r=cH (rowAt t ((aq t s.aj).1[k]'aa)) from by rw[vT]] at WH;have iV:=yo _ (by rw[js];exact mem_cons_self);have YX:=Js gx ((Bh gx.val _).2 ⟨_,iV⟩);have yz:=RP (G:=G) gx (cH (rowAt t ((aq t s.aj).1[k]'aa)));rw[TQ gx (wC (by rw[iY O];exact(g.row _ O mo).1)) ((Bi gx _).2 ⟨_,iV⟩)] at yz;unfold Tw.cT at yz;have aiI:oC t (gI x (dr x) (cH (rowAt t ((aq t s.aj).1[k]'aa)))) ((aq t s.aj).1.drop (k+1))=oC t t.ix (aq t s.aj).1:=(by rw[←Mo,js];rfl)
  have alo:∀i∈(aq t s.aj).1.drop (k+1),(cH (rowAt t i),i)∈eu (gI x (dr x) (cH (rowAt t ((aq t s.aj).1[k]'aa)))):=fun i hi=>by refine(YX.2 _).2 ⟨yo i (by rw[js];exact mem_cons_of_mem _ hi),fun e=>?_⟩;have h9:=hnd.sublist (drop_sublist k _);rw[js,nodup_cons] at h9;have h8:=Fz g.ix ((mK i (mem_of_mem_drop hi)).gZ g) (sb.gZ g) e;simp only[Prod.mk.injEq] at h8;exact h9.1 (h8.2 ▸ hi)
  refine af [0,9,10,18,133,134,135] ?_;refine nD 17 [0,9,10,133,134,135,140,154] ?_;refine aP 4 ?_ (h:=by exact(xF 1));refine aP 3 ?_ (h:=by exact(oO 1));refine aP 1 ?_ (h:=by exact(dw 1 (h:=by first|exact .l (j:=((aq t s.aj).1[k]'aa).toNat) (Int.toNat_of_nonneg fH).symm O|exact .r (j:=((aq t s.aj).1[k]'aa).toNat) (Int.toNat_of_nonneg fH).symm O)));refine aP 0 ?_ (h:=by exact(cR (mk:=Op.load 43) rfl ot (iZ (k:=2) (i:=((aq t s.aj).1[k]'aa).toNat) (ls:=L) u9 rfl rfl rfl isAgg43 gg rfl)));refine zM (WH) (fun r S h=>h.flat) (fun r S h=>h.view) (ha:=by exact⟨⟨_,ot,(R4 aV gg (fun B U=>by repeat (first|exact U|apply mem_append_right|apply mem_cons_of_mem)))⟩,trivial⟩) (K:=?_);refine cJ (yz) ?_;refine bD ?_;refine aG 2 ?_;refine OD.storeAt (k:=1) (cs':=pre++([aZ t.nm,au 2 cC t.ay,aN (some ⟨br,0,none⟩) t.rows.length cap,.list 5 ((gI x (dr x) (cH (rowAt t ((aq t s.aj).1[k]'aa)))).ag.flatMap cP) (gI x (dr x) (cH (rowAt t ((aq t s.aj).1[k]'aa)))).ag.length,ae (gI x (dr x) (cH (rowAt t ((aq t s.aj).1[k]'aa)))).root]++post)) ap rfl rfl ot rfl rfl ot rfl rfl sizeOf75 rfl (by show off+3+2≤(pre++(([aZ t.nm,au 2 cC t.ay,aN (some ⟨br,0,none⟩) t.rows.length cap,au 5 cP x.ag,ae x.root]:List D)++post)).length;simp only[length_append,length_cons,length_nil];omega) (by exact BD (j:=3) hp aQ rfl) ?_;refine an 205 [0,9,10,133,134,135] ?_
  refine bX [0,9,10,133,134,135] ?_;refine⟨((k+1),(gI x (dr x) (cH (rowAt t ((aq t s.aj).1[k]'aa))))),_,cn,aJ,w4,aiI,YX.1,alo,rfl⟩
 have yt:oC t t.ix (aq t s.aj).1=x:=(by rw[←Mo,drop_of_length_le w4];rfl)
 clear Mo yo;skip;refine af [0,9,10,159,160,161] ?_;refine ez [0,9,10,159,160] (fun aR _ (E:Nat×List cf×aF) aD=>match E with|(k,M,y)=>(k≤(aq t s.aj).1.length)∧(kG {t with rows:=M.map cf.r,ix:=y} ((aq t s.aj).1.drop k) (acc.drop k)=kG {t with ix:=oC t t.ix (aq t s.aj).1} (aq t s.aj).1 acc)∧(∀o∈M,n9 o)∧(sR M ad cap Sr)∧(M.length=t.rows.length)∧(∀i∈(aq t s.aj).1,∃h:i.toNat<M.length,Pc.dR bY M[i.toNat].r=0∧∀v∈M[i.toNat].r,v.Ok)∧(iN y (n+k))∧aD=(⟨205,(161,ae (k:Nat))::aR,(⟨b3,46,12,bj s⟩::⟨bt,77,qv,pre++([aZ t.nm,au 2 cC t.ay,aN ad t.rows.length cap,au 5 cP y.ag,ae y.root]++post)⟩::(Sr++M.flatMap bR))⟩:St)) (fun (E:Nat×List cf×aF)=>match E with|(k,M,y)=>(aq t s.aj).1.length-k) (0,L,x) ⟨(Nat.zero_le _),(by rw[hL,yt];rfl),aV,kI,rZ,hl5,gx,rfl⟩ ?_;rintro⟨k,M,y⟩ _ ⟨dL,AV,Z,vS,xJ,YY,gy,rfl⟩;refine af [0,9,10,159,160,161,162] ?_;refine ax ?_ ?_<;>intro GD F9
 ·have aa:k<(aq t s.aj).1.length:=(by omega)
  have dc:k<acc.length:=(by omega)
  have js:(aq t s.aj).1.drop k=((aq t s.aj).1[k]'aa)::(aq t s.aj).1.drop (k+1):=drop_eq_getElem_cons aa;have lJ:acc.drop k=(acc[k]'dc)::acc.drop (k+1):=drop_eq_getElem_cons dc;obtain⟨fH,O,mo⟩:=mK _ (getElem_mem aa);obtain⟨gg,YZ,hx6⟩:=YY _ (getElem_mem aa);have sc:=o8 YZ;obtain⟨alp,WI,alq⟩:=WE _ (getElem_mem dc);have yy:(acc[k]'dc).k≠0∧jX (bY[0]'w8).k (acc[k]'dc):=(by have h1:=alq yB;refine⟨h1,WI.1,?_⟩;have h2:=WI.2;have alr:bz bY s.set=0:=(by rw[←g.ay];exact yB);have Y0:=hC;simp only[g.ay,alr] at Y0;have h3:(dm bY s.bN).1=(bY[0]'w8).k∨(dm bY s.bN).1=0:=(Classical.em ((dm bY s.bN).1=(bY[0]'w8).k)).imp id fun h=>Classical.not_not.1 fun h'=>Y0 ⟨h,h'⟩;omega)
  obtain⟨br,rfl,mh,mi,rfl⟩:=vS.pos w4;obtain⟨I,yA,CO,D2,Oi⟩:=(Z _ (getElem_mem gg)).pos w4;have jZ:∀o∈(M.set ((aq t s.aj).1[k]'aa).toNat (⟨M[((aq t s.aj).1[k]'aa).toNat].r.set 0 (acc[k]'dc),some ⟨I,0,none⟩,M[((aq t s.aj).1[k]'aa).toNat].cap,[⟨I,33,M[((aq t s.aj).1[k]'aa).toNat].cap*3,(M[((aq t s.aj).1[k]'aa).toNat].r.set 0 (acc[k]'dc)).flatMap cV⟩]⟩:cf)),n9 o:=fun o ho=>by rcases mem_or_eq_of_mem_set ho with h|h;exact Z o h;rw[h];exact bM (g:=cV) G1 D2
  have Oj:(M.set ((aq t s.aj).1[k]'aa).toNat (⟨M[((aq t s.aj).1[k]'aa).toNat].r.set 0 (acc[k]'dc),some ⟨I,0,none⟩,M[((aq t s.aj).1[k]'aa).toNat].cap,[⟨I,33,M[((aq t s.aj).1[k]'aa).toNat].cap*3,(M[((aq t s.aj).1[k]'aa).toNat].r.set 0 (acc[k]'dc)).flatMap cV⟩]⟩:cf)).flatMap gR=M.flatMap gR:=Kn M _ gg _ (by show[D.v (.slice _ (M[((aq t s.aj).1[k]'aa).toNat].r.set 0 (acc[k]'dc)).length _)]=[D.v (.slice _ _ _)];rw[length_set,yA]);have CH:sR (M.set ((aq t s.aj).1[k]'aa).toNat (⟨M[((aq t s.aj).1[k]'aa).toNat].r.set 0 (acc[k]'dc),some ⟨I,0,none⟩,M[((aq t s.aj).1[k]'aa).toNat].cap,[⟨I,33,M[((aq t s.aj).1[k]'aa).toNat].cap*3,(M[((aq t s.aj).1[k]'aa).toNat].r.set 0 (acc[k]'dc)).flatMap cV⟩]⟩:cf)) (some ⟨br,0,none⟩) cap [⟨br,43,cap*1,M.flatMap gR⟩]:=(by rw[←Oj];exact bM (by rw[length_set];exact mh) mi)
  have VB:Pc.dR bY (M[((aq t s.aj).1[k]'aa).toNat].r.set 0 (acc[k]'dc))=0:=T6 YZ w8 yy.2 (fun _=>yy.1);have xD:∀v∈M[((aq t s.aj).1[k]'aa).toNat].r.set 0 (acc[k]'dc),v.Ok:=fun v hv=>by rcases mem_or_eq_of_mem_set hv with h|h;exact hx6 v h;rw[h];exact alp
  have als:∀i∈(aq t s.aj).1,∃h:i.toNat<(M.set ((aq t s.aj).1[k]'aa).toNat (⟨M[((aq t s.aj).1[k]'aa).toNat].r.set 0 (acc[k]'dc),some ⟨I,0,none⟩,M[((aq t s.aj).1[k]'aa).toNat].cap,[⟨I,33,M[((aq t s.aj).1[k]'aa).toNat].cap*3,(M[((aq t s.aj).1[k]'aa).toNat].r.set 0 (acc[k]'dc)).flatMap cV⟩]⟩:cf)).length,Pc.dR bY (M.set ((aq t s.aj).1[k]'aa).toNat (⟨M[((aq t s.aj).1[k]'aa).toNat].r.set 0 (acc[k]'dc),some ⟨I,0,none⟩,M[((aq t s.aj).1[k]'aa).toNat].cap,[⟨I,33,M[((aq t s.aj).1[k]'aa).toNat].cap*3,(M[((aq t s.aj).1[k]'aa).toNat].r.set 0 (acc[k]'dc)).flatMap cV⟩]⟩:cf))[i.toNat].r=0∧∀v∈(M.set ((aq t s.aj).1[k]'aa).toNat (⟨M[((aq t s.aj).1[k]'aa).toNat].r.set 0 (acc[k]'dc),some ⟨I,0,none⟩,M[((aq t s.aj).1[k]'aa).toNat].cap,[⟨I,33,M[((aq t s.aj).1[k]'aa).toNat].cap*3,(M[((aq t s.aj).1[k]'aa).toNat].r.set 0 (acc[k]'dc)).flatMap cV⟩]⟩:cf))[i.toNat].r,v.Ok:=fun i hi=>by obtain⟨h1,h2⟩:=YY i hi;refine⟨by rw[length_set];exact h1,?_⟩;rw[getElem_set];split;exact⟨VB,xD⟩;exact h2
  have dU:=wC VB;have WJ:=KM (G:=G) hG (M[((aq t s.aj).1[k]'aa).toNat].r.set 0 (acc[k]'dc)) vF vF xD;have D3:=RO (G:=G) gy (cH (M[((aq t s.aj).1[k]'aa).toNat].r.set 0 (acc[k]'dc))) ((aq t s.aj).1[k]'aa);unfold Tw.cT at D3
  have WK:kG {t with ix:=oC t t.ix (aq t s.aj).1} (aq t s.aj).1 acc=if iA y (cH (M[((aq t s.aj).1[k]'aa).toNat].r.set 0 (acc[k]'dc))) (dr y)=true then ({t with rows:=M.map cf.r,ix:=y},9) else kG {t with rows:=(M.set ((aq t s.aj).1[k]'aa).toNat (⟨M[((aq t s.aj).1[k]'aa).toNat].r.set 0 (acc[k]'dc),some ⟨I,0,none⟩,M[((aq t s.aj).1[k]'aa).toNat].cap,[⟨I,33,M[((aq t s.aj).1[k]'aa).toNat].cap*3,(M[((aq t s.aj).1[k]'aa).toNat].r.set 0 (acc[k]'dc)).flatMap cV⟩]⟩:cf)).map cf.r,ix:=(gH y (dr y) (cH (M[((aq t s.aj).1[k]'aa).toNat].r.set 0 (acc[k]'dc))) ((aq t s.aj).1[k]'aa))} ((aq t s.aj).1.drop (k+1)) (acc.drop (k+1)):=by rw[←AV,js,lJ,kG,T8 (o:=(⟨M[((aq t s.aj).1[k]'aa).toNat].r.set 0 (acc[k]'dc),some ⟨I,0,none⟩,M[((aq t s.aj).1[k]'aa).toNat].cap,[⟨I,33,M[((aq t s.aj).1[k]'aa).toNat].cap*3,(M[((aq t s.aj).1[k]'aa).toNat].r.set 0 (acc[k]'dc)).flatMap cV⟩]⟩:cf)) gg rfl,Qo xH,show((M.set ((aq t s.aj).1[k]'aa).toNat (⟨M[((aq t s.aj).1[k]'aa).toNat].r.set 0 (acc[k]'dc),some ⟨I,0,none⟩,M[((aq t s.aj).1[k]'aa).toNat].cap,[⟨I,33,M[((aq t s.aj).1[k]'aa).toNat].cap*3,(M[((aq t s.aj).1[k]'aa).toNat].r.set 0 (acc[k]'dc)).flatMap cV⟩]⟩:cf))[((aq t s.aj).1[k]'aa).toNat]'xH)=(⟨M[((aq t s.aj).1[k]'aa).toNat].r.set 0 (acc[k]'dc),some ⟨I,0,none⟩,M[((aq t s.aj).1[k]'aa).toNat].cap,[⟨I,33,M[((aq t s.aj).1[k]'aa).toNat].cap*3,(M[((aq t s.aj).1[k]'aa).toNat].r.set 0 (acc[k]'dc)).flatMap cV⟩]⟩:cf) from getElem_set_self _]
  refine CD.perm (R5 gg Oi) ?_;refine af [0,9,10,19,20,159,160,161] ?_;refine CD.seq ?_;refine nD 11 [0,9,10,20,159,160,161,172,176] ?_;refine aP 3 ?_ (h:=by exact(oO 2));refine aP 1 ?_ (h:=by exact(dw 1 (h:=by first|exact .l (j:=((aq t s.aj).1[k]'aa).toNat) (Int.toNat_of_nonneg fH).symm vG|exact .r (j:=((aq t s.aj).1[k]'aa).toNat) (Int.toNat_of_nonneg fH).symm vG)));refine aP 0 ?_ (h:=by exact(cR (mk:=Op.load 43) rfl ot (iZ (k:=3) (i:=((aq t s.aj).1[k]'aa).toNat) (ls:=M) (d:=aN (some ⟨I,0,none⟩) M[((aq t s.aj).1[k]'aa).toNat].r.length M[((aq t s.aj).1[k]'aa).toNat].cap) u9 rfl rfl rfl isAgg43 gg (by rw[←yA];rfl))));refine bD ?_;refine bQ (oe (mk:=Op.indexAddr 43) rfl ot bP (by first|exact oU runUnderlying43 sizeOf33 (j:=0) rfl (by rw[sc];decide)|exact oV runUnderlying43 sizeOf33 (j:=0) rfl (by rw[sc];decide))) ?_;refine OD.storeAt (k:=0) (cs':=(M[((aq t s.aj).1[k]'aa).toNat].r.set 0 (acc[k]'dc)).flatMap cV) ap rfl rfl ot rfl rfl ot rfl rfl sizeOf33 rfl (by show 0+0*3+3≤(M[((aq t s.aj).1[k]'aa).toNat].r.flatMap cV).length;rw[cm eZ,sc];omega) (by show c8 (M[((aq t s.aj).1[k]'aa).toNat].r.flatMap cV) (0+0*3) (cV (acc[k]'dc))=_;rw[Nat.zero_add];exact oq eZ _ _ (by rw[sc];omega)) ?_;refine an 205 [0,9,10,20,159,160,161] ?_;refine CD.seq ?_;rcases iV:iA y (cH (M[((aq t s.aj).1[k]'aa).toNat].r.set 0 (acc[k]'dc))) (dr y) with _|_
  ·rw[UU gy w4 dU fH iV] at D3;have gy2:iN (gH y (dr y) (cH (M[((aq t s.aj).1[k]'aa).toNat].r.set 0 (acc[k]'dc))) ((aq t s.aj).1[k]'aa)) (n+(k+1)):=(ET gy w4 ((EU gy).1 iV) dU fH).1;have alu:kG {t with rows:=(M.set ((aq t s.aj).1[k]'aa).toNat (⟨M[((aq t s.aj).1[k]'aa).toNat].r.set 0 (acc[k]'dc),some ⟨I,0,none⟩,M[((aq t s.aj).1[k]'aa).toNat].cap,[⟨I,33,M[((aq t s.aj).1[k]'aa).toNat].cap*3,(M[((aq t s.aj).1[k]'aa).toNat].r.set 0 (acc[k]'dc)).flatMap cV⟩]⟩:cf)).map cf.r,ix:=(gH y (dr y) (cH (M[((aq t s.aj).1[k]'aa).toNat].r.set 0 (acc[k]'dc))) ((aq t s.aj).1[k]'aa))} ((aq t s.aj).1.drop (k+1)) (acc.drop (k+1))=kG {t with ix:=oC t t.ix (aq t s.aj).1} (aq t s.aj).1 acc:=(by rw[WK,if_neg xM])
   refine s8 18 17 [0,9,10,21,159,160,161,193,194] ?_;refine aP 3 ?_ (h:=by exact(xF 2));refine aP 3 ?_ (h:=by exact(oO 2));refine aP 1 ?_ (h:=by exact(dw 1 (h:=by first|exact .l (j:=((aq t s.aj).1[k]'aa).toNat) (Int.toNat_of_nonneg fH).symm vG|exact .r (j:=((aq t s.aj).1[k]'aa).toNat) (Int.toNat_of_nonneg fH).symm vG)));refine aP 0 ?_ (h:=by exact(cR (mk:=Op.load 43) rfl ot (iZ (k:=3) (i:=((aq t s.aj).1[k]'aa).toNat) (ls:=M) (d:=aN (some ⟨I,0,none⟩) (M[((aq t s.aj).1[k]'aa).toNat].r.set 0 (acc[k]'dc)).length M[((aq t s.aj).1[k]'aa).toNat].cap) u9 rfl rfl rfl isAgg43 gg (by rw[←yA,length_set];rfl))));refine zM (WJ) (fun r S h=>h.flat) (fun r S h=>h.view) (ha:=by exact⟨⟨_,ot,(lq (bM (g:=cV) G1 D2) (cm eZ _) (fun B U=>by rw[mem_singleton] at U;rw[U];exact mem_cons_self))⟩,trivial⟩) (K:=?_);refine cJ (D3) ?_;refine mG 3 ?_;refine pA ?_;refine jI ?_;refine⟨rfl,fun Dj=>?_⟩;refine aM 0 [_,_] sizeOf75 ?_;refine an 205 [0,9,10,21,22,159,160,161] ?_;refine af [0,9,10,21,22,159,160,161,196] ?_;refine ax ?_ ?_<;>intro vq FW
   ·exact absurd vq (by simp at vq)
   refine dG 4 ?_;refine OD.storeAt (k:=3) (cs':=pre++([aZ t.nm,au 2 cC t.ay,aN (some ⟨br,0,none⟩) t.rows.length cap,.list 5 ((gH y (dr y) (cH (M[((aq t s.aj).1[k]'aa).toNat].r.set 0 (acc[k]'dc))) ((aq t s.aj).1[k]'aa)).ag.flatMap cP) (gH y (dr y) (cH (M[((aq t s.aj).1[k]'aa).toNat].r.set 0 (acc[k]'dc))) ((aq t s.aj).1[k]'aa)).ag.length,ae (gH y (dr y) (cH (M[((aq t s.aj).1[k]'aa).toNat].r.set 0 (acc[k]'dc))) ((aq t s.aj).1[k]'aa)).root]++post)) ap rfl rfl ot rfl rfl ot rfl rfl sizeOf75 rfl (by show off+3+2≤(pre++(([aZ t.nm,au 2 cC t.ay,aN (some ⟨br,0,none⟩) t.rows.length cap,au 5 cP y.ag,ae y.root]:List D)++post)).length;simp only[length_append,length_cons,length_nil];omega) (by exact BD (j:=3) hp aQ rfl) ?_;refine an 205 [0,9,10,159,160,161] ?_;refine dG 1 ?_;refine OD.perm ((T7 gg (o:=(⟨M[((aq t s.aj).1[k]'aa).toNat].r.set 0 (acc[k]'dc),some ⟨I,0,none⟩,M[((aq t s.aj).1[k]'aa).toNat].cap,[⟨I,33,M[((aq t s.aj).1[k]'aa).toNat].cap*3,(M[((aq t s.aj).1[k]'aa).toNat].r.set 0 (acc[k]'dc)).flatMap cV⟩]⟩:cf)) rfl).cons _) ?_;refine an 205 [0,9,10,159,160,161] ?_
   refine⟨((k+1),(M.set ((aq t s.aj).1[k]'aa).toNat (⟨M[((aq t s.aj).1[k]'aa).toNat].r.set 0 (acc[k]'dc),some ⟨I,0,none⟩,M[((aq t s.aj).1[k]'aa).toNat].cap,[⟨I,33,M[((aq t s.aj).1[k]'aa).toNat].cap*3,(M[((aq t s.aj).1[k]'aa).toNat].r.set 0 (acc[k]'dc)).flatMap cV⟩]⟩:cf)),(gH y (dr y) (cH (M[((aq t s.aj).1[k]'aa).toNat].r.set 0 (acc[k]'dc))) ((aq t s.aj).1[k]'aa))),_,cn,aJ,w4,alu,jZ,CH,(by rw[length_set];exact xJ),als,gy2,rfl⟩
  rw[afz gy dU fH iV] at D3;have aW:eN t s=(t,0,9):=(by unfold eN;rw[if_neg hA,if_neg U,if_neg hC,if_neg hD,if_neg hN,if_neg hP,D0,WK,if_pos iV];exact if_pos (show(9:Int)≠0 by decide))
  refine s8 18 17 [0,9,10,21,159,160,161,193,194] ?_;refine aP 3 ?_ (h:=by exact(xF 2));refine aP 3 ?_ (h:=by exact(oO 2));refine aP 1 ?_ (h:=by exact(dw 1 (h:=by first|exact .l (j:=((aq t s.aj).1[k]'aa).toNat) (Int.toNat_of_nonneg fH).symm vG|exact .r (j:=((aq t s.aj).1[k]'aa).toNat) (Int.toNat_of_nonneg fH).symm vG)));refine aP 0 ?_ (h:=by exact(cR (mk:=Op.load 43) rfl ot (iZ (k:=3) (i:=((aq t s.aj).1[k]'aa).toNat) (ls:=M) (d:=aN (some ⟨I,0,none⟩) (M[((aq t s.aj).1[k]'aa).toNat].r.set 0 (acc[k]'dc)).length M[((aq t s.aj).1[k]'aa).toNat].cap) u9 rfl rfl rfl isAgg43 gg (by rw[←yA,length_set];rfl))));refine zM (WJ) (fun r S h=>h.flat) (fun r S h=>h.view) (ha:=by exact⟨⟨_,ot,(lq (bM (g:=cV) G1 D2) (cm eZ _) (fun B U=>by rw[mem_singleton] at U;rw[U];exact mem_cons_self))⟩,trivial⟩) (K:=?_);refine cJ (D3) ?_;refine mG 3 ?_;refine pA ?_;refine jI ?_;refine⟨rfl,fun Dj=>?_⟩;refine aM 0 [_,_] sizeOf75 ?_;refine an 205 [0,9,10,21,22,159,160,161] ?_;refine af [0,9,10,21,22,159,160,161,196] ?_;refine ax ?_ ?_<;>intro vq FW
  ·exact xn
  exact absurd vq (by simp at vq)
 have aiJ:kG {t with ix:=oC t t.ix (aq t s.aj).1} (aq t s.aj).1 acc=({t with rows:=M.map cf.r,ix:=y},0):=(by rw[←AV,drop_of_length_le (l:=(aq t s.aj).1) w4,ach])
 have aW:eN t s=({t with rows:=M.map cf.r,ix:=y},((aq t s.aj).1.length:Int),0):=(by unfold eN;rw[if_neg hA,if_neg U,if_neg hC,if_neg hD,if_neg hN,if_neg hP,D0,aiJ];exact if_neg (fun h=>h rfl))
 refine af [4,5] ?_;refine aK (⟨bt,77,qv,pre++(_++post)⟩::(Sr++M.flatMap bR)) ?_;rw[aW];exact⟨rfl,fun _=>⟨M,ad,cap,Sr,⟨rfl,Z,vS⟩,by simp only[tC,length_map,xJ]⟩⟩

open Go.Proofs.YtkgmonfgofobaaaGreatDoor.So
def B4(p:(List (List Vl)×Int)×Int)(r:D)(S:List ah):Prop:=∃(L:List cf) (ad:Option Addr) (cap:Nat) (Sx:List ah),r = .dh [.agg [aN ad L.length cap,ae p.1.2],ae p.2]∧sR L ad cap Sx∧(∀o∈L,n9 o)∧L.map cf.r=p.1.1∧S=Sx++L.flatMap bR
theorem B4.view{r:D}(h:B4 p r S):View S r (AU p):=by
 obtain⟨L,ad,cap,Sx,rfl,ho,aV,hL,rfl⟩:=h;unfold AU;rw[←hL];(first|rw[length_map]|(unfold au;rw[length_map]))
 exact EK ⟨uQ ⟨A8 ho (Fu aV fun B E=>mem_append_right _ E) (by rw[cm kg,length_map]) (fun B E=>mem_append_left _ E),eO,trivial⟩,eO,trivial⟩
theorem ahh(l:List Vl):∀d∈l.flatMap cV,kp d=true:=fun d hd=>by
 obtain⟨v,_,hv⟩:=mem_flatMap.1 hd;unfold cV at hv;simp only[mem_cons,not_mem_nil,or_false] at hv;rcases hv with rfl|rfl|rfl<;>rfl
theorem ahi(l:List cf):∀d∈l.flatMap gR,kp d=true:=fun d hd=>by
 obtain⟨v,_,hv⟩:=mem_flatMap.1 hd;unfold gR at hv;rw[mem_singleton] at hv;subst hv;rfl
theorem B4.flat{r:D}(h:B4 p r S):kp r=true∧∀B∈S,∀d∈B.cs,kp d=true:=by
 obtain⟨L,ad,cap,Sx,rfl,ho,aV,hL,rfl⟩:=h;refine⟨rfl,fun B E=>?_⟩;rcases mem_append.1 E with E|E
 ·rcases ho with ⟨_,_,_,_,rfl⟩|⟨b,_,_,_,rfl⟩
  ·cases E
  rw[mem_singleton] at E;subst E;exact ahi L
 obtain⟨o,I,E⟩:=mem_flatMap.1 E;have h1:=aV o I;unfold bR at E;rcases h1 with ⟨_,_,_,_,h2⟩|⟨b,_,_,_,h2⟩
 ·rw[h2] at E;cases E
 rw[h2,mem_singleton] at E;subst E;exact ahh o.r
theorem ahj(g:dB t n)(s:bJ):qd t s<4:=by
 unfold qd;split
 ·decide
 have:=(KP (l:=t.ay) (nm:=s.order)).2;rw[g.ay] at this ⊢;exact this
theorem aiK(g:dB t n){names:List ByteArray}(h:∀n∈names,0≤bz t.ay n):∀c∈pM t names,0≤c∧c.toNat<4:=fun c hc=>by
 have h4:t.ay.length=4:=(by rw[g.ay];rfl)
 unfold pM at hc;split at hc
 ·obtain⟨i,hi,rfl⟩:=mem_map.1 hc;have:=mem_range.1 hi;constructor
  ·exact Int.natCast_nonneg i
  show i<4;omega
 obtain⟨x,hx,rfl⟩:=mem_map.1 hc;have:=(KP (l:=t.ay) (nm:=x)).2;have:=h x hx;omega
theorem aiL(f:ah→Nat):(((L++[o]).flatMap bR).map f).sum=((L.flatMap bR).map f).sum+(o.S.map f).sum:=by
 rw[TU];simp only[bR,map_append,sum_append]
theorem Qp:(Tryz.prog.info? 3).map (fun i=>(i.zero,i.size,i.bytes))=some (some (.int .i64 0),1,8):=by kernel_rfl
theorem aaL:(Tryz.prog.info? 33).map (fun i=>(i.zero,i.size,i.bytes))=some (some (.agg #[.int .i64 0,.int .i64 0,.string ⟨#[]⟩]),3,32):=by kernel_rfl
theorem aaM:(Tryz.prog.info? 43).map (fun i=>(i.zero,i.size,i.bytes))=some (some (.slice none 0 0),1,24):=by kernel_rfl
theorem afN(hm:(3,marksC)∈G)(hw:(1,wordsC)∈G)(ht:(0,typesC)∈G)(hG:(2,[Value.int .i64 m])∈G)(t:aH)(g:dB t n)(s:bJ)(pI:s.names.length≤1000)(ho:∀o∈s.aj,o.nm.size≤maxLen)(fT:∀o∈s.aj,o.v.Ok):VC Tryz.prog G 57 [.agg (cX t),.agg (bj s)] [] (B4 (lW t s)):=by
 refine VC.body func57 rfl ntmps57 aQ fun X0 w0 bf=>?_;have cY:=dN;have AV:=KO (G:=G) hm hw ht hG t g s.aj ho fT;have DY:=y8 g s.aj;have mK:=pV g s.aj;have Ol:=EZ g s.aj;obtain⟨M,hM⟩:∃M,M=aq t s.aj:=⟨_,rfl⟩
 rw[←hM] at AV DY mK Ol;obtain⟨sl,em⟩:=M;dsimp only at DY mK Ol;have mY:=g.eI;have alm:t.ay.length=4:=(by rw[g.ay];rfl)
 unfold cX at AV;unfold cX bj;refine bS ?_;refine OD.box (ds:=[_,_,_,_,_]) ap rfl rfl ot rfl rfl (fun b2=>?_);refine OD.box (ds:=[_,_,_,_,_,_,_,_,_,_,_,_]) ap rfl rfl ot rfl rfl (fun b3=>?_);refine OD.alloc (ds:=[_,_]) ap rfl rfl zeroValue39 rfl (fun b4=>?_);refine an 135 [2,3,4] ?_;refine bS ?_;refine bp [2,3,4,6] ?_;refine af [2,3,4,6,21,22,23] ?_;refine ez [2,3,4,21,22] (fun aR _ (O:Nat×List Int×Option Addr×Nat×List ah) aD=>match O with|(i,acc,Z,oc,Sa)=>(i≤s.names.length)∧(acc=(s.names.take i).map (bz t.ay))∧(∀x∈s.names.take i,0≤bz t.ay x)∧(bg 3 1 ((acc).flatMap Tw.cI) (acc).length Z oc Sa)∧aD=(⟨135,(6,aN Z (acc).length oc)::(23,ae (i:Nat))::aR,(⟨b4,39,2,[bF,ae 0]⟩::⟨b3,46,12,bj s⟩::⟨b2,77,5,cX t⟩::Sa)⟩:St)) (fun (O:Nat×List Int×Option Addr×Nat×List ah)=>match O with|(i,acc,Z,oc,Sa)=>s.names.length-i) (0,([]:List Int),none,0,[]) ⟨(Nat.zero_le _),rfl,(fun x h=>by cases h),(bg.cast iz k8),rfl⟩ ?_;rintro⟨i,acc,Z,oc,Sa⟩ _ ⟨hi,rR,n8,oM,rfl⟩;refine af [2,3,4,6,21,22,23,24] ?_;refine ax ?_ ?_<;>intro aO bA
 ·have aa:i<s.names.length:=(by omega)
  have eV:=IY (G:=G) t w4 s.names[i];unfold cX at eV;have rh:acc.length=i:=(by rw[rR,length_map,length_take];omega)
  refine af [2,3,4,6,8,21,22,23] ?_;refine cL [2,3,4,6,9,21,22,23] (eV) ?_;refine af [2,3,4,6,9,21,22,23,31] ?_;refine ax ?_ ?_<;>intro aY cz
  ·have CJ:bz t.ay s.names[i]<0:=(by simpa using aY)
   have aW:lW t s=(([],0),8):=if_pos (any_eq_true.2 ⟨s.names[i],getElem_mem _,decide_eq_true CJ⟩);refine aA 1 ?_;refine aM 0 [_,_] sizeOf39 ?_;exact M5
  have CJ:¬bz t.ay s.names[i]<0:=(by simpa using aY)
  have alv:∀x∈s.names.take (i+1),0≤bz t.ay x:=fun x hx=>by rw[take_succ_eq_append_getElem aa] at hx;rcases mem_append.1 hx with hx|hx;exact n8 x hx;rw[mem_singleton] at hx;subst hx;omega
  refine dG 2 ?_;refine ew (cu 0 [_]) [.int .i64 0] [_] zeroValue3 runUnderlying70 sizeOf3 (fun b35=>?_);refine fS 0 35 1 1 ?_;refine OD.eB (ls:=(acc)) (new:=[bz t.ay s.names[i]]) (Sq:=Sa) Tw.eG Tw.nP ap rfl rfl underlying70 Qp rfl w8 ot oM (dg (A:=[_,_,_])) ot bq nB nC (fun HC Mp alw alx=>?_);refine OD.perm (dW (S1:=[⟨HC,3,Mp*1,flatMap Tw.cI ((acc)++[bz t.ay s.names[i]])⟩]) (A:=[_,_,_])) ?_;refine an 135 [2,3,4,6,21,22,23] ?_;refine bX [2,3,4,6,21,22,23] ?_;refine⟨((i+1),(acc++[bz t.ay s.names[i]]),(some ⟨HC,0,none⟩),Mp,[⟨HC,3,Mp*1,flatMap Tw.cI ((acc)++[bz t.ay s.names[i]])⟩]),_,cn,aJ,w4,(by rw[rR,←pN aa,map_append];rfl),alv,(bg.cast (bM alw alx) k8),rfl⟩
 have vQ:s.names.take i=s.names:=take_of_length_le w4;rw[vQ] at rR n8;have GP:¬(s.names.any fun n=>decide (bz t.ay n<0))=true:=fun h=>by obtain⟨x,h1,h2⟩:=any_eq_true.1 h;have:=n8 x h1;have:=of_decide_eq_true h2;omega
 refine CD.exit ?_;refine iv [2,3,4] (fun aR _ aD=>∃(acc:List Int),∃(Z:Option Addr),∃(oc:Nat),∃(Sa:List ah),(acc=pM t s.names)∧(bg 3 1 (acc.flatMap Tw.cI) acc.length Z oc Sa)∧aD=(⟨135,(6,aN Z acc.length oc)::aR,(⟨b4,39,2,[bF,ae 0]⟩::⟨b3,46,12,bj s⟩::⟨b2,77,5,cX t⟩::Sa)⟩:St)) ?_ ?_
 ·refine af [2,3,4,6,41] ?_;refine ax ?_ ?_<;>intro cc cN
  ·have gJ:s.names.length=0:=(by simpa using cc)
   have aly:acc=[]:=(by rw[rR,length_eq_zero_iff.1 gJ];rfl)
   refine af [2,3,4,6,44,45] ?_;refine ez [2,3,4,44] (fun aR _ (O:Nat×List Int×Option Addr×Nat×List ah) aD=>match O with|(j,U,Z,oc,Sa)=>(j≤t.ay.length)∧(U=(range j).map Int.ofNat)∧(bg 3 1 ((U).flatMap Tw.cI) (U).length Z oc Sa)∧aD=(⟨135,(6,aN Z (U).length oc)::(45,ae (j:Nat))::aR,(⟨b4,39,2,[bF,ae 0]⟩::⟨b3,46,12,bj s⟩::⟨b2,77,5,cX t⟩::Sa)⟩:St)) (fun (O:Nat×List Int×Option Addr×Nat×List ah)=>match O with|(j,U,Z,oc,Sa)=>t.ay.length-j) (0,acc,Z,oc,Sa) ⟨(Nat.zero_le _),aly,(bg.cast oM k8),rfl⟩ ?_;rintro⟨j,U,Z,oc,Sa⟩ _ ⟨hj,Ln,oM,rfl⟩;refine af [2,3,4,6,44,45,46] ?_;refine ax ?_ ?_<;>intro cQ ek
   ·have aqW:j<t.ay.length:=(by omega)
    have aqX:U.length=j:=(by rw[Ln,length_map,length_range])
    refine af [2,3,4,6,10,44,45] ?_;refine dG 2 ?_;refine ew (cu 0 [_]) [.int .i64 0] [_] zeroValue3 runUnderlying70 sizeOf3 (fun AN=>?_);refine fS 0 50 1 1 ?_;refine OD.eB (ls:=(U)) (new:=[(j:Int)]) (Sq:=Sa) Tw.eG Tw.nP ap rfl rfl underlying70 Qp rfl w8 ot oM (dg (A:=[_,_,_])) ot bq nB nC (fun yC Mq Mr Ms=>?_);refine OD.perm (dW (S1:=[⟨yC,3,Mq*1,flatMap Tw.cI ((U)++[(j:Int)])⟩]) (A:=[_,_,_])) ?_;refine an 135 [2,3,4,6,44,45] ?_;refine bX [2,3,4,6,44,45] ?_;refine⟨((j+1),(U++[(j:Int)]),(some ⟨yC,0,none⟩),Mq,[⟨yC,3,Mq*1,flatMap Tw.cI ((U)++[(j:Int)])⟩]),_,cn,aJ,w4,(by rw[Ln,range_succ,map_append];rfl),(bg.cast (bM Mr Ms) k8),rfl⟩
   have hjf:U=pM t s.names:=(by unfold pM;rw[if_pos gJ,Ln,show j=t.ay.length by omega])
   refine CD.exit ?_;refine⟨_,aJ,(U),Z,oc,Sa,hjf,oM,rfl⟩
  have gJ:¬s.names.length=0:=(by simpa using cc)
  refine CD.skip ?_;refine⟨_,aJ,(acc),Z,oc,Sa,(by unfold pM;rw[if_neg gJ];exact rR),oM,rfl⟩
 rintro _ ⟨acc,Z,oc,Sa,uE,oM,rfl⟩;refine CD.seq ?_;refine CD.ic (t:=6) (Sq:=Sa) lk oM (cm Tw.eG _) (dg (A:=[_,_,_])) ?_;refine th ?_;refine OD.alloc (ds:=[_]) ap rfl rfl zeroValue3 rfl (fun kN=>?_);refine aM 0 [_] sizeOf3 ?_;refine an 135 [2,3,4,6,11] ?_;refine iv [2,3,4,6,11] (fun aR _ aD=>∃(ov:Int),(0≤ov)∧(ov=qd t s)∧aD=(⟨135,aR,[⟨kN,3,1,[ae ov]⟩,⟨b4,39,2,[bF,ae 0]⟩,⟨b3,46,12,bj s⟩,⟨b2,77,5,cX t⟩]⟩:St)) ?_ ?_
 ·refine af [2,3,4,6,11,55] ?_;refine ax ?_ ?_<;>intro dV fB
  ·have AW:¬(s.order.toList==(⟨#[]⟩:ByteArray).toList)=true:=(by rw[fB];decide)
   have WL:=IY (G:=G) t w4 s.order;unfold cX at WL;have D4:qd t s=bz t.ay s.order:=if_neg AW;refine aA 3 ?_;refine dO call109 (WL) ?_;refine aM 0 [_] sizeOf3 ?_;refine an 135 [2,3,4,6,11] ?_;refine af [2,3,4,6,11,61] ?_;refine ax ?_ ?_<;>intro fD gG
   ·have CJ:qd t s<0:=(by rw[D4];simpa using fD)
    have aW:lW t s=(([],0),8):=(by unfold lW;rw[if_neg GP,if_pos CJ])
    refine aA 1 ?_;refine aM 1 [_,_] sizeOf39 ?_;exact M5
   have CJ:¬qd t s<0:=(by rw[D4];simpa using fD)
   refine CD.skip ?_;refine⟨_,aJ,(bz t.ay s.order),w4,D4.symm,rfl⟩
  have AW:(s.order.toList==(⟨#[]⟩:ByteArray).toList)=true:=fB;have D4:qd t s=0:=if_pos AW;refine CD.skip ?_;refine⟨_,aJ,0,(Int.le_refl 0),D4.symm,rfl⟩
 rintro _ ⟨ov,alz,ng,rfl⟩;refine aA 3 ?_;refine OD.call ap rfl rfl rfl call110 AV ⟨ot,ot,trivial⟩ (fa _) ?_;rintro _ Sx ⟨dz,cZ,rfl,dX⟩;refine OD.perm (dW (A:=[_,_,_,_])) ?_;refine an 135 [2,3,4,6,11,12,13] ?_;refine af [2,3,4,6,11,12,13,71] ?_;refine ax ?_ ?_<;>intro iP o9
 ·have HV:em≠0:=(by simpa using iP)
  have aW:lW t s=(([],0),em):=(by unfold lW;rw[if_neg GP,if_neg w4,←hM];exact if_pos HV)
  refine aA 2 ?_;refine aM 1 [_,_] sizeOf39 ?_;exact M5
 have HV:¬em≠0:=(by simpa using iP)
 refine CD.skip ?_;refine iv [2,3,4,6] (fun aR _ aD=>∃(on:Nat),∃(lz:List Int),((on:Int)=qd t s)∧(lz=vm t s.down on sl)∧(lz.length=sl.length)∧(∀x∈lz,eR t x)∧aD=(⟨135,(12,au 1 Tw.cI lz)::aR,[⟨kN,3,1,[ae (on:Nat)]⟩,⟨b4,39,2,[bF,ae 0]⟩,⟨b3,46,12,bj s⟩,⟨b2,77,5,cX t⟩]⟩:St)) ?_ ?_
 ·obtain⟨on,rfl⟩:=Int.eq_ofNat_of_zero_le alz;have jP:on<4:=(by have:=ahj g s;omega)
  rcases dX with ⟨hn,de,rfl,rfl,rfl⟩|⟨bx,rfl,qx,mo,rfl⟩
  ·obtain rfl:=length_eq_zero_iff.1 hn;refine dG 1 ?_;refine bQ (pP (ds:=[_,_,_]) rfl ⟨ot,ot,ot,trivial⟩) ?_;refine dO call111 (ad6 _) ?_;refine OD.wk (Wk.tM (t:=12) (sz:=1) lk) ?_;refine an 135 [2,3,4,6,12] ?_;refine⟨_,aJ,on,[],ng,(Kk ⟨Perm.refl _,Pairwise.nil⟩),rfl,(fun x h=>by cases h),rfl⟩
  refine dG 1 ?_;refine bQ (pP (ds:=[_,_,_]) rfl ⟨ot,ot,ot,trivial⟩) ?_;refine OD.call (Sf:=⟨bx,3,cZ*1,sl.flatMap Tw.cI⟩::[⟨b2,77,5,cX t⟩,⟨kN,3,1,[ae (on:Nat)]⟩,⟨b3,46,12,bj s⟩]) (R:=[⟨b4,39,2,[bF,ae 0]⟩]) ap rfl rfl rfl call111 (afI sl.length cZ bx 112 [cU b2,cU kN,cU b3] [⟨b2,77,5,cX t⟩,⟨kN,3,1,[ae (on:Nat)]⟩,⟨b3,46,12,bj s⟩] (j5 t s.down on) (eR t) (DX t) (fun x y hx hy=>afJ t g s on jP b2 kN b3 x y hx hy) call112 (fun h1 h2=>ahe t s.down on h1 h2) (fun x y h=>by have:=EC t s.down on x y;omega) qx mo DY sl Ol rfl mK) ⟨ot,ot,trivial⟩ (show([⟨kN,3,1,[ae (on:Nat)]⟩,⟨b4,39,2,[bF,ae 0]⟩,⟨b3,46,12,bj s⟩,⟨b2,77,5,cX t⟩]++[⟨bx,3,cZ*1,sl.flatMap Tw.cI⟩]:List ah).Perm ((⟨bx,3,cZ*1,sl.flatMap Tw.cI⟩::[⟨b2,77,5,cX t⟩,⟨kN,3,1,[ae (on:Nat)]⟩,⟨b3,46,12,bj s⟩])++[⟨b4,39,2,[bF,ae 0]⟩]) from(jK fun mC=>by simp only[map_append,map_cons,map_nil,sum_append,sum_cons,sum_nil];omega)) ?_;rintro _ _ ⟨rfl,lz,yp,rfl⟩;have lj:=yp.1.length_eq;refine OD.perm (S':=⟨kN,3,1,[ae (on:Nat)]⟩::⟨b4,39,2,[bF,ae 0]⟩::⟨b3,46,12,bj s⟩::⟨b2,77,5,cX t⟩::[⟨bx,3,cZ*1,lz.flatMap Tw.cI⟩]) (show((⟨bx,3,cZ*1,lz.flatMap Tw.cI⟩::[⟨b2,77,5,cX t⟩,⟨kN,3,1,[ae (on:Nat)]⟩,⟨b3,46,12,bj s⟩])++[⟨b4,39,2,[bF,ae 0]⟩]:List ah).Perm _ from(jK fun mC=>by simp only[map_append,map_cons,map_nil,sum_append,sum_cons,sum_nil];omega)) ?_;rw[←lj]
  refine OD.ic (t:=12) (Sq:=[⟨bx,3,cZ*1,lz.flatMap Tw.cI⟩]) lk (bM (by rw[lj];exact qx) mo) (cm Tw.eG _) (dg (A:=[_,_,_,_])) ?_;refine an 135 [2,3,4,6,12] ?_;refine⟨_,aJ,on,lz,ng,(Kk yp),(by first|exact lj|rfl),(fun x hx=>mK x (yp.1.subset hx)),rfl⟩
 rintro _ ⟨on,lz,ng,VN,lj,VO,rfl⟩;refine iv [2,3,4,6] (fun aR lK aD=>∃(E:List Int),(E=rB t s)∧(∀x∈E,eR t x)∧(E.length≤40)∧aD=(⟨135,(12,au 1 Tw.cI E)::aR,lK⟩:St)) ?_ ?_
 ·refine aA 4 ?_;refine bW 80 (fun L8 Ga=>?_) (fun L8 Ga=>?_)
  ·refine bp [2,3,4,6,12,86] ?_;refine ax ?_ ?_<;>intro iG mU
   ·have oI:0≤s.gS∧s.gS<lz.length:=⟨Ga,mU⟩
    refine gC [2,3,4,6,12] ?_;refine aP 3 ?_ (h:=by exact(eE (l:=0) (h:=s.gS.toNat) rfl ot trivial ⟨_,by rw[Int.toNat_of_nonneg oI.1];exact ot⟩ (by exact kO Tw.eG (fun h=>by cases h) runUnderlying70 sizeOf3 w4)));refine bD ?_;refine⟨_,aJ,(lz.take s.gS.toNat),(by unfold rB jF;rw[←ng,Int.toNat_natCast,←hM,←VN,if_pos oI]),(fun x hx=>VO x (mem_of_mem_take hx)),pp,rfl⟩
   exact Xv
  refine bp [2,3,4,6,12,86] ?_;refine fY ?_;exact Xv
 rintro _ ⟨E,WM,yg,aqY,rfl⟩;refine aA 3 ?_;refine OD.alloc (ds:=[_,_]) ap rfl rfl zeroValue39 rfl (fun AO=>?_);refine aM 0 [_,_] sizeOf39 ?_;refine an 135 [2,3,4,6,12,14] ?_;refine af [2,4,6,12,14,95] ?_;refine ax ?_ ?_<;>intro qi zP
 ·have Cp:s.count=true:=qi;have aW:lW t s=(([[⟨2,((E.length:Nat):Int),⟨#[]⟩⟩]],((E.length:Nat):Int)),0):=(by unfold lW;rw[if_neg GP,if_neg w4,←hM,if_neg HV,if_pos Cp,←WM])
  refine aA 3 ?_;refine ew (cu 0 [_]) [.int .i64 0,.int .i64 0,.string ⟨#[]⟩] [_,_,_] zeroValue33 runUnderlying43 sizeOf33 (fun Om=>?_);refine ew (cu 0 [_]) [.slice none 0 0] [_] zeroValue43 runUnderlying37 sizeOf43 (fun WN=>?_);refine aG 1 ?_;refine aM 2 [_,_] sizeOf37 ?_;refine an 135 [4,14] ?_;refine aA 1 ?_;refine aM 4 [_,_] sizeOf39 ?_;refine an 135 [4,5] ?_;refine aK [_,_] ?_;rw[aW];exact⟨[⟨[⟨2,(E.length:Nat),⟨#[]⟩⟩],some ⟨Om,0,none⟩,1,[⟨Om,33,1*3,[⟨2,(E.length:Nat),⟨#[]⟩⟩].flatMap cV⟩]⟩],some ⟨WN,0,none⟩,1,[_],rfl,.inr ⟨WN,rfl,Nat.le_refl _,(show 1≤maxLen by decide),rfl⟩,(fun o ho=>by rw[mem_singleton] at ho;subst ho;exact .inr ⟨Om,rfl,Nat.le_refl _,(show 1≤maxLen by decide),rfl⟩),rfl,rfl⟩
 have Cp:¬s.count=true:=(by rw[qi];decide)
 have aW:lW t s=((E.map (vw t acc),((E.length:Nat):Int)),0):=(by unfold lW;rw[if_neg GP,if_neg w4,←hM,if_neg HV,if_neg Cp,←WM,←uE])
 have WO:=aiK g n8;rw[←uE] at WO;have aqZ:acc.length≤1000:=(by rw[uE];unfold pM;split;(rw[length_map,length_range];omega);(rw[length_map];omega))
 refine af [2,4,6,14,103,104,105] ?_;refine ez [2,4,6,14,103,104] (fun aR _ (O:Nat×List cf×Option Addr×Nat×List ah) aD=>match O with|(i,L,dz,cZ,Sx)=>(i≤E.length)∧(L.map cf.r=(E.take i).map (vw t acc))∧(∀o∈L,n9 o)∧(sR L dz cZ Sx)∧aD=(⟨135,(105,ae (i:Nat))::aR,(⟨AO,39,2,[aN dz L.length cZ,ae (E.length:Nat)]⟩::⟨kN,3,1,[ae (on:Nat)]⟩::⟨b4,39,2,[bF,ae 0]⟩::⟨b3,46,12,bj s⟩::⟨b2,77,5,cX t⟩::(Sx++L.flatMap bR))⟩:St)) (fun (O:Nat×List cf×Option Addr×Nat×List ah)=>match O with|(i,L,dz,cZ,Sx)=>E.length-i) (0,([]:List cf),none,0,[]) ⟨(Nat.zero_le _),rfl,(fun o h=>by cases h),iz,rfl⟩ ?_;rintro⟨i,L,dz,cZ,Sx⟩ _ ⟨hi,hL,aV,dX,rfl⟩;refine af [2,4,6,14,103,104,105,106] ?_;refine ax ?_ ?_<;>intro uD Ck
 ·have aa:i<E.length:=(by omega)
  obtain⟨fH,qx,mo⟩:=yg _ (getElem_mem aa);have sc:=o8 (g.row _ qx mo).1;have rZ:L.length=i:=(by have:=congrArg length hL;rw[length_map,length_map,length_take] at this;omega)
  refine af [2,4,6,14,16,103,104,105] ?_;refine bS ?_;refine bp [2,4,6,14,16,17,103,104,105] ?_;refine af [2,4,6,14,16,17,103,104,105,109,110,111] ?_;refine ez [2,4,6,14,16,103,104,105,109,110] (fun aR _ (O:Nat×List Vl×Option Addr×Nat×List ah) aD=>match O with|(j,I,iE,iF,Sy)=>(j≤acc.length)∧(I=(acc.take j).map fun c=>(rowAt t (E[i]'aa)).getD c.toNat bu)∧(bg 33 3 (I.flatMap cV) I.length iE iF Sy)∧aD=(⟨135,(17,aN iE I.length iF)::(111,ae (j:Nat))::aR,(⟨AO,39,2,[aN dz L.length cZ,ae (E.length:Nat)]⟩::⟨kN,3,1,[ae (on:Nat)]⟩::⟨b4,39,2,[bF,ae 0]⟩::⟨b3,46,12,bj s⟩::⟨b2,77,5,cX t⟩::(Sy++(Sx++L.flatMap bR)))⟩:St)) (fun (O:Nat×List Vl×Option Addr×Nat×List ah)=>match O with|(j,I,iE,iF,Sy)=>acc.length-j) (0,([]:List Vl),none,0,[]) ⟨(Nat.zero_le _),rfl,iz,rfl⟩ ?_;rintro⟨j,I,iE,iF,Sy⟩ _ ⟨hj,Lo,DT,rfl⟩;refine af [2,4,6,14,16,17,103,104,105,109,110,111,112] ?_;refine ax ?_ ?_<;>intro GD F9
  ·have jR:j<acc.length:=(by omega)
   obtain⟨WQ,aq0⟩:=WO _ (getElem_mem jR);have On:(acc[j]'jR).toNat<(t.rows[(E[i]'aa).toNat]'qx).length:=(by omega)
   have aiM:(rowAt t (E[i]'aa)).getD (acc[j]'jR).toNat bu=(t.rows[(E[i]'aa).toNat]'qx)[(acc[j]'jR).toNat]:=(by rw[iY qx,getD_eq_getElem?_getD,getElem?_eq_getElem On];rfl)
   have aq1:I.length=j:=(by rw[Lo,length_map,length_take];omega)
   refine af [2,4,6,14,16,17,19,103,104,105,109,110,111] ?_;refine dG 4 ?_;refine bQ (dw 1 (h:=by first|exact .l (j:=(E[i]'aa).toNat) (Int.toNat_of_nonneg fH).symm qx|exact .r (j:=(E[i]'aa).toNat) (Int.toNat_of_nonneg fH).symm qx)) ?_;refine aG 2 ?_;refine bQ (dw 3 (h:=by first|exact .l (j:=(acc[j]'jR).toNat) (Int.toNat_of_nonneg WQ).symm On|exact .r (j:=(acc[j]'jR).toNat) (Int.toNat_of_nonneg WQ).symm On)) ?_;refine aG 1 ?_;refine ew (cu 0 [_]) [.int .i64 0,.int .i64 0,.string ⟨#[]⟩] [_,_,_] zeroValue33 runUnderlying43 sizeOf33 (fun aq2=>?_);refine fS 0 124 3 1 ?_;refine OD.eB (ls:=I) (new:=[(t.rows[(E[i]'aa).toNat]'qx)[(acc[j]'jR).toNat]]) (Sq:=Sy) eZ BF ap rfl rfl underlying43 aaL rfl w8 ot DT (Ja (A:=[_,_,_,_,_])) ot bq nB nC (fun Mt Lp aiN aiO=>?_);refine OD.perm (QM (S1:=[⟨Mt,33,Lp*3,flatMap cV (I++[(t.rows[(E[i]'aa).toNat]'qx)[(acc[j]'jR).toNat]])⟩]) (A:=[_,_,_,_,_])) ?_;refine an 135 [2,4,6,14,16,17,103,104,105,109,110,111] ?_;refine bX [2,4,6,14,16,17,103,104,105,109,110,111] ?_;refine⟨((j+1),(I++[(t.rows[(E[i]'aa).toNat]'qx)[(acc[j]'jR).toNat]]),(some ⟨Mt,0,none⟩),Lp,[⟨Mt,33,Lp*3,flatMap cV (I++[(t.rows[(E[i]'aa).toNat]'qx)[(acc[j]'jR).toNat]])⟩]),_,cn,aJ,w4,(by rw[Lo,←aiM,←pN jR,map_append];rfl),(bM aiN aiO),rfl⟩
  have vL:(L++[(⟨I,iE,iF,Sy⟩:cf)]).map cf.r=(E.take (i+1)).map (vw t acc):=(by rw[map_append,hL,←pN aa,map_append];congr 1;show[I]=[vw t acc (E[i]'aa)];rw[Lo,take_of_length_le w4];rfl)
  have jZ:∀o∈L++[(⟨I,iE,iF,Sy⟩:cf)],n9 o:=fun o ho=>by rcases mem_append.1 ho with ho|ho;exact aV o ho;rw[mem_singleton] at ho;subst ho;exact DT
  refine dG 3 ?_;refine ew (cu 0 [_]) [.slice none 0 0] [_] zeroValue43 runUnderlying37 sizeOf43 (fun aq3=>?_);refine fS 0 130 1 1 ?_;refine OD.eB (ls:=L) (new:=[(⟨I,iE,iF,Sy⟩:cf)]) (Sq:=Sx) u9 UX ap rfl rfl underlying37 aaM rfl w8 ot dX (tF (A:=[_,_,_,_,_])) ot bq nB nC (fun GQ Gi aiP aiQ=>?_);refine OD.perm (wi (S2:=[⟨GQ,43,Gi*1,flatMap gR (L++[(⟨I,iE,iF,Sy⟩:cf)])⟩]) (A:=[_,_,_,_,_])) ?_;refine OD.perm (S':=⟨AO,39,2,[aN dz L.length cZ,ae (E.length:Nat)]⟩::⟨kN,3,1,[ae (on:Nat)]⟩::⟨b4,39,2,[bF,ae 0]⟩::⟨b3,46,12,bj s⟩::⟨b2,77,5,cX t⟩::([⟨GQ,43,Gi*1,flatMap gR (L++[(⟨I,iE,iF,Sy⟩:cf)])⟩]++(L++[(⟨I,iE,iF,Sy⟩:cf)]).flatMap bR)) (jK fun mC=>by simp only[map_append,map_cons,map_nil,sum_append,sum_cons,sum_nil,aiL];omega) ?_;refine aG 1 ?_;refine aM 0 [_,_] sizeOf37 ?_;refine an 135 [2,4,6,14,103,104,105] ?_;refine bX [2,4,6,14,103,104,105] ?_;refine⟨((i+1),(L++[(⟨I,iE,iF,Sy⟩:cf)]),(some ⟨GQ,0,none⟩),Gi,[⟨GQ,43,Gi*1,flatMap gR (L++[(⟨I,iE,iF,Sy⟩:cf)])⟩]),_,cn,aJ,w4,vL,jZ,(bM aiP aiQ),rfl⟩
 have pL:L.map cf.r=E.map (vw t acc):=(by rw[hL,take_of_length_le w4])
 refine aA 1 ?_;refine aM 2 [_,_] sizeOf39 ?_;refine an 135 [4,5] ?_;refine aK (Sx++L.flatMap bR) ?_;rw[aW];exact⟨L,dz,cZ,Sx,rfl,dX,aV,pL,rfl⟩

end Go.Proofs.YtkgmonfgofobaaaGreatDoor.Ba
