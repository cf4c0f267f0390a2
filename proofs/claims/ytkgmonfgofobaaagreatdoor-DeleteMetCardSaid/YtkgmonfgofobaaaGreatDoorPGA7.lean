/-
  What the proof of GA leans on, part 7: walks of the program's functions at the level of values, and plain facts of what they compute.
-/
import Derived.Test.YtkgmonfgofobaaaGreatDoorPGA6
set_option linter.unusedVariables false
set_option linter.unusedSimpArgs false
set_option maxRecDepth 100000
set_option maxHeartbeats 4000000
namespace Go.Proofs.YtkgmonfgofobaaaGreatDoor.Tw
open List
open Go.Proofs.Tryz
open Go.RowKit V Tr Pk
open Go.Lib (compareBytes)
variable {k:K} {t:aG} {n:Nat} {row:Int}
theorem af2(h:1≤k.length∧k.length≤100):oK k=true:=decide_eq_true h
theorem Cs(g:ja t n)(hk:1≤k.length∧k.length≤100):lK t k=0:=Ko (JZ g.val) (af2 hk)
theorem BL(g:ja t n)(k:K):gl t k (cQ t)=true↔∃row,(k,row)∈dh t:=(E4 g.val k).trans (BK g.val k)
theorem sK(g:ja t n):gl t k (cQ t)=false↔∀x∈dh t,x.1≠k:=by
 constructor
 ·exact fun h=>Rl g.val h
 intro h;cases hq:gl t k (cQ t) with
 | false=>rfl
 | true=>obtain⟨row,hr⟩:=(BL g k).1 hq;exact absurd rfl (h _ hr)
theorem af3(g:ja t n)(hk:1≤k.length∧k.length≤100)(hr:0≤row)(h:gl t k (cQ t)=true):pz t k row (cQ t)=(wD,9):=by
 unfold pz;rw[if_pos (Cs g hk),if_neg w4,if_pos h]
theorem Vz(g:ja t n)(hn:n≤300)(hk:1≤k.length∧k.length≤100)(hr:0≤row)(h:gl t k (cQ t)=false):pz t k row (cQ t)=(gb t (cQ t) k row,0):=by
 have:=(xj g hn ((sK g).1 h) hk hr).2.1;unfold pz;rw[if_pos (Cs g hk),if_neg w4,if_neg (by rw[h];decide),if_neg w4]
theorem UE(g:ja t n)(hk:1≤k.length∧k.length≤100)(h:gl t k (cQ t)=true):rN t k (cQ t)=(hU t (cQ t) k,0):=by
 unfold rN;rw[if_pos (Cs g hk),if_pos h]
theorem af4(g:ja t n)(hk:1≤k.length∧k.length≤100)(h:gl t k (cQ t)=false):findF t k (cQ t)=(0,8):=by
 unfold findF;rw[if_pos (Cs g hk),if_neg (by rw[h];decide)]
theorem Tf(g:ja t n)(hk:1≤k.length∧k.length≤100)(h:(k,row)∈dh t):findF t k (cQ t)=(row,0):=by
 unfold findF dQ;rw[if_pos (Cs g hk),if_pos ((BL g k).2 ⟨row,h⟩)];obtain⟨_,_,e⟩:=(found g.val k row).1 h;rw[e]
theorem Ce(g:ja t n):∀p∈t.ag,p.keys.length≤maxLen∧p.kids.length≤maxLen:=aea g.val
variable {G:List (Nat×List Value)}
theorem Tg(g:ja t n)(k:K)(row:Int):VP Tryz.prog G 50 [.agg (cT t),au 1 cB k,ae row] (.dD [.agg (cT (pz t k row (cQ t)).1),ae (pz t k row (cQ t)).2]):=acC t (cQ t) k row (Ce g) fun _=>g.val
theorem Th(g:ja t n)(k:K):VP Tryz.prog G 113 [.agg (cT t),au 1 cB k] (.dD [.agg (cT (rN t k (cQ t)).1),ae (rN t k (cQ t)).2]):=acy t (cQ t) k (Ce g) fun _=>g.val
theorem Ly(g:ja t n)(k:K):VP Tryz.prog G 83 [.agg (cT t),au 1 cB k] (.dD [ae (findF t k (cQ t)).1,ae (findF t k (cQ t)).2]):=aht t (cQ t) k (Ce g) fun _=>g.val
theorem af5(g:ja t n):VP Tryz.prog G 62 [.agg (cT t)] (ae 0):=by have:=pS (G:=G) t (Ce g);rwa [JZ g.val] at this
noncomputable def oH(t:aG)(f ff:K):List (K×Int):=vJ t (cQ t) f ff
theorem VA(g:ja t n)(f ff:K)(hf:f.length≤100)(ht:ff.length≤100):VP Tryz.prog G 32 [.agg (cT t),au 1 cB f,au 1 cB ff] (.dD [.list 2 ((oH t f ff).flatMap cE) (oH t f ff).length,ae 0]):=by
 have:=afY (G:=G) t (cQ t) (Ce g) (fun _=>g.val) f ff;unfold xG at this;rwa [if_pos (JZ g.val),if_pos ⟨hf,ht⟩] at this
theorem FI(t:aG):oH t [] []=dh t:=by
 unfold oH vJ dh;rw[aec,Jn fun x _=>by simp[vE]]
theorem UF(g:ja t n):VP Tryz.prog G 32 [.agg (cT t),bF,bF] (.dD [.list 2 ((oH t [] []).flatMap cE) (oH t [] []).length,ae 0]):=VC.ff (args':=[.agg (cT t),bF,bF]) (VA g [] [] w7 w7) ⟨.inl rfl,.inr ⟨1,rfl,rfl⟩,.inr ⟨1,rfl,rfl⟩,trivial⟩

end Go.Proofs.YtkgmonfgofobaaaGreatDoor.Tw
namespace Go.Proofs.YtkgmonfgofobaaaGreatDoor.Ba
open List
open Go.Proofs.Tryz
open Go.RowKit V Pk Tr Vl Go.Proofs.YtkgmonfgofobaaaGreatDoor.Nm Pc Cd Ex Tw
structure az where
 nm:ByteArray
 ay:List cH
 rows:List (List Vl)
 ix:aG
def gG(r:List Vl):List D:=[au 3 cV r]
theorem j3(r:List Vl):(gG r).length=1:=rfl
theorem Ti(r:List Vl):(gG r).all V.one=true:=rfl
def cU(t:az):List D:=[aZ t.nm,au 2 cC t.ay,au 1 gG t.rows,au 5 cP t.ix.ag,ae t.ix.root]
theorem jT(t:az):(cU t).length=5:=rfl
def aU(b:List az)(nm:ByteArray):Int:=dP (fun t=>t.nm.toList==nm.toList) b
def bU(r:List Vl):K:=(gm (r.take 1)).1
variable {G:List (Nat×List Value)}
theorem aem(t:az)(nm:ByteArray)(b:Nat):VC Tryz.prog G 61 [.agg (cU t),cZ b] [⟨b,9,1,[aZ nm]⟩] (fun r S=>r=bG (t.nm.toList==nm.toList)∧S=[⟨b,9,1,[aZ nm]⟩]):=by
 refine VC.body func61 rfl ntmps61 aQ fun X0 w0 bf=>?_;unfold cU;refine cf ?_;refine OD.box (ds:=[_,_,_,_,_]) ap rfl rfl ot rfl rfl (fun b2=>?_);refine an 8 [1,2] ?_;refine af [3] ?_;refine aM [⟨b,9,1,[aZ nm]⟩] ?_;exact⟨rfl,rfl⟩
theorem acD(ls:List az)(I:Nat)(E:List D)(S:List ah)(p:az→Bool)(fG:∀args w,(callFunc I args).run Tryz.prog w = .ok (.enter I args) w)(hp:∀x∈ls,VC Tryz.prog G I (.agg (cU x)::E) S (fun r S'=>r=bG (p x)∧S'=S))(hlen:ls.length≤1000000):VC Tryz.prog G 60 [au 5 cU ls,.eH (.func I) E] S (fun r S'=>r=ae (dP p ls)∧S'=S):=by
 refine VC.body func60 rfl ntmps60 aQ fun X0 w0 bf=>?_;refine aB 1 ?_;refine OD.wk (Wk.er (n:=19) (l':=[(0,_),(1,_)]) (S':=S) rfl nh fI) ?_;refine OD.nil ?_;refine aB 3 ?_;refine OD.wk (Wk.er (n:=19) (l':=[(0,_),(1,_),(7,_),(8,_)]) (S':=S) rfl nh fI) ?_;refine OD.nil ?_;refine eG [0,1,7] (fun aS _ (k:Nat) aE=>(k≤ls.length)∧(∀x∈ls.take k,p x=false)∧aE=(⟨19,(8,ae (k:Nat))::aS,S⟩:St)) (fun (k:Nat)=>ls.length-k) 0 ⟨Nat.zero_le _,bj,rfl⟩ ?_;rintro k _ ⟨hk,h0,rfl⟩;refine aB 1 ?_;refine OD.wk (Wk.er (n:=19) (l':=[(0,_),(1,_),(7,_),(8,_),(9,_)]) (S':=S) rfl nh fI) ?_;refine OD.nil ?_;refine av ?_ ?_<;>intro aL bB
 ·refine aB 2 ?_;refine OD.wk (Wk.er (n:=19) (l':=[(0,_),(1,_),(5,_),(7,_),(8,_)]) (S':=S) rfl nh fI) ?_;refine OD.nil ?_;refine aB 5 ?_;refine OD.lY (f:=I) (args:=[_]) ap rfl rfl (ud rfl lk) fG (hp (ls[k]'w4) (getElem_mem _)) rfl ⟨ud rfl lk,trivial⟩ (JA _) ?_;rintro _ S2 ⟨rfl,iT⟩;rw[iT];clear iT;refine OD.wk (Wk.er (n:=19) (l':=[(0,_),(1,_),(5,_),(7,_),(8,_),(16,_)]) (S':=S) rfl nh fI) ?_;refine OD.nil ?_;refine av ?_ ?_<;>intro aY cD
  ·refine aB 2 ?_;refine OD.wk (Wk.er (n:=19) (l':=[(4,_)]) (S':=S) rfl nh fI) ?_;refine OD.nil ?_;refine aM S ?_;refine⟨?_,rfl⟩;first|(rw[wQ w4 h0 uL])|(rw[vf w4 h0])
  refine dY 2 ?_;refine OD.wk (Wk.er (n:=19) (l':=[(0,_),(1,_),(7,_),(8,_)]) (S':=S) rfl nh fI) ?_;refine OD.nil ?_;refine⟨k+1,_,cr,aJ,w4,(by rw[take_succ_eq_append_getElem w4];intro x hx;rcases mem_append.1 hx with hx|hx;exact h0 x hx;simp only[mem_singleton] at hx;subst hx;assumption),rfl⟩
 refine aB 1 ?_;refine OD.wk (Wk.er (n:=19) (l':=[(4,_)]) (S':=S) rfl nh fI) ?_;refine OD.nil ?_;refine aM S ?_;refine⟨?_,rfl⟩;first|(rw[wQ w4 h0 uL])|(rw[vf w4 h0])
theorem qK(l:List az)(hl:l.length≤1000)(nm:ByteArray):VP Tryz.prog G 31 [au 5 cU (l),aZ nm] (ae (aU l nm)):=by
 refine VC.body func31 rfl ntmps31 aQ fun X0 w0 bf=>?_;refine cf ?_;refine OD.box (ds:=[_]) ap rfl rfl ot rfl rfl (fun b3=>?_);refine an 8 [0,3] ?_;refine aB 1 ?_;refine bV (pR (ds:=[_]) rfl ⟨ot,trivial⟩) ?_;refine OD.call ap rfl rfl rfl call60 (acD l 61 [cZ b3] _ (fun t=>t.nm.toList==nm.toList) call61 (fun h _=>aem h nm b3) w4) ⟨ot,ot,trivial⟩ (mN (k:=0) rfl) ?_;rintro _ S2 ⟨rfl,iT⟩;rw[iT];clear iT;refine an 8 [4] ?_;exact z46
theorem aen(c:cH)(nm:ByteArray)(b:Nat):VC Tryz.prog G 148 [.agg (cC c),cZ b] [⟨b,9,1,[aZ nm]⟩] (fun r S=>r=bG (c.n.toList==nm.toList)∧S=[⟨b,9,1,[aZ nm]⟩]):=by
 refine VC.body func148 rfl ntmps148 aQ fun X0 w0 bf=>?_;exact z87
theorem Jq(t:az)(hl:t.ay.length≤1000)(nm:ByteArray):VP Tryz.prog G 109 [.agg (cU t),aZ nm] (ae (bC t.ay nm)):=by
 refine VC.body func109 rfl ntmps109 aQ fun X0 w0 bf=>?_;unfold cU;refine cf ?_;refine OD.box (ds:=[_,_,_,_,_]) ap rfl rfl ot rfl rfl (fun b2=>?_);refine OD.box (ds:=[_]) ap rfl rfl ot rfl rfl (fun b3=>?_);refine an 9 [2,3] ?_;refine aB 2 ?_;refine bV (pR (ds:=[_]) rfl ⟨ot,trivial⟩) ?_;refine OD.call ap rfl rfl rfl call125 (Pc.JN t.ay 148 [cZ b3] _ (fun c=>c.n.toList==nm.toList) call148 (fun h _=>aen h nm b3) w4) ⟨ot,ot,trivial⟩ (mN (k:=0) rfl) ?_;rintro _ S2 ⟨rfl,iT⟩;rw[iT];clear iT;refine an 9 [4] ?_;exact z46

end Go.Proofs.YtkgmonfgofobaaaGreatDoor.Ba
namespace Go.Proofs.YtkgmonfgofobaaaGreatDoor.Ba
open List
open Go.Proofs.Tryz
open Go.RowKit V Pk Tr Vl Go.Proofs.YtkgmonfgofobaaaGreatDoor.Nm Pc Cd Ex Tw
variable {G:List (Nat×List Value)} {m:Int}
variable {S:List ah} {t:az} {n:Nat} {p:List Int×Int}
def Dq(k:K)(r:D)(S:List ah):Prop:=∃ad cap,r=aP ad k.length cap∧bn 5 1 (k.flatMap cB) k.length ad cap S
theorem Dq.view{k:K}{r:D}(h:Dq k r S):View S r (au 1 cB k):=by
 obtain⟨ad,cap,rfl,ho⟩:=h;exact lU ho (cz pX _) (fun B h=>h)
theorem Dq.flat{k:K}{r:D}(h:Dq k r S):kZ r=true∧∀B∈S,∀d∈B.cs,kZ d=true:=by
 obtain⟨ad,cap,rfl,ho⟩:=h;refine⟨rfl,fun B E d hd=>?_⟩;rcases ho with ⟨_,_,_,_,rfl⟩|⟨b,_,_,_,rfl⟩
 ·cases E
 rw[mem_singleton] at E;subst E;obtain⟨n,_,hn⟩:=mem_flatMap.1 hd;rw[cB,mem_singleton] at hn;subst hn;rfl
theorem Lz(hG:(2,[Value.int .i64 m])∈G)(r:List Vl)(h1:1≤r.length)(h2:r.length≤1000000)(aT:∀v∈r,v.Ok):VC Tryz.prog G 51 [au 3 cV r] [] (Dq (bU r)):=by
 refine VC.body func51 rfl ntmps51 aQ fun X0 w0 bf=>?_;have c8:=dV;refine af [0] ?_;refine aB 1 ?_;refine bV (eJ (h:=1) rfl ot trivial ⟨_,bP⟩ (by exact nS fq (fun h=>by cases h) runUnderlying43 sizeOf33 w4)) ?_;refine OD.call ap rfl rfl rfl call95 (Vn hG (r.take 1) pA (fun v hv=>aT v (mem_of_mem_take hv))) ⟨ot,trivial⟩ (fg _) ?_;rintro _ O ⟨E,I,rfl,j8⟩;refine OD.perm (Perm.of_eq (append_nil O)) ?_;refine an 12 [3] ?_;refine af [2] ?_;refine aM O ?_;exact⟨E,I,rfl,j8⟩
theorem zP(hG:(2,[Value.int .i64 m])∈G)(r:List Vl)(h1:1≤r.length)(h2:r.length≤1000000)(aT:∀v∈r,v.Ok):VP Tryz.prog G 51 [au 3 cV r] (.list 1 ((bU r).flatMap cB) (bU r).length):=(Lz hG r h1 h2 aT).cover fun r S hr=>hr.view
theorem aa5:(Tryz.prog.info? 33).map (fun i=>(i.zero,i.size,i.bytes))=some (some (.agg #[.int .i64 0,.int .i64 0,.string ⟨#[]⟩]),3,32):=by kernel_rfl
theorem Rm(a:List Vl)(ha:a.length≤1000000):VC Tryz.prog G 33 [au 3 cV a] [] (fun r S=>∃ad cap,r=aP ad a.length cap∧bn 33 3 (a.flatMap cV) a.length ad cap S):=by
 refine VC.body func33 rfl ntmps33 aQ fun X0 w0 bf=>?_;have c8:=dV;refine af [0] ?_;refine aB 1 ?_;refine OD.Aa ap rfl rfl ot bP underlying43 (fun O rZ=>?_);refine an 8 [0,4] ?_;refine av ?_ ?_<;>intro aL bB
 ·exact HS
 refine cf ?_;refine OD.Ab ap rfl rfl runUnderlying43 sizeOf33 (fun b5=>?_);refine aH 1 ?_;refine OD.pQ (ls:=([]:List Vl)) (new:=a) (Sq:=[⟨b5,33,0*3,[]⟩]) fq Gi ap rfl rfl underlying43 aa5 rfl w7 runUnderlying43 sizeOf33 ot (.inr ⟨b5,rfl,Nat.le_refl _,Nat.zero_le _,rfl⟩) (dI (A:=[])) ot iB iB (fun E I S7 qp=>?_);exact HT
theorem Rn(a:List Vl)(ha:a.length≤1000000):VP Tryz.prog G 33 [au 3 cV a] (au 3 cV a):=(Rm a ha).cover fun r S ⟨ad,cap,h,ho⟩=>by subst h;exact lU ho (cz fq _) (fun B h=>h)
theorem aa6:(Tryz.prog.info? 28).map (fun i=>(i.zero,i.size,i.bytes))=some (some (.agg #[.string ⟨#[]⟩,.int .i64 0]),2,24):=by kernel_rfl
theorem acE(a:List cH)(ha:a.length≤1000000):VC Tryz.prog G 84 [au 2 cC a] [] (fun r S=>∃ad cap,r=aP ad a.length cap∧bn 28 2 (a.flatMap cC) a.length ad cap S):=by
 refine VC.body func84 rfl ntmps84 aQ fun X0 w0 bf=>?_;have c8:=dV;refine af [0] ?_;refine aB 1 ?_;refine OD.Aa ap rfl rfl ot bP underlying29 (fun O rZ=>?_);refine an 8 [0,4] ?_;refine av ?_ ?_<;>intro aL bB
 ·exact HS
 refine cf ?_;refine OD.Ab ap rfl rfl runUnderlying29 sizeOf28 (fun b5=>?_);refine aH 1 ?_;refine OD.pQ (ls:=([]:List cH)) (new:=a) (Sq:=[⟨b5,28,0*2,[]⟩]) lV ahb ap rfl rfl underlying29 aa6 rfl w7 runUnderlying29 sizeOf28 ot (.inr ⟨b5,rfl,Nat.le_refl _,Nat.zero_le _,rfl⟩) (dI (A:=[])) ot iB iB (fun E I S7 qp=>?_);exact HT
theorem Ro(a:List cH)(ha:a.length≤1000000):VP Tryz.prog G 84 [au 2 cC a] (au 2 cC a):=(acE a ha).cover fun r S ⟨ad,cap,h,ho⟩=>by subst h;exact lU ho (cz lV _) (fun B h=>h)
theorem acF(a:List Int)(ha:a.length≤1000000):VP Tryz.prog G 131 [au 1 Tw.cI a] (au 1 Tw.cI a):=(Tw.rD a ha).cover fun r S ⟨ad,cap,h,ho⟩=>by subst h;exact lU ho (cz Tw.eM _) (fun B h=>h)

structure cl where
 r:List Vl
 ad:Option Addr
 cap:Nat
 S:List ah
def gR(o:cl):List D:=[aP o.ad o.r.length o.cap]
theorem vA(o:cl):(gR o).length=1:=rfl
theorem VB(o:cl):(gR o).all V.one=true:=rfl
def bR(o:cl):List ah:=o.S
def om(o:cl):Prop:=bn 33 3 (o.r.flatMap cV) o.r.length o.ad o.cap o.S
theorem F4{S:List ah}:∀{L:List cl},(∀o∈L,om o)→(∀B∈L.flatMap bR,B∈S)→gU S (L.flatMap gR) ((L.map cl.r).flatMap gG)
 | [],_,_=>trivial
 | o::L,h,hs=>by
  rw[map_cons,flatMap_cons,flatMap_cons];refine gU.append ⟨lU (h o mem_cons_self) (cz fq _) (fun B E=>hs B ?_),trivial⟩ (F4 (fun o ho=>h o (mem_cons_of_mem _ ho)) fun B E=>hs B ?_)
  ·rw[flatMap_cons];exact mem_append_left _ E
  rw[flatMap_cons];exact mem_append_right _ E
abbrev th(L:List cl)(ad:Option Addr)(cap:Nat)(S:List ah):Prop:=bn 43 1 (L.flatMap gR) L.length ad cap S
structure aV where
 t:az
 cs:List D
 ad:Option Addr
 cap:Nat
 sr:List ah
 sx:List ah
variable {o:aV}
def gT(o:aV):List D:=[aZ o.t.nm,au 2 cC o.t.ay,aP o.ad o.t.rows.length o.cap,au 5 cP o.t.ix.ag,ae o.t.ix.root]
theorem vt(o:aV):(gT o).length=5:=rfl
theorem VD(o:aV):(gT o).all V.one=true:=rfl
def bT(o:aV):List ah:=o.sr++o.sx
structure okW (o:aV):Prop where
 own:bn 43 1 o.cs o.t.rows.length o.ad o.cap o.sr
 ai6:∀S:List ah,(∀B∈o.sx,B∈S)→gU S o.cs (o.t.rows.flatMap gG)
def qy(o:aV):Prop:=∃L:List cl,o.cs=L.flatMap gR∧o.sx=L.flatMap bR∧(∀x∈L,om x)∧L.map cl.r=o.t.rows∧th L o.ad o.cap o.sr
theorem qy.w(h:qy o):okW o:=by
 obtain⟨L,h1,h2,h3,h4,h5⟩:=h;refine⟨?_,fun S hS=>?_⟩
 ·rw[h1,←h4,length_map];exact h5
 rw[h1,←h4];exact F4 h3 (by rw[←h2];exact hS)
theorem Rp(h:okW o)(hs:∀B∈bT o,B∈S):View S (aP o.ad o.t.rows.length o.cap) (au 1 gG o.t.rows) :=
 BG h.own (h.ai6 S fun B E=>hs B (mem_append_right _ E)) (cz j3 _) (fun B E=>hs B (mem_append_left _ E))
theorem UG(h:okW o)(hs:∀B∈bT o,B∈S):View S (.agg (gT o)) (.agg (cU o.t)):=vl ⟨eW,eW,Rp h hs,eW,eW,trivial⟩
theorem UH{S:List ah}:∀{L:List aV},(∀o∈L,okW o)→(∀B∈L.flatMap bT,B∈S)→gU S (L.flatMap gT) ((L.map aV.t).flatMap cU)
 | [],_,_=>trivial
 | o::L,h,hs=>by
  rw[map_cons,flatMap_cons,flatMap_cons];refine gU.append ⟨eW,eW,Rp (h o mem_cons_self) (fun B E=>hs B ?_),eW,eW,trivial⟩ (UH (fun o ho=>h o (mem_cons_of_mem _ ho)) fun B E=>hs B ?_)
  ·rw[flatMap_cons];exact mem_append_left _ E
  rw[flatMap_cons];exact mem_append_right _ E
abbrev x7(L:List aV)(ad:Option Addr)(cap:Nat)(S:List ah):Prop:=bn 77 5 (L.flatMap gT) L.length ad cap S
theorem Gq{Sx:List ah}{L:List aV}{ad:Option Addr}{cap:Nat}(ho:x7 L ad cap Sx)(h:∀o∈L,okW o)(hs:∀B∈Sx++L.flatMap bT,B∈S):View S (aP ad L.length cap) (.list 5 ((L.map aV.t).flatMap cU) L.length) :=
 BG ho (UH h fun B E=>hs B (mem_append_right _ E)) (by rw[cz jT,length_map]) (fun B E=>hs B (mem_append_left _ E))
def ai7(t:az)(r:D)(S:List ah):Prop:=∃o:aV,o.t=t∧r = .agg (gT o)∧qy o∧S=bT o
def Md(l:List az)(r:D)(S:List ah):Prop:=∃(L:List aV) (ad:Option Addr) (cap:Nat) (Sx:List ah),r = .agg [aP ad L.length cap]∧x7 L ad cap Sx∧(∀o∈L,qy o)∧L.map aV.t=l∧S=Sx++L.flatMap bT
theorem Md.view{l:List az}{r:D}(h:Md l r S):View S r (.agg [au 5 cU l]):=by
 obtain⟨L,ad,cap,Sx,rfl,ho,aT,rfl,rfl⟩:=h;first|rw[length_map]|(show View _ _ (.list _ _ (length _));rw[length_map])|(show View _ _ (.agg [.list _ _ (length _)]);rw[length_map])
 exact vl ⟨Gq ho (fun o h=>(aT o h).w) (fun B h=>h),trivial⟩
theorem UI(L:List cl)(o:cl):(L++[o]).flatMap bR=L.flatMap bR++bR o:=by simp
theorem UJ(L:List aV)(o:aV):(L++[o]).flatMap bT=L.flatMap bT++bT o:=by simp
theorem aa7:(Tryz.prog.info? 90).map (fun i=>(i.zero,i.size,i.bytes))=some (some (.slice none 0 0),1,24):=by kernel_rfl
theorem aaz:(Tryz.prog.info? 146).map (fun i=>(i.zero,i.size,i.bytes))=some (some (.agg #[.bool false,.slice none 0 0,.slice none 0 0,.slice none 0 0,.int .i64 0]),5,88):=by kernel_rfl
theorem aa8(t:aG)(h:Nat)(v:Valid t h):VC Tryz.prog G 85 [.agg (cT t)] [] (fun r S=>∃ad cap,r = .agg [aP ad t.ag.length cap,ae t.root]∧bn 146 5 (t.ag.flatMap cP) t.ag.length ad cap S):=by
 refine VC.body func85 rfl ntmps85 aQ fun X0 w0 bf=>?_;unfold Tw.cT;have c8:=dV;have OX:=v.n9;refine cf ?_;refine OD.box (ds:=[_,_]) ap rfl rfl ot rfl rfl (fun b1=>?_);refine OD.alloc (ds:=[_,_]) ap rfl rfl zeroValue75 rfl (fun b2=>?_);refine an 53 [1,2] ?_;refine aB 3 ?_;refine OD.alloc (ds:=[_,_]) ap rfl rfl zeroValue75 rfl (fun b3=>?_);refine aO 0 [_,_] sizeOf75 ?_;refine an 53 [1,2,3] ?_;refine cf ?_;refine bp [2,3,13,14,15] ?_;refine eG [2,3,13,14] (fun aS _ (E:Nat×List c9×Option Addr×Nat×List ah) aE=>match E with|(i,L,dN,dg,Sx)=>(i≤t.ag.length)∧(L=t.ag.take i)∧(bn 146 5 ((L).flatMap cP) (L).length dN dg Sx)∧aE=(⟨53,(15,ae (i:Nat))::aS,(⟨b3,75,2,[aP dN (L).length dg,ae t.root]⟩::⟨b2,75,2,[bF,ae 0]⟩::Sx)⟩:St)) (fun (E:Nat×List c9×Option Addr×Nat×List ah)=>match E with|(i,L,dN,dg,Sx)=>t.ag.length-i) (0,([]:List c9),none,0,[]) ⟨(Nat.zero_le _),rfl,(bn.cast iW lu),rfl⟩ ?_;rintro⟨i,L,dN,dg,Sx⟩ _ ⟨hi,hL,ey,rfl⟩;refine af [2,3,13,14,15,16] ?_;refine av ?_ ?_<;>intro aL bB
 ·have aa:i<t.ag.length:=(by omega)
  have so:L.length=i:=(by rw[hL,length_take];omega)
  have po:=v.fR _ (getElem_mem aa);have mb:=po.eO;have Zm:=po.hlen;have GS:(t.ag[i]'aa).kids.length≤6:=by
      exact Wp
  refine aB 2 ?_;refine OD.alloc (ds:=[_,_,_,_,_]) ap rfl rfl zeroValue146 rfl (fun b5=>?_);refine aO 0 [_,_,_,_,_] sizeOf146 ?_;refine an 53 [2,3,5,13,14,15] ?_;refine CD.seq ?_;refine tJ 12 11 [2,3,5,6,13,14,15,29] ?_;refine cN (acF (t.ag[i]'aa).kids w4) ?_;refine cN (mq (t.ag[i]'aa).high w4) ?_;refine mI 3 ?_;refine pF ?_;refine jP ?_;refine⟨rfl,fun b6=>?_⟩;refine aO 0 [_,_,_,_,_] sizeOf146 ?_;refine an 53 [2,3,5,6,13,14,15] ?_;refine cf ?_;refine bp [2,3,6,13,14,15,31,32,33] ?_
  refine eG [2,3,6,13,14,15,31,32] (fun aS _ (E:Nat×List K×Option Addr×Nat×List ah×Option Addr×Nat×List ah) aE=>match E with|(j,M,iQ,iR,Sy,dN,dg,Sx)=>(j≤(t.ag[i]'aa).keys.length)∧(M=(t.ag[i]'aa).keys.take j)∧(bn 90 1 ((M).flatMap Tw.cK) (M).length iQ iR Sy)∧(bn 146 5 ((L).flatMap cP) (L).length dN dg Sx)∧aE=(⟨53,(33,ae (j:Nat))::aS,(⟨b6,146,5,[bG (t.ag[i]'aa).leaf,aP iQ (M).length iR,.list 1 ((t.ag[i]'aa).kids.flatMap Tw.cI) (t.ag[i]'aa).kids.length,.list 1 ((t.ag[i]'aa).high.flatMap cB) (t.ag[i]'aa).high.length,ae (t.ag[i]'aa).next]⟩::⟨b3,75,2,[aP dN L.length dg,ae t.root]⟩::⟨b2,75,2,[bF,ae 0]⟩::(Sy++Sx))⟩:St)) (fun (E:Nat×List K×Option Addr×Nat×List ah×Option Addr×Nat×List ah)=>match E with|(j,M,iQ,iR,Sy,dN,dg,Sx)=>(t.ag[i]'aa).keys.length-j) (0,([]:List K),none,0,[],dN,dg,Sx) ⟨(Nat.zero_le _),rfl,(bn.cast iW lu),(bn.cast ey lu),rfl⟩ ?_;rintro⟨j,M,iQ,iR,Sy,dN,dg,Sx⟩ _ ⟨hj,hM,EF,ey,rfl⟩;refine af [2,3,6,13,14,15,31,32,33,34] ?_;refine av ?_ ?_<;>intro aY cD
  ·have jQ:j<(t.ag[i]'aa).keys.length:=(by omega)
   have M3:=(po.lJ _ (getElem_mem jQ)).2;have ye:M.length=j:=(by rw[hM,length_take];omega)
   refine af [2,3,6,8,13,14,15,31,32,33] ?_;refine iv 6 (ax (take 3 _)) ?_ (fun _ h=>(Sublist.map _ (take_sublist _ _)).subset h);refine aD 0 rfl (dX 1) ?_;refine aD 1 rfl (ee 0) ?_;refine aD 2 rfl bI ?_;refine dZ.later rfl ?_;refine AD.one (i:=3) aC ?_;refine qq call90 (mq (t.ag[i]'aa).keys[j] w4) ?_;refine AD.one (i:=4) aC ?_;refine nJ (cq 0 [_]) [.slice none 0 0] [_] zeroValue90 runUnderlying144 sizeOf90 (fun wo=>?_);refine nK 0 41 1 1 ?_;refine AD.one (i:=5) aC ?_;refine bD.eL (ls:=(M)) (new:=[(t.ag[i]'aa).keys[j]]) (Sq:=Sy) Tw.gw Tw.pZ rfl ap rfl rfl underlying144 aa7 rfl w7 ot EF (pc (A:=[_,_,_])) ot bj wg iB (fun U I alI alJ=>?_);refine AD.perm (kp (S1:=[⟨U,90,I*1,flatMap Tw.cK ((M)++[(t.ag[i]'aa).keys[j]])⟩]) (A:=[_,_,_])) ?_;refine fB ?_;refine aH 1 ?_;refine aO 0 [_,_,_,_,_] sizeOf144 ?_;refine an 53 [2,3,6,13,14,15,31,32,33] ?_;refine tO ?_;refine bp [2,3,6,13,14,15,31,32,33] ?_;refine⟨((j+1),(M++[(t.ag[i]'aa).keys[j]]),(some ⟨U,0,none⟩),I,[⟨U,90,I*1,flatMap Tw.cK ((M)++[(t.ag[i]'aa).keys[j]])⟩],dN,dg,Sx),_,cr,aJ,w4,(by rw[hM];exact pP jQ),(bn.cast (bQ alI alJ) lu),(bn.cast ey lu),rfl⟩
  refine CD.exit ?_;have hMk:M=(t.ag[i]'aa).keys:=(by rw[hM,take_of_length_le w4])
  subst hMk;refine CD.JL (i:=1) (j:=0) (Sq:=Sy) (S':=⟨b6,146,5,[bG (t.ag[i]'aa).leaf,.list 1 ((t.ag[i]'aa).keys.flatMap Tw.cK) (t.ag[i]'aa).keys.length,.list 1 ((t.ag[i]'aa).kids.flatMap Tw.cI) (t.ag[i]'aa).kids.length,.list 1 ((t.ag[i]'aa).high.flatMap cB) (t.ag[i]'aa).high.length,ae (t.ag[i]'aa).next]⟩::⟨b3,75,2,[aP dN L.length dg,ae t.root]⟩::⟨b2,75,2,[bF,ae 0]⟩::Sx) EF (cz Tw.gw _) (pc (A:=[_,_,_])) rfl rfl rfl rfl ?_;refine dY 3 ?_;refine eD (cq 0 [_]) [.bool false,.slice none 0 0,.slice none 0 0,.slice none 0 0,.int .i64 0] [_,_,_,_,_] zeroValue146 runUnderlying73 sizeOf146 (fun Pf=>?_);refine fT 0 48 5 1 ?_;refine OD.eL (ls:=(L)) (new:=[(t.ag[i]'aa)]) (Sq:=Sx) Gn ahn ap rfl rfl underlying73 aaz rfl w7 ot ey (dI (A:=[_,_,_])) ot bj nH nI (fun Z O alK alL=>?_);refine OD.perm (ez (S1:=[⟨Z,146,O*5,flatMap cP ((L)++[(t.ag[i]'aa)])⟩]) (A:=[_,_,_])) ?_;refine aH 1 ?_;refine aO 1 [_,_] sizeOf73 ?_;refine an 53 [2,3,13,14,15] ?_;refine cc [2,3,13,14,15] ?_;refine⟨((i+1),(L++[(t.ag[i]'aa)]),(some ⟨Z,0,none⟩),O,[⟨Z,146,O*5,flatMap cP ((L)++[(t.ag[i]'aa)])⟩]),_,cr,aJ,w4,(by rw[hL];exact pP aa),(bn.cast (bQ alK alL) lu),rfl⟩
 refine aB 1 ?_;refine aO 1 [_,_] sizeOf75 ?_;refine an 53 [2] ?_;refine aM Sx ?_;have hLe:L=t.ag:=(by rw[hL,take_of_length_le w4])
 subst hLe;exact⟨dN,dg,rfl,ey⟩
theorem aa9(t:aG)(h:Nat)(v:Valid t h):VP Tryz.prog G 85 [.agg (cT t)] (.agg (cT t)):=(aa8 t h v).cover fun r S ⟨ad,cap,h,ho⟩=>by subst h;exact vl ⟨lU ho (cz Gn _) (fun B h=>h),eW,trivial⟩
structure zS (t:az):Prop where
 ay:t.ay.length≤1000
 rows:t.rows.length≤1000
 row:∀r∈t.rows,r.length≤1000
 ix:∃h,Valid t.ix h
theorem aba:(Tryz.prog.info? 43).map (fun i=>(i.zero,i.size,i.bytes))=some (some (.slice none 0 0),1,24):=by kernel_rfl
theorem Gp(t:az)(hs:zS t):VC Tryz.prog G 48 [.agg (cU t)] [] (ai7 t):=by
 refine VC.body func48 rfl ntmps48 aQ fun X0 w0 bf=>?_;unfold cU;have c8:=dV;have hc:=hs.ay;have hn:=hs.rows;obtain⟨h,v⟩:=hs.ix;have U:=aa9 (G:=G) t.ix h v;unfold Tw.cT at U;refine cf ?_;refine OD.box (ds:=[_,_,_,_,_]) ap rfl rfl ot rfl rfl (fun b1=>?_);refine OD.alloc (ds:=[_,_,_,_,_]) ap rfl rfl zeroValue77 rfl (fun b2=>?_);refine an 31 [1,2] ?_;refine CD.seq ?_;refine tJ 10 9 [1,2,3,14] ?_;refine cN (Ro t.ay w4) ?_;refine cN (U) ?_;refine mI 1 ?_;refine pF ?_;refine jP ?_;refine⟨rfl,fun b3=>?_⟩;refine aO 0 [_,_,_,_,_] sizeOf77 ?_;refine an 31 [1,2,3] ?_;refine af [2,3,16,17,18] ?_;refine eG [2,3,16,17] (fun aS _ (I:Nat×List cl×Option Addr×Nat×List ah) aE=>match I with|(i,L,dN,dg,Sx)=>(i≤t.rows.length)∧(L.map cl.r=t.rows.take i)∧(∀o∈L,om o)∧(th L dN dg Sx)∧aE=(⟨31,(18,ae (i:Nat))::aS,(⟨b3,77,5,[aZ t.nm,au 2 cC t.ay,aP dN L.length dg,au 5 cP t.ix.ag,ae t.ix.root]⟩::⟨b2,77,5,[fj,bF,bF,bF,ae 0]⟩::(Sx++L.flatMap bR))⟩:St)) (fun (I:Nat×List cl×Option Addr×Nat×List ah)=>match I with|(i,L,dN,dg,Sx)=>t.rows.length-i) (0,([]:List cl),none,0,[]) ⟨(Nat.zero_le _),rfl,(fun o h=>by cases h),iW,rfl⟩ ?_;rintro⟨i,L,dN,dg,Sx⟩ _ ⟨hi,hL,aT,ey,rfl⟩;refine af [2,3,16,17,18,19] ?_;refine av ?_ ?_<;>intro aL bB
 ·have aa:i<t.rows.length:=(by omega)
  have so:L.length=i:=(by have:=congrArg length hL;rw[length_map,length_take] at this;omega)
  have oT:=hs.row _ (getElem_mem aa);refine af [2,3,5,16,17,18] ?_;refine iv 6 (ax (take 2 _)) ?_ (fun _ h=>(Sublist.map _ (take_sublist _ _)).subset h);refine aD 0 rfl (dX 2) ?_;refine aD 1 rfl (ee 0) ?_;refine aD 2 rfl bI ?_;refine dZ.later rfl ?_;refine AD.one (i:=3) aC ?_;refine bD.call rfl ap rfl rfl rfl call33 (Rm (t.rows[i]'aa) w4) ⟨ot,trivial⟩ (fg _) (fun b hb=>by simp[ax,St.put] at hb ⊢;first|(simp[hb];done)|(rcases hb with hb|hb<;>simp[hb])|(rcases hb with hb|hb|hb<;>simp[hb])) ?_;rintro _ Sz ⟨mc,me,rfl,yU⟩;refine AD.perm (kp (A:=[_,_])) ?_;have wm:(L++[(⟨(t.rows[i]'aa),mc,me,Sz⟩:cl)]).map cl.r=t.rows.take (i+1):=(by rw[map_append,hL];exact pP aa)
  have j8:∀o∈L++[(⟨(t.rows[i]'aa),mc,me,Sz⟩:cl)],om o:=fun o ho=>by rcases mem_append.1 ho with ho|ho;exact aT o ho;rw[mem_singleton] at ho;subst ho;exact yU
  refine AD.one (i:=4) aC ?_;refine nJ (cq 0 [_]) [.slice none 0 0] [_] zeroValue43 runUnderlying37 sizeOf43 (fun b26=>?_);refine nK 0 26 1 1 ?_;refine AD.one (i:=5) aC ?_;refine bD.eL (ls:=L) (new:=[(⟨(t.rows[i]'aa),mc,me,Sz⟩:cl)]) (Sq:=Sx) vA VB rfl ap rfl rfl underlying37 aba rfl w7 ot ey (tW (A:=[_,_])) ot bj nH nI (fun O E Z alM=>?_);refine AD.perm (wU (S2:=[⟨O,43,E*1,flatMap gR (L++[(⟨(t.rows[i]'aa),mc,me,Sz⟩:cl)])⟩]) (A:=[_,_])) ?_;refine AD.perm (S':=⟨b3,77,5,[aZ t.nm,au 2 cC t.ay,aP dN L.length dg,au 5 cP t.ix.ag,ae t.ix.root]⟩::⟨b2,77,5,[fj,bF,bF,bF,ae 0]⟩::([⟨O,43,E*1,flatMap gR (L++[(⟨(t.rows[i]'aa),mc,me,Sz⟩:cl)])⟩]++(L++[(⟨(t.rows[i]'aa),mc,me,Sz⟩:cl)]).flatMap bR)) (jS fun mD=>by rw[UI];simp only[bR,map_append,map_cons,map_nil,sum_append,sum_cons,sum_nil];omega) ?_;refine fB ?_;refine aH 1 ?_;refine aO 0 [_,_,_,_,_] sizeOf37 ?_;refine an 31 [2,3,16,17,18] ?_;refine cc [2,3,16,17,18] ?_;refine⟨((i+1),(L++[(⟨(t.rows[i]'aa),mc,me,Sz⟩:cl)]),(some ⟨O,0,none⟩),E,[⟨O,43,E*1,flatMap gR (L++[(⟨(t.rows[i]'aa),mc,me,Sz⟩:cl)])⟩]),_,cr,aJ,w4,wm,j8,(bQ Z alM),rfl⟩
 refine aB 1 ?_;refine aO 1 [_,_,_,_,_] sizeOf77 ?_;refine an 31 [2] ?_;refine aM (Sx++L.flatMap bR) ?_;have pO:L.map cl.r=t.rows:=(by rw[hL,take_of_length_le w4])
 have hLn:t.rows.length=L.length:=(by rw[←pO];(first|rw[length_map]|(unfold au;rw[length_map])))
 exact⟨⟨t,L.flatMap gR,dN,dg,Sx,L.flatMap bR⟩,rfl,(by unfold gT;rw[hLn]),⟨L,rfl,rfl,aT,pO,ey⟩,rfl⟩
theorem abb:(Tryz.prog.info? 77).map (fun i=>(i.zero,i.size,i.bytes))=some (some (.agg #[.string ⟨#[]⟩,.slice none 0 0,.slice none 0 0,.slice none 0 0,.int .i64 0]),5,96):=by kernel_rfl
theorem Rq(l:List az)(hl:l.length≤1000)(H:∀t∈l,zS t):VC Tryz.prog G 29 [.agg [au 5 cU l]] [] (Md l):=by
 refine VC.body func29 rfl ntmps29 aQ fun X0 w0 bf=>?_;have c8:=dV;refine cf ?_;refine OD.box (ds:=[_]) ap rfl rfl ot rfl rfl (fun b1=>?_);refine OD.alloc (ds:=[_]) ap rfl rfl zeroValue25 rfl (fun b2=>?_);refine an 22 [1,2] ?_;refine cf ?_;refine OD.alloc (ds:=[_]) ap rfl rfl zeroValue25 rfl (fun b3=>?_);refine an 22 [1,2,3] ?_;refine af [2,3,7,8,9] ?_;refine eG [2,3,7,8] (fun aS _ (I:Nat×List aV×Option Addr×Nat×List ah) aE=>match I with|(i,L,dN,dg,Sx)=>(i≤l.length)∧(L.map aV.t=l.take i)∧(∀o∈L,qy o)∧(x7 L dN dg Sx)∧aE=(⟨22,(9,ae (i:Nat))::aS,(⟨b3,25,1,[aP dN L.length dg]⟩::⟨b2,25,1,[bF]⟩::(Sx++L.flatMap bT))⟩:St)) (fun (I:Nat×List aV×Option Addr×Nat×List ah)=>match I with|(i,L,dN,dg,Sx)=>l.length-i) (0,([]:List aV),none,0,[]) ⟨(Nat.zero_le _),rfl,(fun o h=>by cases h),iW,rfl⟩ ?_;rintro⟨i,L,dN,dg,Sx⟩ _ ⟨hi,hL,aT,ey,rfl⟩;refine af [2,3,7,8,9,10] ?_;refine av ?_ ?_<;>intro aL bB
 ·have aa:i<l.length:=(by omega)
  have so:L.length=i:=(by have:=congrArg length hL;rw[length_map,length_take] at this;omega)
  refine aB 2 ?_;refine OD.alloc (ds:=[_,_,_,_,_]) ap rfl rfl zeroValue77 rfl (fun b5=>?_);refine aO 0 [_,_,_,_,_] sizeOf77 ?_;refine an 22 [2,3,5,7,8,9] ?_;refine iv 6 (ax (take 3 _)) ?_ (fun _ h=>(Sublist.map _ (take_sublist _ _)).subset h);refine aD 0 rfl (dX 0) ?_;refine aD 1 rfl (ee 1) ?_;refine aD 2 rfl (cW (mk:=Op.load 77) rfl ot (by first|exact qJ (k:=0) (ds:=[_,_,_,_,_]) rfl rfl isAgg77 sizeOf77 rfl rfl|exact ku jT isAgg77 sizeOf77 w5|exact ku vt isAgg77 sizeOf77 w5|exact dL (k:=0) jT rfl rfl rfl isAgg77 sizeOf77 w5|exact dL (k:=1) jT rfl rfl rfl isAgg77 sizeOf77 w5|exact dL (k:=2) jT rfl rfl rfl isAgg77 sizeOf77 w5|exact dL (k:=0) vt rfl rfl rfl isAgg77 sizeOf77 w5|exact dL (k:=1) vt rfl rfl rfl isAgg77 sizeOf77 w5|exact dL (k:=2) vt rfl rfl rfl isAgg77 sizeOf77 w5|exact qR (ds:=[_,_,_,_,_]) isAgg77 sizeOf77 rfl rfl)) ?_;refine dZ.later rfl ?_;refine AD.one (i:=3) aC ?_;refine bD.call rfl ap rfl rfl rfl call48 (Gp (l[i]'aa) (H _ (getElem_mem aa))) ⟨ot,trivial⟩ (fg _) (fun b hb=>by simp[ax,St.put] at hb ⊢;first|(simp[hb];done)|(rcases hb with hb|hb<;>simp[hb])|(rcases hb with hb|hb|hb<;>simp[hb])) ?_;rintro _ _ ⟨o,Iw,rfl,Ea,rfl⟩;refine AD.perm (kp (A:=[_,_,_])) ?_;have wm:(L++[o]).map aV.t=l.take (i+1):=(by rw[map_append,hL,map_cons,map_nil,Iw];exact pP aa)
  have j8:∀x∈L++[o],qy x:=fun x hx=>by rcases mem_append.1 hx with hx|hx;exact aT x hx;rw[mem_singleton] at hx;subst hx;exact Ea
  refine AD.one (i:=4) aC ?_;refine nJ (cq 0 [_]) [.string ⟨#[]⟩,.slice none 0 0,.slice none 0 0,.slice none 0 0,.int .i64 0] [_,_,_,_,_] zeroValue77 runUnderlying23 sizeOf77 (fun Zt=>?_);refine nK 0 17 5 1 ?_;refine AD.one (i:=5) aC ?_;refine bD.eL (ls:=L) (new:=[o]) (Sq:=Sx) vt VD rfl ap rfl rfl underlying23 abb rfl w7 ot ey (tW (A:=[_,_,_])) ot bj nH nI (fun O E U Z=>?_);refine AD.perm (wU (S2:=[⟨O,77,E*5,flatMap gT (L++[o])⟩]) (A:=[_,_,_])) ?_;have YU:(bT o++(([⟨O,77,E*5,flatMap gT (L++[o])⟩]:List ah)++L.flatMap bT)).Perm (([⟨O,77,E*5,flatMap gT (L++[o])⟩]:List ah)++(L++[o]).flatMap bT):=(jS fun mD=>by rw[UJ];simp only[map_append,map_cons,map_nil,sum_append,sum_cons,sum_nil];omega)
  refine AD.perm (Perm.cons _ (Perm.cons _ (Perm.cons _ YU))) ?_;refine fB ?_;refine aH 1 ?_;refine aO 1 [_] sizeOf23 ?_;refine an 22 [2,3,7,8,9] ?_;refine cc [2,3,7,8,9] ?_;refine⟨((i+1),(L++[o]),(some ⟨O,0,none⟩),E,[⟨O,77,E*5,flatMap gT (L++[o])⟩]),_,cr,aJ,w4,wm,j8,(bQ U Z),rfl⟩
 refine aB 1 ?_;refine aO 1 [_] sizeOf25 ?_;refine an 22 [2] ?_;refine aM (Sx++L.flatMap bT) ?_;have pO:L.map aV.t=l:=(by rw[hL,take_of_length_le w4])
 exact⟨L,dN,dg,Sx,rfl,ey,aT,pO,rfl⟩
theorem acG(l:List az)(hl:l.length≤1000)(H:∀t∈l,zS t):VP Tryz.prog G 29 [.agg [au 5 cU l]] (.agg [au 5 cU l]):=(Rq l hl H).cover fun r S hr=>hr.view

structure cA (t:az) (n:Nat):Prop where
 nm:cy t.nm=0
 ay:t.ay=bL
 eO:t.rows.length≤40
 ix:ja t.ix n
 row:∀i (h:i<t.rows.length),t.rows[i]≠[]→Pc.dQ bL t.rows[i]=0∧(∀v∈t.rows[i],v.Ok)∧(bU t.rows[i],(i:Int))∈dh t.ix
 gj:∀x∈dh t.ix,0≤x.2∧∃h:x.2.toNat<t.rows.length,t.rows[x.2.toNat]≠[]∧x.1=bU t.rows[x.2.toNat]
theorem oE{r:List Vl}(h:Pc.dQ bL r=0):r.length=4:=by
 unfold Pc.dQ at h;rw[if_neg AV] at h;split at h
 ·cases h
 rename_i h2;exact Decidable.not_not.1 h2
theorem cA.len(g:cA t n){r:List Vl}(hr:r∈t.rows):r=[]∨(r.length=4∧∀v∈r,v.Ok):=by
 obtain⟨i,hi,rfl⟩:=mem_iff_getElem.1 hr;rcases Classical.em (t.rows[i]=[]) with h|h
 ·exact .inl h
 exact .inr ⟨oE (g.row i hi h).1,(g.row i hi h).2.1⟩
theorem cA.small(g:cA t n):zS t :=
 ⟨by rw[g.ay];decide,Nat.le_trans g.eO w7,fun r hr=>by rcases g.len hr with h|h;rw[h];exact Nat.zero_le _;omega,_,g.ix.val⟩
def rowAt(t:az)(i:Int):List Vl:=t.rows.getD i.toNat []
theorem fV{i:Int}(h:i.toNat<t.rows.length):rowAt t i=t.rows[i.toNat]:=by unfold rowAt;rw[getD_eq_getElem?_getD,getElem?_eq_getElem h];rfl
def kR(t:az)(w:List aK):List Int→List (K×Int)→List Int×Int
 | acc,[]=>(acc,0)
 | acc,x::r=>if 0<w.length then (if (dG t.ay (rowAt t x.2) w).2≠0 then ([],(dG t.ay (rowAt t x.2) w).2) else if (dG t.ay (rowAt t x.2) w).1.n≠1 then kR t w acc r else kR t w (acc++[x.2]) r) else kR t w (acc++[x.2]) r
noncomputable def aq(t:az)(w:List aK):List Int×Int:=if (iO t.ay w).2≠0 then ([],(iO t.ay w).2) else kR t w [] (oH t.ix (iO t.ay w).1.1 (iO t.ay w).1.2)
def Dr(p:List Int×Int)(r:D)(S:List ah):Prop:=∃ad cap,r = .dD [aP ad p.1.length cap,ae p.2]∧bn 3 1 (p.1.flatMap Tw.cI) p.1.length ad cap S
theorem Dr.view{r:D}(h:Dr p r S):View S r (.dD [au 1 Tw.cI p.1,ae p.2]):=by
 obtain⟨ad,cap,rfl,ho⟩:=h;exact Fy ⟨lU ho (cz Tw.eM _) (fun B h=>h),eW,trivial⟩
theorem Dr.flat{r:D}(h:Dr p r S):kZ r=true∧∀B∈S,∀d∈B.cs,kZ d=true:=by
 obtain⟨ad,cap,rfl,ho⟩:=h;refine⟨rfl,fun B E d hd=>?_⟩;rcases ho with ⟨_,_,_,_,rfl⟩|⟨b,_,_,_,rfl⟩
 ·cases E
 rw[mem_singleton] at E;subst E;obtain⟨n,_,hn⟩:=mem_flatMap.1 hd;rw[Tw.cI,mem_singleton] at hn;subst hn;rfl
theorem BZ{t:aG}{f u:K}:∀x∈oH t f u,x∈dh t:=fun x hx=>by
 unfold oH vJ at hx;have h1:=(takeWhile_sublist _).subset hx;unfold mW at h1;exact(mem_filter.1 h1).1
theorem Tj{t:aG}(g:ja t n)(f u:K):(oH t f u).length≤16000:=by
 unfold oH vJ;exact Nat.le_trans (takeWhile_sublist _).length_le (Tb g.val f)
theorem UK(l:List Vl):(gm l).1.length≤100:=by
 unfold gm;repeat' split
 all_goals first|exact Nat.zero_le _|(simp only;omega)
def Sm(b:lF):Prop:=b.1.length≤100∧b.2.length≤100
theorem UL{key:ByteArray}{ops:List aK}{no:Bool}{b:lF}(h:Sm b):Sm (nB key ops no b):=by
 have hk:(AF ops).length≤100:=UK _;have hl:∀b,Sm b→Sm (oJ (AF ops) b):=fun b h=>by unfold oJ;split;exact⟨hk,h.2⟩;exact h
 have E:∀b,Sm b→Sm (sQ (AF ops) b):=fun b h=>by unfold sQ;split;exact⟨h.1,hk⟩;exact h
 unfold nB;split
 ·exact h
 split
 ·exact h
 unfold vN;cases(nQ ops (ops.length-1)==6||(dP (mv key) (ops.take 2)==0)!=no)<;>cases(nQ ops (ops.length-1)==6||(dP (mv key) (ops.take 2)==0)==no)<;>first|exact h|exact hl _ h|exact E _ h|exact E _ (hl _ h)
theorem LA{key:ByteArray}:∀(f:Nat) (ops:List aK) (b:lF),Sm b→Sm (gz key f ops b)
 | 0,_,_,h=>h
 | f+1,ops,b,h=>by
  unfold gz;split
  ·exact LA f _ _ (LA f _ _ h)
  split
  ·exact UL h
  exact UL h
theorem ahB(l:List cH)(ops:List aK):Sm (iO l ops).1:=by
 have h0:Sm (([],[]):lF):=⟨Nat.zero_le _,Nat.zero_le _⟩
 unfold iO;repeat' split
 all_goals first|exact h0|exact LA _ _ _ h0
theorem Rr:(Tryz.prog.info? 3).map (fun i=>(i.zero,i.size,i.bytes))=some (some (.int .i64 0),1,8):=by kernel_rfl
theorem LC(hm:(3,marksC)∈G)(hw:(1,wordsC)∈G)(ht:(0,typesC)∈G)(hG:(2,[Value.int .i64 m])∈G)(t:az)(g:cA t n)(w:List aK)(ho:∀o∈w,o.nm.size≤maxLen)(gd:∀o∈w,o.v.Ok):VC Tryz.prog G 110 [.agg (cU t),au 5 cO w] [] (Dr (aq t w)):=by
 refine VC.body func110 rfl ntmps110 aQ fun X0 w0 bf=>?_;have Bo:=ahB t.ay w;have q9:=ab1 (G:=G) hm hw ht hG t.ay yg yf w ho gd;unfold OU at q9;have c8:=dV;have Bp:=VA (G:=G) g.ix (iO t.ay w).1.1 (iO t.ay w).1.2 Bo.1 Bo.2;unfold Tw.cT at Bp;have mb:=Tj g.ix (iO t.ay w).1.1 (iO t.ay w).1.2;generalize hL:(oH t.ix (iO t.ay w).1.1 (iO t.ay w).1.2)=L at *;unfold cU;have ME:∀x∈L,x∈dh t.ix:=fun x hx=>BZ x (hL ▸ hx);refine cf ?_;refine OD.box (ds:=[_,_,_,_,_]) ap rfl rfl ot rfl rfl (fun b2=>?_);refine an 70 [1,2] ?_;refine cL [1,2,6,7,8] (q9) ?_;refine af [1,2,6,7,8,25] ?_;refine av ?_ ?_<;>intro aL bB
 ·have hne:(iO t.ay w).2≠0:=(by simpa using aL)
  have aW:aq t w=([],(iO t.ay w).2):=if_pos hne;refine af [4,5] ?_;refine aM [] ?_;rw[aW];exact⟨none,0,rfl,iW⟩
 have hz:(iO t.ay w).2=0:=(by simpa using aL)
 have ai8:aq t w=kR t w [] (L.drop 0):=(by unfold aq;rw[if_neg (by simp[hz]),hL,drop_zero])
 refine cL [1,2,9] (Bp) ?_;refine cf ?_;refine bp [1,2,9,11] ?_;refine af [1,2,11,35,36,37] ?_;refine eG [1,2,35,36] (fun aS _ (O:Nat×List Int×Option Addr×Nat×List ah) aE=>match O with|(k,acc,dN,dg,Sx)=>(k≤L.length)∧((acc).length≤k)∧(aq t w=kR t w acc (L.drop k))∧(bn 3 1 ((acc).flatMap Tw.cI) (acc).length dN dg Sx)∧aE=(⟨70,(11,aP dN (acc).length dg)::(37,ae (k:Nat))::aS,(⟨b2,77,5,[aZ t.nm,au 2 cC t.ay,au 1 gG t.rows,au 5 cP t.ix.ag,ae t.ix.root]⟩::Sx)⟩:St)) (fun (O:Nat×List Int×Option Addr×Nat×List ah)=>match O with|(k,acc,dN,dg,Sx)=>L.length-k) (0,([]:List Int),none,0,[]) ⟨(Nat.zero_le _),(Nat.zero_le _),ai8,(bn.cast iW lu),rfl⟩ ?_;rintro⟨k,acc,dN,dg,Sx⟩ _ ⟨hk,rU,aW,ey,rfl⟩;refine af [1,2,11,35,36,37,38] ?_;refine av ?_ ?_<;>intro aY cD
 ·have aa:k<L.length:=(by omega)
  obtain⟨fO,U,oo,Oa⟩:=g.gj _ (ME _ (getElem_mem aa));have E:=fV (t:=t) U;have jj:L.drop k=(L[k]'aa)::L.drop (k+1):=drop_eq_getElem_cons aa;have hrw:=(g.row _ U oo).2.1;have Pg:=oE (g.row _ U oo).1;refine aB 2 ?_;refine OD.alloc (ds:=[_,_]) ap rfl rfl zeroValue92 rfl (fun mK=>?_);refine aO 0 [_,_] sizeOf92 ?_;refine an 70 [1,2,11,13,35,36,37] ?_;refine af [1,2,11,13,35,36,37,43] ?_;refine av ?_ ?_<;>intro cm cR
  ·have Z:0<w.length:=(by omega)
   have yS:=Up (G:=G) hm hw ht t.ay yg yf (t.rows[(L[k]'aa).2.toNat]) w4 hrw w ho gd;rw[←E] at yS;unfold nu at yS;rw[E] at yS;refine CD.seq ?_;refine tJ 14 13 [1,2,11,13,14,35,36,37,55,56] ?_;refine aR 6 ?_ (h:=by exact(dO 1 (h:=by first|exact .l (j:=(L[k]'aa).2.toNat) (Int.toNat_of_nonneg fO).symm U|exact .r (j:=(L[k]'aa).2.toNat) (Int.toNat_of_nonneg fO).symm U)));refine cN (yS) ?_;refine mI 3 ?_;refine pF ?_;refine jP ?_;refine⟨rfl,fun Ec=>?_⟩;refine aO 0 [_,_,_] sizeOf33 ?_;refine an 70 [1,2,11,13,14,15,35,36,37] ?_;refine af [1,2,11,13,14,15,35,36,37,58] ?_;refine av ?_ ?_<;>intro da eA
   ·have hne:(dG t.ay (rowAt t (L[k]'aa).2) w).2≠0:=(by rw[E];simpa using da)
    have I:aq t w=([],(dG t.ay (rowAt t (L[k]'aa).2) w).2):=(by rw[aW,jj,kR,if_pos Z,if_pos hne])
    rw[E] at I;refine af [4,5] ?_;refine aM [] ?_;rw[I];exact⟨none,0,rfl,iW⟩
   have hne:¬(dG t.ay (rowAt t (L[k]'aa).2) w).2≠0:=(by rw[E];simpa using da)
   refine af [1,2,11,13,35,36,37,62] ?_;refine av ?_ ?_<;>intro dR fH
   ·have gI:(dG t.ay (rowAt t (L[k]'aa).2) w).1.n≠1:=(by rw[E];simpa using dR)
    have oe:aq t w=kR t w acc (L.drop (k+1)):=(by rw[aW,jj,kR,if_pos Z,if_neg hne,if_pos gI])
    refine cc [1,2,11,35,36,37] ?_;refine⟨((k+1),acc,dN,dg,Sx),_,cr,aJ,w4,w4,oe,(bn.cast ey lu),rfl⟩
   have gI:¬(dG t.ay (rowAt t (L[k]'aa).2) w).1.n≠1:=(by rw[E];simpa using dR)
   have oe:aq t w=kR t w (acc++[(L[k]'aa).2]) (L.drop (k+1)):=(by rw[aW,jj,kR,if_pos Z,if_neg hne,if_neg gI])
   refine dY 3 ?_;refine eD (cq 0 [_]) [.int .i64 0] [_] zeroValue3 runUnderlying70 sizeOf3 (fun pK=>?_);refine fT 0 66 1 1 ?_;refine OD.eL (ls:=(acc)) (new:=[(L[k]'aa).2]) (Sq:=Sx) Tw.eM Tw.nT ap rfl rfl underlying70 Rr rfl w7 ot ey (dI (A:=[_,_,_])) ot bj nH nI (fun ri rP G1 G2=>?_);refine OD.perm (ez (S1:=[⟨ri,3,rP*1,flatMap Tw.cI ((acc)++[(L[k]'aa).2])⟩]) (A:=[_,_,_])) ?_;exact Yc
  have Z:¬0<w.length:=(by omega)
  have oe:aq t w=kR t w (acc++[(L[k]'aa).2]) (L.drop (k+1)):=(by rw[aW,jj,kR,if_neg Z])
  refine dY 3 ?_;refine eD (cq 0 [_]) [.int .i64 0] [_] zeroValue3 runUnderlying70 sizeOf3 (fun pK=>?_);refine fT 0 66 1 1 ?_;refine OD.eL (ls:=(acc)) (new:=[(L[k]'aa).2]) (Sq:=Sx) Tw.eM Tw.nT ap rfl rfl underlying70 Rr rfl w7 ot ey (dI (A:=[_,_])) ot bj nH nI (fun ri rP G1 G2=>?_);refine OD.perm (ez (S1:=[⟨ri,3,rP*1,flatMap Tw.cI ((acc)++[(L[k]'aa).2])⟩]) (A:=[_,_])) ?_;exact Yc
 have I:aq t w=(acc,0):=(by rw[aW,drop_of_length_le w4];rfl)
 refine af [4,5] ?_;refine aM Sx ?_;rw[I];exact⟨dN,dg,rfl,ey⟩

end Go.Proofs.YtkgmonfgofobaaaGreatDoor.Ba
namespace Go.Proofs.YtkgmonfgofobaaaGreatDoor.So
open List
open Go.Proofs.Tryz
variable {α:Type} {R:α→α→Prop} {l L M X Y:List α} {x y:α} {k:Nat}
theorem I1(ht:∀{x y z:α},R x y→R y z→R x z)(hs:L.Pairwise R)(hk:k≤L.length)(h:k=0∨∃h:k-1<L.length,R (L[k-1]) x):∀z∈L.take k,R z x:=by
 intro z hz;obtain⟨i,hi,rfl⟩:=mem_iff_getElem.1 hz;rw[length_take] at hi;rw[getElem_take];rcases h with rfl|⟨h1,h2⟩
 ·omega
 rcases Nat.lt_or_ge i (k-1) with h3|h3
 ·exact ht (pairwise_iff_getElem.1 hs i (k-1) w4 h1 h3) h2
 have:i=k-1:=(by omega)
 subst this;exact h2
theorem IQ(ht:∀{x y z:α},R x y→R y z→R x z)(hs:L.Pairwise R)(h:k=L.length∨∃h:k<L.length,R x (L[k])):∀z∈L.drop k,R x z:=by
 intro z hz;obtain⟨i,hi,rfl⟩:=mem_iff_getElem.1 hz;rw[length_drop] at hi;rw[getElem_drop];rcases h with rfl|⟨h1,h2⟩
 ·omega
 rcases Nat.eq_zero_or_pos i with rfl|h3
 ·simpa using h2
 exact ht h2 (pairwise_iff_getElem.1 hs k (k+i) h1 w4 w4)
theorem aeo(hs:(X++Y).Pairwise R)(h1:∀z∈X,R z x)(h2:∀z∈Y,R x z):(X++x::Y).Pairwise R:=by
 rw[pairwise_append] at hs ⊢;obtain⟨p1,p2,p3⟩:=hs;refine⟨p1,pairwise_cons.2 ⟨h2,p2⟩,fun a ha b hb=>?_⟩;rcases mem_cons.1 hb with rfl|hb
 ·exact h1 a ha
 exact p3 a ha b hb
theorem UM(ht:∀{x y z:α},R x y→R y z→R x z)(hs:L.Pairwise R)(hk:k≤L.length)(h1:k=0∨∃h:k-1<L.length,R (L[k-1]) x)(h2:k=L.length∨∃h:k<L.length,R x (L[k])):(L.take k++x::L.drop k).Pairwise R :=
 aeo (by rw[take_append_drop];exact hs) (I1 ht hs hk h1) (IQ ht hs h2)
theorem acH (ht:∀{x y z:α},R x y→R y z→R x z) {A B:List α} {i j:Nat} (ha:A.Pairwise R) (hb:B.Pairwise R) (hi:i≤A.length) (hj:j≤B.length)
  (h1:i=0∨j=B.length∨∃(p:i-1<A.length) (q:j<B.length),R A[i-1] B[j]) (h2:j=0∨i=A.length∨∃(p:j-1<B.length) (q:i<A.length),R B[j-1] A[i]) :
  ∀a∈A.take i++B.take j,∀b∈A.drop i++B.drop j,R a b:=by
 have E:∀a∈A.take i,∀b∈A.drop i,R a b:=(by rw[←take_append_drop i A] at ha;exact(pairwise_append.1 ha).2.2)
 have I:∀a∈B.take j,∀b∈B.drop j,R a b:=(by rw[←take_append_drop j B] at hb;exact(pairwise_append.1 hb).2.2)
 intro a hm b hn;rcases mem_append.1 hm with hm|hm<;>rcases mem_append.1 hn with hn|hn
 ·exact E a hm b hn
 ·rcases h1 with rfl|rfl|⟨p,q,hr⟩
  ·simp at hm
  ·simp at hn
  exact I1 (R:=R) ht ha hi (.inr ⟨p,by
   rcases IQ (R:=R) ht hb (k:=j) (x:=A[i-1]) (.inr ⟨q,hr⟩) b hn with h
   exact h⟩) a hm
 ·rcases h2 with rfl|rfl|⟨p,q,hr⟩
  ·simp at hm
  ·simp at hn
  exact I1 (R:=R) ht hb hj (.inr ⟨p,IQ (R:=R) ht ha (k:=i) (x:=B[j-1]) (.inr ⟨q,hr⟩) b hn⟩) a hm
 exact I a hm b hn
theorem Jr{l1 l2:List α}:((l1++x::y::l2).set l1.length y).set (l1.length+1) x=l1++y::x::l2:=by
 rw[set_append_right _ _ (Nat.le_refl _),Nat.sub_self,set_cons_zero,set_append_right _ _ w4,show l1.length+1-l1.length=1 by omega,set_cons_succ,set_cons_zero]
def sw(l:List Int)(i j:Nat):List Int:=(l.set i (l.getD j 0)).set j (l.getD i 0)
theorem ahC{l:List Int}{i j:Nat}:(sw l i j).length=l.length:=by unfold sw;simp
theorem mR{l:List Int}{i:Nat}(h:i<l.length):l.getD i 0=l[i]:=by simp[h]
def kg(l:List Int)(a b:Nat):Nat→List Int
 | 0=>l
 | k+1=>sw (kg l a b k) (a+k) (b+k)
theorem Cf{l:List Int}{a b:Nat}:∀{k:Nat},(kg l a b k).length=l.length
 | 0=>rfl
 | k+1=>by rw[kg,ahC,Cf]
theorem UN{l:List Int}{a b:Nat}:∀{k:Nat},a+k≤b→b+k≤l.length→∀j,(kg l a b k)[j]?=if a≤j∧j<a+k then l[b+(j-a)]? else if b≤j∧j<b+k then l[a+(j-b)]? else l[j]?
 | 0,_,_,j=>by rw[if_neg w4,if_neg w4];try rfl
 | k+1,h1,h2,j=>by
  have ih:=UN (l:=l) (a:=a) (b:=b) (k:=k) w4 w4;have e1:(kg l a b k).getD (b+k) 0=l.getD (b+k) 0:=(by rw[getD_eq_getElem?_getD,ih,if_neg w4,if_neg w4,getD_eq_getElem?_getD])
  have e2:(kg l a b k).getD (a+k) 0=l.getD (a+k) 0:=(by rw[getD_eq_getElem?_getD,ih,if_neg w4,if_neg w4,getD_eq_getElem?_getD])
  rw[kg,sw,e1,e2,getElem?_set,getElem?_set,length_set,Cf,ih];by_cases q1:b+k=j
  ·subst q1;rw[if_pos rfl,if_pos w4,if_neg w4,if_pos w4,mR w4,show a+(b+k-b)=a+k by omega,getElem?_eq_getElem w4]
  rw[if_neg q1];by_cases q2:a+k=j
  ·subst q2;rw[if_pos rfl,if_pos w4,if_pos w4,mR w4,show b+(a+k-a)=b+k by omega,getElem?_eq_getElem w4]
  rw[if_neg q2];simp only[show(a≤j∧j<a+(k+1))↔(a≤j∧j<a+k) by omega,show(b≤j∧j<b+(k+1))↔(b≤j∧j<b+k) by omega]
theorem KZ{P U M W Q:List Int}(h:U.length=W.length):kg (P++(U++(M++(W++Q)))) P.length (P.length+U.length+M.length) U.length=P++(W++(M++(U++Q))):=by
 refine ext_getElem? fun j=>?_;rw[UN w4 (by simp only[length_append];omega)];simp only[getElem?_append];repeat' split
 all_goals first|omega|(congr 1<;>omega)
def sy(T cur:List Int)(m i j:Nat):Prop:=∃P X Y Q,cur=P++(X++(Y++Q))∧X.length=i∧Y.length=j∧P.length+i=m∧T=P++(Y++(X++Q))
variable {T cur:List Int} {m i j:Nat}
theorem sy.len(h:sy T cur m i j):i≤m∧m+j≤cur.length∧T.length=cur.length:=by
 obtain⟨P,X,Y,Q,rfl,rfl,rfl,hm,rfl⟩:=h;simp only[length_append];omega
theorem ahD(h:sy T cur m i j)(E:j<i):sy T (kg cur (m-i) m j) m (i-j) j:=by
 obtain⟨P,X,Y,Q,rfl,rfl,rfl,hm,rfl⟩:=h;have l1:(X.take Y.length).length=Y.length:=(by rw[length_take];omega)
 have l2:(X.drop Y.length).length=X.length-Y.length:=length_drop;have e:=KZ (P:=P) (U:=X.take Y.length) (M:=X.drop Y.length) (W:=Y) (Q:=Q) l1;rw[l1,l2,←append_assoc (X.take _) (X.drop _),take_append_drop,show P.length+Y.length+(X.length-Y.length)=m by omega,show P.length=m-X.length by omega] at e;exact⟨P++Y,X.drop Y.length,X.take Y.length,Q,by rw[e];simp,l2,l1,by rw[length_append];omega,by rw[←append_assoc (X.take _) (X.drop _),take_append_drop];simp⟩
theorem ahE(h:sy T cur m i j)(E:i<j):sy T (kg cur (m-i) (m+j-i) i) m i (j-i):=by
 obtain⟨P,X,Y,Q,rfl,rfl,rfl,hm,rfl⟩:=h;have l1:(Y.take (Y.length-X.length)).length=Y.length-X.length:=(by rw[length_take];omega)
 have l2:(Y.drop (Y.length-X.length)).length=X.length:=(by rw[length_drop];omega)
 have e:=KZ (P:=P) (U:=X) (M:=Y.take (Y.length-X.length)) (W:=Y.drop (Y.length-X.length)) (Q:=Q) l2.symm;rw[l1,←append_assoc (Y.take _) (Y.drop _),take_append_drop,show P.length+X.length+(Y.length-X.length)=m+Y.length-X.length by omega,show P.length=m-X.length by omega] at e;exact⟨P,Y.drop (Y.length-X.length),Y.take (Y.length-X.length),X++Q,e,l2,l1,hm,by rw[←append_assoc (Y.take _) (Y.drop _),take_append_drop]⟩
theorem ahF(h:sy T cur m i i):kg cur (m-i) m i=T:=by
 obtain⟨P,X,Y,Q,rfl,rfl,hl,hm,rfl⟩:=h;have e:=KZ (P:=P) (U:=X) (M:=[]) (W:=Y) (Q:=Q) hl.symm;rw[length_nil,Nat.add_zero,show P.length+X.length=m by omega,show P.length=m-X.length by omega] at e;simpa using e

end Go.Proofs.YtkgmonfgofobaaaGreatDoor.So
namespace Go.Proofs.YtkgmonfgofobaaaGreatDoor.So
open List
open Go.Proofs.Tryz
open Go.RowKit V Tw
variable {G:List (Nat×List Value)}
theorem K0(l:List Int)(E la lb k cap I:Nat)(eH:D)(Sc:List ah)(gC:l.length=E)(h1:la+k≤lb)(h2:lb+k≤E)(h3:E≤cap)(h4:cap≤maxLen):VC Tryz.prog G 184 [aP (some ⟨I,0,none⟩) E cap,ae (la:Nat),ae (lb:Nat),ae (k:Nat),eH] (⟨I,3,cap*1,(l).flatMap cI⟩::Sc) (fun r S'=>r = .dD []∧S'=⟨I,3,cap*1,(kg l la lb k).flatMap cI⟩::Sc):=by
 refine VC.body func184 rfl ntmps184 aQ fun X0 w0 bf=>?_;have c8:=dV;refine af [0,1,2,3,10] ?_;refine eG [0,1,2,3] (fun aS _ (i:Nat) aE=>(i≤k)∧aE=(⟨38,(10,ae (i:Nat))::aS,(⟨I,3,cap*1,(kg l la lb i).flatMap cI⟩::Sc)⟩:St)) (fun (i:Nat)=>k-i) 0 ⟨(Nat.zero_le _),rfl⟩ ?_;rintro i _ ⟨hi,rfl⟩;refine af [0,1,2,3,10,13] ?_;refine av ?_ ?_<;>intro aL bB
 ·have O:i<k:=(by omega)
  have hlen:(kg l la lb i).length=E:=(by rw[Cf,gC])
  have ha:la+i<(kg l la lb i).length:=(by omega)
  have hb:lb+i<(kg l la lb i).length:=(by omega)
  refine CD.skip ?_;refine CD.seq ?_;refine CD.block ?_;refine iv 22 (ax (eraseIdx _ 0)) ?_ (fun _ h=>(Sublist.map _ (eraseIdx_sublist _ 0)).subset h);refine aD 0 rfl bI ?_;refine aD 1 rfl bI ?_;refine aD 2 rfl bI ?_;refine aD 3 rfl qs ?_;refine aD 4 rfl bI ?_;refine aD 5 rfl bI ?_;refine aD 6 rfl bI ?_;refine aD 7 rfl qs ?_;refine aD 8 rfl bI ?_;refine aD 9 rfl bI ?_;refine aD 10 rfl bI ?_;refine aD 11 rfl qs ?_;refine aD 12 rfl (dO 1) ?_;refine aD 14 rfl bI ?_;refine aD 15 rfl bI ?_;refine aD 16 rfl bI ?_;refine aD 17 rfl qs ?_;refine aD 18 rfl (dO 1) ?_;refine dZ.later rfl ?_;refine AD.two (i:=13) (j:=19) aC ?_ ?_
  ·refine at_ rfl fa ?_;refine AD.one (i:=19) aC ?_;exact XS
  refine at_ rfl fa ?_;refine AD.one (i:=13) aC ?_;exact XS
 obtain rfl:i=k:=(by omega)
 refine aM _ ?_;exact⟨by first|rfl|(simp[*];done),rfl⟩

theorem ahG(l Tt:List Int)(Z a m b cap bd:Nat)(eH:D)(Sc:List ah)(h:sy Tt l m (m-a) (b-m))(h1:a<m)(h2:m<b)(gC:l.length=Z)(E:Z≤cap)(I:cap≤maxLen):VC Tryz.prog G 177 [aP (some ⟨bd,0,none⟩) Z cap,ae (a:Nat),ae (m:Nat),ae (b:Nat),eH] (⟨bd,3,cap*1,(l).flatMap cI⟩::Sc) (fun r S'=>r = .dD []∧S'=⟨bd,3,cap*1,(Tt).flatMap cI⟩::Sc):=by
 refine VC.body func177 rfl ntmps177 aQ fun X0 w0 bf=>?_;have c8:=dV;have hlen:=h.len;refine cM [0,2,3,4,10] ?_;refine aR 2 ?_ (h:=by exact(dA rfl ot ot (iy (r:=((m-a:Nat):Int)) q8)));refine bH ?_;refine cM [0,2,4,10,11] ?_;refine aR 2 ?_ (h:=by exact(dA rfl ot ot (iy (r:=((b-m:Nat):Int)) q8)));refine bH ?_;refine eG [0,2,4] (fun aS _ (O:Nat×Nat×List Int) aE=>match O with|(i,j,cur)=>(sy Tt cur m i j)∧(0<i)∧(0<j)∧((cur).length=Z)∧aE=(⟨58,(10,ae (i:Nat))::(11,ae (j:Nat))::aS,(⟨bd,3,cap*1,(cur).flatMap cI⟩::Sc)⟩:St)) (fun (O:Nat×Nat×List Int)=>match O with|(i,j,cur)=>i+j) ((m-a),(b-m),l) ⟨h,w4,w4,gC,rfl⟩ ?_;rintro⟨i,j,cur⟩ _ ⟨hr,hi,hj,U,rfl⟩;refine af [0,2,4,10,11,20] ?_;refine av ?_ ?_<;>intro aL bB
 ·have oT:=hr.len;have hne:i≠j:=(by omega)
  refine af [0,2,4,10,11,23] ?_;refine av ?_ ?_<;>intro aY cD
  ·have Pj:j<i:=(by omega)
   refine aB 3 ?_;refine bV (dA rfl ot ot (iy (r:=((m-i:Nat):Int)) q8)) ?_;refine aH 3 ?_;refine OD.call (R:=Sc) ap rfl rfl rfl call184 (K0 cur Z (m-i) m j cap bd eH [] U w4 w4 E I) ⟨ot,ot,ot,ot,ot,trivial⟩ (Perm.refl _) ?_;rintro _ _ ⟨rfl,rfl⟩;refine an 58 [0,2,4,10,11] ?_;refine iU [0,2,4,10,11] ?_;refine aR 2 ?_ (h:=by exact(dA rfl ot ot (iy (r:=((i-j:Nat):Int)) q8)));refine bH ?_;refine⟨((i-j),j,(kg cur (m-i) m j)),_,cr,aJ,(ahD hr Pj),w4,hj,(by rw[Cf];exact U),rfl⟩
  have aa:i<j:=(by omega)
  refine aB 3 ?_;refine bV (dA rfl ot ot (iy (r:=((m-i:Nat):Int)) q8)) ?_;refine aH 4 ?_;refine bV (dA rfl ot ot (iy (r:=((m+j-i:Nat):Int)) (by rw[show((m:Int)+j-i)=((m+j-i:Nat):Int) by omega];exact wrap_i64 w4 w4))) ?_;refine aH 2 ?_;refine OD.call (R:=Sc) ap rfl rfl rfl call184 (K0 cur Z (m-i) (m+j-i) i cap bd eH [] U w4 w4 E I) ⟨ot,ot,ot,ot,ot,trivial⟩ (Perm.refl _) ?_;rintro _ _ ⟨rfl,rfl⟩;refine an 58 [0,2,4,10,11] ?_;refine iU [0,2,4,10,11] ?_;refine aR 2 ?_ (h:=by exact(dA rfl ot ot (iy (r:=((j-i:Nat):Int)) q8)));refine bH ?_;refine⟨(i,(j-i),(kg cur (m-i) (m+j-i) i)),_,cr,aJ,(ahE hr aa),hi,w4,(by rw[Cf];exact U),rfl⟩
 have oT:=hr.len;obtain rfl:i=j:=(by omega)
 have he:=ahF hr;refine dY 3 ?_;refine bV (dA rfl ot ot (iy (r:=((m-i:Nat):Int)) q8)) ?_;refine aH 3 ?_;refine OD.call (R:=Sc) ap rfl rfl rfl call184 (K0 cur Z (m-i) m i cap bd eH [] U w4 w4 E I) ⟨ot,ot,ot,ot,ot,trivial⟩ (Perm.refl _) ?_;rintro _ _ ⟨rfl,rfl⟩;refine an 58 [] ?_;refine aM _ ?_;exact⟨rfl,by rw[he];rfl⟩

end Go.Proofs.YtkgmonfgofobaaaGreatDoor.So
namespace Go.Proofs.YtkgmonfgofobaaaGreatDoor.So
open List
open Go.Proofs.Tryz
variable {x y:Int} {Z S:List Int} {cF:Int→Int→Int}
def oU(R:Int→Int→Prop)(l0 l:List Int)(a i:Nat):Prop :=
 ∃(P A B A0:List Int),l=P++(A++B)∧P.length=a∧a+A.length=i∧A.Pairwise R∧A.Perm A0∧l0=P++(A0++B)
def tq(R:Int→Int→Prop)(l0 l:List Int)(a i j:Nat):Prop :=
 ∃(P A:List Int) (x:Int) (B A0:List Int) (k:Nat),l=P++(A.take k++x::(A.drop k++B))∧P.length=a∧k≤A.length∧a+k=j∧a+A.length=i∧A.Pairwise R∧(k=A.length∨∃h:k<A.length,R x A[k])∧A.Perm A0∧l0=P++(A0++x::B)
variable {R Lt:Int→Int→Prop} {l0 l:List Int} {a i j:Nat}
theorem tq.len(h:tq R l0 l a i j):a≤j∧j≤i∧i<l.length∧l.length=l0.length:=by
 obtain⟨P,A,x,B,E,k,rfl,rfl,hk,rfl,rfl,hs,hx,hp,rfl⟩:=h;have:=hp.length_eq;simp only[length_append,length_cons,length_take,length_drop];omega
theorem JX(h:a≤l.length):oU R l l a a :=
 ⟨l.take a,[],l.drop a,[],by simp,by rw[length_take];omega,by simp,Pairwise.nil,.refl _,by simp⟩
theorem af6(h:a<l.length):oU R l l a (a+1) :=
 ⟨l.take a,[l[a]],l.drop (a+1),[l[a]],by simp,by rw[length_take];omega,by simp,pairwise_singleton _ _,.refl _,by simp⟩
theorem acI(h:oU R l0 l a i)(hi:i<l.length):tq R l0 l a i i:=by
 obtain⟨P,A,B,E,rfl,rfl,rfl,hs,hp,rfl⟩:=h;cases B with
 | nil=>simp at hi
 | cons x B=>exact⟨P,A,x,B,E,A.length,by simp,rfl,Nat.le_refl _,rfl,rfl,hs,.inl rfl,hp,rfl⟩
theorem F5{P A B:List Int}{k:Nat}(hk:k<A.length):P++(A.take (k+1)++x::(A.drop (k+1)++B))=(P++A.take k)++A[k]::x::(A.drop (k+1)++B):=by
 rw[take_succ_eq_append_getElem hk];simp only[append_assoc,singleton_append]
theorem EG(n:Nat)(hn:n=Z.length)(h:n<(Z++y::S).length):(Z++y::S)[n]'h=y:=by subst hn;simp
theorem EH(n:Nat)(hn:n=Z.length+1)(h:n<(Z++y::x::S).length):(Z++y::x::S)[n]'h=x:=by subst hn;simp[getElem_append_right]
theorem abp(h:tq R l0 l a i j)(hj:a<j)(h1:j<l.length)(h0:j-1<l.length)(hr:R l[j] l[j-1]):tq R l0 ((l.set j l[j-1]).set (j-1) l[j]) a i (j-1):=by
 obtain⟨P,A,x,B,E,k,rfl,rfl,hk,rfl,rfl,hs,hx,hp,rfl⟩:=h;obtain⟨k,rfl⟩:∃m,k=m+1:=⟨k-1,by omega⟩
 have e:=F5 (P:=P) (B:=B) (x:=x) hk;have hl:(P++A.take k).length=P.length+k:=(by rw[length_append,length_take];omega)
 simp only[e] at hr ⊢;rw[EG (P.length+(k+1)-1) w4,EH (P.length+(k+1)) w4] at hr ⊢;refine⟨P,A,x,B,E,k,?_,rfl,by omega,by omega,rfl,hs,.inr ⟨hk,hr⟩,hp,rfl⟩;rw[set_comm _ _ w4,show P.length+(k+1)-1=(P++A.take k).length by omega,show P.length+(k+1)=(P++A.take k).length+1 by omega,Jr];rw[show A.drop k=A[k]::A.drop (k+1) from drop_eq_getElem_cons hk];simp only[append_assoc,cons_append]
theorem ac0(ht:∀{x y z:Int},R x y→R y z→R x z)(h:tq R l0 l a i j)(h1:j<l.length)(h0:j-1<l.length)(hr:j=a∨R l[j-1] l[j]):oU R l0 l a (i+1):=by
 obtain⟨P,A,x,B,E,k,rfl,rfl,hk,rfl,rfl,hs,hx,hp,rfl⟩:=h;refine⟨P,A.take k++x::A.drop k,B,E++[x],by simp,rfl,by simp;omega,UM ht hs hk ?_ hx,?_,by simp⟩
 ·rcases Nat.eq_zero_or_pos k with rfl|hp
  ·exact .inl rfl
  right;obtain⟨k,rfl⟩:∃m,k=m+1:=⟨k-1,by omega⟩
  refine⟨by omega,?_⟩;rcases hr with hr|hr
  ·omega
  have e:=F5 (P:=P) (B:=B) (x:=x) hk;have hl:(P++A.take k).length=P.length+k:=(by rw[length_append,length_take];omega)
  simp only[e] at hr;rw[EG (P.length+(k+1)-1) w4,EH (P.length+(k+1)) w4] at hr;exact hr
 refine List.perm_middle.trans ?_;rw[take_append_drop];exact(Perm.cons x hp).trans (perm_append_singleton x E).symm
theorem ae3(h:tq R l0 l a i j)(hj:a<j)(h1:j<l.length)(h0:j-1<l.length)(hq:(l0.drop a).Pairwise Lt):Lt l[j-1] l[j]:=by
 obtain⟨P,A,x,B,E,k,rfl,rfl,hk,rfl,rfl,hs,hx,hp,rfl⟩:=h;obtain⟨k,rfl⟩:∃m,k=m+1:=⟨k-1,by omega⟩
 have e:=F5 (P:=P) (B:=B) (x:=x) hk;have hl:(P++A.take k).length=P.length+k:=(by rw[length_append,length_take];omega)
 simp only[e];rw[EG (P.length+(k+1)-1) w4,EH (P.length+(k+1)) w4];rw[drop_left' rfl,pairwise_append] at hq;exact hq.2.2 _ (hp.subset (getElem_mem hk)) x (mem_cons_self)
theorem tq.perm(h:tq R l0 l a i j):l.Perm l0:=by
 obtain⟨P,A,x,B,E,k,rfl,rfl,hk,rfl,rfl,hs,hx,hp,rfl⟩:=h;refine(perm_append_left_iff P).2 (List.perm_middle.trans ?_);rw[←append_assoc,take_append_drop];exact(Perm.cons x ((perm_append_right_iff B).2 hp)).trans List.perm_middle.symm
def Rc(cF:Int→Int→Int)(Lt:Int→Int→Prop)(x y:Int):Prop:=cF x y<0∨cF x y=0∧Lt x y
theorem FO(h:cF y x<0):Rc cF Lt y x:=.inl h
theorem Gc(ha:∀x y,0≤cF y x→cF x y≤0)(E:Lt x y)(h:¬cF y x<0):Rc cF Lt x y:=by
 have:=ha x y w4;unfold Rc;rcases Int.lt_or_eq_of_le this with q|q
 ·exact .inl q
 exact .inr ⟨q,E⟩
def Part(R:Int→Int→Prop)(l0 l:List Int)(a b:Nat):Prop:=∃(P M M0 Q:List Int),l=P++(M++Q)∧l0=P++(M0++Q)∧P.length=a∧a+M.length=b∧M.Perm M0∧M.Pairwise R
theorem oU.part{b:Nat}(h:oU R l0 l a b):Part R l0 l a b:=by
 obtain⟨P,A,B,E,h1,h2,h3,hs,hp,h4⟩:=h;exact⟨P,A,E,B,h1,h4,h2,h3,hp,hs⟩

end Go.Proofs.YtkgmonfgofobaaaGreatDoor.So
namespace Go.Proofs.YtkgmonfgofobaaaGreatDoor.So
open List
open Go.Proofs.Tryz
open Go.RowKit V Tw
variable {G:List (Nat×List Value)}
theorem VE(l:List Int)(U a b cap bd fc:Nat)(O:List D)(Z:List ah)(cF:Int→Int→Int)(V:Int→Prop)(Lt:Int→Int→Prop)(hV:∀x∈l,V x)(hc:∀x y,V x→V y→VC Tryz.prog G fc ([ae x,ae y]++O) Z (fun r S'=>r=ae (cF x y)∧S'=Z))(vU:∀args w,(callFunc fc args).run Tryz.prog w = .ok (.enter fc args) w)(ht:∀{x y z:Int},Rc cF Lt x y→Rc cF Lt y z→Rc cF Lt x z)(ha:∀x y,0≤cF y x→cF x y≤0)(hq:(l.drop a).Pairwise Lt)(h1:a≤b)(h2:b≤U)(gC:l.length=U)(qg:U≤cap)(rT:cap≤maxLen)(ari:U<maxLen):VC Tryz.prog G 163 [aP (some ⟨bd,0,none⟩) U cap,ae (a:Nat),ae (b:Nat),.eH (.func fc) O] (⟨bd,3,cap*1,(l).flatMap cI⟩::Z) (fun r S'=>r = .dD []∧∃lz,Part (Rc cF Lt) l lz a b∧S'=⟨bd,3,cap*1,(lz).flatMap cI⟩::Z):=by
 refine VC.body func163 rfl ntmps163 aQ fun X0 w0 bf=>?_;have c8:=dV;refine af [0,1,2,3,8] ?_;refine eG [0,1,2,3] (fun aS _ (E:Nat×List Int) aE=>match E with|(i,cur)=>((i≤b→oU (Rc cF Lt) l cur a i))∧(a<i)∧((a<b→i≤b))∧((a=b→cur=l))∧((cur).length=U)∧aE=(⟨53,(8,ae (i:Nat))::aS,(⟨bd,3,cap*1,(cur).flatMap cI⟩::Z)⟩:St)) (fun (E:Nat×List Int)=>match E with|(i,cur)=>b-i) ((a+1),l) ⟨(fun q=>af6 w4),(Nat.lt_succ_self _),(fun q=>q),(fun _=>rfl),gC,rfl⟩ ?_;rintro⟨i,cur⟩ _ ⟨hs,Zu,hib,ry,kD,rfl⟩;refine af [0,1,2,3,8,14] ?_;refine av ?_ ?_<;>intro aL bB
 ·have aa:i<b:=(by omega)
  refine af [0,1,2,3,8,9] ?_;refine eG [0,1,2,3,8] (fun aS _ (E:Nat×List Int) aE=>match E with|(j,lP)=>(tq (Rc cF Lt) l lP a i j)∧((lP).length=U)∧aE=(⟨53,(9,ae (j:Nat))::aS,(⟨bd,3,cap*1,(lP).flatMap cI⟩::Z)⟩:St)) (fun (E:Nat×List Int)=>match E with|(j,lP)=>j) (i,cur) ⟨(acI (hs w4) w4),kD,rfl⟩ ?_;rintro⟨j,lP⟩ _ ⟨hj,Ao,rfl⟩;have jQ:=hj.len;have rh:j<lP.length:=(by omega)
  have rf:j-1<lP.length:=(by omega)
  refine CD.seq ?_;refine CD.seq ?_;refine iv 14 (ax (take 1 _)) ?_ (fun _ h=>(Sublist.map _ (take_sublist _ _)).subset h);refine aD 0 rfl bI ?_;refine aD 1 rfl bI ?_;refine aD 2 rfl qs ?_;refine aD 3 rfl bI ?_;refine dZ.split (t:=21) lk (fun qY=>?_) (fun qY=>?_)
  ·have I:=qY;(try simp only[V.nL,ne_eq] at I)
   refine aD 4 rfl bI ?_;refine aD 5 rfl bI ?_;refine aD 6 rfl bI ?_;refine aD 7 rfl (dO 1 (h:=by first|exact .l (j:=j) rfl w4|exact .r (j:=j) rfl w4)) ?_;refine aD 8 rfl fa ?_;refine aD 9 rfl bI ?_;refine aD 10 rfl bI ?_;refine aD 11 rfl (dA rfl ot bP (iy (r:=((j-1:Nat):Int)) (by rw[show((j:Int)-1)=((j-1:Nat):Int) by have Ee:=of_decide_eq_true qY;omega];exact wrap_i64 (by have Ee:=of_decide_eq_true qY;omega) w4))) ?_;refine aD 12 rfl (dO 1 (h:=by first|exact .l (j:=j-1) rfl w4|exact .r (j:=j-1) rfl w4)) ?_;refine aD 13 rfl fa ?_;refine dZ.later rfl ?_;refine fB ?_;have Zv:∀x∈lP,V x:=fun x hx=>hV x (hj.perm.subset hx);refine OD.lY (f:=fc) (args:=[_,_]) (Sf:=Z) iJ rfl rfl ot vU (hc _ _ (Zv _ (getElem_mem rh)) (Zv _ (getElem_mem rf))) rfl ⟨ot,ot,trivial⟩ (perm_append_singleton _ _).symm ?_;rintro _ S2 ⟨rfl,iT⟩;rw[iT];clear iT;refine OD.perm (perm_append_singleton _ _) ?_;refine an 53 [0,1,2,3,8,9,34] ?_;refine av ?_ ?_<;>intro aY cD
   ·have hja:a<j:=(by have q:=of_decide_eq_true qY;omega)
    have ah5:cF (lP[j]'rh) (lP[j-1]'rf)<0:=cD;refine CD.skip ?_;refine CD.seq ?_;refine CD.block ?_;refine iv 16 (ax (eraseIdx _ 0)) ?_ (fun _ h=>(Sublist.map _ (eraseIdx_sublist _ 0)).subset h);refine aD 0 rfl bI ?_;refine aD 1 rfl bI ?_;refine aD 2 rfl bI ?_;refine aD 3 rfl bI ?_;refine aD 4 rfl (dA rfl ot bP (iy (r:=((j-1:Nat):Int)) NE)) ?_;refine aD 5 rfl bI ?_;refine aD 6 rfl bI ?_;refine aD 7 rfl (dA rfl ot bP (iy (r:=((j-1:Nat):Int)) NE)) ?_;refine aD 8 rfl (dO 1 (h:=by first|exact .l (j:=j-1) rfl w4|exact .r (j:=j-1) rfl w4)) ?_;refine aD 10 rfl bI ?_;refine aD 11 rfl bI ?_;refine aD 12 rfl (dO 1 (h:=by first|exact .l (j:=j) rfl w4|exact .r (j:=j) rfl w4)) ?_;refine dZ.later rfl ?_;refine AD.two (i:=9) (j:=13) aC ?_ ?_
    ·refine at_ rfl fa ?_;refine AD.one (i:=13) aC ?_;exact XN
    refine at_ rfl fa ?_;refine AD.one (i:=9) aC ?_;exact XN
   exact X7
  have I:=qY;(try simp only[V.nL,ne_eq] at I)
  refine mF 4 rfl ?_;refine mF 5 rfl ?_;refine mF 6 rfl ?_;refine mF 7 rfl ?_;refine mF 8 rfl ?_;refine mF 9 rfl ?_;refine mF 10 rfl ?_;refine mF 11 rfl ?_;refine mF 12 rfl ?_;refine mF 13 rfl ?_;refine dZ.later rfl ?_;refine fB ?_;refine bp [0,1,2,3,8,9,34] ?_;refine gq ?_;exact X7
 have nF:oU (Rc cF Lt) l cur a b:=(Nat.eq_or_lt_of_le h1).elim (fun q=>by subst q;rw[ry rfl];exact JX w4) (fun q=>(show i=b by omega) ▸ hs w4);refine aM _ ?_;exact⟨rfl,_,nF.part,rfl⟩

end Go.Proofs.YtkgmonfgofobaaaGreatDoor.So
namespace Go.Proofs.YtkgmonfgofobaaaGreatDoor.So
open List
open Go.Proofs.Tryz
variable {i:Nat}
def Mv(P B Q:List Int)(x:Int)(t:Nat):List Int:=P++(B.take t++x::(B.drop t++Q))
variable {P B Q:List Int} {x:Int} {t:Nat}
theorem Gr(h:t≤B.length):(Mv P B Q x t).length=P.length+(B.length+1+Q.length):=by
 unfold Mv;simp only[length_append,length_cons,length_take,length_drop];omega
theorem F6(h:t<B.length):Mv P B Q x t=(P++B.take t)++x::B[t]::(B.drop (t+1)++Q):=by
 unfold Mv;rw[drop_eq_getElem_cons h];simp only[append_assoc,cons_append]
theorem F7(h:t<B.length):Mv P B Q x (t+1)=(P++B.take t)++B[t]::x::(B.drop (t+1)++Q):=F5 h
theorem Am(h:t<B.length):(P++B.take t).length=P.length+t:=by rw[length_append,length_take];omega
theorem ahH(h:t<B.length)(h0:P.length+t<(Mv P B Q x t).length):(Mv P B Q x t)[P.length+t]=x:=by
 simp only[F6 h];rw[EG _ (Am h).symm]
theorem af7(h:t<B.length)(h0:P.length+t+1<(Mv P B Q x t).length):(Mv P B Q x t)[P.length+t+1]=B[t]:=by
 simp only[F6 h];rw[EH _ (by rw[Am h])]
theorem aep(h:t<B.length):((Mv P B Q x t).set (P.length+t) B[t]).set (P.length+t+1) x=Mv P B Q x (t+1):=by
 rw[F6 h,F7 h,←Am (P:=P) h,Jr]
theorem af8(h:t<B.length):((Mv P B Q x (t+1)).set (P.length+t+1) B[t]).set (P.length+t) x=Mv P B Q x t:=by
 rw[F6 h,F7 h,←Am (P:=P) h,set_comm _ _ w4,Jr]

variable {R Lt:Int→Int→Prop} {l l1 l2 l3:List Int} {a s m e b mid:Nat}
theorem UO(ht:∀{x y z:Int},R x y→R y z→R x z){P B Q:List Int}{x:Int}{s t:Nat}(E:B.Pairwise R)(hs:s≤B.length)(hk:t≤B.length)(h1:t=0∨∃h:t-1<B.length,R B[t-1] x)(h2:t=B.length∨∃h:t<B.length,R x B[t]) :
  Part R (Mv P B Q x s) (Mv P B Q x t) P.length (P.length+(B.length+1)):=by
 have hp:∀t,(B.take t++x::B.drop t).Perm (x::B):=fun t=>List.perm_middle.trans (by rw[take_append_drop]);refine⟨P,B.take t++x::B.drop t,B.take s++x::B.drop s,Q,by unfold Mv;simp,by unfold Mv;simp,rfl,?_,(hp t).trans (hp s).symm,UM ht E hk h1 h2⟩;have:=(hp t).length_eq;simp only[length_cons] at this;rw[this]
def qz(R Lt:Int→Int→Prop)(l:List Int)(a m b:Nat):Prop:=∃(P A B Q:List Int),l=P++(A++(B++Q))∧P.length=a∧a+A.length=m∧m+B.length=b∧A.Pairwise R∧B.Pairwise R∧∀x∈A,∀y∈B,Lt x y
theorem qz.len(h:qz R Lt l a m b):a≤m∧m≤b∧b≤l.length:=by
 obtain⟨P,A,B,Q,rfl,rfl,rfl,rfl,_⟩:=h;simp only[length_append];omega
theorem qz.lt(h:qz R Lt l a m b){j:Nat}(h1:a≤i)(h2:i<m)(h3:m≤j)(h4:j<b)(hi:i<l.length)(hj:j<l.length):Lt l[i] l[j]:=by
 obtain⟨P,A,B,Q,rfl,rfl,rfl,rfl,_,_,h⟩:=h;refine h _ ?_ _ ?_
 ·rw[getElem_append_right h1,getElem_append_left w4];exact getElem_mem _
 rw[getElem_append_right w4,getElem_append_right w4,getElem_append_left w4];exact getElem_mem _
theorem Rt{P M Q:List Int}(h:M.Pairwise R):Part R (P++(M++Q)) (P++(M++Q)) P.length (P.length+M.length):=⟨P,M,M,Q,rfl,rfl,rfl,rfl,.refl _,h⟩
theorem Tm{P E Q:List Int}{x y:Nat}(h:Part R (P++(E++Q)) l x y)(hx:x=P.length)(hy:y=P.length+E.length):∃M,l=P++(M++Q)∧M.Perm E∧M.Pairwise R:=by
 obtain⟨P',M,U,Q',h1,h2,h3,h4,h5,h6⟩:=h;have hl:=h5.length_eq;obtain⟨e1,e2⟩:=append_inj h2 w4;obtain⟨I,O⟩:=append_inj e2 w4;subst e1 I O;exact⟨M,h1,h5,h6⟩
def uD(R Lt:Int→Int→Prop)(l l1:List Int)(a s m e b mid:Nat):Prop:=∃(P A1 A2 B1 B2 Q:List Int),l=P++(A1++(A2++(B1++(B2++Q))))∧l1=P++(A1++(B1++(A2++(B2++Q))))∧P.length=a∧a+A1.length=s∧s+A2.length=m∧m+B1.length=e∧e+B2.length=b∧s+B1.length=mid ∧
 A1.Pairwise R∧A2.Pairwise R∧B1.Pairwise R∧B2.Pairwise R∧(∀x∈A1,∀y∈B1,Lt x y)∧(∀x∈A2,∀y∈B2,Lt x y)∧∀x∈A1++B1,∀y∈A2++B2,R x y
theorem af9 (ht:∀{x y z:Int},R x y→R y z→R x z) (h:qz R Lt l a m b) (h1:a≤s) (h2:s≤m) (h3:m≤e) (h4:e≤b) (hm:s+(e-m)=mid)
  (k1:s=a∨e=b∨∃(p:s-1<l.length) (q:e<l.length),R l[s-1] l[e]) (k2:e=m∨s=m∨∃(p:e-1<l.length) (q:s<l.length),R l[e-1] l[s]):∃l1,uD R Lt l l1 a s m e b mid∧sy l1 l m (m-s) (e-m):=by
 obtain⟨P,A,B,Q,rfl,rfl,rfl,rfl,hA,hB,aa⟩:=h;obtain⟨i,rfl⟩:∃i,s=P.length+i:=⟨s-P.length,by omega⟩
 obtain⟨j,rfl⟩:∃j,e=P.length+A.length+j:=⟨e-(P.length+A.length),by omega⟩
 have E:∀k (h:k<A.length) (q:P.length+k<(P++(A++(B++Q))).length),(P++(A++(B++Q)))[P.length+k]=A[k]:=fun k h q=>by
  rw[getElem_append_right w4,getElem_append_left w4];simp
 have I:∀k (h:k<B.length) (q:P.length+A.length+k<(P++(A++(B++Q))).length),(P++(A++(B++Q)))[P.length+A.length+k]=B[k]:=fun k h q=>by
  rw[getElem_append_right w4,getElem_append_right w4,getElem_append_left w4];congr 1;omega
 have hc:=acH (R:=R) ht hA hB (i:=i) (j:=j) w4 w4 (by
  rcases Nat.eq_zero_or_pos i with q|q
  ·exact .inl q
  rcases k1 with k1|k1|⟨p1,p2,k1⟩
  ·omega
  ·exact .inr (.inl w4)
  ·rcases Nat.lt_or_ge j B.length with q2|q2
   ·refine .inr (.inr ⟨by omega,q2,?_⟩);have e1:=E (i-1) w4 w4;simp only[show P.length+i-1=P.length+(i-1) by omega] at k1;rw[e1,I j q2] at k1;exact k1
   exact .inr (.inl w4)) (by
  rcases Nat.eq_zero_or_pos j with q|q
  ·exact .inl q
  rcases k2 with k2|k2|⟨p1,p2,k2⟩
  ·omega
  ·exact .inr (.inl w4)
  rcases Nat.lt_or_ge i A.length with q2|q2
  ·refine .inr (.inr ⟨by omega,q2,?_⟩);have e1:=I (j-1) w4 w4;simp only[show P.length+A.length+j-1=P.length+A.length+(j-1) by omega] at k2;rw[e1,E i q2] at k2;exact k2
  exact .inr (.inl w4))
 have la1:(A.take i).length=i:=(by rw[length_take];omega)
 have lb1:(B.take j).length=j:=(by rw[length_take];omega)
 have la2:(A.drop i).length=A.length-i:=length_drop;have lb2:(B.drop j).length=B.length-j:=length_drop;have O:A.take i++A.drop i=A:=take_append_drop ..;have U:B.take j++B.drop j=B:=take_append_drop ..;have Z:(A.take i++A.drop i).Pairwise R:=(by rw[O];exact hA)
 have pb:(B.take j++B.drop j).Pairwise R:=(by rw[U];exact hB)
 have ea:A++(B++Q)=A.take i++(A.drop i++(B.take j++(B.drop j++Q))):=(by rw[←append_assoc (A.take i),O,←append_assoc (B.take j),U])
 refine⟨P++(A.take i++(B.take j++(A.drop i++(B.drop j++Q)))),⟨P,A.take i,A.drop i,B.take j,B.drop j,Q,by rw[ea],rfl,rfl,by omega,by omega,by omega,by omega,by omega,(pairwise_append.1 Z).1,(pairwise_append.1 Z).2.1,(pairwise_append.1 pb).1,(pairwise_append.1 pb).2.1,fun x hx y hy=>aa x (mem_of_mem_take hx) y (mem_of_mem_take hy),fun x hx y hy=>aa x (mem_of_mem_drop hx) y (mem_of_mem_drop hy),hc⟩,
  P++A.take i,A.drop i,B.take j,B.drop j++Q,by rw[ea];simp,by omega,by omega,by rw[length_append];omega,by simp⟩
theorem uD.perm(h:uD R Lt l l1 a s m e b mid):l1.Perm l:=by
 obtain⟨P,E,I,O,B2,Q,rfl,rfl,_⟩:=h;refine Perm.append_left P (Perm.append_left E ?_);rw[←append_assoc O,←append_assoc I];exact List.perm_append_comm.append_right _
theorem aga(h:uD R Lt l l1 a s m e b mid):qz R Lt l1 a s mid:=by
 obtain⟨P,E,I,O,B2,Q,rfl,rfl,e1,e2,Z,e4,e5,U,p1,p2,p3,p4,q1,q2,q3⟩:=h;exact⟨P,E,O,I++(B2++Q),rfl,e1,e2,U,p1,p3,q1⟩
theorem Tn(h:uD R Lt l l1 a s m e b mid)(hn:¬(a<s∧s<mid)):Part R l1 l1 a mid:=by
 obtain⟨P,E,O,I,B2,Q,rfl,rfl,rfl,e2,U,Z,e5,e6,p1,p2,p3,p4,q1,q2,q3⟩:=h;have:(E++I).Pairwise R:=by
  rcases Nat.eq_zero_or_pos E.length with h|h
  ·rw[length_eq_zero_iff.1 h];exact p3
  rw[length_eq_zero_iff.1 (show I.length=0 by omega),append_nil];exact p1
 have:=Rt (P:=P) (Q:=O++(B2++Q)) this;rw[append_assoc,length_append] at this;rwa [show P.length+(E.length+I.length)=mid by omega] at this
theorem K1(h:uD R Lt l l1 a s m e b mid)(k:Part R l1 l2 a mid):∃(P I E O B2 Q M:List Int),l=P++(I++(E++(O++(B2++Q))))∧l2=P++(M++(E++(B2++Q)))∧P.length=a∧M.length+a=mid∧M.Perm (I++O)∧mid+E.length=e∧e+B2.length=b∧M.Pairwise R∧E.Pairwise R∧B2.Pairwise R∧(∀x∈E,∀y∈B2,Lt x y)∧∀x∈M,∀y∈E++B2,R x y:=by
 obtain⟨P,I,E,O,B2,Q,rfl,rfl,rfl,e2,e3,e4,e5,e6,p1,p2,p3,U,q1,q2,Z⟩:=h;rw[←append_assoc I] at k;obtain⟨M,h1,h2,h3⟩:=Tm k rfl v8;have:=h2.length_eq;rw[length_append] at this;exact⟨P,I,E,O,B2,Q,M,rfl,h1,rfl,by omega,h2,by omega,by omega,h3,p2,U,q2,fun x hx=>Z x (h2.subset hx)⟩
theorem aeq(h:uD R Lt l l1 a s m e b mid)(k:Part R l1 l2 a mid):qz R Lt l2 mid e b:=by
 obtain⟨P,I,E,O,B2,Q,M,rfl,rfl,rfl,e1,e2,U,Z,p1,p2,p3,q1,q2⟩:=K1 h k;exact⟨P++M,E,B2,Q,by simp,by rw[length_append];omega,by omega,by omega,p2,p3,q1⟩
theorem QD(h:uD R Lt l l1 a s m e b mid)(k:Part R l1 l2 a mid)(hn:¬(mid<e∧e<b)):Part R l2 l2 mid b:=by
 obtain⟨P,I,E,O,B2,Q,M,rfl,rfl,rfl,e1,e2,U,Z,p1,p2,p3,q1,q2⟩:=K1 h k;have:(E++B2).Pairwise R:=by
  rcases Nat.eq_zero_or_pos E.length with h|h
  ·rw[length_eq_zero_iff.1 h];exact p3
  rw[length_eq_zero_iff.1 (show B2.length=0 by omega),append_nil];exact p2
 have:=Rt (P:=P++M) (Q:=Q) this;rw[append_assoc,length_append,length_append,append_assoc] at this;rwa [show P.length+M.length+(E.length+B2.length)=b by omega,show P.length+M.length=mid by omega] at this
theorem FT(h:uD R Lt l l1 a s m e b mid)(k:Part R l1 l2 a mid)(j:Part R l2 l3 mid b):Part R l l3 a b:=by
 obtain⟨P,E,I,O,B2,Q,M,rfl,rfl,rfl,e1,e2,Z,e4,p1,p2,p3,q1,q2⟩:=K1 h k;rw[←append_assoc I,←append_assoc P] at j;obtain⟨U,h1,h2,h3⟩:=Tm j v8 (by rw[length_append,length_append];omega);have hl:=e2.length_eq;have iu:=h2.length_eq;rw[length_append] at hl iu;refine⟨P,M++U,E++(I++(O++B2)),Q,by rw[h1];simp,by simp,rfl,by rw[length_append];omega,?_,pairwise_append.2 ⟨p1,h3,fun x hx y hy=>q2 x hx y (h2.subset hy)⟩⟩;refine(e2.append h2).trans ?_;rw[append_assoc E];refine Perm.append_left E ?_;rw[←append_assoc O,←append_assoc I];exact List.perm_append_comm.append_right B2
theorem Part.perm(h:Part R l l1 a b):l1.Perm l:=by
 obtain⟨P,M,E,Q,rfl,rfl,_,_,hp,_⟩:=h;exact(hp.append_right Q).append_left P
theorem Part.len(h:Part R l l1 a b):l1.length=l.length:=h.perm.length_eq
theorem ac1{T cur:List Int}{j:Nat}(h:sy T cur m i j)(hz:i=0∨j=0):T=cur:=by
 obtain⟨P,X,Y,Q,rfl,rfl,rfl,hm,rfl⟩:=h;rcases hz with h|h
 ·rw[length_eq_zero_iff.1 h];rfl
 rw[length_eq_zero_iff.1 h];rfl
theorem aer(ht:∀{x y z:Int},R x y→R y z→R x z)(h:qz R Lt l a m b)(hm:m=a+1)(h1:m≤i)(h2:i≤b)(k1:i=m∨∃(p:i-1<l.length) (q:a<l.length),R l[i-1] l[a])(k2:i=b∨∃(p:a<l.length) (q:i<l.length),R l[a] l[i]) :
  ∃(P B Q:List Int) (x:Int),P.length=a∧l=Mv P B Q x 0∧i-m≤B.length∧m+B.length=b∧Part R l (Mv P B Q x (i-m)) a b:=by
 obtain⟨P,A,B,Q,rfl,rfl,rfl,rfl,hA,hB,aa⟩:=h;obtain⟨x,rfl⟩:=length_eq_one_iff.1 (show A.length=1 by omega);have E:∀(q:P.length<(P++([x]++(B++Q))).length),(P++([x]++(B++Q)))[P.length]=x:=fun q=>by rw[getElem_append_right w4];simp
 have I:∀k (h:k<B.length) (q:P.length+1+k<(P++([x]++(B++Q))).length),(P++([x]++(B++Q)))[P.length+1+k]=B[k]:=fun k h q=>by
  rw[getElem_append_right w4,getElem_append_right iB,getElem_append_left iB];simp only[length_singleton];congr 1;omega
 have lN:([x]:List Int).length=1:=rfl;rw[lN] at *;obtain⟨t,rfl⟩:∃t,i=P.length+1+t:=⟨i-(P.length+1),by omega⟩
 rw[show P.length+1+t-(P.length+1)=t by omega];have hp:=UO (R:=R) (P:=P) (B:=B) (Q:=Q) (x:=x) (s:=0) (t:=t) ht hB (Nat.zero_le _) w4 (by
  rcases Nat.eq_zero_or_pos t with q|q
  ·exact .inl q
  rcases k1 with k1|⟨p1,p2,k1⟩
  ·omega
  ·refine .inr ⟨by omega,?_⟩;have e1:=I (t-1) w4 w4;simp only[show P.length+1+t-1=P.length+1+(t-1) by omega] at k1;rw[E,e1] at k1;exact k1) (by
  rcases k2 with k2|⟨p1,p2,k2⟩
  ·exact .inl w4
  rcases Nat.lt_or_ge t B.length with q|q
  ·exact .inr ⟨q,by rw[E,I t q] at k2;exact k2⟩
  exact .inl w4)
 refine⟨P,B,Q,x,rfl,rfl,by omega,rfl,?_⟩;rw[show P.length+(B.length+1)=P.length+1+B.length by omega] at hp;exact hp
theorem acJ(ht:∀{x y z:Int},R x y→R y z→R x z)(h:qz R Lt l a m b)(hm:b=m+1)(h1:a≤i)(h2:i≤m)(k1:i=a∨∃(p:i-1<l.length) (q:m<l.length),R l[i-1] l[m])(k2:i=m∨∃(p:m<l.length) (q:i<l.length),R l[m] l[i]) :
  ∃(P B Q:List Int) (x:Int),P.length=a∧l=Mv P B Q x (m-a)∧i-a≤B.length∧a+B.length=m∧Part R l (Mv P B Q x (i-a)) a b:=by
 obtain⟨P,A,B,Q,rfl,rfl,rfl,rfl,hA,hB,aa⟩:=h;obtain⟨x,rfl⟩:=length_eq_one_iff.1 (show B.length=1 by omega);have E:∀(q:P.length+A.length<(P++(A++([x]++Q))).length),(P++(A++([x]++Q)))[P.length+A.length]=x:=fun q=>by
  rw[getElem_append_right w4,getElem_append_right w4];simp
 have I:∀k (h:k<A.length) (q:P.length+k<(P++(A++([x]++Q))).length),(P++(A++([x]++Q)))[P.length+k]=A[k]:=fun k h q=>by
  rw[getElem_append_right w4,getElem_append_left w4];simp
 have lN:([x]:List Int).length=1:=rfl;rw[lN] at *;obtain⟨t,rfl⟩:∃t,i=P.length+t:=⟨i-P.length,by omega⟩
 rw[show P.length+t-P.length=t by omega,show P.length+A.length-P.length=A.length by omega];have he:P++(A++([x]++Q))=Mv P A Q x A.length:=(by unfold Mv;simp)
 have hp:=UO (R:=R) (P:=P) (B:=A) (Q:=Q) (x:=x) (s:=A.length) (t:=t) ht hA (Nat.le_refl _) w4 (by
  rcases Nat.eq_zero_or_pos t with q|q
  ·exact .inl q
  rcases k1 with k1|⟨p1,p2,k1⟩
  ·omega
  ·refine .inr ⟨by omega,?_⟩;have e1:=I (t-1) w4 w4;simp only[show P.length+t-1=P.length+(t-1) by omega] at k1;rw[E,e1] at k1;exact k1) (by
  rcases k2 with k2|⟨p1,p2,k2⟩
  ·exact .inl w4
  rcases Nat.lt_or_ge t A.length with q|q
  ·exact .inr ⟨q,by rw[E,I t q] at k2;exact k2⟩
  exact .inl w4)
 refine⟨P,A,Q,x,rfl,he,by omega,rfl,?_⟩;rw[he,show P.length+A.length+1=P.length+(A.length+1) by omega];exact hp
theorem aes(h:t<B.length)(h0:P.length+t<(Mv P B Q x (t+1)).length):(Mv P B Q x (t+1))[P.length+t]=B[t]:=by
 simp only[F7 h];rw[EG _ (Am h).symm]
theorem aet(h:t<B.length)(h0:P.length+t+1<(Mv P B Q x (t+1)).length):(Mv P B Q x (t+1))[P.length+t+1]=x:=by
 simp only[F7 h];rw[EH _ (by rw[Am h])]
theorem agK(h:t<B.length)(ha:P.length=a)(h0:a+t<(Mv P B Q x t).length)(h1:a+t+1<(Mv P B Q x t).length):((Mv P B Q x t).set (a+t) (Mv P B Q x t)[a+t+1]).set (a+t+1) (Mv P B Q x t)[a+t]=Mv P B Q x (t+1):=by
 subst ha;rw[af7 h,ahH h,aep h]
theorem agJ(h:t<B.length)(ha:P.length=a)(h0:a+t<(Mv P B Q x (t+1)).length)(h1:a+t+1<(Mv P B Q x (t+1)).length):((Mv P B Q x (t+1)).set (a+t+1) (Mv P B Q x (t+1))[a+t]).set (a+t) (Mv P B Q x (t+1))[a+t+1]=Mv P B Q x t:=by
 subst ha;rw[aes h,aet h,af8 h]

end Go.Proofs.YtkgmonfgofobaaaGreatDoor.So
namespace Go.Proofs.YtkgmonfgofobaaaGreatDoor.So
open List
open Go.Proofs.Tryz
open Go.RowKit V Tw
variable {G:List (Nat×List Value)}
theorem aeu(ln cap O fc:Nat)(U:List D)(I:List ah)(cF:Int→Int→Int)(V:Int→Prop)(Lt:Int→Int→Prop)(hc:∀x y,V x→V y→VC Tryz.prog G fc ([ae x,ae y]++U) I (fun r S'=>r=ae (cF x y)∧S'=I))(Z:∀args w,(callFunc fc args).run Tryz.prog w = .ok (.enter fc args) w)(ht:∀{x y z:Int},Rc cF Lt x y→Rc cF Lt y z→Rc cF Lt x z)(ha:∀x y,0≤cF y x→cF x y≤0)(qg:ln≤cap)(rT:cap≤maxLen)(lR:ln≤1000000)(n:Nat)(ih:∀k,k<n→∀(l:List Int) (a m b:Nat),b-a=k→qz (Rc cF Lt) Lt l a m b→a<m→m<b→l.length=ln→(∀x∈l,V x)→VC Tryz.prog G 164 [aP (some ⟨O,0,none⟩) ln cap,ae (a:Nat),ae (m:Nat),ae (b:Nat),.eH (.func fc) U] (⟨O,3,cap*1,(l).flatMap cI⟩::I) (fun r S'=>r = .dD []∧∃lz,Part (Rc cF Lt) l lz a b∧S'=⟨O,3,cap*1,(lz).flatMap cI⟩::I))(l:List Int)(a m b:Nat)(hn:b-a=n)(h:qz (Rc cF Lt) Lt l a m b)(h1:a<m)(h2:m<b)(gC:l.length=ln)(hV:∀x∈l,V x):VC Tryz.prog G 164 [aP (some ⟨O,0,none⟩) ln cap,ae (a:Nat),ae (m:Nat),ae (b:Nat),.eH (.func fc) U] (⟨O,3,cap*1,(l).flatMap cI⟩::I) (fun r S'=>r = .dD []∧∃lz,Part (Rc cF Lt) l lz a b∧S'=⟨O,3,cap*1,(lz).flatMap cI⟩::I):=by
 refine VC.body func164 rfl ntmps164 aQ fun X0 w0 bf=>?_;have c8:=dV;have hlen:=h.len;refine cM [0,1,2,3,4,28] ?_;refine aR 2 ?_ (h:=by exact(dA rfl ot ot (iy (r:=((m-a:Nat):Int)) q8)));refine bH ?_;refine av ?_ ?_<;>intro aL bB
 ·have Ed:m=a+1:=(by omega)
  refine af [0,1,3,4,10] ?_;refine af [0,1,4,10,11] ?_;refine eG [0,1,4] (fun aS _ (E:Nat×Nat) aE=>match E with|(i,j)=>(m≤i)∧(i≤j)∧(j≤b)∧((i=m∨∃(p:i-1<l.length) (q:a<l.length),(Rc cF Lt) l[i-1] l[a]))∧((j=b∨∃(p:a<l.length) (q:j<l.length),(Rc cF Lt) l[a] l[j]))∧aE=(⟨220,(10,ae (i:Nat))::(11,ae (j:Nat))::aS,(⟨O,3,cap*1,(l).flatMap cI⟩::I)⟩:St)) (fun (E:Nat×Nat)=>match E with|(i,j)=>j-i) (m,b) ⟨(Nat.le_refl _),w4,(Nat.le_refl _),(.inl rfl),(.inl rfl),rfl⟩ ?_;rintro⟨i,j⟩ _ ⟨mM,Bl,hjb,ei,fF,rfl⟩;refine af [0,1,4,10,11,33] ?_;refine av ?_ ?_<;>intro aY cD
  ·have hh:i<j:=(by omega)
   have hH:((i+j)/2)<l.length:=(by omega)
   have hA:a<l.length:=(by omega)
   refine cM [0,1,4,10,11,12] ?_;refine aR 2 ?_ (h:=by exact(dA rfl ot ot (kr (r:=((i+j:Nat):Int)) AP)));refine aR 0 ?_ (h:=by exact(oX rfl ot (o8 (r:=((i+j:Nat):Int)) runUnderlying3 runUnderlying225 (IntWalk.u64_in _ w4))));refine aR 0 ?_ (h:=by exact(dA rfl ot bP (zC w7 CE)));refine aR 0 ?_ (h:=by exact(oX rfl ot (o8 (r:=((((i+j)/2):Nat):Int)) runUnderlying225 runUnderlying3 (wrap_i64 w4 w4))));refine bH ?_;refine CD.seq ?_;refine iv 9 (ax (take 1 _)) ?_ (fun _ h=>(Sublist.map _ (take_sublist _ _)).subset h);refine aD 0 rfl bI ?_;refine aD 1 rfl bI ?_;refine aD 2 rfl bI ?_;refine aD 3 rfl (dO 1 (h:=by first|exact .l (j:=((i+j)/2)) rfl w4|exact .r (j:=((i+j)/2)) rfl w4)) ?_;refine aD 4 rfl fa ?_;refine aD 5 rfl bI ?_;refine aD 6 rfl bI ?_;refine aD 7 rfl (dO 1 (h:=by first|exact .l (j:=a) rfl w4|exact .r (j:=a) rfl w4)) ?_;refine aD 8 rfl fa ?_;refine dZ.later rfl ?_;refine fB ?_;refine OD.lY (f:=fc) (args:=[_,_]) (Sf:=I) ap rfl rfl ot Z (hc _ _ (hV _ (getElem_mem hH)) (hV _ (getElem_mem hA))) rfl ⟨ot,ot,trivial⟩ (perm_append_singleton _ _).symm ?_;rintro _ S2 ⟨rfl,iT⟩;rw[iT];clear iT;refine OD.perm (perm_append_singleton _ _) ?_;refine an 220 [0,1,4,10,11,12,50] ?_;refine av ?_ ?_<;>intro cm cR
   ·have uE:(Rc cF Lt) (l[((i+j)/2)]'hH) (l[a]'hA):=FO cR;refine cc [0,1,4,10,11] ?_;exact Wt
   have A4:(Rc cF Lt) (l[a]'hA) (l[((i+j)/2)]'hH):=Gc ha (h.lt (Nat.le_refl _) w4 w4 w4 hA hH) w4;refine cc [0,1,4,10,11] ?_;exact Wy
  obtain rfl:i=j:=(by omega)
  obtain⟨P,B,Q,x,hP,hl,hiB,hB,LO⟩:=aer (R:=Rc cF Lt) (l:=l) (a:=a) (m:=m) (b:=b) (i:=i) ht h Ed mM hjb ei fF;subst hl;have lC:∀t,t≤B.length→(Mv P B Q x (t)).length=ln:=fun t ht=>by rw[Gr ht,←gC,Gr (Nat.zero_le _)]
  refine af [0,10,13] ?_;refine eG [0,10] (fun aS _ (t:Nat) aE=>(t≤i-m)∧aE=(⟨220,(13,ae (a+t:Nat))::aS,(⟨O,3,cap*1,(Mv P B Q x (t)).flatMap cI⟩::I)⟩:St)) (fun (t:Nat)=>i-m-t) 0 ⟨(Nat.zero_le _),rfl⟩ ?_;rintro t _ ⟨hti,rfl⟩;refine cM [0,10,13,58] ?_;refine aR 2 ?_ (h:=by exact(dA rfl ot bP (iy (r:=((i-1:Nat):Int)) (by rw[show(((i:Nat):Int)-1)=((i-1:Nat):Int) by omega];exact wrap_i64 w4 w4))));refine bH ?_;refine av ?_ ?_<;>intro da eA
  ·have NW:t<B.length:=(by omega)
   have uS:=lC t w4;refine CD.skip ?_;refine CD.seq ?_;refine CD.block ?_;refine iv 16 (ax (eraseIdx _ 0)) ?_ (fun _ h=>(Sublist.map _ (eraseIdx_sublist _ 0)).subset h);refine aD 0 rfl bI ?_;refine aD 1 rfl bI ?_;refine aD 2 rfl bI ?_;refine aD 3 rfl bI ?_;refine aD 4 rfl (dA rfl ot bP (kr (r:=((a+t+1:Nat):Int)) (by rw[show(((a+t:Nat):Int)+1)=((a+t+1:Nat):Int) by omega];exact wrap_i64 w4 w4))) ?_;refine aD 5 rfl bI ?_;refine aD 6 rfl bI ?_;refine aD 7 rfl (dA rfl ot bP (kr (r:=((a+t+1:Nat):Int)) (by rw[show(((a+t:Nat):Int)+1)=((a+t+1:Nat):Int) by omega];exact wrap_i64 w4 w4))) ?_;refine aD 8 rfl (dO 1 (h:=by first|exact .l (j:=a+t+1) rfl w4|exact .r (j:=a+t+1) rfl w4)) ?_;refine aD 10 rfl bI ?_;refine aD 11 rfl bI ?_;refine aD 12 rfl (dO 1 (h:=by first|exact .l (j:=a+t) rfl w4|exact .r (j:=a+t) rfl w4)) ?_;refine dZ.later rfl ?_;refine AD.two (i:=9) (j:=13) aC ?_ ?_
   ·refine at_ rfl fa ?_;refine AD.one (i:=13) aC ?_;exact XM
   refine at_ rfl fa ?_;refine AD.one (i:=9) aC ?_;exact XM
  obtain rfl:t=i-m:=(by omega)
  exact z59
 refine cM [0,1,2,3,4,80] ?_;refine aR 2 ?_ (h:=by exact(dA rfl ot ot (iy (r:=((b-m:Nat):Int)) q8)));refine bH ?_;refine av ?_ ?_<;>intro dR fH
 ·have Ed:b=m+1:=(by omega)
  refine af [0,2,4,14] ?_;refine af [0,2,4,14,15] ?_;refine eG [0,2,4] (fun aS _ (E:Nat×Nat) aE=>match E with|(i,j)=>(a≤i)∧(i≤j)∧(j≤m)∧((i=a∨∃(p:i-1<l.length) (q:m<l.length),(Rc cF Lt) l[i-1] l[m]))∧((j=m∨∃(p:m<l.length) (q:j<l.length),(Rc cF Lt) l[m] l[j]))∧aE=(⟨220,(14,ae (i:Nat))::(15,ae (j:Nat))::aS,(⟨O,3,cap*1,(l).flatMap cI⟩::I)⟩:St)) (fun (E:Nat×Nat)=>match E with|(i,j)=>j-i) (a,m) ⟨(Nat.le_refl _),w4,(Nat.le_refl _),(.inl rfl),(.inl rfl),rfl⟩ ?_;rintro⟨i,j⟩ _ ⟨Zu,Bl,Ov,ei,fF,rfl⟩;refine af [0,2,4,14,15,85] ?_;refine av ?_ ?_<;>intro fM gW
  ·have hh:i<j:=(by omega)
   have hH:((i+j)/2)<l.length:=(by omega)
   have hM:m<l.length:=(by omega)
   refine cM [0,2,4,14,15,16] ?_;refine aR 2 ?_ (h:=by exact(dA rfl ot ot (kr (r:=((i+j:Nat):Int)) AP)));refine aR 0 ?_ (h:=by exact(oX rfl ot (o8 (r:=((i+j:Nat):Int)) runUnderlying3 runUnderlying225 (IntWalk.u64_in _ w4))));refine aR 0 ?_ (h:=by exact(dA rfl ot bP (zC w7 CE)));refine aR 0 ?_ (h:=by exact(oX rfl ot (o8 (r:=((((i+j)/2):Nat):Int)) runUnderlying225 runUnderlying3 (wrap_i64 w4 w4))));refine bH ?_;refine CD.seq ?_;refine iv 9 (ax (take 1 _)) ?_ (fun _ h=>(Sublist.map _ (take_sublist _ _)).subset h);refine aD 0 rfl bI ?_;refine aD 1 rfl bI ?_;refine aD 2 rfl bI ?_;refine aD 3 rfl (dO 1 (h:=by first|exact .l (j:=m) rfl w4|exact .r (j:=m) rfl w4)) ?_;refine aD 4 rfl fa ?_;refine aD 5 rfl bI ?_;refine aD 6 rfl bI ?_;refine aD 7 rfl (dO 1 (h:=by first|exact .l (j:=((i+j)/2)) rfl w4|exact .r (j:=((i+j)/2)) rfl w4)) ?_;refine aD 8 rfl fa ?_;refine dZ.later rfl ?_;refine fB ?_;refine OD.lY (f:=fc) (args:=[_,_]) (Sf:=I) ap rfl rfl ot Z (hc _ _ (hV _ (getElem_mem hM)) (hV _ (getElem_mem hH))) rfl ⟨ot,ot,trivial⟩ (perm_append_singleton _ _).symm ?_;rintro _ S2 ⟨rfl,iT⟩;rw[iT];clear iT;refine OD.perm (perm_append_singleton _ _) ?_;refine an 220 [0,2,4,14,15,16,103] ?_;refine av ?_ ?_<;>intro jb px
   ·have uE:(Rc cF Lt) (l[((i+j)/2)]'hH) (l[m]'hM):=Gc ha (h.lt w4 w4 (Nat.le_refl _) w4 hH hM) w4;refine cc [0,2,4,14,15] ?_;exact Wt
   have A4:(Rc cF Lt) (l[m]'hM) (l[((i+j)/2)]'hH):=FO px;refine cc [0,2,4,14,15] ?_;exact Wy
  obtain rfl:i=j:=(by omega)
  obtain⟨P,B,Q,x,hP,hl,hiB,hB,LO⟩:=acJ (R:=Rc cF Lt) (l:=l) (a:=a) (m:=m) (b:=b) (i:=i) ht h Ed Zu Ov ei fF;subst hl;have lC:∀t,t≤B.length→(Mv P B Q x (t)).length=ln:=fun t ht=>by rw[Gr ht,←gC,Gr w4]
  refine af [0,14,17] ?_;refine eG [0,14] (fun aS _ (t:Nat) aE=>(i-a≤t)∧(t≤m-a)∧aE=(⟨220,(17,ae (a+t:Nat))::aS,(⟨O,3,cap*1,(Mv P B Q x (t)).flatMap cI⟩::I)⟩:St)) (fun (t:Nat)=>t) (m-a) ⟨w4,(Nat.le_refl _),rfl⟩ ?_;rintro t _ ⟨hti,htm,rfl⟩;refine af [0,14,17,110] ?_;refine av ?_ ?_<;>intro iS mY
  ·obtain⟨t,rfl⟩:∃k,t=k+1:=⟨t-1,by omega⟩
   have NW:t<B.length:=(by omega)
   have uS:=lC (t+1) w4;refine CD.skip ?_;refine CD.seq ?_;refine CD.block ?_;refine iv 16 (ax (eraseIdx _ 0)) ?_ (fun _ h=>(Sublist.map _ (eraseIdx_sublist _ 0)).subset h);refine aD 0 rfl bI ?_;refine aD 1 rfl bI ?_;refine aD 2 rfl bI ?_;refine aD 3 rfl bI ?_;refine aD 4 rfl (dA rfl ot bP (iy (r:=((a+t:Nat):Int)) ND)) ?_;refine aD 5 rfl bI ?_;refine aD 6 rfl bI ?_;refine aD 7 rfl (dA rfl ot bP (iy (r:=((a+t:Nat):Int)) ND)) ?_;refine aD 8 rfl (dO 1 (h:=by first|exact .l (j:=a+t) rfl w4|exact .r (j:=a+t) rfl w4)) ?_;refine aD 10 rfl bI ?_;refine aD 11 rfl bI ?_;refine aD 12 rfl (dO 1 (h:=by first|exact .l (j:=a+t+1) rfl w4|exact .r (j:=a+t+1) rfl w4)) ?_;refine dZ.later rfl ?_;refine AD.two (i:=9) (j:=13) aC ?_ ?_
   ·refine at_ rfl fa ?_;refine AD.one (i:=13) aC ?_;exact z28
   refine at_ rfl fa ?_;refine AD.one (i:=9) aC ?_;exact z28
  obtain rfl:t=i-a:=(by omega)
  exact z59
 obtain⟨mid,alN⟩:∃q,q=(a+b)/2:=⟨_,rfl⟩
 refine cM [0,1,2,3,4,18] ?_;refine aR 2 ?_ (h:=by exact(dA rfl ot ot (kr (r:=((a+b:Nat):Int)) AP)));refine aR 0 ?_ (h:=by exact(oX rfl ot (o8 (r:=((a+b:Nat):Int)) runUnderlying3 runUnderlying225 (IntWalk.u64_in _ w4))));refine aR 0 ?_ (h:=by exact(dA rfl ot bP (zC w7 CE)));refine aR 0 ?_ (h:=by exact(oX rfl ot (o8 (r:=((mid:Nat):Int)) runUnderlying225 runUnderlying3 (by rw[show(((a+b)/2:Nat):Int)=((mid:Nat):Int) by rw[alN]];exact wrap_i64 w4 w4))));refine bH ?_;refine cM [0,1,2,3,4,18,19] ?_;refine aR 2 ?_ (h:=by exact(dA rfl ot ot (kr (r:=((mid+m:Nat):Int)) AP)));refine bH ?_;refine af [0,1,2,3,4,18,19] ?_;refine iL [0,1,2,3,4,18,19] (fun aS kV aE=>∃(s0:Nat),∃(r0:Nat),((mid<m∧s0=mid+m-b∧r0=mid)∨(m≤mid∧s0=a∧r0=m))∧aE=(⟨220,(20,ae (s0:Nat))::(21,ae (r0:Nat))::aS,kV⟩:St)) ?_ ?_
 ·refine af [0,1,2,3,4,18,19,140] ?_;refine av ?_ ?_<;>intro qo Ay
  ·refine cM [0,1,2,3,4,18,19,20] ?_;refine aR 2 ?_ (h:=by exact(dA rfl ot ot (iy (r:=(((mid+m)-b:Nat):Int)) q8)));refine bH ?_;refine cc [0,1,2,3,4,18,19,20,21] ?_;refine⟨_,aJ,(mid+m-b),mid,(.inl ⟨by omega,rfl,rfl⟩),rfl⟩
  refine af [0,1,2,3,4,18,19,20] ?_;refine cc [0,1,2,3,4,18,19,20,21] ?_;refine⟨_,aJ,a,m,(.inr ⟨by omega,rfl,rfl⟩),rfl⟩
 rintro _ ⟨s0,r0,Iy,rfl⟩;refine cM [0,1,2,3,4,18,19,20,21,22] ?_;refine aR 1 ?_ (h:=by exact(dA rfl ot bP (iy (r:=(((mid+m)-1:Nat):Int)) (by rw[show((((mid+m):Nat):Int)-1)=(((mid+m)-1:Nat):Int) by omega];exact wrap_i64 w4 w4))));refine bH ?_;refine eG [0,1,2,3,4,18,19,22] (fun aS _ (E:Nat×Nat) aE=>match E with|(s,r)=>(s0≤s)∧(s≤r)∧(r≤r0)∧((s=s0∨∃(p:s-1<l.length) (q:mid+m-s<l.length),(Rc cF Lt) l[s-1] l[mid+m-s]))∧((r=r0∨∃(p:mid+m-r-1<l.length) (q:r<l.length),(Rc cF Lt) l[mid+m-r-1] l[r]))∧aE=(⟨220,(20,ae (s:Nat))::(21,ae (r:Nat))::aS,(⟨O,3,cap*1,(l).flatMap cI⟩::I)⟩:St)) (fun (E:Nat×Nat)=>match E with|(s,r)=>r-s) (s0,r0) ⟨(Nat.le_refl _),w4,(Nat.le_refl _),(.inl rfl),(.inl rfl),rfl⟩ ?_;rintro⟨s,r⟩ _ ⟨lR,arj,Zw,ei,fF,rfl⟩;refine af [0,1,2,3,4,18,19,20,21,22,151] ?_;refine av ?_ ?_<;>intro uZ C4
 ·have hh:s<r:=(by omega)
  have hC:((s+r)/2)<l.length:=(by omega)
  have hQ:(mid+m-1-((s+r)/2))<l.length:=(by omega)
  refine cM [0,1,2,3,4,18,19,20,21,22,23] ?_;refine aR 2 ?_ (h:=by exact(dA rfl ot ot (kr (r:=((s+r:Nat):Int)) AP)));refine aR 0 ?_ (h:=by exact(oX rfl ot (o8 (r:=((s+r:Nat):Int)) runUnderlying3 runUnderlying225 (IntWalk.u64_in _ w4))));refine aR 0 ?_ (h:=by exact(dA rfl ot bP (zC w7 CE)));refine aR 0 ?_ (h:=by exact(oX rfl ot (o8 (r:=((((s+r)/2):Nat):Int)) runUnderlying225 runUnderlying3 (wrap_i64 w4 w4))));refine bH ?_;refine CD.seq ?_;refine iv 11 (ax (take 1 _)) ?_ (fun _ h=>(Sublist.map _ (take_sublist _ _)).subset h);refine aD 0 rfl bI ?_;refine aD 1 rfl bI ?_;refine aD 2 rfl bI ?_;refine aD 3 rfl bI ?_;refine aD 4 rfl (dA rfl ot ot (iy (r:=(((mid+m-1)-((s+r)/2):Nat):Int)) q8)) ?_;refine aD 5 rfl (dO 1 (h:=by first|exact .l (j:=(mid+m-1-((s+r)/2))) rfl w4|exact .r (j:=(mid+m-1-((s+r)/2))) rfl w4)) ?_;refine aD 6 rfl fa ?_;refine aD 7 rfl bI ?_;refine aD 8 rfl bI ?_;refine aD 9 rfl (dO 1 (h:=by first|exact .l (j:=((s+r)/2)) rfl w4|exact .r (j:=((s+r)/2)) rfl w4)) ?_;refine aD 10 rfl fa ?_;refine dZ.later rfl ?_;refine fB ?_;refine OD.lY (f:=fc) (args:=[_,_]) (Sf:=I) ap rfl rfl ot Z (hc _ _ (hV _ (getElem_mem hQ)) (hV _ (getElem_mem hC))) rfl ⟨ot,ot,trivial⟩ (perm_append_singleton _ _).symm ?_;rintro _ S2 ⟨rfl,iT⟩;rw[iT];clear iT;refine OD.perm (perm_append_singleton _ _) ?_
  refine an 220 [0,1,2,3,4,18,19,20,21,22,23,171] ?_;refine av ?_ ?_<;>intro Hh GM
  ·have alO:(Rc cF Lt) (l[((s+r)/2)]'hC) (l[(mid+m-1-((s+r)/2))]'hQ):=Gc ha (h.lt w4 w4 w4 w4 hC hQ) w4;have uE:(Rc cF Lt) (l[((s+r)/2)+1-1]'w4) (l[mid+m-(((s+r)/2)+1)]'w4):=(by simpa only[show((s+r)/2)+1-1=((s+r)/2) by omega,show mid+m-(((s+r)/2)+1)=(mid+m-1-((s+r)/2)) by omega] using alO)
   refine cc [0,1,2,3,4,18,19,20,21,22] ?_;refine⟨((((s+r)/2)+1),r),_,cr,aJ,w4,w4,w4,(.inr ⟨by omega,by omega,uE⟩),fF,rfl⟩
  have alP:(Rc cF Lt) (l[(mid+m-1-((s+r)/2))]'hQ) (l[((s+r)/2)]'hC):=FO GM;have A4:(Rc cF Lt) (l[mid+m-((s+r)/2)-1]'w4) (l[((s+r)/2)]'w4):=(by simpa only[show mid+m-((s+r)/2)-1=(mid+m-1-((s+r)/2)) by omega] using alP)
  refine cc [0,1,2,3,4,18,19,20,21,22] ?_;refine⟨(s,((s+r)/2)),_,cr,aJ,w4,w4,w4,ei,(.inr ⟨by omega,by omega,A4⟩),rfl⟩
 obtain rfl:s=r:=(by omega)
 obtain⟨l1,qX,Mr⟩:=af9 (R:=Rc cF Lt) (l:=l) (a:=a) (m:=m) (b:=b) (s:=s) (e:=mid+m-s) (mid:=mid) ht h w4 w4 w4 w4 w4 (by rcases ei with q|q;(rcases Iy with q2|q2;exact .inr (.inl w4);exact .inl w4);exact .inr (.inr q)) (by rcases fF with q|q;(rcases Iy with q2|q2;exact .inl w4;exact .inr (.inl w4));exact .inr (.inr q));have lN:=Mr.len.2.2;refine cM [0,1,2,3,4,18,20,24] ?_;refine aR 2 ?_ (h:=by exact(dA rfl ot ot (iy (r:=(((mid+m)-s:Nat):Int)) q8)));refine bH ?_;refine iL [0,1,3,4,18,20,24] (fun aS _ aE=>aE=(⟨220,aS,(⟨O,3,cap*1,(l1).flatMap cI⟩::I)⟩:St)) ?_ ?_
 ·refine aB 4 ?_;refine bY 181 (fun ai9 ahI=>?_) (fun ai9 ahI=>?_)
  ·refine bp [0,1,2,3,4,18,20,24,185] ?_;refine av ?_ ?_<;>intro vO Gx
   ·refine dY 5 ?_;refine OD.call (R:=I) ap rfl rfl rfl call177 (ahG l l1 ln s m (mid+m-s) cap O (.eH (.func fc) U) [] Mr w4 w4 gC qg w4) ⟨ot,ot,ot,ot,ot,trivial⟩ (Perm.refl _) ?_;rintro _ _ ⟨rfl,rfl⟩;refine an 220 [0,1,3,4,18,20,24] ?_;refine⟨_,aJ,rfl⟩
   exact z119
  refine bp [0,1,2,3,4,18,20,24,185] ?_;refine gq ?_;exact z119
 rintro _ ⟨rfl⟩;refine iL [0,3,4,18,24] (fun aS _ aE=>∃(l2:List Int),(Part (Rc cF Lt) l1 l2 a mid)∧aE=(⟨220,aS,(⟨O,3,cap*1,(l2).flatMap cI⟩::I)⟩:St)) ?_ ?_
 ·refine aB 4 ?_;refine bY 195 (fun aja ahJ=>?_) (fun aja ahJ=>?_)
  ·refine bp [0,1,3,4,18,20,24,199] ?_;refine av ?_ ?_<;>intro ark aiG
   ·refine dY 5 ?_;refine OD.call (R:=[]) ap rfl rfl rfl call164 (ih (mid-a) w4 l1 a s mid rfl (aga qX) w4 w4 (lN.trans gC) (fun z hz=>hV z (qX.perm.subset hz))) ⟨ot,ot,ot,ot,ot,trivial⟩ pB ?_;rintro _ _ ⟨rfl,l2,oP,rfl⟩;refine OD.perm (S':=⟨O,3,cap*1,(l2).flatMap cI⟩::I) pB ?_;refine an 220 [0,3,4,18,24] ?_;refine⟨_,aJ,l2,oP,rfl⟩
   refine CD.skip ?_;refine⟨_,aJ,l1,(Tn qX w4),rfl⟩
  refine bp [0,1,3,4,18,20,24,199] ?_;refine gq ?_;refine CD.skip ?_;refine⟨_,aJ,l1,(Tn qX w4),rfl⟩
 rintro _ ⟨l2,oP,rfl⟩;refine aB 4 ?_;refine bY 209 (fun ajb ahK=>?_) (fun ajb ahK=>?_)
 ·refine bp [0,3,4,18,24,213] ?_;refine av ?_ ?_<;>intro arl aiH
  ·refine dY 5 ?_;refine OD.call (R:=[]) ap rfl rfl rfl call164 (ih (b-mid) w4 l2 mid (mid+m-s) b rfl (aeq qX oP) w4 w4 (oP.len.trans (lN.trans gC)) (fun z hz=>hV z (qX.perm.subset (oP.perm.subset hz)))) ⟨ot,ot,ot,ot,ot,trivial⟩ pB ?_;rintro _ _ ⟨rfl,l3,X4,rfl⟩;refine OD.perm (S':=⟨O,3,cap*1,(l3).flatMap cI⟩::I) pB ?_;refine an 220 [] ?_;exact z59
  exact z59
 refine bp [0,3,4,18,24,213] ?_;refine gq ?_;refine aM _ ?_;first|exact⟨rfl,_,LO,rfl⟩|exact⟨rfl,_,FT qX oP X4,rfl⟩|exact⟨rfl,_,FT qX oP (QD qX oP w4),rfl⟩
theorem VF(I cap bd O:Nat)(E:List D)(U:List ah)(cF:Int→Int→Int)(V:Int→Prop)(Lt:Int→Int→Prop)(hc:∀x y,V x→V y→VC Tryz.prog G O ([ae x,ae y]++E) U (fun r S'=>r=ae (cF x y)∧S'=U))(Z:∀args w,(callFunc O args).run Tryz.prog w = .ok (.enter O args) w)(ht:∀{x y z:Int},Rc cF Lt x y→Rc cF Lt y z→Rc cF Lt x z)(ha:∀x y,0≤cF y x→cF x y≤0)(qg:I≤cap)(rT:cap≤maxLen)(lR:I≤1000000):∀(n:Nat) (l:List Int) (a m b:Nat),b-a=n→qz (Rc cF Lt) Lt l a m b→a<m→m<b→l.length=I→(∀x∈l,V x)→VC Tryz.prog G 164 [aP (some ⟨bd,0,none⟩) I cap,ae (a:Nat),ae (m:Nat),ae (b:Nat),.eH (.func O) E] (⟨bd,3,cap*1,(l).flatMap cI⟩::U) (fun r S'=>r = .dD []∧∃lz,Part (Rc cF Lt) l lz a b∧S'=⟨bd,3,cap*1,(lz).flatMap cI⟩::U):=fun n=>Nat.strongRecOn n (aeu I cap bd O E U cF V Lt hc Z ht ha qg rT lR)

end Go.Proofs.YtkgmonfgofobaaaGreatDoor.So
namespace Go.Proofs.YtkgmonfgofobaaaGreatDoor.So
open List
open Go.Proofs.Tryz
variable {R Lt:Int→Int→Prop} {l l1 cur nZ:List Int} {a b m n k:Nat}
theorem Js(h:Part R l l1 a b):l1.drop b=l.drop b:=by
 obtain⟨P,M,E,Q,rfl,rfl,rfl,rfl,hp,_⟩:=h;rw[←append_assoc,drop_left' (by rw[length_append]),←append_assoc,drop_left' (by rw[length_append,hp.length_eq])]
theorem To(h:Part R l l1 a a):l1=l:=by
 obtain⟨P,M,E,Q,rfl,rfl,rfl,h1,hp,_⟩:=h;have hl:=hp.length_eq;rw[length_eq_zero_iff.1 (show M.length=0 by omega),length_eq_zero_iff.1 (show E.length=0 by omega)]
theorem J3(h:Part R l l1 0 n)(hn:l.length=n):l1.Perm l∧l1.Pairwise R:=by
 refine⟨h.perm,?_⟩;obtain⟨P,M,E,Q,rfl,rfl,h1,h2,hp,hs⟩:=h;have hl:=hp.length_eq;simp only[length_append] at hn;rw[length_eq_zero_iff.1 h1,length_eq_zero_iff.1 (show Q.length=0 by omega)];simpa using hs
def yW(R:Int→Int→Prop)(l cur:List Int)(k:Nat):Prop:=(k=0∧cur=l)∨(k=1∧Part R l cur 0 20)∨(k=2∧∃l1,Part R l l1 0 20∧Part R l1 cur 20 40)
def Hq(R:Int→Int→Prop)(l cur:List Int)(n:Nat):Prop:=∃l1,Part R l l1 0 20∧Part R l1 cur 20 n
theorem yW.perm(h:yW R l cur k):cur.Perm l:=by
 rcases h with ⟨_,rfl⟩|⟨_,h⟩|⟨_,l1,h1,h2⟩
 ·exact .refl _
 ·exact h.perm
 exact h2.perm.trans h1.perm
theorem aev(h:yW R l cur k)(hk:k≤1)(hp:Part R cur nZ (20*k) (20*(k+1))):yW R l nZ (k+1):=by
 rcases h with ⟨rfl,rfl⟩|⟨rfl,h⟩|⟨rfl,_⟩
 ·exact .inr (.inl ⟨rfl,hp⟩)
 ·exact .inr (.inr ⟨rfl,_,h,hp⟩)
 omega
theorem aew(h:yW R l cur k):cur.drop (20*k)=l.drop (20*k):=by
 rcases h with ⟨rfl,rfl⟩|⟨rfl,h⟩|⟨rfl,l1,h1,h2⟩
 ·rfl
 ·exact Js h
 rw[Js h2];have:=congrArg (drop 20) (Js h1);rw[drop_drop,drop_drop] at this;exact this
theorem agb(h:yW R l cur k)(h1:20*k≤n)(h2:n<20*(k+1))(h3:n≤40)(hl:l.length=n)(hp:Part R cur nZ (20*k) n):(n≤20∧nZ.Perm l∧nZ.Pairwise R)∨(20<n∧Hq R l nZ n):=by
 rcases h with ⟨rfl,rfl⟩|⟨rfl,h⟩|⟨rfl,l1,p1,p2⟩
 ·exact .inl ⟨by omega,J3 hp hl⟩
 ·rcases Nat.lt_or_ge 20 n with q|q
  ·exact .inr ⟨q,_,h,hp⟩
  obtain rfl:n=20:=(by omega)
  rw[To hp];exact .inl ⟨q,J3 h hl⟩
 obtain rfl:n=40:=(by omega)
 rw[To hp];exact .inr ⟨by omega,_,p1,p2⟩
theorem aex(h:Hq R l cur n)(hq:l.Pairwise Lt):qz R Lt cur 0 20 n:=by
 obtain⟨l1,⟨P,M,M0,Q,rfl,rfl,h1,h2,hp,hs⟩,p2⟩:=h;obtain rfl:=length_eq_zero_iff.1 h1;obtain⟨O,U,Z,I,rfl,h4,h5,h6,oP,E⟩:=p2;obtain⟨e1,e2⟩:=append_inj (show M++Q=O++(Z++I) from h4) w4;subst e1 e2;rw[nil_append,pairwise_append] at hq;exact⟨[],M,U,I,by simp,rfl,by omega,by omega,hs,E,fun x hx y hy=>hq.2.2 x (hp.subset hx) y (mem_append_left _ (oP.subset hy))⟩
theorem Tp(h:Hq R l cur n)(hp:Part R cur nZ 0 n)(hl:l.length=n):nZ.Perm l∧nZ.Pairwise R:=by
 obtain⟨l1,p1,p2⟩:=h;have:=J3 hp (by rw[p2.len,p1.len,hl]);exact⟨this.1.trans (p2.perm.trans p1.perm),this.2⟩

end Go.Proofs.YtkgmonfgofobaaaGreatDoor.So
namespace Go.Proofs.YtkgmonfgofobaaaGreatDoor.So
open List
open Go.Proofs.Tryz
open Go.RowKit V Tw
variable {G:List (Nat×List Value)}
theorem acK(I cap U fc:Nat)(O:List D)(Z:List ah)(cF:Int→Int→Int)(V:Int→Prop)(Lt:Int→Int→Prop)(hc:∀x y,V x→V y→VC Tryz.prog G fc ([ae x,ae y]++O) Z (fun r S'=>r=ae (cF x y)∧S'=Z))(vU:∀args w,(callFunc fc args).run Tryz.prog w = .ok (.enter fc args) w)(ht:∀{x y z:Int},Rc cF Lt x y→Rc cF Lt y z→Rc cF Lt x z)(ha:∀x y,0≤cF y x→cF x y≤0)(qg:I≤cap)(rT:cap≤maxLen)(lR:I≤40)(l:List Int)(hq:l.Pairwise Lt)(gC:l.length=I)(hV:∀x∈l,V x):VC Tryz.prog G 150 [aP (some ⟨U,0,none⟩) I cap,ae (I:Nat),.eH (.func fc) O] (⟨U,3,cap*1,(l).flatMap cI⟩::Z) (fun r S'=>r = .dD []∧∃(lz:List Int),(lz.Perm l∧lz.Pairwise (Rc cF Lt))∧S'=⟨U,3,cap*1,(lz).flatMap cI⟩::Z):=by
 refine VC.body func150 rfl ntmps150 aQ fun X0 w0 bf=>?_;have c8:=dV;refine af [0,1,2,6] ?_;refine af [0,1,2,6,7,8] ?_;refine CD.seq ?_;refine CD.block ?_;refine nq (fun (E:Nat×List Int) aE=>match E with|(k,cur)=>(20*k≤I)∧(yW (Rc cF Lt) l cur k)∧aE=(⟨63,[(0,aP (some ⟨U,0,none⟩) I cap),(1,ae (I:Nat)),(2,.eH (.func fc) O),(6,ae 20),(7,ae (20*k:Nat)),(8,ae (20*(k+1):Nat))],(⟨U,3,cap*1,(cur).flatMap cI⟩::Z)⟩:St)) (fun (E:Nat×List Int)=>match E with|(k,cur)=>3-k) (0,l) ⟨(Nat.zero_le _),(.inl ⟨rfl,rfl⟩),rfl⟩ (aJ (h:=by repeat (first|exact trivial|refine⟨(by (repeat (first|exact fP|(apply gi;focus (first|rfl|(rw[show(20*(k+1):Nat)=20*k+20 by omega];rfl)|(simp;done)|(congr 3;omega)))|(apply fU;focus rfl)));done),?_⟩))) ?_;rintro⟨k,cur⟩ _ ⟨hk,fS,rfl⟩;have kD:=fS.perm.length_eq;have tF:(cur.drop (20*k)).Pairwise Lt:=(by rw[aew fS];exact hq.drop)
 have EI:∀x∈cur,V x:=fun x hx=>hV x (fS.perm.subset hx);refine af [0,1,2,6,7,8,13] ?_;refine av ?_ ?_<;>intro aL bB
 ·have u6:20*(k+1)≤I:=(by omega)
  refine aB 4 ?_;refine OD.call (R:=[]) ap rfl rfl rfl call163 (VE cur I (20*k) (20*(k+1)) cap U fc O Z cF V Lt EI hc vU ht ha tF w4 w4 w4 qg rT w4) ⟨ot,ot,ot,ot,trivial⟩ pB ?_;rintro _ _ ⟨rfl,c1,alQ,rfl⟩;refine OD.perm (S':=⟨U,3,cap*1,(c1).flatMap cI⟩::Z) pB ?_;refine an 63 [0,1,2,6,8] ?_;refine af [0,1,2,6,7,8] ?_;refine iU [0,1,2,6,7,8] ?_;refine aR 2 ?_ (h:=by exact(dA rfl ot ot (kr (r:=((20*(k+1+1):Nat):Int)) (by rw[show(((20*(k+1):Nat):Int)+20)=((20*(k+1+1):Nat):Int) by omega];exact wrap_i64 w4 w4))));refine bH ?_;refine⟨((k+1),c1),_,cr,(aJ (h:=by repeat (first|exact trivial|refine⟨(by (repeat (first|exact fP|(apply gi;focus (first|rfl|(rw[show(20*(k+1):Nat)=20*k+20 by omega];rfl)|(simp;done)|(congr 3;omega)))|(apply fU;focus rfl)));done),?_⟩))),w4,(aev fS w4 alQ),rfl⟩
 have u6:I<20*(k+1):=(by omega)
 refine aB 4 ?_;refine OD.call (R:=[]) ap rfl rfl rfl call163 (VE cur I (20*k) I cap U fc O Z cF V Lt EI hc vU ht ha tF w4 w4 w4 qg rT w4) ⟨ot,ot,ot,ot,trivial⟩ pB ?_;rintro _ _ ⟨rfl,c2,Xj,rfl⟩;refine OD.perm (S':=⟨U,3,cap*1,(c2).flatMap cI⟩::Z) pB ?_;have fk:=agb fS hk u6 lR gC Xj;have Xk:c2.Perm l:=Xj.perm.trans fS.perm;refine an 63 [0,1,2,6] ?_;refine eG [0,1,2] (fun aS _ (E:Nat×List Int) aE=>match E with|(q,cur)=>((q=20∧cur=c2)∨(q=40∧(cur.Perm l∧cur.Pairwise (Rc cF Lt))))∧aE=(⟨63,(6,ae (q:Nat))::aS,(⟨U,3,cap*1,(cur).flatMap cI⟩::Z)⟩:St)) (fun (E:Nat×List Int)=>match E with|(q,cur)=>40-q) (20,c2) ⟨(.inl ⟨rfl,rfl⟩),rfl⟩ ?_;rintro⟨q,cur⟩ _ ⟨Ee,rfl⟩;refine af [0,1,2,6,30] ?_;refine av ?_ ?_<;>intro aY cD
 ·obtain⟨rfl,rfl⟩:q=20∧cur=c2:=(by (rcases Ee with h|h;exact h;omega))
  have Me:Hq (Rc cF Lt) l cur I:=(by (rcases fk with h|h;omega;exact h.2))
  have Xl:=aex Me hq;have kD:=Xk.length_eq;have EI:∀x∈cur,V x:=fun x hx=>hV x (Xk.subset hx);refine af [0,1,2,6,7,8] ?_;refine eG [0,1,2,6] (fun aS _ (E:Nat×List Int) aE=>match E with|(j,c3)=>((j=0∧c3=cur)∨(j=1∧I=40∧(c3.Perm l∧c3.Pairwise (Rc cF Lt))))∧aE=(⟨63,(7,ae (40*j:Nat))::(8,ae (40*(j+1):Nat))::aS,(⟨U,3,cap*1,(c3).flatMap cI⟩::Z)⟩:St)) (fun (E:Nat×List Int)=>match E with|(j,c3)=>1-j) (0,cur) ⟨(.inl ⟨rfl,rfl⟩),rfl⟩ ?_;rintro⟨j,c3⟩ _ ⟨rh,rfl⟩;refine af [0,1,2,6,7,8,35] ?_;refine av ?_ ?_<;>intro cm cR
  ·obtain⟨rf,rfl⟩:j=0∧c3=cur:=(by (rcases rh with h|h;exact h;omega))
   have MM:I=40:=(by omega)
   refine aB 4 ?_;refine bV (dA rfl ot ot (kr (r:=((20:Nat):Int)) (by rw[rf];rfl))) ?_;refine aH 2 ?_;have aqk:=MM;refine OD.call (R:=[]) ap rfl rfl rfl call164 (VF I cap U fc O Z cF V Lt hc vU ht ha qg rT w4 _ c3 (40*j) 20 (40*(j+1)) rfl (by rw[show 40*j=0 by omega,show 40*(j+1)=I by omega];exact Xl) w4 w4 w4 EI) ⟨ot,ot,ot,ot,ot,trivial⟩ pB ?_;rintro _ _ ⟨rfl,c5,alR,rfl⟩;refine OD.perm (S':=⟨U,3,cap*1,(c5).flatMap cI⟩::Z) pB ?_;have alS:Part (Rc cF Lt) c3 c5 0 I:=(by have:=alR;rwa [show 40*j=0 by omega,show 40*(j+1)=I by omega] at this)
   refine an 63 [0,1,2,6,8] ?_;refine af [0,1,2,6,7,8] ?_;refine cc [0,1,2,6,7,8] ?_;refine⟨(1,c5),_,cr,aJ,(.inr ⟨rfl,MM,Tp Me alS gC⟩),rfl⟩
  refine CD.exit ?_;refine iL [0,1,2,6] (fun aS _ aE=>∃(c4:List Int),((c4.Perm l∧c4.Pairwise (Rc cF Lt)))∧aE=(⟨63,aS,(⟨U,3,cap*1,(c4).flatMap cI⟩::Z)⟩:St)) ?_ ?_
  ·refine cM [0,1,2,6,7,9] ?_;refine aR 2 ?_ (h:=by exact(dA rfl ot ot (kr (r:=((40*j+20:Nat):Int)) (by rw[show(((40*j:Nat):Int)+((20:Nat):Int))=((40*j+20:Nat):Int) by omega];exact wrap_i64 w4 w4))));refine bH ?_;refine af [0,1,2,6,7,9,54] ?_;refine av ?_ ?_<;>intro da eA
   ·obtain⟨rf,rfl⟩:j=0∧c3=cur:=(by (rcases rh with h|h;exact h;omega))
    refine dY 5 ?_;refine OD.call (R:=[]) ap rfl rfl rfl call164 (VF I cap U fc O Z cF V Lt hc vU ht ha qg rT w4 _ c3 (40*j) (40*j+20) I rfl (by rw[show 40*j=0 by omega];exact Xl) w4 w4 w4 EI) ⟨ot,ot,ot,ot,ot,trivial⟩ pB ?_;rintro _ _ ⟨rfl,c6,alT,rfl⟩;refine OD.perm (S':=⟨U,3,cap*1,(c6).flatMap cI⟩::Z) pB ?_;have alU:Part (Rc cF Lt) c3 c6 0 I:=(by have:=alT;rwa [show 40*j=0 by omega] at this)
    refine an 63 [0,1,2,6] ?_;refine⟨_,aJ,c6,(Tp Me alU gC),rfl⟩
   have Iy:(c3.Perm l∧c3.Pairwise (Rc cF Lt)):=(by (rcases rh with h|h;omega;exact h.2.2))
   refine CD.skip ?_;refine⟨_,aJ,c3,Iy,rfl⟩
  rintro _ ⟨c4,dR,rfl⟩;refine cc [0,1,2,6] ?_;refine⟨(40,c4),_,cr,aJ,(.inr ⟨rfl,dR⟩),rfl⟩
 have nF:(cur.Perm l∧cur.Pairwise (Rc cF Lt)):=(by (rcases Ee with ⟨rfl,rfl⟩|h;(rcases fk with h|h;exact h.2;omega);exact h.2))
 refine aM _ ?_;exact⟨rfl,_,nF,rfl⟩
theorem agc(O cap U Z:Nat)(E:List D)(I:List ah)(cF:Int→Int→Int)(V:Int→Prop)(Lt:Int→Int→Prop)(hc:∀x y,V x→V y→VC Tryz.prog G Z ([ae x,ae y]++E) I (fun r S'=>r=ae (cF x y)∧S'=I))(vU:∀args w,(callFunc Z args).run Tryz.prog w = .ok (.enter Z args) w)(ht:∀{x y z:Int},Rc cF Lt x y→Rc cF Lt y z→Rc cF Lt x z)(ha:∀x y,0≤cF y x→cF x y≤0)(qg:O≤cap)(rT:cap≤maxLen)(lR:O≤40)(l:List Int)(hq:l.Pairwise Lt)(gC:l.length=O)(hV:∀x∈l,V x):VC Tryz.prog G 111 [aP (some ⟨U,0,none⟩) O cap,.eH (.func Z) E] (⟨U,3,cap*1,(l).flatMap cI⟩::I) (fun r S'=>r = .dD []∧∃(lz:List Int),(lz.Perm l∧lz.Pairwise (Rc cF Lt))∧S'=⟨U,3,cap*1,(lz).flatMap cI⟩::I):=by
 refine VC.body func111 rfl ntmps111 aQ fun X0 w0 bf=>?_;have c8:=dV;refine dY 4 ?_;refine OD.call (R:=[]) ap rfl rfl rfl call150 (acK O cap U Z E I cF V Lt hc vU ht ha qg rT lR l hq gC hV) ⟨ot,ot,ot,trivial⟩ pB ?_;rintro _ _ ⟨rfl,lz,yR,rfl⟩;refine OD.perm (S':=⟨U,3,cap*1,(lz).flatMap cI⟩::I) pB ?_;refine an 9 [] ?_;refine aM _ ?_;exact⟨rfl,_,yR,rfl⟩

end Go.Proofs.YtkgmonfgofobaaaGreatDoor.So
namespace Go.Proofs.YtkgmonfgofobaaaGreatDoor.Ba
open List
open Go.Proofs.Tryz
open Go.RowKit V Pk Tr Vl Go.Proofs.YtkgmonfgofobaaaGreatDoor.Nm Pc Cd Ex Tw Go.Proofs.YtkgmonfgofobaaaGreatDoor.So
variable {t:az} {o n:Nat} {i k:Int}
theorem FP(a b:Vl):fu a b<0↔a.k<b.k∨(a.k=b.k∧(a.n<b.n∨(a.n=b.n∧Go.Lib.compareBytes a.s.data.toList b.s.data.toList<0))):=by
 exact Yl
theorem Ru{a b:Vl}(h:fu a b=0):a=b:=by
 unfold fu cmpL gB gB gB gB at h;have hs:a.k=b.k∧a.n=b.n∧Go.Lib.compareBytes a.s.data.toList b.s.data.toList=0:=by
  rcases sH a.k b.k with ⟨h1,h2⟩|⟨h1,h2⟩|⟨h1,h2⟩<;>rcases sH a.n b.n with ⟨k1,k2⟩|⟨k1,k2⟩|⟨k1,k2⟩<;>simp only[h1,k1] at h<;>(repeat' split at h)<;>first|omega|(refine⟨h2,k2,?_⟩;omega)
 obtain⟨e1,e2,E⟩:=hs;obtain⟨k,n,s⟩:=a;obtain⟨k',n',s'⟩:=b;simp only at e1 e2 E;subst e1 e2;rw[B9 (pu.1 E)]
theorem UP{a b c:Vl}(h1:fu a b<0)(h2:fu b c<0):fu a c<0:=by
 rw[FP] at h1 h2 ⊢;rcases h1 with h1|⟨h1,h1|⟨E,h1⟩⟩<;>rcases h2 with h2|⟨h2,h2|⟨I,h2⟩⟩<;>first|omega|(refine .inr ⟨by omega,.inr ⟨by omega,?_⟩⟩;exact mw h1 h2)
def cellAt(t:az)(o:Nat)(i:Int):Vl:=(rowAt t i).getD o bw
def lp(t:az)(down:Bool)(o:Nat)(i k:Int):Int:=if down=true then -(fu (cellAt t o i) (cellAt t o k)) else fu (cellAt t o i) (cellAt t o k)
def qA(t:az)(i k:Int):Prop:=bu (bU (rowAt t i)) (bU (rowAt t k))
theorem Rv(t:az)(down:Bool)(o:Nat)(i k:Int):lp t down o k i = -(lp t down o i k):=by
 unfold lp;rw[BE (cellAt t o i) (cellAt t o k)];split<;>omega
theorem agd{down:Bool}{l:Int}(h1:lp t down o i k<0)(h2:lp t down o k l<0):lp t down o i l<0:=by
 unfold lp at *;split at h1
 ·rename_i hd;rw[if_pos hd] at h2 ⊢;have e1:=BE (cellAt t o i) (cellAt t o k);have e2:=BE (cellAt t o k) (cellAt t o l);have E:=BE (cellAt t o i) (cellAt t o l);have:=UP (a:=cellAt t o l) (b:=cellAt t o k) (c:=cellAt t o i) w4 w4;omega
 rename_i hd;rw[if_neg hd] at h2 ⊢;exact UP h1 h2
theorem Jt{down:Bool}(h:lp t down o i k=0):cellAt t o i=cellAt t o k:=by
 unfold lp at h;split at h
 ·exact Ru w4
 exact Ru h
theorem UQ{down:Bool}(h:cellAt t o i=cellAt t o k)(l:Int):lp t down o i l=lp t down o k l:=by unfold lp;rw[h]
theorem aey{down:Bool}(h:cellAt t o i=cellAt t o k)(l:Int):lp t down o l i=lp t down o l k:=by unfold lp;rw[h]
abbrev wE(t:az)(down:Bool)(o:Nat):Int→Int→Prop:=Rc (lp t down o) (qA t)
theorem ahL(t:az)(down:Bool)(o:Nat){x y z:Int}(h1:wE t down o x y)(h2:wE t down o y z):wE t down o x z:=by
 rcases h1 with h1|⟨h1,E⟩<;>rcases h2 with h2|⟨h2,I⟩
 ·exact .inl (agd h1 h2)
 ·exact .inl (by rw[←aey (Jt h2)];exact h1)
 ·exact .inl (by rw[UQ (Jt h1)];exact h2)
 exact .inr ⟨by rw[UQ (Jt h1)];exact h2,mw E I⟩
theorem aez{down:Bool}{x y:Int}(h1:wE t down o x y)(h2:wE t down o y x):False:=by
 have e:=Rv t down o x y;rcases h1 with h1|⟨h1,E⟩<;>rcases h2 with h2|⟨h2,I⟩
 ·omega
 ·omega
 ·omega
 exact jl _ (mw E I)
noncomputable def CN(t:az)(down:Bool)(o:Nat)(l:List Int):List Int:=Classical.epsilon fun lz=>lz.Perm l∧lz.Pairwise (wE t down o)
theorem K2{down:Bool}{l lz:List Int}(h:lz.Perm l∧lz.Pairwise (wE t down o)):lz=CN t down o l:=by
 have hs:=Classical.epsilon_spec (p:=fun lz=>lz.Perm l∧lz.Pairwise (wE t down o)) ⟨lz,h⟩;exact Perm.eq_of_pairwise (fun a b _ _ h1 h2=>(aez h1 h2).elim) h.2 hs.2 (h.1.trans hs.1.symm)
theorem B0(t:az)(w:List aK):∀(l:List (K×Int)) (acc:List Int),(kR t w acc l).1.Sublist (acc++l.map Prod.snd)
 | [],acc=>by unfold kR;simp
 | x::r,acc=>by
  have h1:(kR t w acc r).1.Sublist (acc++(x::r).map Prod.snd):=(B0 t w r acc).trans (Sublist.append_left (sublist_cons_self _ _) acc);have h2:(kR t w (acc++[x.2]) r).1.Sublist (acc++(x::r).map Prod.snd):=(by have:=B0 t w r (acc++[x.2]);rwa [append_assoc] at this)
  unfold kR;split
  ·split
   ·exact nil_sublist _
   split
   ·exact h1
   exact h2
  exact h2
def eo(t:az)(i:Int):Prop:=0≤i∧∃h:i.toNat<t.rows.length,t.rows[i.toNat]≠[]
theorem aeA{i:Nat}{c:Pc.cH}{v:Vl}(h:Pc.l7 i c v=0):cg v=0:=by
 unfold Pc.l7 at h;split at h
 ·exact h
 rename_i h1;exact Decidable.not_not.1 h1
theorem Rw:∀(i:Nat) (cs:List Pc.cH) (vs:List Vl),Pc.py i cs vs=0→vs.length≤cs.length→∀v∈vs,cg v=0
 | i,c::cs,v::vs,h,hl,w,hw=>by
  unfold Pc.py at h;split at h
  ·rename_i h1;exact absurd h h1
  rename_i h1;rcases mem_cons.1 hw with rfl|hw
  ·exact aeA (Decidable.not_not.1 h1)
  exact Rw (i+1) cs vs h uK w hw
 | _,_,[],_,_,_,hw=>by cases hw
 | _,[],_::_,_,hl,_,_=>by simp at hl
theorem J4{r:List Vl}(h:Pc.dQ bL r=0):∀v∈r,cg v=0:=by
 have h4:=oE h;unfold Pc.dQ at h;rw[if_neg AV,if_neg yj] at h;exact Rw 0 bL r h yj
theorem eo.ok(g:cA t n)(h:eo t i):(rowAt t i).length=4∧(∀v∈rowAt t i,v.Ok∧cg v=0):=by
 obtain⟨h0,h1,h2⟩:=h;rw[fV h1];obtain⟨g1,g2,_⟩:=g.row _ h1 h2;exact⟨oE g1,fun v hv=>⟨g2 v hv,J4 g1 v hv⟩⟩
theorem qP(g:cA t n)(w:List aK):∀i∈(aq t w).1,eo t i:=fun i hi=>by
 unfold aq at hi;split at hi
 ·cases hi
 have h1:=(B0 t w _ []).subset hi;rw[nil_append] at h1;obtain⟨x,hx,rfl⟩:=mem_map.1 h1;obtain⟨h2,h3,h4,_⟩:=g.gj x (BZ x hx);exact⟨h2,h3,h4⟩
theorem zu(g:cA t n)(w:List aK):(aq t w).1.Pairwise (qA t):=by
 unfold aq;split
 ·exact Pairwise.nil
 refine Pairwise.sublist (B0 t w _ []) ?_;rw[nil_append,pairwise_map];have hr:(oH t.ix (iO t.ay w).1.1 (iO t.ay w).1.2).Pairwise fun x y=>bu x.1 y.1:=(acv g.ix.val _).sublist (takeWhile_sublist _);refine hr.imp_of_mem fun {x y} hx hy h=>?_;obtain⟨_,p1,_,p2⟩:=g.gj x (BZ x hx);obtain⟨_,q1,_,q2⟩:=g.gj y (BZ y hy);unfold qA;rw[fV p1,fV q1,←p2,←q2];exact h
theorem zF(g:cA t n)(w:List aK):(aq t w).1.length≤40:=by
 have hp:=zu g w;have dc:=qP g w;have hnd:((aq t w).1.map Int.toNat).Nodup:=by
  rw[Nodup,pairwise_map];refine hp.imp_of_mem fun {x y} hx hy h e=>?_;obtain⟨x0,_⟩:=dc x hx;obtain⟨y0,_⟩:=dc y hy;have:x=y:=(by omega)
  subst this;exact jl _ h
 have E:∀j∈(aq t w).1.map Int.toNat,j∈range t.rows.length:=fun j hj=>by
  obtain⟨x,hx,rfl⟩:=mem_map.1 hj;obtain⟨_,h1,_⟩:=dc x hx;exact mem_range.2 h1
 have:=hnd.length_le_of_subset E;rw[length_map,length_range] at this;exact Nat.le_trans this g.eO
variable {G:List (Nat×List Value)} {m:Int}

open Pa (bA bg)
theorem Wd:∀x y:K,-1≤Go.Lib.compareBytes x y∧Go.Lib.compareBytes x y≤1
 | [],[]=>⟨by decide,by decide⟩
 | [],_::_=>⟨(by show(-1:Int)≤-1;decide),(by show(-1:Int)≤1;decide)⟩
 | _::_,[]=>⟨(by show(-1:Int)≤1;decide),(by show(1:Int)≤1;decide)⟩
 | a::x,b::y=>by
  have:=Wd x y;rw[Io];repeat' split
  all_goals first|exact this|omega
theorem age(a b:Vl):-1≤fu a b∧fu a b≤1:=by
 have:=Wd a.s.data.toList b.s.data.toList;exact Yl
def sA(t:az)(names:List ByteArray):List Int:=if names.length=0 then (range t.ay.length).map Int.ofNat else names.map (bC t.ay)
def rV(t:az)(s:bA):Int:=if (s.order.toList==(⟨#[]⟩:ByteArray).toList)=true then 0 else bC t.ay s.order
def vQ(Pm:Int)(l:List Int):List Int:=if 0≤Pm∧Pm<l.length then l.take Pm.toNat else l
def x8(t:az)(ats:List Int)(i:Int):List Vl:=ats.map fun c=>(rowAt t i).getD c.toNat bw
noncomputable def uo(t:az)(s:bA):List Int:=vQ s.iD (CN t s.down (rV t s).toNat (aq t s.aj).1)
noncomputable def mX(t:az)(s:bA):(List (List Vl)×Int)×Int :=
 if (s.names.any fun n=>decide (bC t.ay n<0))=true then (([],0),8)
 else if rV t s<0 then (([],0),8)
 else if (aq t s.aj).2≠0 then (([],0),(aq t s.aj).2)
 else if s.count=true then (([[⟨2,(uo t s).length,⟨#[]⟩⟩]],(uo t s).length),0)
 else (((uo t s).map (x8 t (sA t s.names)),(uo t s).length),0)
def Bq(p:(List (List Vl)×Int)×Int):D:=.dD [.agg [au 1 gG p.1.1,ae p.1.2],ae p.2]
theorem LF{l:List cH}{nm:ByteArray}:-1≤bC l nm∧bC l nm<l.length:=by
 unfold bC dP;split
 ·rename_i i h;have:=(findIdx?_eq_some_iff_getElem.1 h).1;omega
 omega
theorem agf(t:az)(g:cA t n)(s:bA)(o:Nat)(ho:o<4)(b2 I b3:Nat)(i k:Int)(hi:eo t i)(hk:eo t k):VC Tryz.prog G 112 ([ae i,ae k]++[cZ b2,cZ I,cZ b3]) [⟨b2,77,5,cU t⟩,⟨I,3,1,[ae (o:Nat)]⟩,⟨b3,46,12,bg s⟩] (fun r S=>r=ae (lp t s.down o i k)∧S=[⟨b2,77,5,cU t⟩,⟨I,3,1,[ae (o:Nat)]⟩,⟨b3,46,12,bg s⟩]):=by
 refine VC.body func112 rfl ntmps112 aQ fun X0 w0 bf=>?_;obtain⟨O,E,lQ⟩:=hi;obtain⟨yo,ei,fF⟩:=hk;obtain⟨gi1,U⟩:=eo.ok g ⟨O,E,lQ⟩;obtain⟨gk1,Z⟩:=eo.ok g ⟨yo,ei,fF⟩;rw[fV E] at gi1 U;rw[fV ei] at gk1 Z;have Pn:o<(t.rows[i.toNat]'E).length:=(by omega)
 have rB:o<(t.rows[k.toNat]'ei).length:=(by omega)
 have hci:cellAt t o i=(t.rows[i.toNat]'E)[o]:=(by unfold cellAt;rw[fV E,getD_eq_getElem?_getD,getElem?_eq_getElem Pn];rfl)
 have hck:cellAt t o k=(t.rows[k.toNat]'ei)[o]:=(by unfold cellAt;rw[fV ei,getD_eq_getElem?_getD,getElem?_eq_getElem rB];rfl)
 have fC:=aaO (G:=G) (t.rows[i.toNat]'E)[o] (t.rows[k.toNat]'ei)[o] (U _ (getElem_mem Pn)).1 (Z _ (getElem_mem rB)).1;have hb0:mU (t.rows[i.toNat]'E)[o] (t.rows[k.toNat]'ei)[o]=0:=(by unfold mU;rw[if_neg (by simp[(U _ (getElem_mem Pn)).2]),(Z _ (getElem_mem rB)).2])
 unfold ML at fC;rw[hb0,if_neg w7] at fC;have Ie:=age (t.rows[i.toNat]'E)[o] (t.rows[k.toNat]'ei)[o];unfold cU bg;have aW:lp t s.down o i k=if s.down=true then -(fu (t.rows[i.toNat]'E)[o] (t.rows[k.toNat]'ei)[o]) else fu (t.rows[i.toNat]'E)[o] (t.rows[k.toNat]'ei)[o]:=by unfold lp;rw[hci,hck]
 refine af [0,1,2,3,4] ?_;refine cM [4,8] ?_;refine aR 3 ?_ (h:=by exact(dO 1 (h:=by first|exact .l (j:=i.toNat) (Int.toNat_of_nonneg O).symm E|exact .r (j:=i.toNat) (Int.toNat_of_nonneg O).symm E)));refine aR 7 ?_ (h:=by exact(dO 1 (h:=by first|exact .l (j:=k.toNat) (Int.toNat_of_nonneg yo).symm ei|exact .r (j:=k.toNat) (Int.toNat_of_nonneg yo).symm ei)));refine cN (fC) ?_;refine bH ?_;refine af [8,31] ?_;refine av ?_ ?_<;>intro aL bB
 ·have hd:s.down=true:=aL;refine cM [7] ?_;refine aR 1 ?_ (h:=by exact(Fw rfl ot (Lh (wrap_i64 w4 w4))));refine bH ?_;refine aM [_,_,_] ?_;first|(rw[aW,hd,if_pos rfl,←Int.zero_sub];exact⟨rfl,rfl⟩)|(rw[aW,hd,if_neg w7];exact⟨rfl,rfl⟩)
 have hd:s.down=false:=aL;refine af [7] ?_;refine aM [_,_,_] ?_;first|(rw[aW,hd,if_pos rfl,←Int.zero_sub];exact⟨rfl,rfl⟩)|(rw[aW,hd,if_neg w7];exact⟨rfl,rfl⟩)
theorem agh(eH:D):VP Tryz.prog G 163 [bF,ae 0,ae 0,eH] (.dD []):=by
 refine VC.body func163 rfl ntmps163 aQ fun X0 w0 bf=>?_;refine af [0,1,2,3,8] ?_;refine eG [0,1,2,3] (fun aS _ (z:Nat) aE=>(True)∧aE=(⟨53,(8,ae (0+1))::aS,[]⟩:St)) (fun (z:Nat)=>0) 0 ⟨trivial,rfl⟩ ?_;rintro z _ ⟨_,rfl⟩;refine af [0,1,2,3,8,14] ?_;refine av ?_ ?_<;>intro aL bB
 ·exact absurd aL (by simp at aL)
 exact z46
theorem abc(eH:D):VP Tryz.prog G 150 [bF,ae 0,eH] (.dD []):=by
 refine VC.body func150 rfl ntmps150 aQ fun X0 w0 bf=>?_;refine af [0,1,2,6] ?_;refine af [0,1,2,6,7,8] ?_;refine eG [0,1,2,6] (fun aS _ (z:Nat) aE=>(True)∧aE=(⟨63,(7,ae 0)::(8,ae 20)::aS,[]⟩:St)) (fun (z:Nat)=>0) 0 ⟨trivial,rfl⟩ ?_;rintro z _ ⟨_,rfl⟩;refine af [0,1,2,6,7,8,13] ?_;refine av ?_ ?_<;>intro aL bB
 ·exact absurd aL (by simp at aL)
 refine cL [0,1,2,6] (agh eH) ?_;refine eG [0,1,2] (fun aS _ (z:Nat) aE=>(True)∧aE=(⟨63,(6,ae 20)::aS,[]⟩:St)) (fun (z:Nat)=>0) 0 ⟨trivial,rfl⟩ ?_;rintro z _ ⟨_,rfl⟩;refine af [0,1,2,6,30] ?_;refine av ?_ ?_<;>intro aY cD
 ·exact absurd aY (by simp at aY)
 exact z46
theorem aeB(eH:D):VP Tryz.prog G 111 [bF,eH] (.dD []):=by
 refine VC.body func111 rfl ntmps111 aQ fun X0 w0 bf=>?_;refine iU [] ?_;refine cN (abc eH) ?_;refine jP ?_;exact z46

end Go.Proofs.YtkgmonfgofobaaaGreatDoor.Ba

namespace Go.Proofs.YtkgmonfgofobaaaGreatDoor.Ba
open List
open Go.Proofs.Tryz
open Go.RowKit V Pk Go.Proofs.YtkgmonfgofobaaaGreatDoor.Tr Go.Proofs.YtkgmonfgofobaaaGreatDoor.Vl Go.Proofs.YtkgmonfgofobaaaGreatDoor.Nm Go.Proofs.YtkgmonfgofobaaaGreatDoor.Pc Go.Proofs.YtkgmonfgofobaaaGreatDoor.Cd Go.Proofs.YtkgmonfgofobaaaGreatDoor.Ex Go.Proofs.YtkgmonfgofobaaaGreatDoor.Tw
open Pa (bA bg)
variable {j sz:Nat} {ds:List D}
section mid
variable {P:Program} {G:List (Nat×List Value)} {x:St} {o:Oper} {t b off:Nat} {y:Operand} {B:ah} {pre c post:List D} {d:D}
theorem ahM(hp:pre.length=off)(hj:c[j]?=some d):(pre++(c++post))[off+j]?=some d:=by
 subst hp;rw[getElem?_append_right w4,Nat.add_sub_cancel_left,getElem?_append_left (List.getElem?_eq_some_iff.1 hj).1];exact hj
theorem Tq{m:List D}(hp:pre.length=off)(hm:qu j c m)(hd:mH sz m ds):((pre++(c++post)).drop (off+j)).take sz=ds:=by
 subst hp;obtain⟨h1,h2⟩:=hd.eq;have h3:=hm.eq;have hl:j+sz≤c.length∨sz=0:=by
  have:=congrArg length h1;rw[length_take,h2,←h3,length_drop] at this;omega
 rw[←drop_drop,drop_left' rfl];rcases hl with hl|rfl
 ·rw[drop_append_of_le_length w4,h3,take_append_of_le_length (by rw[←h3,length_drop];omega)];exact h1
 rw[List.take_zero];rw[List.take_zero] at h1;exact h1
theorem Cg{E:List D}(hp:pre.length=off)(hl:j+ds.length≤c.length)(hc:dm c j ds=E):dm (pre++(c++post)) (off+j) ds=pre++(E++post):=by
 subst hp hc;rw[wM _ _ _ hl,wM _ _ _ (by simp only[length_append];omega)];rw[take_append,take_of_length_le w4,Nat.add_sub_cancel_left,take_append_of_le_length w4,Nat.add_assoc,←drop_drop (l:=pre++(c++post)),drop_left' rfl,drop_append_of_le_length w4];simp only[append_assoc]
theorem oV(k:Nat)(ho:o.op = .load t y:=by exact rfl)(hy:aF x y = .v (.pointer (some ⟨b,off+j,none⟩)):=by exact ot)(ha:rq P t false=true:=by kernel_rfl)(hk:x.S[k]?=some B:=by exact rfl)(hb:B.b=b:=by exact rfl)(dy:B.cs=pre++(c++post):=by exact rfl)(hp:pre.length=off:=by assumption)(hj:c[j]?=some d:=by exact rfl)(hne:isMap B.e=false:=by exact rfl):bW P G x o (.fN k) d :=
 EW (hne:=hne) ho hy hk hb (iY ha) (by rw[dy];exact ahM hp hj)
theorem x9(k:Nat){m:List D}(ho:o.op = .load t y:=by exact rfl)(hy:aF x y = .v (.pointer (some ⟨b,off+j,none⟩)):=by exact ot)(hn:rp P t sz=true:=by exact Sz.h)(ha:rq P t true=true:=by kernel_rfl)(hk:x.S[k]?=some B:=by exact rfl)(hb:B.b=b:=by exact rfl)(dy:B.cs=pre++(c++post):=by exact rfl)(hp:pre.length=off:=by assumption)(hm:qu j c m:=by exact qS)(hd:mH sz m ds:=by exact nC)(hne:isMap B.e=false:=by exact rfl):bW P G x o (.fN k) (.agg ds) :=
 Bx (hne:=hne) ho hy hk hb (iY ha) (lZ hn) hd.eq.2 (by rw[dy];exact Tq hp hm hd)
theorem Nb(k:Nat)(ho:o.op = .load t y:=by exact rfl)(hy:aF x y = .v (.pointer (some ⟨b,off,none⟩)):=by exact ot)(hn:rp P t sz=true:=by exact Sz.h)(ha:rq P t true=true:=by kernel_rfl)(hk:x.S[k]?=some B:=by exact rfl)(hb:B.b=b:=by exact rfl)(dy:B.cs=pre++(c++post):=by exact rfl)(hp:pre.length=off:=by assumption)(hd:mH sz c ds:=by exact nC)(hne:isMap B.e=false:=by exact rfl):bW P G x o (.fN k) (.agg ds) :=
 Bx (hne:=hne) ho hy hk hb (iY ha) (lZ hn) hd.eq.2 (by rw[dy];exact Tq (j:=0) hp .z hd)
end mid
variable {G:List (Nat×List Value)} {m:Int}
noncomputable def gQ(t:az)(row:List Vl):az×Int :=
 if Pc.dQ t.ay row≠0 then (t,Pc.dQ t.ay row) else if gl t.ix (bU row) (cQ t.ix)=true then (t,9) else if t.rows.length=40 then (t,10)
 else ({t with rows:=t.rows++[row],ix:=gb t.ix (cQ t.ix) (bU row) t.rows.length},0)
def tC(t:az)(ad:Option Addr)(cap:Nat):List D:=[aZ t.nm,au 2 cC t.ay,aP ad t.rows.length cap,au 5 cP t.ix.ag,ae t.ix.root]
abbrev vV(t:az)(ad:Option Addr)(cap:Nat)(S:List ah):Prop:=bn 43 1 (t.rows.flatMap gG) t.rows.length ad cap S
theorem sN{r:List Vl}(h:Pc.dQ bL r=0):1≤(bU r).length∧(bU r).length≤100:=by
 refine⟨?_,UK _⟩;have h4:=oE h;have hz:=J4 h;match r,h4 with
 | [a,b,c,d],_ =>
  have ha:cg a=0:=hz a mem_cons_self;unfold bU gm;rw[if_neg bj,if_neg (by simp[s9,ha])];have hl:(cY [a]).length≤43:=(by have:=FC (l:=[a]) (fun v hv=>by rw[mem_singleton] at hv;rw[hv];exact ha);simpa using this)
  rw[if_neg (by show ¬(cY [a]).length>100;omega)];show 1≤(cY [a]).length;unfold cY Cd.nD;simp

theorem abd:(Tryz.prog.info? 43).map (fun i=>(i.zero,i.size,i.bytes))=some (some (.slice none 0 0),1,24):=by kernel_rfl

theorem Jp(hm:(3,marksC)∈G)(hw:(1,wordsC)∈G)(ht:(0,typesC)∈G)(hG:(2,[Value.int .i64 m])∈G)(t:az){n:Nat}(g:cA t n)(hn:n≤300)(row:List Vl)(oT:row.length≤1000)(aT:∀v∈row,v.Ok)(bt off I:Nat)(pre post:List D)(hp:pre.length=off)(ad:Option Addr)(cap:Nat)(Sr:List ah)(Z:vV t ad cap Sr):VC Tryz.prog G 56 [.v (.pointer (some ⟨bt,off,none⟩)),au 3 cV row] (⟨bt,77,I,pre++(tC t ad cap++post)⟩::Sr) (fun r S=>r=ae (gQ t row).2∧((gQ t row).2=0→∃og E oW,vV (gQ t row).1 og E oW∧S=⟨bt,77,I,pre++(tC (gQ t row).1 og E++post)⟩::oW)):=by
 refine VC.body func56 rfl ntmps56 aQ fun X0 w0 bf=>?_;have hko:=fun h=>sN (r:=row) h;have yX:=Lo (G:=G) hm hw ht t.ay yg yf row (Nat.le_trans oT w7);have c8:=dV;have mb:=g.eO;unfold tC;refine af [0,1] ?_;refine cM [0,1,5] ?_;refine aR 3 ?_ (h:=by exact(oV 0));refine cN (yX) ?_;refine bH ?_;refine af [0,1,5,17] ?_;refine av ?_ ?_<;>intro aL bB
 ·have hne:Pc.dQ t.ay row≠0:=(by simpa using aL)
  have aW:gQ t row=(t,Pc.dQ t.ay row):=if_pos hne;refine af [4] ?_;refine aM [] ?_;rw[aW];exact⟨rfl,fun h=>absurd h hne⟩
 have hz:Pc.dQ t.ay row=0:=(by simpa using aL)
 have yF:Pc.dQ bL row=0:=(by rw[←g.ay];exact hz)
 have dJ:=hko yF;have Pg:=oE yF;have O:=zP (G:=G) hG row w4 w4 aT;refine CD.skip ?_;refine CD.seq ?_;refine CD.seq ?_;rcases fK:gl t.ix (bU row) (cQ t.ix) with _|_
 ·have fE:=Ly (G:=G) g.ix (bU row);rw[af4 g.ix dJ fK] at fE;unfold Tw.cT at fE;have U:=Tg (G:=G) g.ix (bU row) (t.rows.length:Int);rw[Vz g.ix hn dJ w4 fK] at U;unfold Tw.cT at U;refine iU [0,1,7] ?_;refine aR 3 ?_ (h:=by exact(x9 0));refine cN (O) ?_;refine cN (fE) ?_;refine bH ?_;refine af [0,1,30] ?_;refine av ?_ ?_<;>intro aY cD
  ·exact absurd aY (by simp at aY)
  refine cM [0,1,36] ?_;refine aR 3 ?_ (h:=by exact(oV 0));refine bH ?_;refine av ?_ ?_<;>intro cm cR
  ·have aW:gQ t row=(t,10):=(by unfold gQ;rw[if_neg (by simp[hz]),if_neg uJ,if_pos w4])
   refine af [4] ?_;refine aM [] ?_;rw[aW];exact⟨rfl,fun h=>absurd (show(10:Int)=0 from h) w7⟩
  have aW:gQ t row=({t with rows:=t.rows++[row],ix:=gb t.ix (cQ t.ix) (bU row) t.rows.length},0):=(by unfold gQ;rw[if_neg (by simp[hz]),if_neg uJ,if_neg w4])
  refine CD.skip ?_;refine CD.seq ?_;refine tJ 16 15 [0,1,8,50,51] ?_;refine aR 3 ?_ (h:=by exact(x9 0));refine cN (O) ?_;refine aR 3 ?_ (h:=by exact(oV 0));refine cN (U) ?_;refine mI 3 ?_;refine pF ?_;refine jP ?_;refine⟨rfl,fun b8=>?_⟩;refine aO 0 [_,_] sizeOf75 ?_;refine an 70 [0,1,8,9] ?_;refine af [0,1,8,9,53] ?_;refine av ?_ ?_<;>intro da eA
  ·exact absurd da (by simp at da)
  refine aB 4 ?_;refine OD.storeAt (k:=1) (cs':=pre++([aZ t.nm,au 2 cC t.ay,aP ad t.rows.length cap,.list 5 ((gb t.ix (cQ t.ix) (bU row) t.rows.length).ag.flatMap cP) (gb t.ix (cQ t.ix) (bU row) t.rows.length).ag.length,ae (gb t.ix (cQ t.ix) (bU row) t.rows.length).root]++post)) ap rfl rfl ot rfl rfl ot rfl rfl sizeOf75 rfl (by show off+3+2≤(pre++(([aZ t.nm,au 2 cC t.ay,aP ad t.rows.length cap,au 5 cP t.ix.ag,ae t.ix.root]:List D)++post)).length;simp only[length_append,length_cons,length_nil];omega) (by exact Cg (j:=3) hp aQ rfl) ?_;refine an 70 [0,1] ?_;refine CD.seq ?_;refine iv 9 (ax (take 2 _)) ?_ (fun _ h=>(Sublist.map _ (take_sublist _ _)).subset h);refine aD 0 rfl bI ?_;refine aD 1 rfl bI ?_;refine aD 2 rfl qm ?_;refine aD 3 rfl (dX 2) ?_;refine aD 4 rfl (oV 1) ?_;refine aD 5 rfl bI ?_;refine dZ.later rfl ?_;refine AD.one (i:=6) aC ?_;refine qq call33 (Rn row w4) ?_;refine AD.one (i:=7) aC ?_;refine nJ (cq 0 [_]) [.slice none 0 0] [_] zeroValue43 runUnderlying37 sizeOf43 (fun pK=>?_);refine nK 0 66 1 1 ?_;refine AD.one (i:=8) aC ?_;refine bD.eL (ls:=t.rows) (new:=[row]) (Sq:=Sr) j3 Ti rfl ap rfl rfl underlying37 abd rfl w7 ot Z (dI (A:=[_,_])) ot bj nH nI (fun ri rP G1 G2=>?_);refine AD.perm (ez (S1:=[⟨ri,43,rP*1,flatMap gG (t.rows++[row])⟩]) (A:=[_,_])) ?_;refine fB ?_;refine aH 2 ?_
  refine OD.storeAt (k:=1) (cs':=pre++((([aZ t.nm,au 2 cC t.ay,aP ad t.rows.length cap,.list 5 ((gb t.ix (cQ t.ix) (bU row) t.rows.length).ag.flatMap cP) (gb t.ix (cQ t.ix) (bU row) t.rows.length).ag.length,ae (gb t.ix (cQ t.ix) (bU row) t.rows.length).root]:List D)).set 2 (aP (some ⟨ri,0,none⟩) ((t.rows++[row])).length rP)++post)) ap rfl rfl ot rfl rfl ot rfl rfl sizeOf37 rfl (by show off+2+1≤(pre++(([aZ t.nm,au 2 cC t.ay,aP ad t.rows.length cap,.list 5 ((gb t.ix (cQ t.ix) (bU row) t.rows.length).ag.flatMap cP) (gb t.ix (cQ t.ix) (bU row) t.rows.length).ag.length,ae (gb t.ix (cQ t.ix) (bU row) t.rows.length).root]:List D)++post)).length;simp only[length_append,length_cons,length_nil];omega) (by exact Cg (j:=2) hp aQ rfl) ?_;refine an 70 [] ?_;refine af [4] ?_;refine aM (⟨bt,77,I,pre++(_++post)⟩::[⟨ri,43,rP*1,flatMap gG (t.rows++[row])⟩]) ?_;rw[aW];exact⟨rfl,fun _=>⟨(some ⟨ri,0,none⟩),rP,[⟨ri,43,rP*1,flatMap gG (t.rows++[row])⟩],(bQ G1 G2),rfl⟩⟩
 obtain⟨rw0,alV⟩:=(BL g.ix (bU row)).1 fK;have fE:=Ly (G:=G) g.ix (bU row);rw[Tf g.ix dJ alV] at fE;unfold Tw.cT at fE;have aW:gQ t row=(t,9):=(by unfold gQ;rw[if_neg (by simp[hz]),if_pos fK])
 refine iU [0,1,7] ?_;refine aR 3 ?_ (h:=by exact(x9 0));refine cN (O) ?_;refine cN (fE) ?_;refine bH ?_;refine af [0,1,30] ?_;refine av ?_ ?_<;>intro aY cD
 ·refine af [4] ?_;refine aM [] ?_;rw[aW];exact⟨rfl,fun h=>absurd (show(9:Int)=0 from h) w7⟩
 exact absurd aY (by simp at aY)

end Go.Proofs.YtkgmonfgofobaaaGreatDoor.Ba

namespace Go.Proofs.YtkgmonfgofobaaaGreatDoor.Ba
open List
open Go.Proofs.Tryz
open Go.RowKit V Pk Tr Vl Go.Proofs.YtkgmonfgofobaaaGreatDoor.Nm Pc Cd Ex Tw
open Pa (bA bg)
variable {G:List (Nat×List Value)} {m:Int}
variable {t:az} {n:Nat} {i:Int}
theorem Ch{t:aG}(g:ja t n){x y:K×Int}(hx:x∈dh t)(hy:y∈dh t)(h:x.1=y.1):x=y:=by
 have hr:(dh t).Pairwise (fun a b=>bu a.1 b.1):=zc g.val;obtain⟨i,hi,rfl⟩:=mem_iff_getElem.1 hx;obtain⟨j,hj,rfl⟩:=mem_iff_getElem.1 hy;have hp:=pairwise_iff_getElem.1 hr;rcases Nat.lt_trichotomy i j with q|q|q
 ·have:=hp i j hi hj q;rw[h] at this;exact absurd this (jl _)
 ·subst q;rfl
 have:=hp j i hj hi q;rw[h] at this;exact absurd this (jl _)
theorem eo.gj(g:cA t n)(h:eo t i):(bU (rowAt t i),i)∈dh t.ix:=by
 obtain⟨h0,h1,h2⟩:=h;have:=(g.row _ h1 h2).2.2;rw[fV h1];rwa [Int.toNat_of_nonneg h0] at this
noncomputable def ng(t:az)(i:Int):az:={t with rows:=t.rows.set i.toNat [],ix:=hU t.ix (cQ t.ix) (bU (rowAt t i))}
noncomputable def kx:az→List Int→az
 | t,[]=>t
 | t,i::r=>kx (ng t i) r
noncomputable def j4(t:az)(w:List aK):az×Int×Int:=if (aq t w).2≠0 then (t,0,(aq t w).2) else (kx t (aq t w).1,(aq t w).1.length,0)
theorem VG(g:cA t n)(h:eo t i):ja (hU t.ix (cQ t.ix) (bU (rowAt t i))) n∧∀x,x∈dh (hU t.ix (cQ t.ix) (bU (rowAt t i)))↔x∈dh t.ix∧x.1≠bU (rowAt t i) :=
 J2 g.ix ((BK g.ix.val _).2 ⟨i,h.gj g⟩)
theorem Ju(g:cA t n)(h:eo t i):cA (ng t i) n:=by
 obtain⟨d1,d2⟩:=VG g h;have dc:=h.gj g;obtain⟨h0,h1,h2⟩:=h;refine⟨g.nm,g.ay,by show(t.rows.set _ _).length≤40;rw[length_set];exact g.eO,d1,fun j hj hne=>?_,fun x hx=>?_⟩
 ·simp only[ng] at hj hne ⊢;rw[length_set] at hj;rw[getElem_set] at hne;split at hne
  ·exact absurd rfl hne
  rename_i E;have he:(t.rows.set i.toNat [])[j]'yd=t.rows[j]:=getElem_set_ne E _;rw[he];obtain⟨p1,p2,p3⟩:=g.row j hj hne;refine⟨p1,p2,(d2 _).2 ⟨p3,fun e=>?_⟩⟩;have:=Ch g.ix p3 dc e;simp only[Prod.mk.injEq] at this;omega
 obtain⟨x1,x2⟩:=(d2 x).1 hx;obtain⟨p0,p1,p2,p3⟩:=g.gj x x1;have E:i.toNat≠x.2.toNat:=fun e=>by
  refine x2 ?_;rw[p3,fV h1];congr 1;simp only[e]
 refine⟨p0,by show _<(t.rows.set _ _).length;rw[length_set];exact p1,?_⟩;have he:(t.rows.set i.toNat [])[x.2.toNat]'(by rw[length_set];exact p1)=t.rows[x.2.toNat]:=getElem_set_ne E _;show(t.rows.set i.toNat [])[x.2.toNat]'(by rw[length_set];exact p1)≠[]∧x.1=bU ((t.rows.set i.toNat [])[x.2.toNat]'(by rw[length_set];exact p1));rw[he];exact⟨p2,p3⟩
theorem K3{j:Int}(h:eo t j)(E:j≠i)(hi:0≤i):eo (ng t i) j:=by
 obtain⟨h0,h1,h2⟩:=h;refine⟨h0,by show _<(t.rows.set _ _).length;rw[length_set];exact h1,?_⟩;show(t.rows.set i.toNat [])[j.toNat]'(by rw[length_set];exact h1)≠[];have e:=getElem_set_ne (l:=t.rows) (i:=i.toNat) (j:=j.toNat) (a:=[]) w4 (by rw[length_set];exact h1);rw[e];exact h2
theorem zh(g:cA t n)(w:List aK):(aq t w).1.Nodup:=(zu g w).imp fun h e=>by rw[e] at h;exact jl _ h
theorem acL(hm:(3,marksC)∈G)(hw:(1,wordsC)∈G)(ht:(0,typesC)∈G)(hG:(2,[Value.int .i64 m])∈G)(t:az)(g:cA t n)(s:bA)(ho:∀o∈s.aj,o.nm.size≤maxLen)(gd:∀o∈s.aj,o.v.Ok)(bt off qB:Nat)(pre post:List D)(hp:pre.length=off)(ad:Option Addr)(cap:Nat)(Sr:List ah)(jz:vV t ad cap Sr):VC Tryz.prog G 59 [.v (.pointer (some ⟨bt,off,none⟩)),.agg (bg s)] (⟨bt,77,qB,pre++(tC t ad cap++post)⟩::Sr) (fun r S=>r = .dD [ae (j4 t s.aj).2.1,ae (j4 t s.aj).2.2]∧((j4 t s.aj).2.2=0→∃og kP oW,vV (j4 t s.aj).1 og kP oW∧S=⟨bt,77,qB,pre++(tC (j4 t s.aj).1 og kP++post)⟩::oW)):=by
 refine VC.body func59 rfl ntmps59 aQ fun X0 w0 bf=>?_;have c8:=dV;have mb:=g.eO;have EJ:=zF g s.aj;have mM:=qP g s.aj;have hnd:=zh g s.aj;unfold tC;unfold bg;refine cf ?_;refine OD.box (ds:=[_,_,_,_,_,_,_,_,_,_,_,_]) ap rfl rfl ot rfl rfl (fun b3=>?_);refine an 56 [0,3] ?_;refine CD.seq ?_;refine iv 9 (ax (take 2 _)) ?_ (fun _ h=>(Sublist.map _ (take_sublist _ _)).subset h);refine aD 0 rfl bI ?_;refine aD 1 rfl qm ?_;refine aD 2 rfl (Nb 1) ?_;refine aD 3 rfl (dX 6) ?_;refine aD 4 rfl (ee 0) ?_;refine dZ.later rfl ?_;refine AD.one (i:=5) aC ?_;refine bD.LY rfl ap rfl rfl rfl call110 (LC hm hw ht hG t g s.aj ho gd) (fun r S h=>h.flat) ⟨⟨_,ot,(vl ⟨eW,eW,lU jz (cz j3 _) (fun B hB=>by simp[hB]),eW,eW,trivial⟩:View _ (.agg [aZ t.nm,au 2 cC t.ay,aP ad t.rows.length cap,au 5 cP t.ix.ag,ae t.ix.root]) (.agg (cU t)))⟩,⟨_,ot,eW⟩,trivial⟩ ?_;rintro _ Sx ⟨dN,dg,rfl,ey⟩;refine AD.perm (kp (A:=[_,_])) ?_;refine dj 6 rfl bI ?_;refine dj 7 rfl N9 ?_;refine dj 8 rfl N9 ?_;refine fB ?_;refine bp [0,6,7] ?_;refine af [0,6,7,20] ?_;refine av ?_ ?_<;>intro aL bB
 ·have hne:(aq t s.aj).2≠0:=(by simpa using aL)
  have aW:j4 t s.aj=(t,0,(aq t s.aj).2):=if_pos hne;refine af [4,5] ?_;refine aM [] ?_;rw[aW];exact⟨rfl,fun h=>absurd h hne⟩
 have hz:(aq t s.aj).2=0:=(by simpa using aL)
 have aW:j4 t s.aj=(kx t (aq t s.aj).1,((aq t s.aj).1.length:Int),0):=if_neg (fun h=>h hz);refine CD.skip ?_;refine CD.seq ?_;refine CD.seq ?_;refine CD.iE (t:=6) (Sq:=Sx) lk ey (cz Tw.eM _) (pc (A:=[_,_])) ?_;refine tO ?_;refine bp [0,6,22,23,24] ?_;refine eG [0,6,22,23] (fun aS _ (U:Nat×az×Option Addr×Nat×List ah) aE=>match U with|(k,u,Z,E,O)=>(k≤(aq t s.aj).1.length)∧(kx u ((aq t s.aj).1.drop k)=kx t (aq t s.aj).1)∧(cA u n)∧(∀i∈(aq t s.aj).1.drop k,eo u i)∧(vV u Z E O)∧aE=(⟨56,(24,ae (k:Nat))::aS,(⟨b3,46,12,bg s⟩::⟨bt,77,qB,pre++([aZ u.nm,au 2 cC u.ay,aP Z u.rows.length E,au 5 cP u.ix.ag,ae u.ix.root]++post)⟩::O)⟩:St)) (fun (U:Nat×az×Option Addr×Nat×List ah)=>match U with|(k,u,Z,E,O)=>(aq t s.aj).1.length-k) (0,t,ad,cap,Sr) ⟨(Nat.zero_le _),rfl,g,mM,jz,rfl⟩ ?_;rintro⟨k,u,Z,E,O⟩ _ ⟨hk,Xm,gu,dc,wF,rfl⟩;refine af [0,6,22,23,24,25] ?_;refine av ?_ ?_<;>intro aY cD
 ·have aa:k<(aq t s.aj).1.length:=(by omega)
  have jj:(aq t s.aj).1.drop k=((aq t s.aj).1[k]'aa)::(aq t s.aj).1.drop (k+1):=drop_eq_getElem_cons aa;have sB:eo u ((aq t s.aj).1[k]'aa):=dc _ (by rw[jj];exact mem_cons_self);obtain⟨fO,I,oo⟩:=id sB;obtain⟨br,rfl,kE,kS,rfl⟩:=wF.pos w4;have gu2:=Ju gu sB;have gC:(ng u ((aq t s.aj).1[k]'aa)).rows.length=u.rows.length:=length_set;have ajc:kx (ng u ((aq t s.aj).1[k]'aa)) ((aq t s.aj).1.drop (k+1))=kx t (aq t s.aj).1:=(by rw[←Xm,jj];rfl)
  have M1:∀i∈(aq t s.aj).1.drop (k+1),eo (ng u ((aq t s.aj).1[k]'aa)) i:=fun i hi=>K3 (dc i (by rw[jj];exact mem_cons_of_mem _ hi)) (fun e=>by subst e;have h9:=hnd.sublist (drop_sublist k _);rw[jj,nodup_cons] at h9;exact h9.1 hi) fO;have Ds:vV (ng u ((aq t s.aj).1[k]'aa)) (some ⟨br,0,none⟩) E [⟨br,43,E*1,(ng u ((aq t s.aj).1[k]'aa)).rows.flatMap gG⟩]:=bQ (by show(u.rows.set _ _).length≤_;rw[length_set];exact kE) kS;obtain⟨Zx,EK⟩:=eo.ok gu sB;have wG:=zP (G:=G) hG (u.rows[((aq t s.aj).1[k]'aa).toNat]) (by rw[←fV I];omega) (by rw[←fV I];omega) (fun v hv=>(EK v (by rw[fV I];exact hv)).1);rw[show bU (u.rows[((aq t s.aj).1[k]'aa).toNat])=bU (rowAt u ((aq t s.aj).1[k]'aa)) from by rw[fV I]] at wG;have yY:=Th (G:=G) gu.ix (bU (rowAt u ((aq t s.aj).1[k]'aa)));rw[UE gu.ix (sN (by rw[fV I];exact(gu.row _ I oo).1)) ((BL gu.ix _).2 ⟨_,sB.gj gu⟩)] at yY;unfold Tw.cT at yY;have aql:=gu.eO;refine af [0,6,9,22,23,24] ?_;refine CD.seq ?_;refine mE 17 [0,6,9,22,23,24,29,43] ?_;refine aR 4 ?_ (h:=by exact(x9 1));refine aR 3 ?_ (h:=by exact(oV 1));refine aR 1 ?_ (h:=by exact(dO 1 (h:=by first|exact .l (j:=((aq t s.aj).1[k]'aa).toNat) (Int.toNat_of_nonneg fO).symm I|exact .r (j:=((aq t s.aj).1[k]'aa).toNat) (Int.toNat_of_nonneg fO).symm I)))
  refine aR 0 ?_ (h:=by exact(cW (mk:=Op.load 43) rfl ot (jk (k:=2) (i:=((aq t s.aj).1[k]'aa).toNat) (ls:=u.rows) j3 rfl rfl rfl isAgg43 I rfl)));refine cN (wG) ?_;refine cN (yY) ?_;refine bH ?_;refine aH 2 ?_;refine OD.storeAt (k:=1) (cs':=pre++([aZ u.nm,au 2 cC u.ay,aP (some ⟨br,0,none⟩) (ng u ((aq t s.aj).1[k]'aa)).rows.length E,.list 5 ((ng u ((aq t s.aj).1[k]'aa)).ix.ag.flatMap cP) (ng u ((aq t s.aj).1[k]'aa)).ix.ag.length,ae (ng u ((aq t s.aj).1[k]'aa)).ix.root]++post)) ap rfl rfl ot rfl rfl ot rfl rfl sizeOf75 rfl (by show off+3+2≤(pre++(([aZ u.nm,au 2 cC u.ay,aP (some ⟨br,0,none⟩) u.rows.length E,au 5 cP u.ix.ag,ae u.ix.root]:List D)++post)).length;simp only[length_append,length_cons,length_nil];omega) (by exact Cg (j:=3) hp aQ (by rw[gC];rfl)) ?_;refine an 56 [0,6,9,22,23,24] ?_;refine dY 3 ?_;refine bV (oV 1) ?_;refine aH 1 ?_;refine bV (dO 1 (h:=by first|exact .l (j:=((aq t s.aj).1[k]'aa).toNat) (Int.toNat_of_nonneg fO).symm (by rw[gC];exact I)|exact .r (j:=((aq t s.aj).1[k]'aa).toNat) (Int.toNat_of_nonneg fO).symm (by rw[gC];exact I))) ?_
  refine OD.storeAt (k:=2) (cs':=(u.rows.flatMap gG).set ((aq t s.aj).1[k]'aa).toNat (bF)) ap rfl rfl ot rfl rfl bP rfl rfl sizeOf43 rfl (by show 0+((aq t s.aj).1[k]'aa).toNat*1+1≤(u.rows.flatMap gG).length;rw[cz j3];omega) (by show(u.rows.flatMap gG).set (0+((aq t s.aj).1[k]'aa).toNat*1) _=_;rw[Nat.zero_add,Nat.mul_one]) ?_;refine OD.cells (k:=2) (cs':=(ng u ((aq t s.aj).1[k]'aa)).rows.flatMap gG) (S':=[_,_,_]) rfl (by have:=T4 (eu (sz:=3)) (u.rows.flatMap gG) ((aq t s.aj).1[k]'aa).toNat;rw[show(u.rows.flatMap gG).set ((aq t s.aj).1[k]'aa).toNat (.list 3 [] 0)=(u.rows.set ((aq t s.aj).1[k]'aa).toNat []).flatMap gG from by have:=pi j3 u.rows [] I;rw[Nat.mul_one] at this;exact this] at this;exact this) rfl ?_;refine an 56 [0,6,22,23,24] ?_;refine cc [0,6,22,23,24] ?_;refine⟨((k+1),(ng u ((aq t s.aj).1[k]'aa)),(some ⟨br,0,none⟩),E,[⟨br,43,E*1,(ng u ((aq t s.aj).1[k]'aa)).rows.flatMap gG⟩]),_,cr,aJ,w4,ajc,gu2,M1,Ds,rfl⟩
 have nF:u=kx t (aq t s.aj).1:=(by rw[←Xm,drop_of_length_le w4];rfl)
 subst nF;refine af [4,5] ?_;refine aM (⟨bt,77,qB,pre++(_++post)⟩::O) ?_;rw[aW];exact⟨rfl,fun _=>⟨Z,E,O,wF,rfl⟩⟩

end Go.Proofs.YtkgmonfgofobaaaGreatDoor.Ba
namespace Go.Proofs.YtkgmonfgofobaaaGreatDoor.Ba
open List
open Go.Proofs.Tryz
open Go.RowKit V Pk Tr Vl Go.Proofs.YtkgmonfgofobaaaGreatDoor.Nm Pc Cd Ex Tw
open Pa (bA bg)
variable {i c:Nat} {v:Vl} {ops:List aK} {row:List Vl} {t:az} {L:List cl}
theorem J5:∀(i:Nat) (cs:List cH) (vs:List Vl),cs.length=vs.length→(Pc.py i cs vs=0↔∀j (h1:j<cs.length) (h2:j<vs.length),Pc.l7 (i+j) cs[j] vs[j]=0)
 | _,[],[],_=>⟨fun _ j h1=>absurd h1 (Nat.not_lt_zero j),fun _=>rfl⟩
 | _,[],_::_,h=>by cases h
 | _,_::_,[],h=>by cases h
 | i,c::cs,v::vs,h=>by
  rw[Pc.py];have ih:=J5 (i+1) cs vs (Nat.succ.inj h);by_cases he:Pc.l7 i c v=0
  ·rw[if_neg (fun h=>h he),ih];constructor
   ·intro k j h1 h2;cases j with
    | zero=>exact he
    | succ j=>have:=k j (Nat.lt_of_succ_lt_succ h1) (Nat.lt_of_succ_lt_succ h2);rw[show i+(j+1)=i+1+j by omega];exact this
   intro k j h1 h2;have:=k (j+1) (Nat.succ_lt_succ h1) (Nat.succ_lt_succ h2);rw[show i+(j+1)=i+1+j by omega] at this;exact this
  rw[if_pos he];exact⟨fun h=>absurd h he,fun k=>absurd (k 0 (Nat.succ_pos _) (Nat.succ_pos _)) he⟩
theorem K4{r:List Vl}:Pc.dQ bL r=0↔r.length=4∧∀j (h1:j<bL.length) (h2:j<r.length),Pc.l7 j bL[j] r[j]=0:=by
 constructor
 ·intro h;have h4:=oE h;unfold Pc.dQ at h;rw[if_neg AV,if_neg yj,J5 0 bL r (by rw[h4];rfl)] at h;refine⟨h4,fun j h1 h2=>?_⟩;have:=h j h1 h2;rwa [Nat.zero_add] at this
 intro ⟨h4,h⟩;unfold Pc.dQ;rw[if_neg AV,if_neg yj,J5 0 bL r (by rw[h4];rfl)];intro j h1 h2;rw[Nat.zero_add];exact h j h1 h2
theorem agi{c:cH}(h:Pc.l7 i c v=0):jM c.k v:=by
 unfold Pc.l7 at h;by_cases h1:cg v=0
 ·rw[if_neg (fun e=>e h1)] at h;by_cases h2:v.k≠c.k∧(i=0∨v.k≠0)
  ·rw[if_pos h2] at h;cases h
  exact⟨h1,by omega⟩
 rw[if_pos h1] at h;exact absurd h h1
theorem agj{r:List Vl}(h:Pc.dQ bL r=0):GP bL r:=fun i=>by
 obtain⟨h4,hf⟩:=K4.1 h;have hc:bL.length=4:=rfl;rw[getD_eq_getElem?_getD,getD_eq_getElem?_getD];by_cases hi:i<4
 ·rw[getElem?_eq_getElem w4,getElem?_eq_getElem w4];exact agi (hf i w4 w4)
 rw[getElem?_eq_none w4,getElem?_eq_none w4];exact Cq
theorem UR{r:List Vl}(h:Pc.dQ bL r=0)(hc:c<bL.length)(hv:jM bL[c].k v)(h0:c=0→v.k≠0):Pc.dQ bL (r.set c v)=0:=by
 obtain⟨h4,hf⟩:=K4.1 h;refine K4.2 ⟨by rw[length_set];exact h4,fun j h1 h2=>?_⟩;rw[length_set] at h2;rw[getElem_set];split
 ·rename_i e;subst e;unfold Pc.l7;rw[if_neg (fun e=>e hv.1),if_neg (fun e=>?_)];have:=hv.2;have:=e.2;have:=e.1;by_cases E:c=0
  ·have:=h0 E;omega
  omega
 exact hf j h1 h2
theorem FJ:∀(ops:List aK) (h:Int),fX h ops=0→∀o∈ops,∃h',gD h' o=0
 | [],_,_,o,ho=>by cases ho
 | x::r,h,hx,o,ho=>by
  rw[fX] at hx;by_cases he:gD h x=0
  ·rw[if_pos he] at hx;rcases mem_cons.1 ho with rfl|ho
   ·exact⟨_,he⟩
   exact FJ r _ hx o ho
  rw[if_neg he] at hx;exact absurd hx he
theorem acM{l:List cH}(lA:∀o∈ops,o.nm.size≤maxLen)(gd:∀o∈ops,o.v.Ok)(hk:(dU l ops).2=0):∀o∈ops,Ai l o:=fun o ho=>by
 obtain⟨_,hx,he⟩:=F0 hk;obtain⟨h',h1⟩:=FJ ops 0 (xp hx).2 o ho;obtain⟨_,h2,h3,_⟩:=wX h1;exact⟨lA o ho,gd o ho,Fh h3,h2.1,h2.2,Q2 (by rw[he] at hk;exact hk) o ho⟩
theorem Ts{l:List cH}{row:List Vl}(hr:∀v∈row,v.Ok):∀(ops:List aK),(∀o∈ops,o.v.Ok)→∀st:List Vl,(∀v∈st,v.Ok)→(iZ bw (fY l row) ops st).1.Ok
 | [],_,st,fS=>KJ fS 0
 | o::r,hg,st,fS=>by
  have E:(fY l row o (fx bw o.k st) (fy bw o.k st)).1.Ok:=Uo hr (hg o mem_cons_self) (KK fS _) (KL fS _);by_cases hz:(fY l row o (fx bw o.k st) (fy bw o.k st)).2=0
  ·rw[KM hz];refine Ts hr r (fun x hx=>hg x (mem_cons_of_mem _ hx)) _ fun v hv=>?_;rcases mem_append.1 hv with hv|hv
   ·exact fS v (mem_of_mem_take hv)
   rw[mem_singleton] at hv;rw[hv];exact E
  rw[JQ hz];exact uv
theorem agk{l:List cH}(hr:∀v∈row,v.Ok)(gd:∀o∈ops,o.v.Ok):(dG l row ops).1.Ok:=by
 unfold dG;repeat' split
 all_goals first|exact uv|exact Ts hr ops gd [] (fun v hv=>by cases hv)
theorem aeC(lA:∀o∈ops,o.nm.size≤maxLen)(gd:∀o∈ops,o.v.Ok)(hw:Pc.dQ bL row=0)(hk:(dU bL ops).2=0)(he:(dG bL row ops).2=0):jM (dU bL ops).1 (dG bL row ops).1:=by
 obtain⟨_,_,_,h4⟩:=abW Ki hw (agj hw) (acM lA gd hk) (F0 hk).2.1;obtain⟨_,h5|h5⟩:=h4 hk
 ·rw[h5] at he;cases he
 exact h5.2
def eX(t:az)(c:Int)(e:List aK):List Vl→List Int→List Vl×Int
 | acc,[]=>(acc,0)
 | acc,i::r=>if (dG t.ay (rowAt t i) e).2≠0 then ([],(dG t.ay (rowAt t i) e).2) else if c=0∧(dG t.ay (rowAt t i) e).1.k=0 then ([],4) else eX t c e (acc++[(dG t.ay (rowAt t i) e).1]) r
def iI(t:az)(i:Int)(c:Nat)(v:Vl):az:={t with rows:=t.rows.set i.toNat ((rowAt t i).set c v)}
def eU(c:Nat):az→List Int→List Vl→az
 | t,i::r,v::s=>eU c (iI t i c v) r s
 | t,_,_=>t
noncomputable def iG(t:az):aG→List Int→aG
 | x,[]=>x
 | x,i::r=>iG t (hU x (cQ x) (bU (rowAt t i))) r
noncomputable def eT:az→List Int→List Vl→az×Int
 | t,i::r,v::s=>if gl t.ix (bU (rowAt (iI t i 0 v) i)) (cQ t.ix)=true then (t,9) else eT {iI t i 0 v with ix:=gb t.ix (cQ t.ix) (bU (rowAt (iI t i 0 v) i)) i} r s
 | t,_,_=>(t,0)
noncomputable def dH(t:az)(s:bA):az×Int×Int :=
 if bC t.ay s.set<0 then (t,0,8) else if (dU t.ay s.bJ).2≠0 then (t,0,(dU t.ay s.bJ).2)
 else if (dU t.ay s.bJ).1≠(t.ay.getD (bC t.ay s.set).toNat ⟨⟨#[]⟩,0⟩).k∧(dU t.ay s.bJ).1≠0 then (t,0,4)
 else if (aq t s.aj).2≠0 then (t,0,(aq t s.aj).2)
 else if (eX t (bC t.ay s.set) s.bJ [] (aq t s.aj).1).2≠0 then (t,0,(eX t (bC t.ay s.set) s.bJ [] (aq t s.aj).1).2)
 else if 0<bC t.ay s.set then (eU (bC t.ay s.set).toNat t (aq t s.aj).1 (eX t (bC t.ay s.set) s.bJ [] (aq t s.aj).1).1,(aq t s.aj).1.length,0)
 else if (eT {t with ix:=iG t t.ix (aq t s.aj).1} (aq t s.aj).1 (eX t (bC t.ay s.set) s.bJ [] (aq t s.aj).1).1).2≠0 then (t,0,(eT {t with ix:=iG t t.ix (aq t s.aj).1} (aq t s.aj).1 (eX t (bC t.ay s.set) s.bJ [] (aq t s.aj).1).1).2)
 else ((eT {t with ix:=iG t t.ix (aq t s.aj).1} (aq t s.aj).1 (eX t (bC t.ay s.set) s.bJ [] (aq t s.aj).1).1).1,(aq t s.aj).1.length,0)

variable {G:List (Nat×List Value)} {m:Int}
def Hr(t:az)(L:List cl)(ad:Option Addr)(cap:Nat)(Sr:List ah):Prop:=L.map cl.r=t.rows∧(∀o∈L,om o)∧th L ad cap Sr
theorem Tu{ad:Option Addr}{cap:Nat}{E S:List ah}(h:Hr t L ad cap E)(hs:∀B∈E++L.flatMap bR,B∈S):View S (.agg (tC t ad cap)) (.agg (cU t)) :=
 UG (o:=⟨t,L.flatMap gR,ad,cap,E,L.flatMap bR⟩) (qy.w ⟨L,rfl,rfl,h.2.1,h.1,h.2.2⟩) hs
theorem Tv{S:List ah}(aT:∀o∈L,om o)(hi:i<L.length)(hs:∀B∈L.flatMap bR,B∈S):View S (aP L[i].ad L[i].r.length L[i].cap) (.list 3 (L[i].r.flatMap cV) L[i].r.length) :=
 lU (aT _ (getElem_mem hi)) (cz fq _) (fun B E=>hs B (mem_flatMap.2 ⟨_,getElem_mem hi,E⟩))
theorem K5(f:ah→Nat):∀(L:List cl) (i:Nat) (o:cl) (h:i<L.length),(((L.set i o).flatMap bR).map f).sum=(o.S.map f).sum+(((L.eraseIdx i).flatMap bR).map f).sum
 | [],_,_,h=>absurd h (Nat.not_lt_zero _)
 | x::L,0,o,_=>by simp[bR]
 | x::L,i+1,o,h=>by
  have:=K5 f L i o (Nat.lt_of_succ_lt_succ h);simp only[set_cons_succ,flatMap_cons,map_append,sum_append,eraseIdx_cons_succ,this];omega
theorem Ty{A B C X:ah}(h:i<L.length)(hS:L[i].S=[X]):(A::B::([C]++L.flatMap bR)).Perm (X::A::B::C::(L.eraseIdx i).flatMap bR):=jS fun f=>by
 have:=K5 f L i L[i] h;rw[set_getElem_self,hS] at this;simp only[map_cons,sum_cons,map_append,sum_append,map_nil,sum_nil,this];omega
theorem US{A B C X:ah}(h:i<L.length){o:cl}(hS:o.S=[X]):(X::A::B::C::(L.eraseIdx i).flatMap bR).Perm (A::B::([C]++(L.set i o).flatMap bR)):=jS fun f=>by
 have:=K5 f L i o h;rw[hS] at this;simp only[map_cons,sum_cons,map_append,sum_append,map_nil,sum_nil,this];omega
theorem Tz{t:az}{c:Int}{e:List aK}:∀(l:List Int) (acc:List Vl),(eX t c e acc l).2=0→(eX t c e acc l).1.length=acc.length+l.length
 | [],acc,_=>rfl
 | i::r,acc,h=>by
  rw[eX] at h ⊢;split
  ·rename_i h1;rw[if_pos h1] at h;exact absurd h h1
  rename_i h1;rw[if_neg h1] at h;split
  ·rename_i h2;rw[if_pos h2] at h;cases h
  rename_i h2;rw[if_neg h2] at h;rw[Tz r _ h,length_append,length_cons,length_cons,length_nil];omega
theorem J6{t:az}{n:Nat}(g:cA t n){c:Int}{e:List aK}(lA:∀o∈e,o.nm.size≤maxLen)(gd:∀o∈e,o.v.Ok)(hk:(dU bL e).2=0):∀(l:List Int) (acc:List Vl),(∀i∈l,eo t i)→(eX t c e acc l).2=0 →
  (∀v∈acc,v.Ok∧jM (dU bL e).1 v∧(c=0→v.k≠0))→∀v∈(eX t c e acc l).1,v.Ok∧jM (dU bL e).1 v∧(c=0→v.k≠0)
 | [],acc,_,_,ha=>ha
 | i::r,acc,hl,h,ha=>by
  rw[eX] at h ⊢;have hi:=hl i mem_cons_self;obtain⟨h0,h1,h2⟩:=id hi;obtain⟨p1,p2,_⟩:=g.row _ h1 h2;rw[←fV h1] at p1 p2;split
  ·rename_i h1;rw[if_pos h1] at h;exact absurd h h1
  rename_i hne;rw[if_neg hne] at h;split
  ·rename_i h2;rw[if_pos h2] at h;cases h
  rename_i h3;rw[if_neg h3] at h;refine J6 g lA gd hk r _ (fun j hj=>hl j (mem_cons_of_mem _ hj)) h fun v hv=>?_;rcases mem_append.1 hv with hv|hv
  ·exact ha v hv
  rw[mem_singleton] at hv;subst hv;rw[g.ay] at hne h3 ⊢;exact⟨agk p2 gd,aeC lA gd p1 hk (Classical.not_not.1 hne),fun hc hz=>h3 ⟨hc,hz⟩⟩
theorem K6{g:cl→List D}:∀(M:List cl) (i:Nat) (h:i<M.length) (o:cl),g o=g M[i]→(M.set i o).flatMap g=M.flatMap g
 | [],_,h,_,_=>absurd h (Nat.not_lt_zero _)
 | x::M,0,_,o,e=>by
  rw[set_cons_zero,flatMap_cons,flatMap_cons,e];rfl
 | x::M,i+1,h,o,e=>by
  rw[set_cons_succ,flatMap_cons,flatMap_cons,K6 M i (Nat.lt_of_succ_lt_succ h) o e]
theorem Rx{x:aG}{M:List cl}{i:Int}(h:i.toNat<M.length):rowAt {t with rows:=M.map cl.r,ix:=x} i=M[i.toNat].r:=by
 rw[fV (by show _<(M.map cl.r).length;rw[length_map];exact h)];exact getElem_map ..
theorem UT{x:aG}{M:List cl}{i:Int}(h:i.toNat<M.length){o:cl}(ho:o.r=M[i.toNat].r.set c v):iI {t with rows:=M.map cl.r,ix:=x} i c v={t with rows:=(M.set i.toNat o).map cl.r,ix:=x}:=by
 unfold iI;rw[Rx h,map_set,ho]
theorem aeD{l:List Vl}:eU c t [] l=t:=by unfold eU;rfl
theorem acN{l:List Vl}:eT t [] l=(t,0):=by unfold eT;rfl
theorem Hs{l:List (List Vl)}(h:L.map cl.r=l)(h1:i<L.length)(h2:i<l.length):L[i].r=l[i]:=by subst h;rw[getElem_map]
theorem abe:(Tryz.prog.info? 33).map (fun i=>(i.zero,i.size,i.bytes))=some (some (.agg #[.int .i64 0,.int .i64 0,.string ⟨#[]⟩]),3,32):=by kernel_rfl
theorem acO(hm:(3,marksC)∈G)(hw:(1,wordsC)∈G)(ht:(0,typesC)∈G)(hG:(2,[Value.int .i64 m])∈G)(t:az){n:Nat}(g:cA t n)(s:bA)(ho:∀o∈s.aj,o.nm.size≤maxLen)(gd:∀o∈s.aj,o.v.Ok)(rB:∀o∈s.bJ,o.nm.size≤maxLen)(Ht:∀o∈s.bJ,o.v.Ok)(hn:n≤260)(bt off qB:Nat)(pre post:List D)(hp:pre.length=off)(L:List cl)(ad:Option Addr)(cap:Nat)(Sr:List ah)(hL:L.map cl.r=t.rows)(aT:∀o∈L,om o)(jz:th L ad cap Sr):VC Tryz.prog G 58 [.v (.pointer (some ⟨bt,off,none⟩)),.agg (bg s)] (⟨bt,77,qB,pre++(tC t ad cap++post)⟩::(Sr++L.flatMap bR)) (fun r S=>r = .dD [ae (dH t s).2.1,ae (dH t s).2.2]∧((dH t s).2.2=0→∃L' og kP oW,Hr (dH t s).1 L' og kP oW∧S=⟨bt,77,qB,pre++(tC (dH t s).1 og kP++post)⟩::(oW++L'.flatMap bR))):=by
 refine VC.body func58 rfl ntmps58 aQ fun X0 w0 bf=>?_;have c8:=dV;have Iw:Hr t L ad cap Sr:=⟨hL,aT,jz⟩
 have so:L.length=t.rows.length:=(by rw[←hL];(first|rw[length_map]|(unfold au;rw[length_map])))
 have mb:=g.eO;have EJ:=zF g s.aj;have mM:=qP g s.aj;have hnd:=zh g s.aj;have alW:t.ay.length=4:=(by rw[g.ay];rfl)
 have ajd:=Jq (G:=G) t w4 s.set;have wG:=KH (G:=G) hm hw ht t.ay yg yf s.bJ rB;unfold qh at wG;have Zy:=xo (fun c:cH=>c.n.toList==s.set.toList) t.ay;rw[show dP (fun c:cH=>c.n.toList==s.set.toList) t.ay=(bC t.ay s.set) from rfl] at Zy;unfold tC;unfold bg;refine cf ?_;refine OD.box (ds:=[_,_,_,_,_,_,_,_,_,_,_,_]) ap rfl rfl ot rfl rfl (fun b3=>?_);refine an 205 [0,3] ?_;refine cM [0,3,6] ?_;refine aR 2 ?_ (h:=by exact(Nb 1));refine mI 2 ?_;refine Aw (ajd) (ha:=by exact⟨⟨_,ot,(Tu Iw (fun B U=>by repeat (first|exact U|apply mem_append_right|apply mem_cons_of_mem)):View _ (.agg (tC t ad cap)) _)⟩,⟨_,ot,eW⟩,trivial⟩) (K:=?_);refine bH ?_;refine af [0,3,6,30] ?_;refine av ?_ ?_<;>intro aL bB
 ·have hA:(bC t.ay s.set)<0:=(by simpa using aL)
  have aW:dH t s=(t,0,8):=(by unfold dH;rw[if_pos hA])
  exact z141
 have hA:¬(bC t.ay s.set)<0:=(by simpa using aL)
 have kD:(bC t.ay s.set).toNat<t.ay.length:=(by omega)
 refine cM [0,3,6,7,8] ?_;refine aR 3 ?_ (h:=by exact(oV 1));refine cN (wG) ?_;refine bH ?_;refine af [0,3,6,7,8,42] ?_;refine av ?_ ?_<;>intro aY cD
 ·have U:(dU t.ay s.bJ).2≠0:=(by simpa using aY)
  have aW:dH t s=(t,0,(dU t.ay s.bJ).2):=(by unfold dH;rw[if_neg hA,if_pos U])
  exact z141
 have U:¬(dU t.ay s.bJ).2≠0:=(by simpa using aY)
 have ic:t.ay.getD (bC t.ay s.set).toNat ⟨⟨#[]⟩,0⟩=t.ay[(bC t.ay s.set).toNat]:=(by rw[getD_eq_getElem?_getD,getElem?_eq_getElem kD];rfl)
 refine CD.skip ?_;refine iL [0,3,6] (fun aS kV aE=>(¬((dU t.ay s.bJ).1≠(t.ay.getD (bC t.ay s.set).toNat ⟨⟨#[]⟩,0⟩).k∧(dU t.ay s.bJ).1≠0))∧aE=(⟨205,aS,kV⟩:St)) ?_ ?_
 ·refine aB 4 ?_;refine bV (oV 1) ?_;refine aH 1 ?_;refine bV (dO 2 (h:=by first|exact .l (j:=(bC t.ay s.set).toNat) (Int.toNat_of_nonneg w4).symm kD|exact .r (j:=(bC t.ay s.set).toNat) (Int.toNat_of_nonneg w4).symm kD)) ?_;refine aH 4 ?_;refine bY 54 (fun AE zX=>?_) (fun AE zX=>?_)
  ·refine an 205 [0,3,6,57] ?_;refine av ?_ ?_<;>intro cm cR
   ·have hC:(dU t.ay s.bJ).1≠(t.ay.getD (bC t.ay s.set).toNat ⟨⟨#[]⟩,0⟩).k∧(dU t.ay s.bJ).1≠0:=(by rw[ic];exact⟨by simpa using AE,by simpa using cm⟩)
    have aW:dH t s=(t,0,4):=(by unfold dH;rw[if_neg hA,if_neg U,if_pos hC])
    exact z141
   exact Yh
  refine an 205 [0,3,6,57] ?_;refine gq ?_;exact Yh
 rintro _ ⟨hC,rfl⟩;refine cM [0,3,6,8,9] ?_;refine aR 2 ?_ (h:=by exact(Nb 1));refine mI 2 ?_;refine Av (LC hm hw ht hG t g s.aj ho gd) (fun r S h=>h.flat) (fun r S h=>h.view) (ha:=by exact⟨⟨_,ot,(Tu Iw (fun B U=>by repeat (first|exact U|apply mem_append_right|apply mem_cons_of_mem)):View _ (.agg (tC t ad cap)) _)⟩,⟨_,ot,eW⟩,trivial⟩) (K:=?_);refine bH ?_;refine af [0,3,6,8,9,68] ?_;refine av ?_ ?_<;>intro da eA
 ·have hD:(aq t s.aj).2≠0:=(by simpa using da)
  have aW:dH t s=(t,0,(aq t s.aj).2):=(by unfold dH;rw[if_neg hA,if_neg U,if_neg hC,if_pos hD])
  exact z141
 have hD:¬(aq t s.aj).2≠0:=(by simpa using da)
 refine cf ?_;refine bp [0,3,6,9,10] ?_;refine af [0,3,6,9,10,70,71,72] ?_;refine eG [0,3,6,9,70,71] (fun aS _ (E:Nat×List Vl×Option Addr×Nat×List ah) aE=>match E with|(k,acc,dN,dg,Sx)=>(k≤(aq t s.aj).1.length)∧((acc).length=k)∧((eX t (bC t.ay s.set) s.bJ [] (aq t s.aj).1)=eX t (bC t.ay s.set) s.bJ acc ((aq t s.aj).1.drop k))∧(bn 33 3 ((acc).flatMap cV) (acc).length dN dg Sx)∧aE=(⟨205,(10,aP dN (acc).length dg)::(72,ae (k:Nat))::aS,(⟨b3,46,12,bg s⟩::⟨bt,77,qB,pre++([aZ t.nm,au 2 cC t.ay,aP ad t.rows.length cap,au 5 cP t.ix.ag,ae t.ix.root]++post)⟩::(Sr++(Sx++L.flatMap bR)))⟩:St)) (fun (E:Nat×List Vl×Option Addr×Nat×List ah)=>match E with|(k,acc,dN,dg,Sx)=>(aq t s.aj).1.length-k) (0,([]:List Vl),none,0,[]) ⟨(Nat.zero_le _),rfl,rfl,iW,rfl⟩ ?_;rintro⟨k,acc,dN,dg,Sx⟩ _ ⟨hk,rU,uQ,ey,rfl⟩;refine af [0,3,6,9,10,70,71,72,73] ?_;refine av ?_ ?_<;>intro dR fH
 ·have aa:k<(aq t s.aj).1.length:=(by omega)
  have jj:(aq t s.aj).1.drop k=((aq t s.aj).1[k]'aa)::(aq t s.aj).1.drop (k+1):=drop_eq_getElem_cons aa;have sB:eo t ((aq t s.aj).1[k]'aa):=mM _ (getElem_mem aa);obtain⟨fO,O,oo⟩:=id sB;have gp:((aq t s.aj).1[k]'aa).toNat<L.length:=(by rw[so];exact O)
  obtain⟨br,rfl,kE,kS,rfl⟩:=jz.pos w4;have wH:L[((aq t s.aj).1[k]'aa).toNat].r=rowAt t ((aq t s.aj).1[k]'aa):=(by rw[fV O];exact(Hs hL gp O))
  obtain⟨Zx,EK⟩:=eo.ok g sB;have Nc:=Up (G:=G) hm hw ht t.ay yg yf L[((aq t s.aj).1[k]'aa).toNat].r (by rw[wH];omega) (by rw[wH];exact fun v hv=>(EK v hv).1) s.bJ rB Ht;rw[show dG t.ay L[((aq t s.aj).1[k]'aa).toNat].r s.bJ=(dG t.ay (rowAt t ((aq t s.aj).1[k]'aa)) s.bJ) from by rw[wH]] at Nc;unfold nu at Nc;refine af [0,3,6,9,10,12,70,71,72] ?_;refine CD.seq ?_;refine tJ 18 17 [0,3,6,9,10,13,70,71,72,91,92] ?_;refine aR 3 ?_ (h:=by exact(oV 1));refine aR 3 ?_ (h:=by exact(oV 1));refine aR 1 ?_ (h:=by exact(dO 1 (h:=by first|exact .l (j:=((aq t s.aj).1[k]'aa).toNat) (Int.toNat_of_nonneg fO).symm O|exact .r (j:=((aq t s.aj).1[k]'aa).toNat) (Int.toNat_of_nonneg fO).symm O)));refine aR 0 ?_ (h:=by exact(cW (mk:=Op.load 43) rfl ot (jk (k:=2) (i:=((aq t s.aj).1[k]'aa).toNat) (ls:=L) vA rfl rfl rfl isAgg43 gp rfl)));refine mI 2 ?_;refine Aw (Nc) (ha:=by exact⟨⟨_,ot,eW⟩,⟨_,ot,(Tv aT gp (fun B U=>by repeat (first|exact U|apply mem_append_right|apply mem_cons_of_mem)))⟩,⟨_,ot,eW⟩,trivial⟩) (K:=?_);refine mI 3 ?_;refine pF ?_;refine jP ?_;refine⟨rfl,fun mK=>?_⟩;refine aO 0 [_,_,_] sizeOf33 ?_;refine an 205 [0,3,6,9,10,13,14,70,71,72] ?_;refine af [0,3,6,9,10,13,14,70,71,72,94] ?_;refine av ?_ ?_<;>intro fM gW
  ·have hE:(dG t.ay (rowAt t ((aq t s.aj).1[k]'aa)) s.bJ).2≠0:=(by simpa using fM)
   have gJ:(eX t (bC t.ay s.set) s.bJ [] (aq t s.aj).1)=([],(dG t.ay (rowAt t ((aq t s.aj).1[k]'aa)) s.bJ).2):=(by rw[uQ,jj,eX,if_pos hE])
   have aW:dH t s=(t,0,(dG t.ay (rowAt t ((aq t s.aj).1[k]'aa)) s.bJ).2):=(by unfold dH;rw[if_neg hA,if_neg U,if_neg hC,if_neg hD,gJ,if_pos hE])
   exact z141
  have hE:¬(dG t.ay (rowAt t ((aq t s.aj).1[k]'aa)) s.bJ).2≠0:=(by simpa using fM)
  refine CD.skip ?_;refine iL [0,3,6,9,10,13,70,71,72] (fun aS kV aE=>((eX t (bC t.ay s.set) s.bJ [] (aq t s.aj).1)=eX t (bC t.ay s.set) s.bJ (acc++[(dG t.ay (rowAt t ((aq t s.aj).1[k]'aa)) s.bJ).1]) ((aq t s.aj).1.drop (k+1)))∧aE=(⟨205,aS,kV⟩:St)) ?_ ?_
  ·refine aB 3 ?_;refine bY 98 (fun An GR=>?_) (fun An GR=>?_)
   ·refine bp [0,3,6,9,10,13,70,71,72,102] ?_;refine av ?_ ?_<;>intro jb px
    ·have hF:(bC t.ay s.set)=0∧(dG t.ay (rowAt t ((aq t s.aj).1[k]'aa)) s.bJ).1.k=0:=⟨GR,by simpa using jb⟩
     have gJ:(eX t (bC t.ay s.set) s.bJ [] (aq t s.aj).1)=([],4):=(by rw[uQ,jj,eX,if_neg hE,if_pos hF])
     have aW:dH t s=(t,0,4):=(by unfold dH;rw[if_neg hA,if_neg U,if_neg hC,if_neg hD,gJ,if_pos w7])
     exact z141
    exact XZ
   refine bp [0,3,6,9,10,13,70,71,72,102] ?_;refine gq ?_;exact XZ
  rintro _ ⟨oe,rfl⟩;refine dY 2 ?_;refine eD (cq 0 [_]) [.int .i64 0,.int .i64 0,.string ⟨#[]⟩] [_,_,_] zeroValue33 runUnderlying43 sizeOf33 (fun arm=>?_);refine fT 0 105 3 1 ?_;refine OD.eL (ls:=acc) (new:=[(dG t.ay (rowAt t ((aq t s.aj).1[k]'aa)) s.bJ).1]) (Sq:=Sx) fq Gi ap rfl rfl underlying43 abe rfl w7 ot ey (tW (A:=[_,_,_]) (S1:=[⟨br,43,cap*1,L.flatMap gR⟩]) (S2:=Sx) (S3:=L.flatMap bR)) ot bj nH nI (fun Nd Mf aje ajf=>?_);refine OD.perm (wU (S2:=[⟨Nd,33,Mf*3,flatMap cV (acc++[(dG t.ay (rowAt t ((aq t s.aj).1[k]'aa)) s.bJ).1])⟩]) (A:=[_,_,_])) ?_;refine an 205 [0,3,6,9,10,70,71,72] ?_;refine cc [0,3,6,9,10,70,71,72] ?_;refine⟨((k+1),(acc++[(dG t.ay (rowAt t ((aq t s.aj).1[k]'aa)) s.bJ).1]),(some ⟨Nd,0,none⟩),Mf,[⟨Nd,33,Mf*3,flatMap cV (acc++[(dG t.ay (rowAt t ((aq t s.aj).1[k]'aa)) s.bJ).1])⟩]),_,cr,aJ,w4,Dx,oe,(bQ aje ajf),rfl⟩
 have EL:(eX t (bC t.ay s.set) s.bJ [] (aq t s.aj).1)=(acc,0):=(by rw[uQ,drop_of_length_le w4];rfl)
 have hN:¬(eX t (bC t.ay s.set) s.bJ [] (aq t s.aj).1).2≠0:=(by rw[EL];exact fun h=>h rfl)
 have ru:acc.length=(aq t s.aj).1.length:=(by omega)
 have Xn:=J6 g rB Ht (c:=(bC t.ay s.set)) (by rw[←g.ay];exact Classical.not_not.1 U) (aq t s.aj).1 [] mM (Classical.not_not.1 hN) (fun v hv=>by cases hv);rw[EL] at Xn;have hl4:∀i∈(aq t s.aj).1,∃h:i.toNat<L.length,L[i.toNat].r.length=4:=fun i hi=>by obtain⟨h0,h1,h2⟩:=mM i hi;have:=(eo.ok g (mM i hi)).1;rw[fV h1] at this;exact⟨by omega,by rw[Hs hL w4 h1];exact this⟩
 have hl5:∀i∈(aq t s.aj).1,∃h:i.toNat<L.length,Pc.dQ bL L[i.toNat].r=0∧∀v∈L[i.toNat].r,v.Ok:=fun i hi=>by obtain⟨h0,h1,h2⟩:=mM i hi;obtain⟨p1,p2,_⟩:=g.row _ h1 h2;exact⟨by omega,by rw[Hs hL w4 h1];exact⟨p1,p2⟩⟩
 refine CD.exit ?_;refine CD.seq ?_;refine CD.seq ?_;refine CD.iE (t:=10) (Sq:=Sx) lk ey (cz fq _) (tW (A:=[_,_])) ?_;refine tO ?_;refine bp [0,6,9,10,109] ?_;refine av ?_ ?_<;>intro iS mY
 ·have hP:0<(bC t.ay s.set):=(by simpa using iS)
  refine af [0,6,9,10,110,111,112] ?_;refine eG [0,6,9,10,110,111] (fun aS _ (E:Nat×List cl) aE=>match E with|(k,M)=>(k≤(aq t s.aj).1.length)∧(eU (bC t.ay s.set).toNat {t with rows:=M.map cl.r} ((aq t s.aj).1.drop k) (acc.drop k)=eU (bC t.ay s.set).toNat t (aq t s.aj).1 acc)∧(∀o∈M,om o)∧(th M ad cap Sr)∧(M.length=t.rows.length)∧(∀i∈(aq t s.aj).1,∃h:i.toNat<M.length,M[i.toNat].r.length=4)∧aE=(⟨205,(112,ae (k:Nat))::aS,(⟨b3,46,12,bg s⟩::⟨bt,77,qB,pre++([aZ t.nm,au 2 cC t.ay,aP ad t.rows.length cap,au 5 cP t.ix.ag,ae t.ix.root]++post)⟩::(Sr++M.flatMap bR))⟩:St)) (fun (E:Nat×List cl)=>match E with|(k,M)=>(aq t s.aj).1.length-k) (0,L) ⟨(Nat.zero_le _),(by rw[hL];rfl),aT,jz,so,hl4,rfl⟩ ?_;rintro⟨k,M⟩ _ ⟨ei,Xo,Z,wF,ye,Zz,rfl⟩;refine af [0,6,9,10,110,111,112,113] ?_;refine av ?_ ?_<;>intro qo Ay
  ·have aa:k<(aq t s.aj).1.length:=(by omega)
   have dx:k<acc.length:=(by omega)
   have jj:(aq t s.aj).1.drop k=((aq t s.aj).1[k]'aa)::(aq t s.aj).1.drop (k+1):=drop_eq_getElem_cons aa;have lS:acc.drop k=(acc[k]'dx)::acc.drop (k+1):=drop_eq_getElem_cons dx;obtain⟨fO,O,oo⟩:=mM _ (getElem_mem aa);obtain⟨gp,sC⟩:=Zz _ (getElem_mem aa);obtain⟨br,rfl,kE,kS,rfl⟩:=wF.pos w4;obtain⟨I,yZ,Dz,EM,Po⟩:=(Z _ (getElem_mem gp)).pos w4;have j8:∀o∈(M.set ((aq t s.aj).1[k]'aa).toNat (⟨M[((aq t s.aj).1[k]'aa).toNat].r.set (bC t.ay s.set).toNat (acc[k]'dx),some ⟨I,0,none⟩,M[((aq t s.aj).1[k]'aa).toNat].cap,[⟨I,33,M[((aq t s.aj).1[k]'aa).toNat].cap*3,(M[((aq t s.aj).1[k]'aa).toNat].r.set (bC t.ay s.set).toNat (acc[k]'dx)).flatMap cV⟩]⟩:cl)),om o:=fun o ho=>by rcases mem_or_eq_of_mem_set ho with h|h;exact Z o h;rw[h];exact bQ (g:=cV) HH EM
   have Pp:(M.set ((aq t s.aj).1[k]'aa).toNat (⟨M[((aq t s.aj).1[k]'aa).toNat].r.set (bC t.ay s.set).toNat (acc[k]'dx),some ⟨I,0,none⟩,M[((aq t s.aj).1[k]'aa).toNat].cap,[⟨I,33,M[((aq t s.aj).1[k]'aa).toNat].cap*3,(M[((aq t s.aj).1[k]'aa).toNat].r.set (bC t.ay s.set).toNat (acc[k]'dx)).flatMap cV⟩]⟩:cl)).flatMap gR=M.flatMap gR:=K6 M _ gp _ (by show[D.v (.slice _ (M[((aq t s.aj).1[k]'aa).toNat].r.set (bC t.ay s.set).toNat (acc[k]'dx)).length _)]=[D.v (.slice _ _ _)];rw[length_set,yZ]);have Ds:th (M.set ((aq t s.aj).1[k]'aa).toNat (⟨M[((aq t s.aj).1[k]'aa).toNat].r.set (bC t.ay s.set).toNat (acc[k]'dx),some ⟨I,0,none⟩,M[((aq t s.aj).1[k]'aa).toNat].cap,[⟨I,33,M[((aq t s.aj).1[k]'aa).toNat].cap*3,(M[((aq t s.aj).1[k]'aa).toNat].r.set (bC t.ay s.set).toNat (acc[k]'dx)).flatMap cV⟩]⟩:cl)) (some ⟨br,0,none⟩) cap [⟨br,43,cap*1,M.flatMap gR⟩]:=(by rw[←Pp];exact bQ (by rw[length_set];exact kE) kS)
   have alX:∀i∈(aq t s.aj).1,∃h:i.toNat<(M.set ((aq t s.aj).1[k]'aa).toNat (⟨M[((aq t s.aj).1[k]'aa).toNat].r.set (bC t.ay s.set).toNat (acc[k]'dx),some ⟨I,0,none⟩,M[((aq t s.aj).1[k]'aa).toNat].cap,[⟨I,33,M[((aq t s.aj).1[k]'aa).toNat].cap*3,(M[((aq t s.aj).1[k]'aa).toNat].r.set (bC t.ay s.set).toNat (acc[k]'dx)).flatMap cV⟩]⟩:cl)).length,(M.set ((aq t s.aj).1[k]'aa).toNat (⟨M[((aq t s.aj).1[k]'aa).toNat].r.set (bC t.ay s.set).toNat (acc[k]'dx),some ⟨I,0,none⟩,M[((aq t s.aj).1[k]'aa).toNat].cap,[⟨I,33,M[((aq t s.aj).1[k]'aa).toNat].cap*3,(M[((aq t s.aj).1[k]'aa).toNat].r.set (bC t.ay s.set).toNat (acc[k]'dx)).flatMap cV⟩]⟩:cl))[i.toNat].r.length=4:=fun i hi=>by obtain⟨h1,h2⟩:=Zz i hi;refine⟨by rw[length_set];exact h1,?_⟩;rw[getElem_set];split;(show(M[((aq t s.aj).1[k]'aa).toNat].r.set (bC t.ay s.set).toNat (acc[k]'dx)).length=4;rw[length_set];exact sC);exact h2
   have ajg:eU (bC t.ay s.set).toNat {t with rows:=(M.set ((aq t s.aj).1[k]'aa).toNat (⟨M[((aq t s.aj).1[k]'aa).toNat].r.set (bC t.ay s.set).toNat (acc[k]'dx),some ⟨I,0,none⟩,M[((aq t s.aj).1[k]'aa).toNat].cap,[⟨I,33,M[((aq t s.aj).1[k]'aa).toNat].cap*3,(M[((aq t s.aj).1[k]'aa).toNat].r.set (bC t.ay s.set).toNat (acc[k]'dx)).flatMap cV⟩]⟩:cl)).map cl.r} ((aq t s.aj).1.drop (k+1)) (acc.drop (k+1))=eU (bC t.ay s.set).toNat t (aq t s.aj).1 acc:=(by rw[←Xo,jj,lS,eU];congr 1;exact(UT (x:=t.ix) gp rfl).symm)
   refine CD.perm (Ty gp Po) ?_;refine af [0,6,9,10,15,16,110,111,112] ?_;refine mE 12 [0,6,9,10,110,111,112,123,124,128] ?_;refine aR 3 ?_ (h:=by exact(oV 2));refine aR 1 ?_ (h:=by exact(dO 1 (h:=by first|exact .l (j:=((aq t s.aj).1[k]'aa).toNat) (Int.toNat_of_nonneg fO).symm we|exact .r (j:=((aq t s.aj).1[k]'aa).toNat) (Int.toNat_of_nonneg fO).symm we)));refine aR 0 ?_ (h:=by exact(cW (mk:=Op.load 43) rfl ot (jk (k:=3) (i:=((aq t s.aj).1[k]'aa).toNat) (ls:=M) (d:=aP (some ⟨I,0,none⟩) M[((aq t s.aj).1[k]'aa).toNat].r.length M[((aq t s.aj).1[k]'aa).toNat].cap) vA rfl rfl rfl isAgg43 gp (by rw[←yZ];rfl))));refine bH ?_;refine bV (dO 3 (h:=by first|exact .l (j:=(bC t.ay s.set).toNat) (Int.toNat_of_nonneg w4).symm (by rw[sC];omega)|exact .r (j:=(bC t.ay s.set).toNat) (Int.toNat_of_nonneg w4).symm (by rw[sC];omega))) ?_;refine OD.storeAt (k:=0) (cs':=(M[((aq t s.aj).1[k]'aa).toNat].r.set (bC t.ay s.set).toNat (acc[k]'dx)).flatMap cV) ap rfl rfl ot rfl rfl ot rfl rfl sizeOf33 rfl (by show 0+(bC t.ay s.set).toNat*3+3≤(M[((aq t s.aj).1[k]'aa).toNat].r.flatMap cV).length;rw[cz fq,sC];omega) (by show dm (M[((aq t s.aj).1[k]'aa).toNat].r.flatMap cV) (0+(bC t.ay s.set).toNat*3) (cV (acc[k]'dx))=_;rw[Nat.zero_add];exact pi fq _ _ (by rw[sC];omega)) ?_;refine an 205 [0,6,9,10,110,111,112] ?_;refine dY 1 ?_
   refine OD.perm (US gp (o:=(⟨M[((aq t s.aj).1[k]'aa).toNat].r.set (bC t.ay s.set).toNat (acc[k]'dx),some ⟨I,0,none⟩,M[((aq t s.aj).1[k]'aa).toNat].cap,[⟨I,33,M[((aq t s.aj).1[k]'aa).toNat].cap*3,(M[((aq t s.aj).1[k]'aa).toNat].r.set (bC t.ay s.set).toNat (acc[k]'dx)).flatMap cV⟩]⟩:cl)) rfl) ?_;refine an 205 [0,6,9,10,110,111,112] ?_;refine⟨((k+1),(M.set ((aq t s.aj).1[k]'aa).toNat (⟨M[((aq t s.aj).1[k]'aa).toNat].r.set (bC t.ay s.set).toNat (acc[k]'dx),some ⟨I,0,none⟩,M[((aq t s.aj).1[k]'aa).toNat].cap,[⟨I,33,M[((aq t s.aj).1[k]'aa).toNat].cap*3,(M[((aq t s.aj).1[k]'aa).toNat].r.set (bC t.ay s.set).toNat (acc[k]'dx)).flatMap cV⟩]⟩:cl))),_,cr,aJ,w4,ajg,j8,Ds,(by rw[length_set];exact ye),alX,rfl⟩
  have ajh:eU (bC t.ay s.set).toNat t (aq t s.aj).1 acc={t with rows:=M.map cl.r}:=(by rw[←Xo,drop_of_length_le (l:=(aq t s.aj).1) w4,aeD])
  have aW:dH t s=({t with rows:=M.map cl.r},((aq t s.aj).1.length:Int),0):=(by unfold dH;rw[if_neg hA,if_neg U,if_neg hC,if_neg hD,if_neg hN,if_pos hP,EL,ajh])
  refine af [4,5] ?_;refine aM (⟨bt,77,qB,pre++(_++post)⟩::(Sr++M.flatMap bR)) ?_;rw[aW];exact⟨rfl,fun _=>⟨M,ad,cap,Sr,⟨rfl,Z,wF⟩,by simp only[tC,length_map,ye]⟩⟩
 have hP:¬0<(bC t.ay s.set):=(by simpa using iS)
 have u9:(bC t.ay s.set)=0:=(by omega)
 refine af [0,9,10,133,134,135] ?_;refine eG [0,9,10,133,134] (fun aS _ (E:Nat×aG) aE=>match E with|(k,x)=>(k≤(aq t s.aj).1.length)∧(iG t x ((aq t s.aj).1.drop k)=iG t t.ix (aq t s.aj).1)∧(ja x n)∧(∀i∈(aq t s.aj).1.drop k,(bU (rowAt t i),i)∈dh x)∧aE=(⟨205,(135,ae (k:Nat))::aS,(⟨b3,46,12,bg s⟩::⟨bt,77,qB,pre++([aZ t.nm,au 2 cC t.ay,aP ad t.rows.length cap,au 5 cP x.ag,ae x.root]++post)⟩::(Sr++L.flatMap bR))⟩:St)) (fun (E:Nat×aG)=>match E with|(k,x)=>(aq t s.aj).1.length-k) (0,t.ix) ⟨(Nat.zero_le _),rfl,g.ix,(fun i hi=>(mM i hi).gj g),rfl⟩ ?_;rintro⟨k,x⟩ _ ⟨fF,Nf,gx,yQ,rfl⟩;refine af [0,9,10,133,134,135,136] ?_;refine av ?_ ?_<;>intro uZ C4
 ·have aa:k<(aq t s.aj).1.length:=(by omega)
  have jj:(aq t s.aj).1.drop k=((aq t s.aj).1[k]'aa)::(aq t s.aj).1.drop (k+1):=drop_eq_getElem_cons aa;have sB:eo t ((aq t s.aj).1[k]'aa):=mM _ (getElem_mem aa);obtain⟨fO,O,oo⟩:=id sB;have gp:((aq t s.aj).1[k]'aa).toNat<L.length:=(by rw[so];exact O)
  obtain⟨br,rfl,kE,kS,rfl⟩:=jz.pos w4;have wH:L[((aq t s.aj).1[k]'aa).toNat].r=rowAt t ((aq t s.aj).1[k]'aa):=(by rw[fV O];exact(Hs hL gp O))
  obtain⟨Zx,EK⟩:=eo.ok g sB;have Xp:=Lz (G:=G) hG L[((aq t s.aj).1[k]'aa).toNat].r (by rw[wH];omega) (by rw[wH];omega) (by rw[wH];exact fun v hv=>(EK v hv).1);rw[show bU L[((aq t s.aj).1[k]'aa).toNat].r=bU (rowAt t ((aq t s.aj).1[k]'aa)) from by rw[wH]] at Xp;have fK:=yQ _ (by rw[jj];exact mem_cons_self);have ZA:=J2 gx ((BK gx.val _).2 ⟨_,fK⟩);have yY:=Th (G:=G) gx (bU (rowAt t ((aq t s.aj).1[k]'aa)));rw[UE gx (sN (by rw[fV O];exact(g.row _ O oo).1)) ((BL gx _).2 ⟨_,fK⟩)] at yY;unfold Tw.cT at yY;have aji:iG t (hU x (cQ x) (bU (rowAt t ((aq t s.aj).1[k]'aa)))) ((aq t s.aj).1.drop (k+1))=iG t t.ix (aq t s.aj).1:=(by rw[←Nf,jj];rfl)
  have alY:∀i∈(aq t s.aj).1.drop (k+1),(bU (rowAt t i),i)∈dh (hU x (cQ x) (bU (rowAt t ((aq t s.aj).1[k]'aa)))):=fun i hi=>by refine(ZA.2 _).2 ⟨yQ i (by rw[jj];exact mem_cons_of_mem _ hi),fun e=>?_⟩;have h9:=hnd.sublist (drop_sublist k _);rw[jj,nodup_cons] at h9;have h8:=Ch g.ix ((mM i (mem_of_mem_drop hi)).gj g) (sB.gj g) e;simp only[Prod.mk.injEq] at h8;exact h9.1 (h8.2 ▸ hi)
  refine af [0,9,10,18,133,134,135] ?_;refine mE 17 [0,9,10,133,134,135,140,154] ?_;refine aR 4 ?_ (h:=by exact(x9 1));refine aR 3 ?_ (h:=by exact(oV 1));refine aR 1 ?_ (h:=by exact(dO 1 (h:=by first|exact .l (j:=((aq t s.aj).1[k]'aa).toNat) (Int.toNat_of_nonneg fO).symm O|exact .r (j:=((aq t s.aj).1[k]'aa).toNat) (Int.toNat_of_nonneg fO).symm O)));refine aR 0 ?_ (h:=by exact(cW (mk:=Op.load 43) rfl ot (jk (k:=2) (i:=((aq t s.aj).1[k]'aa).toNat) (ls:=L) vA rfl rfl rfl isAgg43 gp rfl)));refine Av (Xp) (fun r S h=>h.flat) (fun r S h=>h.view) (ha:=by exact⟨⟨_,ot,(Tv aT gp (fun B U=>by repeat (first|exact U|apply mem_append_right|apply mem_cons_of_mem)))⟩,trivial⟩) (K:=?_);refine cN (yY) ?_;refine bH ?_;refine aH 2 ?_;refine OD.storeAt (k:=1) (cs':=pre++([aZ t.nm,au 2 cC t.ay,aP (some ⟨br,0,none⟩) t.rows.length cap,.list 5 ((hU x (cQ x) (bU (rowAt t ((aq t s.aj).1[k]'aa)))).ag.flatMap cP) (hU x (cQ x) (bU (rowAt t ((aq t s.aj).1[k]'aa)))).ag.length,ae (hU x (cQ x) (bU (rowAt t ((aq t s.aj).1[k]'aa)))).root]++post)) ap rfl rfl ot rfl rfl ot rfl rfl sizeOf75 rfl (by show off+3+2≤(pre++(([aZ t.nm,au 2 cC t.ay,aP (some ⟨br,0,none⟩) t.rows.length cap,au 5 cP x.ag,ae x.root]:List D)++post)).length;simp only[length_append,length_cons,length_nil];omega) (by exact Cg (j:=3) hp aQ rfl) ?_;refine an 205 [0,9,10,133,134,135] ?_
  refine cc [0,9,10,133,134,135] ?_;refine⟨((k+1),(hU x (cQ x) (bU (rowAt t ((aq t s.aj).1[k]'aa))))),_,cr,aJ,w4,aji,ZA.1,alY,rfl⟩
 have yU:iG t t.ix (aq t s.aj).1=x:=(by rw[←Nf,drop_of_length_le w4];rfl)
 clear Nf yQ;skip;refine af [0,9,10,159,160,161] ?_;refine eG [0,9,10,159,160] (fun aS _ (E:Nat×List cl×aG) aE=>match E with|(k,M,y)=>(k≤(aq t s.aj).1.length)∧(eT {t with rows:=M.map cl.r,ix:=y} ((aq t s.aj).1.drop k) (acc.drop k)=eT {t with ix:=iG t t.ix (aq t s.aj).1} (aq t s.aj).1 acc)∧(∀o∈M,om o)∧(th M ad cap Sr)∧(M.length=t.rows.length)∧(∀i∈(aq t s.aj).1,∃h:i.toNat<M.length,Pc.dQ bL M[i.toNat].r=0∧∀v∈M[i.toNat].r,v.Ok)∧(ja y (n+k))∧aE=(⟨205,(161,ae (k:Nat))::aS,(⟨b3,46,12,bg s⟩::⟨bt,77,qB,pre++([aZ t.nm,au 2 cC t.ay,aP ad t.rows.length cap,au 5 cP y.ag,ae y.root]++post)⟩::(Sr++M.flatMap bR))⟩:St)) (fun (E:Nat×List cl×aG)=>match E with|(k,M,y)=>(aq t s.aj).1.length-k) (0,L,x) ⟨(Nat.zero_le _),(by rw[hL,yU];rfl),aT,jz,so,hl5,gx,rfl⟩ ?_;rintro⟨k,M,y⟩ _ ⟨ei,Br,Z,wF,ye,ZB,gy,rfl⟩;refine af [0,9,10,159,160,161,162] ?_;refine av ?_ ?_<;>intro Hh GM
 ·have aa:k<(aq t s.aj).1.length:=(by omega)
  have dx:k<acc.length:=(by omega)
  have jj:(aq t s.aj).1.drop k=((aq t s.aj).1[k]'aa)::(aq t s.aj).1.drop (k+1):=drop_eq_getElem_cons aa;have lS:acc.drop k=(acc[k]'dx)::acc.drop (k+1):=drop_eq_getElem_cons dx;obtain⟨fO,O,oo⟩:=mM _ (getElem_mem aa);obtain⟨gp,ZC,hx6⟩:=ZB _ (getElem_mem aa);have sC:=oE ZC;obtain⟨alZ,Xq,al0⟩:=Xn _ (getElem_mem dx);have yX:(acc[k]'dx).k≠0∧jM (bL[0]'w7).k (acc[k]'dx):=(by have h1:=al0 u9;refine⟨h1,Xq.1,?_⟩;have h2:=Xq.2;have al1:bC bL s.set=0:=(by rw[←g.ay];exact u9);have ZD:=hC;simp only[g.ay,al1] at ZD;have h3:(dU bL s.bJ).1=(bL[0]'w7).k∨(dU bL s.bJ).1=0:=(Classical.em ((dU bL s.bJ).1=(bL[0]'w7).k)).imp id fun h=>Classical.not_not.1 fun h'=>ZD ⟨h,h'⟩;omega)
  obtain⟨br,rfl,kE,kS,rfl⟩:=wF.pos w4;obtain⟨I,yZ,Dz,EM,Po⟩:=(Z _ (getElem_mem gp)).pos w4;have j8:∀o∈(M.set ((aq t s.aj).1[k]'aa).toNat (⟨M[((aq t s.aj).1[k]'aa).toNat].r.set 0 (acc[k]'dx),some ⟨I,0,none⟩,M[((aq t s.aj).1[k]'aa).toNat].cap,[⟨I,33,M[((aq t s.aj).1[k]'aa).toNat].cap*3,(M[((aq t s.aj).1[k]'aa).toNat].r.set 0 (acc[k]'dx)).flatMap cV⟩]⟩:cl)),om o:=fun o ho=>by rcases mem_or_eq_of_mem_set ho with h|h;exact Z o h;rw[h];exact bQ (g:=cV) HH EM
  have Pp:(M.set ((aq t s.aj).1[k]'aa).toNat (⟨M[((aq t s.aj).1[k]'aa).toNat].r.set 0 (acc[k]'dx),some ⟨I,0,none⟩,M[((aq t s.aj).1[k]'aa).toNat].cap,[⟨I,33,M[((aq t s.aj).1[k]'aa).toNat].cap*3,(M[((aq t s.aj).1[k]'aa).toNat].r.set 0 (acc[k]'dx)).flatMap cV⟩]⟩:cl)).flatMap gR=M.flatMap gR:=K6 M _ gp _ (by show[D.v (.slice _ (M[((aq t s.aj).1[k]'aa).toNat].r.set 0 (acc[k]'dx)).length _)]=[D.v (.slice _ _ _)];rw[length_set,yZ]);have Ds:th (M.set ((aq t s.aj).1[k]'aa).toNat (⟨M[((aq t s.aj).1[k]'aa).toNat].r.set 0 (acc[k]'dx),some ⟨I,0,none⟩,M[((aq t s.aj).1[k]'aa).toNat].cap,[⟨I,33,M[((aq t s.aj).1[k]'aa).toNat].cap*3,(M[((aq t s.aj).1[k]'aa).toNat].r.set 0 (acc[k]'dx)).flatMap cV⟩]⟩:cl)) (some ⟨br,0,none⟩) cap [⟨br,43,cap*1,M.flatMap gR⟩]:=(by rw[←Pp];exact bQ (by rw[length_set];exact kE) kS)
  have We:Pc.dQ bL (M[((aq t s.aj).1[k]'aa).toNat].r.set 0 (acc[k]'dx))=0:=UR ZC w7 yX.2 (fun _=>yX.1);have x6:∀v∈M[((aq t s.aj).1[k]'aa).toNat].r.set 0 (acc[k]'dx),v.Ok:=fun v hv=>by rcases mem_or_eq_of_mem_set hv with h|h;exact hx6 v h;rw[h];exact alZ
  have al2:∀i∈(aq t s.aj).1,∃h:i.toNat<(M.set ((aq t s.aj).1[k]'aa).toNat (⟨M[((aq t s.aj).1[k]'aa).toNat].r.set 0 (acc[k]'dx),some ⟨I,0,none⟩,M[((aq t s.aj).1[k]'aa).toNat].cap,[⟨I,33,M[((aq t s.aj).1[k]'aa).toNat].cap*3,(M[((aq t s.aj).1[k]'aa).toNat].r.set 0 (acc[k]'dx)).flatMap cV⟩]⟩:cl)).length,Pc.dQ bL (M.set ((aq t s.aj).1[k]'aa).toNat (⟨M[((aq t s.aj).1[k]'aa).toNat].r.set 0 (acc[k]'dx),some ⟨I,0,none⟩,M[((aq t s.aj).1[k]'aa).toNat].cap,[⟨I,33,M[((aq t s.aj).1[k]'aa).toNat].cap*3,(M[((aq t s.aj).1[k]'aa).toNat].r.set 0 (acc[k]'dx)).flatMap cV⟩]⟩:cl))[i.toNat].r=0∧∀v∈(M.set ((aq t s.aj).1[k]'aa).toNat (⟨M[((aq t s.aj).1[k]'aa).toNat].r.set 0 (acc[k]'dx),some ⟨I,0,none⟩,M[((aq t s.aj).1[k]'aa).toNat].cap,[⟨I,33,M[((aq t s.aj).1[k]'aa).toNat].cap*3,(M[((aq t s.aj).1[k]'aa).toNat].r.set 0 (acc[k]'dx)).flatMap cV⟩]⟩:cl))[i.toNat].r,v.Ok:=fun i hi=>by obtain⟨h1,h2⟩:=ZB i hi;refine⟨by rw[length_set];exact h1,?_⟩;rw[getElem_set];split;exact⟨We,x6⟩;exact h2
  have dJ:=sN We;have Xt:=Lz (G:=G) hG (M[((aq t s.aj).1[k]'aa).toNat].r.set 0 (acc[k]'dx)) wc wc x6;have EN:=Tg (G:=G) gy (bU (M[((aq t s.aj).1[k]'aa).toNat].r.set 0 (acc[k]'dx))) ((aq t s.aj).1[k]'aa);unfold Tw.cT at EN
  have Xu:eT {t with ix:=iG t t.ix (aq t s.aj).1} (aq t s.aj).1 acc=if gl y (bU (M[((aq t s.aj).1[k]'aa).toNat].r.set 0 (acc[k]'dx))) (cQ y)=true then ({t with rows:=M.map cl.r,ix:=y},9) else eT {t with rows:=(M.set ((aq t s.aj).1[k]'aa).toNat (⟨M[((aq t s.aj).1[k]'aa).toNat].r.set 0 (acc[k]'dx),some ⟨I,0,none⟩,M[((aq t s.aj).1[k]'aa).toNat].cap,[⟨I,33,M[((aq t s.aj).1[k]'aa).toNat].cap*3,(M[((aq t s.aj).1[k]'aa).toNat].r.set 0 (acc[k]'dx)).flatMap cV⟩]⟩:cl)).map cl.r,ix:=(gb y (cQ y) (bU (M[((aq t s.aj).1[k]'aa).toNat].r.set 0 (acc[k]'dx))) ((aq t s.aj).1[k]'aa))} ((aq t s.aj).1.drop (k+1)) (acc.drop (k+1)):=by rw[←Br,jj,lS,eT,UT (o:=(⟨M[((aq t s.aj).1[k]'aa).toNat].r.set 0 (acc[k]'dx),some ⟨I,0,none⟩,M[((aq t s.aj).1[k]'aa).toNat].cap,[⟨I,33,M[((aq t s.aj).1[k]'aa).toNat].cap*3,(M[((aq t s.aj).1[k]'aa).toNat].r.set 0 (acc[k]'dx)).flatMap cV⟩]⟩:cl)) gp rfl,Rx yc,show((M.set ((aq t s.aj).1[k]'aa).toNat (⟨M[((aq t s.aj).1[k]'aa).toNat].r.set 0 (acc[k]'dx),some ⟨I,0,none⟩,M[((aq t s.aj).1[k]'aa).toNat].cap,[⟨I,33,M[((aq t s.aj).1[k]'aa).toNat].cap*3,(M[((aq t s.aj).1[k]'aa).toNat].r.set 0 (acc[k]'dx)).flatMap cV⟩]⟩:cl))[((aq t s.aj).1[k]'aa).toNat]'yc)=(⟨M[((aq t s.aj).1[k]'aa).toNat].r.set 0 (acc[k]'dx),some ⟨I,0,none⟩,M[((aq t s.aj).1[k]'aa).toNat].cap,[⟨I,33,M[((aq t s.aj).1[k]'aa).toNat].cap*3,(M[((aq t s.aj).1[k]'aa).toNat].r.set 0 (acc[k]'dx)).flatMap cV⟩]⟩:cl) from getElem_set_self _]
  refine CD.perm (Ty gp Po) ?_;refine af [0,9,10,19,20,159,160,161] ?_;refine CD.seq ?_;refine mE 11 [0,9,10,20,159,160,161,172,176] ?_;refine aR 3 ?_ (h:=by exact(oV 2));refine aR 1 ?_ (h:=by exact(dO 1 (h:=by first|exact .l (j:=((aq t s.aj).1[k]'aa).toNat) (Int.toNat_of_nonneg fO).symm we|exact .r (j:=((aq t s.aj).1[k]'aa).toNat) (Int.toNat_of_nonneg fO).symm we)));refine aR 0 ?_ (h:=by exact(cW (mk:=Op.load 43) rfl ot (jk (k:=3) (i:=((aq t s.aj).1[k]'aa).toNat) (ls:=M) (d:=aP (some ⟨I,0,none⟩) M[((aq t s.aj).1[k]'aa).toNat].r.length M[((aq t s.aj).1[k]'aa).toNat].cap) vA rfl rfl rfl isAgg43 gp (by rw[←yZ];rfl))));refine bH ?_;refine bV (o9 (mk:=Op.indexAddr 43) rfl ot bP (by first|exact pU runUnderlying43 sizeOf33 (j:=0) rfl (by rw[sC];decide)|exact pY runUnderlying43 sizeOf33 (j:=0) rfl (by rw[sC];decide))) ?_;refine OD.storeAt (k:=0) (cs':=(M[((aq t s.aj).1[k]'aa).toNat].r.set 0 (acc[k]'dx)).flatMap cV) ap rfl rfl ot rfl rfl ot rfl rfl sizeOf33 rfl (by show 0+0*3+3≤(M[((aq t s.aj).1[k]'aa).toNat].r.flatMap cV).length;rw[cz fq,sC];omega) (by show dm (M[((aq t s.aj).1[k]'aa).toNat].r.flatMap cV) (0+0*3) (cV (acc[k]'dx))=_;rw[Nat.zero_add];exact pi fq _ _ (by rw[sC];omega)) ?_;refine an 205 [0,9,10,20,159,160,161] ?_;refine CD.seq ?_;rcases fK:gl y (bU (M[((aq t s.aj).1[k]'aa).toNat].r.set 0 (acc[k]'dx))) (cQ y) with _|_
  ·rw[Vz gy w4 dJ fO fK] at EN;have gy2:ja (gb y (cQ y) (bU (M[((aq t s.aj).1[k]'aa).toNat].r.set 0 (acc[k]'dx))) ((aq t s.aj).1[k]'aa)) (n+(k+1)):=(xj gy w4 ((sK gy).1 fK) dJ fO).1;have al3:eT {t with rows:=(M.set ((aq t s.aj).1[k]'aa).toNat (⟨M[((aq t s.aj).1[k]'aa).toNat].r.set 0 (acc[k]'dx),some ⟨I,0,none⟩,M[((aq t s.aj).1[k]'aa).toNat].cap,[⟨I,33,M[((aq t s.aj).1[k]'aa).toNat].cap*3,(M[((aq t s.aj).1[k]'aa).toNat].r.set 0 (acc[k]'dx)).flatMap cV⟩]⟩:cl)).map cl.r,ix:=(gb y (cQ y) (bU (M[((aq t s.aj).1[k]'aa).toNat].r.set 0 (acc[k]'dx))) ((aq t s.aj).1[k]'aa))} ((aq t s.aj).1.drop (k+1)) (acc.drop (k+1))=eT {t with ix:=iG t t.ix (aq t s.aj).1} (aq t s.aj).1 acc:=(by rw[Xu,if_neg uJ])
   refine tJ 18 17 [0,9,10,21,159,160,161,193,194] ?_;refine aR 3 ?_ (h:=by exact(x9 2));refine aR 3 ?_ (h:=by exact(oV 2));refine aR 1 ?_ (h:=by exact(dO 1 (h:=by first|exact .l (j:=((aq t s.aj).1[k]'aa).toNat) (Int.toNat_of_nonneg fO).symm we|exact .r (j:=((aq t s.aj).1[k]'aa).toNat) (Int.toNat_of_nonneg fO).symm we)));refine aR 0 ?_ (h:=by exact(cW (mk:=Op.load 43) rfl ot (jk (k:=3) (i:=((aq t s.aj).1[k]'aa).toNat) (ls:=M) (d:=aP (some ⟨I,0,none⟩) (M[((aq t s.aj).1[k]'aa).toNat].r.set 0 (acc[k]'dx)).length M[((aq t s.aj).1[k]'aa).toNat].cap) vA rfl rfl rfl isAgg43 gp (by rw[←yZ,length_set];rfl))));refine Av (Xt) (fun r S h=>h.flat) (fun r S h=>h.view) (ha:=by exact⟨⟨_,ot,(lU (bQ (g:=cV) HH EM) (cz fq _) (fun B U=>by rw[mem_singleton] at U;rw[U];exact mem_cons_self))⟩,trivial⟩) (K:=?_);refine cN (EN) ?_;refine mI 3 ?_;refine pF ?_;refine jP ?_;refine⟨rfl,fun D2=>?_⟩;refine aO 0 [_,_] sizeOf75 ?_;refine an 205 [0,9,10,21,22,159,160,161] ?_;refine af [0,9,10,21,22,159,160,161,196] ?_;refine av ?_ ?_<;>intro vO Gx
   ·exact absurd vO (by simp at vO)
   refine dY 4 ?_;refine OD.storeAt (k:=3) (cs':=pre++([aZ t.nm,au 2 cC t.ay,aP (some ⟨br,0,none⟩) t.rows.length cap,.list 5 ((gb y (cQ y) (bU (M[((aq t s.aj).1[k]'aa).toNat].r.set 0 (acc[k]'dx))) ((aq t s.aj).1[k]'aa)).ag.flatMap cP) (gb y (cQ y) (bU (M[((aq t s.aj).1[k]'aa).toNat].r.set 0 (acc[k]'dx))) ((aq t s.aj).1[k]'aa)).ag.length,ae (gb y (cQ y) (bU (M[((aq t s.aj).1[k]'aa).toNat].r.set 0 (acc[k]'dx))) ((aq t s.aj).1[k]'aa)).root]++post)) ap rfl rfl ot rfl rfl ot rfl rfl sizeOf75 rfl (by show off+3+2≤(pre++(([aZ t.nm,au 2 cC t.ay,aP (some ⟨br,0,none⟩) t.rows.length cap,au 5 cP y.ag,ae y.root]:List D)++post)).length;simp only[length_append,length_cons,length_nil];omega) (by exact Cg (j:=3) hp aQ rfl) ?_;refine an 205 [0,9,10,159,160,161] ?_;refine dY 1 ?_;refine OD.perm ((US gp (o:=(⟨M[((aq t s.aj).1[k]'aa).toNat].r.set 0 (acc[k]'dx),some ⟨I,0,none⟩,M[((aq t s.aj).1[k]'aa).toNat].cap,[⟨I,33,M[((aq t s.aj).1[k]'aa).toNat].cap*3,(M[((aq t s.aj).1[k]'aa).toNat].r.set 0 (acc[k]'dx)).flatMap cV⟩]⟩:cl)) rfl).cons _) ?_;refine an 205 [0,9,10,159,160,161] ?_
   refine⟨((k+1),(M.set ((aq t s.aj).1[k]'aa).toNat (⟨M[((aq t s.aj).1[k]'aa).toNat].r.set 0 (acc[k]'dx),some ⟨I,0,none⟩,M[((aq t s.aj).1[k]'aa).toNat].cap,[⟨I,33,M[((aq t s.aj).1[k]'aa).toNat].cap*3,(M[((aq t s.aj).1[k]'aa).toNat].r.set 0 (acc[k]'dx)).flatMap cV⟩]⟩:cl)),(gb y (cQ y) (bU (M[((aq t s.aj).1[k]'aa).toNat].r.set 0 (acc[k]'dx))) ((aq t s.aj).1[k]'aa))),_,cr,aJ,w4,al3,j8,Ds,(by rw[length_set];exact ye),al2,gy2,rfl⟩
  rw[af3 gy dJ fO fK] at EN;have aW:dH t s=(t,0,9):=(by unfold dH;rw[if_neg hA,if_neg U,if_neg hC,if_neg hD,if_neg hN,if_neg hP,EL,Xu,if_pos fK];exact if_pos (show(9:Int)≠0 by decide))
  refine tJ 18 17 [0,9,10,21,159,160,161,193,194] ?_;refine aR 3 ?_ (h:=by exact(x9 2));refine aR 3 ?_ (h:=by exact(oV 2));refine aR 1 ?_ (h:=by exact(dO 1 (h:=by first|exact .l (j:=((aq t s.aj).1[k]'aa).toNat) (Int.toNat_of_nonneg fO).symm we|exact .r (j:=((aq t s.aj).1[k]'aa).toNat) (Int.toNat_of_nonneg fO).symm we)));refine aR 0 ?_ (h:=by exact(cW (mk:=Op.load 43) rfl ot (jk (k:=3) (i:=((aq t s.aj).1[k]'aa).toNat) (ls:=M) (d:=aP (some ⟨I,0,none⟩) (M[((aq t s.aj).1[k]'aa).toNat].r.set 0 (acc[k]'dx)).length M[((aq t s.aj).1[k]'aa).toNat].cap) vA rfl rfl rfl isAgg43 gp (by rw[←yZ,length_set];rfl))));refine Av (Xt) (fun r S h=>h.flat) (fun r S h=>h.view) (ha:=by exact⟨⟨_,ot,(lU (bQ (g:=cV) HH EM) (cz fq _) (fun B U=>by rw[mem_singleton] at U;rw[U];exact mem_cons_self))⟩,trivial⟩) (K:=?_);refine cN (EN) ?_;refine mI 3 ?_;refine pF ?_;refine jP ?_;refine⟨rfl,fun D2=>?_⟩;refine aO 0 [_,_] sizeOf75 ?_;refine an 205 [0,9,10,21,22,159,160,161] ?_;refine af [0,9,10,21,22,159,160,161,196] ?_;refine av ?_ ?_<;>intro vO Gx
  ·exact z141
  exact absurd vO (by simp at vO)
 have ajj:eT {t with ix:=iG t t.ix (aq t s.aj).1} (aq t s.aj).1 acc=({t with rows:=M.map cl.r,ix:=y},0):=(by rw[←Br,drop_of_length_le (l:=(aq t s.aj).1) w4,acN])
 have aW:dH t s=({t with rows:=M.map cl.r,ix:=y},((aq t s.aj).1.length:Int),0):=(by unfold dH;rw[if_neg hA,if_neg U,if_neg hC,if_neg hD,if_neg hN,if_neg hP,EL,ajj];exact if_neg (fun h=>h rfl))
 refine af [4,5] ?_;refine aM (⟨bt,77,qB,pre++(_++post)⟩::(Sr++M.flatMap bR)) ?_;rw[aW];exact⟨rfl,fun _=>⟨M,ad,cap,Sr,⟨rfl,Z,wF⟩,by simp only[tC,length_map,ye]⟩⟩

end Go.Proofs.YtkgmonfgofobaaaGreatDoor.Ba
