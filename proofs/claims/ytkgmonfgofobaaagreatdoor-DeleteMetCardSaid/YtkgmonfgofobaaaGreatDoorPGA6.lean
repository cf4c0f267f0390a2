/-
  What the proof of GA leans on, part 6: walks of the program's functions at the level of values, and plain facts of what they compute.
-/
import Derived.Test.YtkgmonfgofobaaaGreatDoorPGA5
set_option linter.unusedVariables false
set_option linter.unusedSimpArgs false
set_option maxRecDepth 100000
set_option maxHeartbeats 4000000
namespace Go.Proofs.YtkgmonfgofobaaaGreatDoor.Tw
open List
open Go.Proofs.Tryz
open Go.RowKit V Tr Pk
structure aX where
 p:c9
 ak:Option Addr
 ck:Nat
 sk:List ah
 ai:Option Addr
 ci:Nat
 si:List ah
def gO(o:aX):List D:=[bG o.p.leaf,aP o.ak o.p.keys.length o.ck,aP o.ai o.p.kids.length o.ci,au 1 cB o.p.high,ae o.p.next]
theorem iz(o:aX):(gO o).length=5:=rfl
theorem Ga(o:aX):(gO o).all V.one=true:=rfl
def bO(o:aX):List ah:=o.sk++o.si
def rA(o:aX):Prop:=nW o.p.keys o.ak o.ck o.sk∧nf o.p.kids o.ai o.ci o.si
theorem Uy{S:List ah}:∀{L:List aX},(∀o∈L,rA o)→(∀B∈L.flatMap bO,B∈S)→gU S (L.flatMap gO) ((L.map aX.p).flatMap cP)
 | [],_,_=>trivial
 | o::L,h,hs=>by
  rw[map_cons,flatMap_cons,flatMap_cons];obtain⟨h1,h2⟩:=h o mem_cons_self;refine gU.append ⟨eW,lU h1 (cz gw _) (fun B E=>hs B ?_),lU h2 (cz eM _) (fun B E=>hs B ?_),eW,eW,trivial⟩ (Uy (fun o ho=>h o (mem_cons_of_mem _ ho)) fun B E=>hs B ?_)
  ·rw[flatMap_cons];exact mem_append_left _ (mem_append_left _ E)
  ·rw[flatMap_cons];exact mem_append_left _ (mem_append_right _ E)
  rw[flatMap_cons];exact mem_append_right _ E
abbrev uB(L:List aX)(ad:Option Addr)(cap:Nat)(S:List ah):Prop:=bn 146 5 (L.flatMap gO) L.length ad cap S
theorem Lv{S Sx:List ah}{L:List aX}{ad:Option Addr}{cap:Nat}{root:Int}(ho:uB L ad cap Sx)(h:∀o∈L,rA o)(hs:∀B∈Sx++L.flatMap bO,B∈S) :
  View S (.agg [aP ad L.length cap,ae root]) (.agg (cT ⟨L.map aX.p,root⟩)):=by
 refine vl ⟨?_,eW,trivial⟩;have:=BG ho (Uy h fun B E=>hs B (mem_append_right _ E)) (cz Gn _ |>.trans bj) (fun B E=>hs B (mem_append_left _ E));first|rw[length_map]|(show View _ _ (.list _ _ (length _));rw[length_map])|(show View _ _ (.agg [.list _ _ (length _)]);rw[length_map])
 exact this
def Hi(t:aG)(r:D)(S:List ah):Prop:=∃L ad cap Sx,r = .agg [aP ad (length L) cap,ae t.root]∧uB L ad cap Sx∧(∀o∈L,rA o)∧L.map aX.p=t.ag∧S=Sx++L.flatMap bO
theorem TH(L:List aX)(o:aX):(L++[o]).flatMap bO=L.flatMap bO++bO o:=by simp
variable {G:List (Nat×List Value)}
theorem pP{α:Type}{l:List α}{j:Nat}(h:j<l.length):take j l++[l[j]]=take (j+1) l:=(take_succ_eq_append_getElem h).symm
theorem aaV:(Tryz.prog.info? 90).map (fun i=>(i.zero,i.size,i.bytes))=some (some (.slice none 0 0),1,24):=by kernel_rfl
theorem aad:(Tryz.prog.info? 146).map (fun i=>(i.zero,i.size,i.bytes))=some (some (.agg #[.bool false,.slice none 0 0,.slice none 0 0,.slice none 0 0,.int .i64 0]),5,88):=by kernel_rfl
theorem PS : ∀ w, ((#[{ name := "Leaf", type := 4, offset := 0, embedded := false, tag := "", pkgPath := "", byteOffset := 0 }, { name := "Keys", type := 144, offset := 1, embedded := false, tag := "", pkgPath := "", byteOffset := 8 }, { name := "Kids", type := 70, offset := 2, embedded := false, tag := "", pkgPath := "", byteOffset := 32 }, { name := "High", type := 90, offset := 3, embedded := false, tag := "", pkgPath := "", byteOffset := 56 }, { name := "Next", type := 3, offset := 4, embedded := false, tag := "", pkgPath := "", byteOffset := 80 }] : Array Field).mapM fun f => do pure (f.offset, ← sizeOf f.type) : Sem (Array (Nat × Nat))).run Tryz.prog w = .ok #[(0, 1), (1, 1), (2, 1), (3, 1), (4, 1)] w := fun w => by simp [sizeOf144, sizeOf3, sizeOf4, sizeOf70, sizeOf90]
theorem Gp(t:aG)(h:Nat)(v:Valid t h):VC Tryz.prog G 88 [.agg (cT t)] [] (Hi t):=by
 refine VC.body func88 rfl ntmps88 aQ fun X0 w0 bf=>?_;unfold cT;have c8:=dV;have hval:=v;have OX:=v.n9;refine cf ?_;refine OD.box (ds:=[_,_]) ap rfl rfl ot rfl rfl (fun b1=>?_);refine OD.alloc (ds:=[_,_]) ap rfl rfl zeroValue75 rfl (fun b2=>?_);refine an 51 [1,2] ?_;refine aB 3 ?_;refine OD.alloc (ds:=[_,_]) ap rfl rfl zeroValue75 rfl (fun b3=>?_);refine aO 0 [_,_] sizeOf75 ?_;refine an 51 [1,2,3] ?_;refine af [2,3,13,14,15] ?_;refine eG [2,3,13,14] (fun aS _ (E:Nat×List aX×Option Addr×Nat×List ah) aE=>match E with|(i,L,dN,dg,Sx)=>(i≤t.ag.length)∧(L.map aX.p=t.ag.take i)∧(∀o∈L,rA o)∧(uB L dN dg Sx)∧aE=(⟨51,(15,ae (i:Nat))::aS,(⟨b3,75,2,[aP dN L.length dg,ae t.root]⟩::⟨b2,75,2,[bF,ae 0]⟩::(Sx++L.flatMap bO))⟩:St)) (fun (E:Nat×List aX×Option Addr×Nat×List ah)=>match E with|(i,L,dN,dg,Sx)=>t.ag.length-i) (0,([]:List aX),none,0,[]) ⟨(Nat.zero_le _),rfl,(fun o h=>by cases h),iW,rfl⟩ ?_;rintro⟨i,L,dN,dg,Sx⟩ _ ⟨hi,hL,aT,ey,rfl⟩;refine af [2,3,13,14,15,16] ?_;refine av ?_ ?_<;>intro aL bB
 ·have aa:i<t.ag.length:=(by omega)
  have po:=v.fR _ (getElem_mem aa);have so:L.length=i:=(by have:=congrArg length hL;rw[length_map,length_take] at this;omega)
  have mb:=po.eO;have Zm:=po.hlen;have GS:(t.ag[i]'aa).kids.length≤5:=by
      exact Wp
  refine aB 2 ?_;refine OD.alloc (ds:=[_,_,_,_,_]) ap rfl rfl zeroValue146 rfl (fun b5=>?_);refine aO 0 [_,_,_,_,_] sizeOf146 ?_;refine an 51 [2,3,5,13,14,15] ?_;refine cf ?_;refine bp [2,3,5,6,13,14,15] ?_;refine af [2,3,5,6,13,14,15,20,21,22] ?_;refine CD.block ?_;refine nq (fun (E:Nat×Option Addr×Nat×List ah) aE=>match E with|(j,iQ,iR,Sy)=>(j≤(t.ag[i]'aa).keys.length)∧(nW (take j (t.ag[i]'aa).keys) iQ iR Sy)∧aE=(⟨51,[(2,cZ b2),(3,cZ b3),(5,cZ b5),(6,aP iQ (take j (t.ag[i]'aa).keys).length iR),(13,au 5 cP t.ag),(14,ae (t.ag.length:Nat)),(15,ae (i:Nat)),(20,.list 1 ((t.ag[i]'aa).keys.flatMap cK) (t.ag[i]'aa).keys.length),(21,ae ((t.ag[i]'aa).keys.length:Nat)),(22,ae (j:Nat))],(⟨b5,146,5,cP (t.ag[i]'aa)⟩::⟨b3,75,2,[aP dN L.length dg,ae t.root]⟩::⟨b2,75,2,[bF,ae 0]⟩::(Sy++(Sx++L.flatMap bO)))⟩:St)) (fun (E:Nat×Option Addr×Nat×List ah)=>match E with|(j,iQ,iR,Sy)=>(t.ag[i]'aa).keys.length-j) (0,none,0,[]) ⟨(Nat.zero_le _),iW,rfl⟩ (aJ (h:=by repeat (first|exact trivial|refine⟨(by (repeat (first|exact fP|(apply gi;focus (first|rfl|(simp;done)|(congr 2;omega)|(apply eP;exact pP O)))|(apply fU;focus rfl)));done),?_⟩))) ?_;rintro⟨j,iQ,iR,Sy⟩ _ ⟨hj,U,rfl⟩;refine af [2,3,5,6,13,14,15,20,21,22,23] ?_;refine av ?_ ?_<;>intro aY cD
  ·have O:j<(t.ag[i]'aa).keys.length:=(by omega)
   have M3:=(po.lJ _ (getElem_mem O)).2;refine af [2,3,5,6,8,13,14,15,20,21,22] ?_;refine dY 2 ?_;refine ec call90 (mq (t.ag[i]'aa).keys[j] w4) ?_;refine eD (cq 0 [_]) [.slice none 0 0] [_] zeroValue90 runUnderlying144 sizeOf90 (fun uY=>?_);refine fT 0 29 1 1 ?_;refine OD.eL (ls:=(take j (t.ag[i]'aa).keys)) (new:=[(t.ag[i]'aa).keys[j]]) (Sq:=Sy) gw pZ ap rfl rfl underlying144 aaV rfl w7 ot U (JK (A:=[_,_,_])) ot bj wg iB (fun Z I MT MU=>?_);refine OD.perm (RU (S1:=[⟨Z,90,I*1,flatMap cK ((take j (t.ag[i]'aa).keys)++[(t.ag[i]'aa).keys[j]])⟩]) (A:=[_,_,_])) ?_;refine an 51 [2,3,5,6,13,14,15,20,21,22] ?_;refine cc [2,3,5,6,13,14,15,20,21,22] ?_;refine⟨((j+1),(some ⟨Z,0,none⟩),I,[⟨Z,90,I*1,flatMap cK ((take j (t.ag[i]'aa).keys)++[(t.ag[i]'aa).keys[j]])⟩]),_,cr,(aJ (h:=by repeat (first|exact trivial|refine⟨(by (repeat (first|exact fP|(apply gi;focus (first|rfl|(simp;done)|(congr 2;omega)|(apply eP;exact pP O)))|(apply fU;focus rfl)));done),?_⟩))),w4,(bn.cast (bQ MT MU) (pP O)),rfl⟩
  have hjt:take j (t.ag[i]'aa).keys=(t.ag[i]'aa).keys:=take_of_length_le w4;rw[hjt] at U ⊢;refine CD.exit ?_;refine iv 16 (ax (take 1 _)) ?_ (fun _ h=>(Sublist.map _ (take_sublist _ _)).subset h);refine aD 0 rfl (dX 0) ?_;refine aD 2 rfl (dX 0) ?_;refine aD 3 rfl (ee 0) ?_;refine aD 4 rfl bI ?_;refine aD 5 rfl (dX 2) ?_;refine aD 6 rfl (ee 0) ?_;refine aD 8 rfl (dX 3) ?_;refine aD 9 rfl (ee 0) ?_;refine aD 11 rfl (dX 4) ?_;refine aD 12 rfl (ee 0) ?_;refine dZ.later rfl ?_;refine AD.two (i:=1) (j:=7) aC ?_ ?_
  ·refine at_ rfl (ee 1) ?_;refine AD.one (i:=7) aC ?_;refine bD.call rfl ap rfl rfl rfl call131 (rD (t.ag[i]'aa).kids w4) ⟨ot,trivial⟩ (fg _) (fun b hb=>by simp[ax,St.put] at hb ⊢;try simp[hb]) ?_;rintro _ Sz ⟨mc,me,rfl,yU⟩;refine AD.perm (kp (A:=[_,_,_])) ?_;have wm:(L++[(⟨(t.ag[i]'aa),iQ,iR,Sy,mc,me,Sz⟩:aX)]).map aX.p=t.ag.take (i+1):=(by rw[map_append,hL];exact pP aa)
   have j8:∀o∈L++[(⟨(t.ag[i]'aa),iQ,iR,Sy,mc,me,Sz⟩:aX)],rA o:=fun o ho=>by rcases mem_append.1 ho with ho|ho;exact aT o ho;rw[mem_singleton] at ho;subst ho;exact⟨U,yU⟩
   exact WB
  refine bD.call rfl ap rfl rfl rfl call131 (rD (t.ag[i]'aa).kids w4) ⟨ot,trivial⟩ (fg _) (fun b hb=>by simp[ax,St.put] at hb ⊢;try simp[hb]) ?_;rintro _ Sz ⟨mc,me,rfl,yU⟩;refine AD.perm (kp (A:=[_,_,_])) ?_;have wm:(L++[(⟨(t.ag[i]'aa),iQ,iR,Sy,mc,me,Sz⟩:aX)]).map aX.p=t.ag.take (i+1):=(by rw[map_append,hL];exact pP aa)
  have j8:∀o∈L++[(⟨(t.ag[i]'aa),iQ,iR,Sy,mc,me,Sz⟩:aX)],rA o:=fun o ho=>by rcases mem_append.1 ho with ho|ho;exact aT o ho;rw[mem_singleton] at ho;subst ho;exact⟨U,yU⟩
  refine AD.two (i:=1) (j:=10) aC ?_ ?_
  ·refine at_ rfl (ee 1) ?_;exact WB
  refine qq call90 (mq (t.ag[i]'aa).high w4) ?_;refine dj 13 rfl (oY (pl:=[(0,_),(1,_),(2,_),(3,_),(4,_)]) (ds:=[_,_,_,_,_]) rfl zeroValue146 runUnderlying146 PS ⟨rfl,ot,rfl,ot,rfl,ot,rfl,ot,rfl,ot,trivial⟩ rfl rfl) ?_;refine AD.two (i:=1) (j:=14) aC ?_ ?_
  ·refine at_ rfl (ee 1) ?_;refine AD.one (i:=14) aC ?_;refine nJ (cq 0 [_]) [.bool false,.slice none 0 0,.slice none 0 0,.slice none 0 0,.int .i64 0] [_,_,_,_,_] zeroValue146 runUnderlying73 sizeOf146 (fun A5=>?_);refine nK 0 46 5 1 ?_;exact z5
  refine nJ (cq 0 [_]) [.bool false,.slice none 0 0,.slice none 0 0,.slice none 0 0,.int .i64 0] [_,_,_,_,_] zeroValue146 runUnderlying73 sizeOf146 (fun A5=>?_);refine nK 0 46 5 1 ?_;refine AD.one (i:=1) aC ?_;refine at_ rfl (ee 1) ?_;exact z5
 refine aB 1 ?_;refine aO 1 [_,_] sizeOf75 ?_;refine an 51 [2] ?_;refine aM (Sx++L.flatMap bO) ?_;exact⟨L,dN,dg,Sx,rfl,ey,aT,by rw[hL,take_of_length_le w4],rfl⟩

end Go.Proofs.YtkgmonfgofobaaaGreatDoor.Tw

namespace Go.Proofs.YtkgmonfgofobaaaGreatDoor.Tw
open List
open Go.Proofs.Tryz
open Go.RowKit V Go.Proofs.YtkgmonfgofobaaaGreatDoor.Tr Pk
open Go.Lib (compareBytes)
variable {t:aG} {lv:List (List Int)} {level:Nat} {i:Int}
structure nX (t:aG) (s:jH):Prop where
 nd:s.1.Nodup
 rg:∀x∈s.1,0≤x∧x<t.ag.length
 eO:s.2.length≤s.1.length
 each:∀l∈s.2,l.length≤s.1.length
 el:∀l∈s.2,∀x∈l,0≤x∧x<t.ag.length
theorem ad0{n:Nat}{l:List Int}(h:l.Nodup)(hr:∀x∈l,0≤x∧x<n):l.length≤n:=by
 induction n generalizing l with
 | zero =>
  cases l with
  | nil=>simp
  | cons a l=>have:=hr a mem_cons_self;omega
 | succ n ih =>
  have h1:=ih (l:=l.erase (n:Int)) (h.erase _) fun x hx=>by
   have h2:=(h.mem_erase_iff).1 hx;have h3:=hr x h2.2;have:=h2.1;omega
  rw[length_erase] at h1;split at h1<;>omega
theorem nX.n9{s:jH}(h:nX t s):s.1.length≤t.ag.length:=ad0 h.nd h.rg
theorem acj{n:Nat}(h:∀l∈lv,l.length≤n):∀l∈kQ lv level i,l.length≤n+1:=fun l hl=>by
 obtain⟨j,hj,rfl⟩:=mem_iff_getElem.1 hl;have e:(kQ lv level i)[j]=(kQ lv level i).getD j []:=(by rw[getD_eq_getElem?_getD,getElem?_eq_getElem hj];rfl)
 rw[e,F3,length_append];have h1:(lv.getD j []).length≤n:=by
  rw[getD_eq_getElem?_getD];rcases Nat.lt_or_ge j lv.length with q|q
  ·rw[getElem?_eq_getElem q];exact h _ (getElem_mem q)
  rw[getElem?_eq_none q];simp
 split
 ·simp only[length_cons,length_nil];omega
 simp only[length_nil];omega
theorem afQ{Q:Int→Prop}(h:∀l∈lv,∀x∈l,Q x)(hi:Q i):∀l∈kQ lv level i,∀x∈l,Q x:=fun l hl x hx=>by
 obtain⟨j,hj,rfl⟩:=mem_iff_getElem.1 hl;have e:(kQ lv level i)[j]=(kQ lv level i).getD j []:=(by rw[getD_eq_getElem?_getD,getElem?_eq_getElem hj];rfl)
 rw[e,F3,mem_append] at hx;rcases hx with hx|hx
 ·rw[getD_eq_getElem?_getD] at hx;rcases Nat.lt_or_ge j lv.length with q|q
  ·rw[getElem?_eq_getElem q] at hx;exact h _ (getElem_mem q) x hx
  rw[getElem?_eq_none q] at hx;cases hx
 split at hx
 ·rw[mem_singleton] at hx;subst hx;exact hi
 cases hx
theorem nX.add{s:jH}(h:nX t s)(hi:0≤i∧i<t.ag.length)(hn:i∉s.1)(hl:level≤s.1.length):nX t (s.1++[i],kQ s.2 level i):=by
 refine⟨?_,fun x hx=>?_,?_,?_,afQ h.el hi⟩
 ·exact nodup_append.2 ⟨h.nd,by simp,fun a ha b hb e=>by rw[mem_singleton] at hb;subst hb;subst e;exact hn ha⟩
 ·rcases mem_append.1 hx with hx|hx
  ·exact h.rg x hx
  rw[mem_singleton] at hx;subst hx;exact hi
 ·show(kQ s.2 level i).length≤(s.1++[i]).length;rw[JY,length_append];have:=h.eO;simp;omega
 show ∀l∈kQ s.2 level i,l.length≤(s.1++[i]).length;rw[length_append];exact acj h.each
theorem S4{t:aG}{go:Int→K→K→jH→Option (Nat×jH)}{low:K}{p:c9}{n:Nat}(E:∀(c:Int) lo hi s d s',(0≤c∧c<t.ag.length)→nX t s→n≤s.1.length→go c lo hi s=some (d,s')→nX t s'∧s.1.length≤s'.1.length) :
  ∀(cs:List Int) (k:Nat) (deep:Option Nat) (s:jH) (d:Nat) (s':jH),(∀c∈cs,0≤c∧c<t.ag.length)→nX t s→n≤s.1.length→l6 go low p cs k deep s=some (d,s')→nX t s'∧s.1.length≤s'.1.length
 | [],k,deep,s,d,s',_,hs,_,h=>by
  rw[l6] at h;cases deep with
  | none=>cases h
  | some e=>simp at h;rw[←h.2];exact⟨hs,Nat.le_refl _⟩
 | c::cs,k,deep,s,d,s',hc,hs,hn,h=>by
  rw[l6] at h;cases hg:go c (iM low p k) (iw p k) s with
  | none=>rw[hg] at h;cases h
  | some q =>
   obtain⟨d1,s1⟩:=q;rw[hg] at h;obtain⟨h1,h2⟩:=E _ _ _ _ _ _ (hc c mem_cons_self) hs hn hg;change (if deep=none∨deep=some d1 then l6 go low p cs (k+1) (some d1) s1 else none)=_ at h;split at h
   ·obtain⟨h3,h4⟩:=S4 E cs _ _ _ _ _ (fun c uW=>hc c (mem_cons_of_mem _ uW)) h1 w4 h;exact⟨h3,by omega⟩
   cases h
theorem Q9{p:c9}(hp:eN p t.ag.length)(hl:p.leaf=false):∀c∈p.kids,0≤c∧c<t.ag.length:=fun c hc=>⟨hp.aA c hc,hp.vS hl c hc⟩
theorem KU{t:aG}(hp:vr t):∀(f:Nat) (i:Int) (lo hi:K) (level:Nat) (s:jH) (d:Nat) (s':jH),(0≤i∧i<t.ag.length)→nX t s→level≤s.1.length→jB t f i lo hi level s=some (d,s')→nX t s'∧s.1.length≤s'.1.length
 | 0,i,lo,hi,level,s,d,s',_,_,_,h=>by rw[jB] at h;cases h
 | f+1,i,lo,hi,level,s,d,s',hr,hs,hl,h=>by
  rw[jB] at h;split at h
  ·cases h
  rename_i hn;split at h
  ·cases h
  have ha:=hs.add hr hn hl;have hlen:s.1.length+1=(s.1++[i]).length:=(by simp)
  split at h
  ·simp at h;rw[←h.2];exact⟨ha,by show s.1.length≤(s.1++[i]).length;omega⟩
  rename_i fA;have fA:(t.pg i).leaf=false:=(by simpa using fA)
  obtain⟨h1,h2⟩:=S4 (n:=level+1) (fun c lo hi s d s' hc hs hn h=>KU hp f c lo hi (level+1) s d s' hc hs hn h) _ _ _ _ _ _ (Q9 (hp _ (jK hr)) fA) ha (by show level+1≤(s.1++[i]).length;omega) h;have h3:(s.1++[i]).length≤s'.1.length:=h2;exact⟨h1,by omega⟩
structure dF where
 l:List Int
 ad:Option Addr
 cp:Nat
 s:List ah
variable {L:List dF}
def gV(o:dF):List D:=[aP o.ad o.l.length o.cp]
theorem xC(o:dF):(gV o).length=1:=rfl
theorem ahp(o:dF):(gV o).all V.one=true:=rfl
def nr(o:dF):Prop:=nf o.l o.ad o.cp o.s
def rS:dF:=⟨[],none,0,[]⟩
theorem afR:nr rS:=.inl ⟨rfl,rfl,rfl,rfl,rfl⟩
abbrev AH(L:List dF)(ad:Option Addr)(cap:Nat)(S:List ah):Prop:=bn 70 1 (L.flatMap gV) L.length ad cap S
def W9(t:aG)(b bm:Nat)(n:Nat)(ad:Option Addr)(cap:Nat):ah:=⟨b,182,4,[au 5 cP t.ag,ae t.root,.v (.map (some bm)),aP ad n cap]⟩
def SW(t:aG)(b bm:Nat)(m:List Int)(L:List dF)(ad:Option Addr)(cap:Nat)(Sx:List ah):List ah:=W9 t b bm L.length ad cap::lg bm m::(Sx++L.flatMap dF.s)
def Xa(t:aG)(b bm:Nat):Option (Nat×jH)→D→List ah→Prop
 | none,r,S=>r = .v (.int .i64 (-1))∧S=[]
 | some (d,s),r,S=>r = .v (.int .i64 (d:Nat))∧∃L ad cap Sx,AH L ad cap Sx∧(∀o∈L,nr o)∧L.map dF.l=s.2∧S=SW t b bm s.1 L ad cap Sx
theorem zD{α:Type}(g:α→List ah):∀{L:List α} {j:Nat} (h:j<L.length),(L.flatMap g).Perm (g L[j]++(L.eraseIdx j).flatMap g)
 | a::L,0,_=>by simp
 | a::L,j+1,h=>by
  have ih:=zD g (L:=L) (j:=j) pC;simp only[flatMap_cons,getElem_cons_succ,eraseIdx_cons_succ];refine(ih.append_left (g a)).trans ?_;rw[←append_assoc,←append_assoc];exact List.perm_append_comm.append_right _
theorem zi{α:Type}(g:α→List ah){L:List α}{j:Nat}(h:j<L.length)(a:α):((L.set j a).flatMap g).Perm (g a++(L.eraseIdx j).flatMap g):=by
 have:=zD g (L:=L.set j a) (j:=j) (by rw[length_set];exact h);rw[getElem_set_self,eraseIdx_set_eq] at this;exact this
def sW:Option Nat→Int
 | none=>-2
 | some d=>d
variable {G:List (Nat×List Value)}

theorem ahq{f:Nat}{low high:K}{s:jH}(h:i∈s.1):jB t (f+1) i low high level s=none:=by rw[jB,if_pos h]
theorem Uz{f:Nat}{low high:K}{s:jH}(h:((t.pg i).high≠high∨∃k,(t.pg i).keys.head?=some k∧bu k low)):jB t (f+1) i low high level s=none:=by
 rw[jB];by_cases hi:i∈s.1
 ·rw[if_pos hi]
 rw[if_neg hi,if_pos h]
theorem ad4{f:Nat}{low high:K}{s:jH}(h:i∉s.1)(h2:¬((t.pg i).high≠high∨∃k,(t.pg i).keys.head?=some k∧bu k low))(h3:(t.pg i).leaf=true):jB t (f+1) i low high level s=some (level,(s.1++[i],kQ s.2 level i)):=by rw[jB,if_neg h,if_neg h2,if_pos h3]
theorem ad5{f:Nat}{low high:K}{s:jH}(h:i∉s.1)(h2:¬((t.pg i).high≠high∨∃k,(t.pg i).keys.head?=some k∧bu k low))(h3:(t.pg i).leaf=false):jB t (f+1) i low high level s=l6 (fun c lo hi s=>jB t f c lo hi (level+1) s) low (t.pg i) (t.pg i).kids 0 none (s.1++[i],kQ s.2 level i):=by rw[jB,if_neg h,if_neg h2,if_neg (by rw[h3];decide)]
section
variable {go:Int→K→K→jH→Option (Nat×jH)} {low:K} {p:c9} {k:Nat} {deep:Option Nat} {s s':jH} {d:Nat}
theorem ack(hk:k<p.kids.length)(h:go p.kids[k] (iM low p k) (iw p k) s=none):l6 go low p (p.kids.drop k) k deep s=none:=by rw[drop_eq_getElem_cons hk,l6,h]
theorem Ra(hk:k<p.kids.length)(h:go p.kids[k] (iM low p k) (iw p k) s=some (d,s'))(hd:deep=none∨deep=some d):l6 go low p (p.kids.drop k) k deep s=l6 go low p (p.kids.drop (k+1)) (k+1) (some d) s':=by
 rw[drop_eq_getElem_cons hk,l6,h];show(if deep=none∨deep=some d then _ else _)=_;rw[if_pos hd]
theorem ad6(hk:k<p.kids.length)(h:go p.kids[k] (iM low p k) (iw p k) s=some (d,s'))(hd:¬(deep=none∨deep=some d)):l6 go low p (p.kids.drop k) k deep s=none:=by
 rw[drop_eq_getElem_cons hk,l6,h];show(if deep=none∨deep=some d then _ else _)=_;rw[if_neg hd]
theorem ad8(hk:p.kids.length≤k):l6 go low p (p.kids.drop k) k deep s=deep.map fun d=>(d,s):=by rw[drop_of_length_le hk,l6]
end
theorem acm:(L++[rS]).flatMap dF.s=L.flatMap dF.s:=by simp[rS]
theorem afS{E:List dF}(h:E.map dF.l=L.map dF.l++replicate (E.length-L.length) [])(h1:L.length≤E.length)(h2:E.length≤max L.length (level+1))(h3:level<E.length):E.map dF.l=tg (L.map dF.l) (level+1):=by
 rw[h];unfold tg;rw[length_map,show E.length-L.length=level+1-L.length from by omega]
theorem KV{E:List dF}{o:dF}(h:E.map dF.l=tg (L.map dF.l) (level+1))(h3:level<E.length)(ho:o.l=E[level].l++[i]):(E.set level o).map dF.l=kQ (L.map dF.l) level i:=by
 rw[map_set,ho];unfold kQ;rw[←h,getD_eq_getElem?_getD,getElem?_eq_getElem (by rw[length_map];exact h3),getElem_map];rfl
theorem UA{j:Nat}{o:dF}(h:∀o∈L,nr o)(ho:nr o):∀x∈L.set j o,nr x:=fun x hx=>by
 rcases mem_or_eq_of_mem_set hx with hx|rfl
 ·exact h x hx
 exact ho
theorem S5{deep:Option Nat}{d:Nat}(h:sW deep≠-2)(h2:(d:Int)=sW deep):deep=some d:=by
 cases deep with
 | none=>exact absurd rfl h
 | some e=>unfold sW at h2;simp only at h2;rw[show d=e from by omega]
theorem ad9{deep:Option Nat}{d:Nat}(h:sW deep≠-2)(h2:¬(d:Int)=sW deep):¬(deep=none∨deep=some d):=by
 rintro(rfl|rfl)
 ·exact h rfl
 exact h2 rfl
theorem Rb{deep:Option Nat}(h:sW deep = -2):deep=none:=by
 cases deep with
 | none=>rfl
 | some e=>unfold sW at h;simp only at h;omega
def V9(G:List (Nat×List Value))(t:aG)(b bm f:Nat):Prop:=∀(i:Int) (low high:K) (level:Nat) (m:List Int) (L:List dF) (ad:Option Addr) (cap:Nat) (Sx:List ah),(0≤i∧i<t.ag.length)→nX t (m,(L.map dF.l))→level≤m.length→t.ag.length+1≤f+m.length→high.length≤100→AH L ad cap Sx→(∀o∈L,nr o) →
 VC Tryz.prog G 115 [cZ b,ae i,au 1 cB low,au 1 cB high,ae (level:Nat)] (SW t b bm m L ad cap Sx) (Xa t b bm (jB t f i low high level (m,(L.map dF.l))))

theorem Re:(Tryz.prog.info? 3).map (fun i=>(i.zero,i.size,i.bytes))=some (some (.int .i64 0),1,8):=by kernel_rfl

theorem aaW:(Tryz.prog.info? 70).map (fun i=>(i.zero,i.size,i.bytes))=some (some (.slice none 0 0),1,24):=by kernel_rfl

theorem acn(t:aG)(hp:vr t)(rT:t.ag.length≤4000)(b bm f:Nat)(ih:V9 G t b bm f)(i:Int)(low high:K)(level:Nat)(m:List Int)(L:List dF)(ad:Option Addr)(cap:Nat)(Sx:List ah)(hr:0≤i∧i<t.ag.length)(Hj:nX t (m,(L.map dF.l)))(hlm:level≤m.length)(hfu:t.ag.length+1≤(f+1)+m.length)(Zn:high.length≤100)(nj:AH L ad cap Sx)(aT:∀o∈L,nr o) :
 VC Tryz.prog G 115 [cZ b,ae i,au 1 cB low,au 1 cB high,ae (level:Nat)] (SW t b bm m L ad cap Sx) (Xa t b bm (jB t (f+1) i low high level (m,(L.map dF.l)))):=by
 refine VC.body func115 rfl ntmps115 aQ fun X0 w0 bf=>?_;unfold SW W9;have c8:=dV;have aa:i.toNat<t.ag.length:=(by omega)
 have qx:t.pg i=(t.ag[i.toNat]'aa):=vI hr;have po:eN (t.ag[i.toNat]'aa) t.ag.length:=hp _ (getElem_mem aa);have Zm:=po.hlen;have Ob:=Hj.n9;have Ed:m.length≤t.ag.length:=Ob;refine af [0,1,2,3,4] ?_;refine aB 5 ?_;refine bV (abA (i:=1) rfl ot ot rfl underlying179 underlying3 zeroValue219) ?_;refine aH 3 ?_;refine OD.alloc (ds:=[]) ap rfl rfl zeroValue219 rfl (fun lE=>?_);refine aO 0 [] sizeOf219 ?_;refine an 148 [0,1,2,3,4,12] ?_;refine af [0,1,2,3,4,29] ?_;refine av ?_ ?_<;>intro aL bB
 ·have dc:i∈m:=(by simpa using aL)
  refine af [10] ?_;refine aM [] ?_;rw[ahq (by exact dc)];exact⟨rfl,rfl⟩
 have nk:i∉m:=(by simpa using aL)
 refine aB 6 ?_;refine OD.addKey (i:=2) ap rfl rfl ot ot ot rfl nk underlying179 underlying3 ?_;refine an 148 [0,1,2,3,4] ?_;refine aB 6 ?_;refine bV (dO 5 (h:=by first|exact .l (j:=i.toNat) (Int.toNat_of_nonneg hr.1).symm aa|exact .r (j:=i.toNat) (Int.toNat_of_nonneg hr.1).symm aa)) ?_;refine aH 1 ?_;refine OD.alloc (ds:=[_,_,_,_,_]) ap rfl rfl zeroValue146 rfl (fun mK=>?_);refine aO 0 [_,_,_,_,_] sizeOf146 ?_;refine an 148 [0,1,2,3,4,13] ?_;refine iL [0,1,2,3,4] (fun aS _ aE=>∃(mK:Nat),(¬((t.pg i).high≠high∨∃k,(t.pg i).keys.head?=some k∧bu k low))∧aE=(⟨148,(13,cZ mK)::aS,(⟨mK,146,5,cP (t.ag[i.toNat]'aa)⟩::⟨b,182,4,[au 5 cP t.ag,ae t.root,.v (.map (some bm)),aP ad L.length cap]⟩::lg bm (m++[i])::(Sx++L.flatMap dF.s))⟩:St)) ?_ ?_
 ·refine aB 3 ?_;refine ec call133 (V6 (t.ag[i.toNat]'aa).high high w4 w4) ?_;refine aH 2 ?_;refine bY 49 (fun Db aiX=>?_) (fun Db aiX=>?_)
  ·refine an 148 [0,1,2,3,4,13,63] ?_;refine eY ?_;have oI:((t.pg i).high≠high∨∃k,(t.pg i).keys.head?=some k∧bu k low):=(by rw[qx];first|exact .inl (by simpa using Db)|exact .inr ⟨_,head?_eq_getElem? .. ▸ getElem?_eq_getElem w4,of_decide_eq_true aY⟩)
   refine af [10] ?_;refine aM [] ?_;rw[Uz oI];exact⟨rfl,rfl⟩
  refine aH 5 ?_;refine bY 54 (fun AE zX=>?_) (fun AE zX=>?_)
  ·refine aH 2 ?_;refine OD.still iJ rfl (o9 (mk:=Op.indexAddr 144) rfl ot bP (by first|exact pU (j:=0) runUnderlying144 sizeOf90 rfl AR|exact pY (j:=0) runUnderlying144 sizeOf90 rfl AR)) ?_;refine aH 2 ?_;refine OD.iC iJ rfl rfl rfl call64 (xw ((t.ag[i.toNat]'aa).keys[0]'w4) low) ⟨ot,ot,trivial⟩ ?_;refine an 148 [0,1,2,3,4,13,63] ?_;refine av ?_ ?_<;>intro aY cD
   ·have oI:((t.pg i).high≠high∨∃k,(t.pg i).keys.head?=some k∧bu k low):=(by rw[qx];first|exact .inl (by simpa using Db)|exact .inr ⟨_,head?_eq_getElem? .. ▸ getElem?_eq_getElem w4,of_decide_eq_true aY⟩)
    refine af [10] ?_;refine aM [] ?_;rw[Uz oI];exact⟨rfl,rfl⟩
   have oF:¬((t.pg i).high≠high∨∃k,(t.pg i).keys.head?=some k∧bu k low):=(by rw[qx];rintro(h|⟨k,hk,vP⟩);exact h (by simpa using Db);first|(rw[head?_eq_getElem?,getElem?_eq_none w4] at hk;cases hk;done)|(rw[head?_eq_getElem?,getElem?_eq_getElem w4] at hk;cases hk;exact of_decide_eq_false aY vP))
   refine CD.skip ?_;refine⟨_,aJ,mK,oF,rfl⟩
  refine an 148 [0,1,2,3,4,13,63] ?_;refine gq ?_;have oF:¬((t.pg i).high≠high∨∃k,(t.pg i).keys.head?=some k∧bu k low):=(by rw[qx];rintro(h|⟨k,hk,vP⟩);exact h (by simpa using Db);first|(rw[head?_eq_getElem?,getElem?_eq_none w4] at hk;cases hk;done)|(rw[head?_eq_getElem?,getElem?_eq_getElem w4] at hk;cases hk;exact of_decide_eq_false aY vP))
  refine CD.skip ?_;refine⟨_,aJ,mK,oF,rfl⟩
 rintro _ ⟨mK,oF,rfl⟩;refine eG [0,1,2,3,4,13] (fun aS _ (jO:List dF×Option Addr×Nat×List ah) aE=>match jO with|(I,Is,Z,Eh)=>(AH I Is Z Eh)∧(∀o∈I,nr o)∧(I.map dF.l=L.map dF.l++replicate (I.length-L.length) [])∧(L.length≤I.length)∧(I.length≤max L.length (level+1))∧aE=(⟨148,aS,(⟨mK,146,5,cP (t.ag[i.toNat]'aa)⟩::⟨b,182,4,[au 5 cP t.ag,ae t.root,.v (.map (some bm)),aP Is I.length Z]⟩::lg bm (m++[i])::(Eh++I.flatMap dF.s))⟩:St)) (fun (jO:List dF×Option Addr×Nat×List ah)=>match jO with|(I,Is,Z,Eh)=>level+1-I.length) (L,ad,cap,Sx) ⟨nj,aT,bj,(Nat.le_refl _),w4,rfl⟩ ?_;rintro⟨I,Is,Z,Eh⟩ _ ⟨Xb,qZ,Xc,alp,alq,rfl⟩;refine af [0,1,2,3,4,13,70] ?_;refine av ?_ ?_<;>intro cm cR
 ·have mb:=Hj.eO;have mb:L.length≤m.length:=(by simpa using mb)
  have E:I.length≤level:=(by omega)
  refine dY 5 ?_;refine eD (cq 0 [_]) [.slice none 0 0] [_] zeroValue70 runUnderlying180 sizeOf70 (fun b76=>?_);refine fT 0 76 1 1 ?_;refine OD.eL (ls:=I) (new:=[rS]) (Sq:=Eh) xC ahp ap rfl rfl underlying180 aaW rfl w7 ot Xb (pc (A:=[_,_,_])) ot bj HA HA (fun OZ M4 alr als=>?_);refine OD.perm (kp (S1:=[⟨OZ,70,M4*1,flatMap gV (I++[rS])⟩]) (A:=[_,_,_])) ?_;rw[←acm (L:=I)];refine aH 2 ?_;refine aO 1 [_,_,_,_] sizeOf180 ?_;refine an 148 [0,1,2,3,4,13] ?_;refine⟨((I++[rS]),(some ⟨OZ,0,none⟩),M4,[⟨OZ,70,M4*1,flatMap gV (I++[rS])⟩]),_,(by (show level+1-(I++[rS]).length<level+1-I.length;rw[length_append,show[rS].length=1 from rfl];omega)),aJ,(bQ alr als),(fun o ho=>by rcases mem_append.1 ho with ho|ho;exact qZ o ho;rw[mem_singleton] at ho;subst ho;exact afR),(by rw[map_append,Xc,append_assoc,length_append,show[rS].length=1 from rfl,show I.length+1-L.length=I.length-L.length+1 from by omega,replicate_succ'];rfl),v8,(by rw[length_append,show[rS].length=1 from rfl];omega),rfl⟩
 have E:level<I.length:=(by omega)
 have AJ:=afS Xc alp alq E;obtain⟨bv,rfl,Da,CF,rfl⟩:=Xb.pos w4;have ey:nr (I[level]'E):=qZ _ (getElem_mem E);have lC:(I[level]'E).l.length≤m.length:=by
    have hz:(I[level]'E).l=(tg (L.map dF.l) (level+1)).getD level []:=(by rw[←AJ,getD_eq_getElem?_getD,getElem?_eq_getElem (by rw[length_map];exact E),getElem_map];rfl)
    rw[hz,KT,getD_eq_getElem?_getD];rcases Nat.lt_or_ge level (L.map dF.l).length with q|q
    ·rw[getElem?_eq_getElem q];exact Hj.each _ (getElem_mem q)
    rw[getElem?_eq_none q];simp
 refine CD.perm (Perm.cons _ (Perm.cons _ (Perm.cons _ ((zD dF.s E).append_left _)))) ?_;refine CD.exit ?_;refine CD.seq ?_;refine CD.mono (Q:=fun aS aE=>aS=Exit.normal∧∃(o2:dF),(nr o2)∧(o2.l=(I[level]'E).l++[i])∧Wk aE (⟨148,[(0,cZ b),(2,au 1 cB low),(3,au 1 cB high),(4,ae (level:Nat)),(13,cZ mK)],(⟨mK,146,5,cP (t.ag[i.toNat]'aa)⟩::⟨b,182,4,[au 5 cP t.ag,ae t.root,.v (.map (some bm)),aP (some ⟨bv,0,none⟩) (I.set level o2).length Z]⟩::lg bm (m++[i])::([⟨bv,70,Z*1,flatMap gV (I.set level o2)⟩]++(I.set level o2).flatMap dF.s))⟩:St)) ?_ ?_
 ·refine CD.draw (ax (take 3 _)) aC (fun _ h=>(Sublist.map _ (take_sublist _ _)).subset h) ?_;refine aD 0 rfl bI ?_;refine aD 1 rfl qm ?_;refine aD 2 rfl (dX 3) ?_;refine aD 3 rfl (ee 1) ?_;refine aD 4 rfl bI ?_;refine aD 5 rfl bI ?_;refine aD 6 rfl qm ?_;refine aD 7 rfl (dX 3) ?_;refine aD 8 rfl (ee 1) ?_;refine aD 9 rfl bI ?_;refine aD 10 rfl (dO 1) ?_;refine aD 12 rfl bI ?_;refine dZ.later rfl ?_;refine AD.two (i:=11) (j:=13) aC ?_ ?_
  ·refine at_ rfl (cW (mk:=Op.load 70) rfl ot (jk (k:=3) (d:=aP (I[level]'E).ad (I[level]'E).l.length (I[level]'E).cp) (i:=level) xC rfl rfl rfl isAgg70 E rfl)) ?_;refine AD.one (i:=13) aC ?_;refine nJ (cq 0 [_]) [.int .i64 0] [_] zeroValue3 runUnderlying70 sizeOf3 (fun Za=>?_);refine nK 0 93 1 1 ?_;refine AD.one (i:=14) aC ?_;refine bD.eL (ls:=(I[level]'E).l) (new:=[i]) (Sq:=(I[level]'E).s) eM nT rfl ap rfl rfl underlying70 Re rfl w7 ot ey (tW (A:=[_,_,_]) (S1:=[⟨bv,70,Z*1,flatMap gV I⟩])) ot bj nH nI (fun U O M5 M6=>?_);refine AD.perm (wU (S2:=[⟨U,3,O*1,flatMap cI ((I[level]'E).l++[i])⟩]) (A:=[_,_,_])) ?_;refine dj 15 rfl (dO 1) ?_;refine AD.one (i:=16) aC ?_;refine bD.storeAt (k:=3) (cs':=flatMap gV (I.set level (⟨(I[level]'E).l++[i],some ⟨U,0,none⟩,O,[⟨U,3,O*1,flatMap cI ((I[level]'E).l++[i])⟩]⟩:dF))) rfl ap rfl rfl ot rfl rfl ot rfl rfl sizeOf70 rfl (by show 0+level*1+1≤(flatMap gV I).length;rw[cz xC];omega) (by rw[Nat.zero_add];exact pi xC I (⟨(I[level]'E).l++[i],some ⟨U,0,none⟩,O,[⟨U,3,O*1,flatMap cI ((I[level]'E).l++[i])⟩]⟩:dF) E) iP ?_
   refine AD.wk (y:=⟨148,[(0,_),(2,_),(3,_),(4,_),(13,_)],(⟨mK,146,5,[_,_,_,_,_]⟩::⟨b,182,4,[_,_,_,_]⟩::_::([⟨bv,70,Z*1,flatMap gV (I.set level (⟨(I[level]'E).l++[i],some ⟨U,0,none⟩,O,[⟨U,3,O*1,flatMap cI ((I[level]'E).l++[i])⟩]⟩:dF))⟩]++([⟨U,3,O*1,flatMap cI ((I[level]'E).l++[i])⟩]++((I.eraseIdx level).flatMap dF.s))))⟩) (Wk.er rfl rfl fI) rfl ?_;refine AD.done aC ?_;exact⟨rfl,(⟨(I[level]'E).l++[i],some ⟨U,0,none⟩,O,[⟨U,3,O*1,flatMap cI ((I[level]'E).l++[i])⟩]⟩:dF),bQ M5 M6,rfl,by rw[length_set];exact Wk.perm (Perm.cons _ (Perm.cons _ (Perm.cons _ ((zi dF.s E (⟨(I[level]'E).l++[i],some ⟨U,0,none⟩,O,[⟨U,3,O*1,flatMap cI ((I[level]'E).l++[i])⟩]⟩:dF)).symm.append_left _))))⟩
  refine nJ (cq 0 [_]) [.int .i64 0] [_] zeroValue3 runUnderlying70 sizeOf3 (fun Za=>?_);refine nK 0 93 1 1 ?_;refine AD.one (i:=11) aC ?_;refine at_ rfl (cW (mk:=Op.load 70) rfl ot (jk (k:=3) (d:=aP (I[level]'E).ad (I[level]'E).l.length (I[level]'E).cp) (i:=level) xC rfl rfl rfl isAgg70 E rfl)) ?_;refine AD.one (i:=14) aC ?_;refine bD.eL (ls:=(I[level]'E).l) (new:=[i]) (Sq:=(I[level]'E).s) eM nT rfl ap rfl rfl underlying70 Re rfl w7 ot ey (tW (A:=[_,_,_]) (S1:=[⟨bv,70,Z*1,flatMap gV I⟩])) ot bj nH nI (fun U O M5 M6=>?_);refine AD.perm (wU (S2:=[⟨U,3,O*1,flatMap cI ((I[level]'E).l++[i])⟩]) (A:=[_,_,_])) ?_;refine dj 15 rfl (dO 1) ?_;refine AD.one (i:=16) aC ?_;refine bD.storeAt (k:=3) (cs':=flatMap gV (I.set level (⟨(I[level]'E).l++[i],some ⟨U,0,none⟩,O,[⟨U,3,O*1,flatMap cI ((I[level]'E).l++[i])⟩]⟩:dF))) rfl ap rfl rfl ot rfl rfl ot rfl rfl sizeOf70 rfl (by show 0+level*1+1≤(flatMap gV I).length;rw[cz xC];omega) (by rw[Nat.zero_add];exact pi xC I (⟨(I[level]'E).l++[i],some ⟨U,0,none⟩,O,[⟨U,3,O*1,flatMap cI ((I[level]'E).l++[i])⟩]⟩:dF) E) iP ?_
  refine AD.wk (y:=⟨148,[(0,_),(2,_),(3,_),(4,_),(13,_)],(⟨mK,146,5,[_,_,_,_,_]⟩::⟨b,182,4,[_,_,_,_]⟩::_::([⟨bv,70,Z*1,flatMap gV (I.set level (⟨(I[level]'E).l++[i],some ⟨U,0,none⟩,O,[⟨U,3,O*1,flatMap cI ((I[level]'E).l++[i])⟩]⟩:dF))⟩]++([⟨U,3,O*1,flatMap cI ((I[level]'E).l++[i])⟩]++((I.eraseIdx level).flatMap dF.s))))⟩) (Wk.er rfl rfl fI) rfl ?_;refine AD.done aC ?_;exact⟨rfl,(⟨(I[level]'E).l++[i],some ⟨U,0,none⟩,O,[⟨U,3,O*1,flatMap cI ((I[level]'E).l++[i])⟩]⟩:dF),bQ M5 M6,rfl,by rw[length_set];exact Wk.perm (Perm.cons _ (Perm.cons _ (Perm.cons _ ((zi dF.s E (⟨(I[level]'E).l++[i],some ⟨U,0,none⟩,O,[⟨U,3,O*1,flatMap cI ((I[level]'E).l++[i])⟩]⟩:dF)).symm.append_left _))))⟩
 rintro _ _ ⟨rfl,o2,rB,Hg,aiY⟩;refine CD.wk aiY ?_;refine af [0,2,3,4,13,97] ?_;refine av ?_ ?_<;>intro da eA
 ·refine af [10] ?_;refine aM (SW t b bm (m++[i]) (I.set level o2) (some ⟨bv,0,none⟩) Z _) ?_;rw[ad4 nk oF (by rw[qx];exact da)];exact⟨rfl,_,_,_,_,bQ (by rw[length_set];exact Da) CF,UA qZ rB,KV AJ E Hg,rfl⟩
 have fA:(t.pg i).leaf=false:=(by rw[qx];exact da)
 have GU:nX t (m++[i],(I.set level o2).map dF.l):=(by rw[KV AJ E Hg];exact Hj.add hr nk hlm)
 have alu:=Q9 po (by rw[←qx];exact fA);have aqi:=(po.node (by rw[←qx];exact fA)).1;have aqj:=po.eO;have CG:(t.ag[i.toNat]'aa).high=high:=(by rw[←qx];exact Classical.byContradiction fun h=>oF (.inl h))
 refine af [0,2,3,4,13,14] ?_;refine af [0,2,3,4,13,14,100,101,102] ?_;refine eG [0,2,3,4,13,100,101] (fun aS _ (jO:Nat×Option Nat×List Int×List dF×Option Addr×Nat×List ah) aE=>match jO with|(k,deep,m2,L2,u3,uC,u4)=>(k≤(t.ag[i.toNat]'aa).kids.length)∧(l6 (fun c lo hi s=>jB t f c lo hi (level+1) s) low (t.ag[i.toNat]'aa) ((t.ag[i.toNat]'aa).kids.drop k) k deep (m2,(L2.map dF.l))=(jB t (f+1) i low high level (m,(L.map dF.l))))∧(AH L2 u3 uC u4)∧(∀o∈L2,nr o)∧(nX t (m2,(L2.map dF.l)))∧(level+1≤m2.length)∧(t.ag.length+1≤f+m2.length)∧((k=0∨deep≠none))∧aE=(⟨148,(14,ae (sW deep))::(102,ae (k:Nat))::aS,(⟨mK,146,5,cP (t.ag[i.toNat]'aa)⟩::⟨b,182,4,[au 5 cP t.ag,ae t.root,.v (.map (some bm)),aP u3 L2.length uC]⟩::lg bm m2::(u4++L2.flatMap dF.s))⟩:St)) (fun (jO:Nat×Option Nat×List Int×List dF×Option Addr×Nat×List ah)=>match jO with|(k,deep,m2,L2,u3,uC,u4)=>(t.ag[i.toNat]'aa).kids.length-k) (0,none,(m++[i]),(I.set level o2),(some ⟨bv,0,none⟩),Z,[⟨bv,70,Z*1,flatMap gV (I.set level o2)⟩]) ⟨(Nat.zero_le _),(by rw[ad5 nk oF fA,KV AJ E Hg,qx];rfl),(bQ (by rw[length_set];exact Da) CF),(UA qZ rB),GU,HG,HG,(.inl rfl),rfl⟩ ?_;rintro⟨k,deep,m2,L2,u3,uC,u4⟩ _ ⟨hk,Ei,Xd,j8,GU,Xe,alv,hdp,rfl⟩;refine af [0,2,3,4,13,14,100,101,102,103] ?_;refine av ?_ ?_<;>intro dR fH
 ·have dJ:k<(t.ag[i.toNat]'aa).kids.length:=(by omega)
  have Zo:=alu _ (getElem_mem dJ);have hhk:(iw (t.ag[i.toNat]'aa) k).length≤100:=(by unfold iw;rw[getD_eq_getElem?_getD];rcases Nat.lt_or_ge k (t.ag[i.toNat]'aa).keys.length with q|q;(rw[getElem?_eq_getElem q];exact(po.lJ _ (getElem_mem q)).2);(rw[getElem?_eq_none q];exact po.hlen))
  refine af [0,2,3,4,13,14,15,16,100,101,102] ?_;refine af [0,2,3,4,13,14,15,16,17,18,100,101,102] ?_;refine CD.cut (fun aE=>aE=(⟨148,[(0,cZ b),(2,au 1 cB low),(3,au 1 cB high),(4,ae (level:Nat)),(13,cZ mK),(14,ae (sW deep)),(15,ae (k:Nat)),(16,ae ((t.ag[i.toNat]'aa).kids[k]'dJ)),(17,.list 1 ((iM low (t.ag[i.toNat]'aa) k).flatMap cB) (iM low (t.ag[i.toNat]'aa) k).length),(18,au 1 cB high),(100,.list 1 ((t.ag[i.toNat]'aa).kids.flatMap cI) (t.ag[i.toNat]'aa).kids.length),(101,ae ((t.ag[i.toNat]'aa).kids.length:Nat)),(102,ae (k:Nat))],(⟨mK,146,5,cP (t.ag[i.toNat]'aa)⟩::⟨b,182,4,[au 5 cP t.ag,ae t.root,.v (.map (some bm)),aP u3 L2.length uC]⟩::lg bm m2::(u4++L2.flatMap dF.s))⟩:St)) ?_ ?_
  ·refine af [0,2,3,4,13,14,15,16,17,18,100,101,102,110] ?_;refine av ?_ ?_<;>intro fM gW
   ·have e9:iM low (t.ag[i.toNat]'aa) k=(t.ag[i.toNat]'aa).keys[k-1]'w4:=(by unfold iM;rw[if_neg w4,getD_eq_getElem?_getD,getElem?_eq_getElem w4];rfl)
    refine iU [0,2,3,4,13,14,15,16,17,18,100,101,102] ?_;refine aR 4 ?_ (h:=by exact(dO 1 (h:=by first|exact .l (j:=k-1) w4 w4|exact .r (j:=k-1) w4 w4)));refine bH ?_;refine⟨_,(aJ (h:=by repeat (first|exact trivial|refine⟨(by (repeat (first|exact fP|(apply gi;focus (first|rfl|(rw[e9];done)|(simp;done)))|(apply fU;focus rfl)));done),?_⟩))),rfl⟩
   have e9:iM low (t.ag[i.toNat]'aa) k=low:=(by unfold iM;rw[if_pos w4])
   refine CD.skip ?_;refine⟨_,(aJ (h:=by repeat (first|exact trivial|refine⟨(by (repeat (first|exact fP|(apply gi;focus (first|rfl|(rw[e9];done)|(simp;done)))|(apply fU;focus rfl)));done),?_⟩))),rfl⟩
  rintro _ ⟨rfl⟩;refine CD.cut (fun aE=>aE=(⟨148,[(0,cZ b),(2,au 1 cB low),(3,au 1 cB high),(4,ae (level:Nat)),(13,cZ mK),(14,ae (sW deep)),(16,ae ((t.ag[i.toNat]'aa).kids[k]'dJ)),(17,.list 1 ((iM low (t.ag[i.toNat]'aa) k).flatMap cB) (iM low (t.ag[i.toNat]'aa) k).length),(18,.list 1 ((iw (t.ag[i.toNat]'aa) k).flatMap cB) (iw (t.ag[i.toNat]'aa) k).length),(100,.list 1 ((t.ag[i.toNat]'aa).kids.flatMap cI) (t.ag[i.toNat]'aa).kids.length),(101,ae ((t.ag[i.toNat]'aa).kids.length:Nat)),(102,ae (k:Nat))],(⟨mK,146,5,cP (t.ag[i.toNat]'aa)⟩::⟨b,182,4,[au 5 cP t.ag,ae t.root,.v (.map (some bm)),aP u3 L2.length uC]⟩::lg bm m2::(u4++L2.flatMap dF.s))⟩:St)) ?_ ?_
  ·refine af [0,2,3,4,13,14,15,16,17,18,100,101,102,121] ?_;refine av ?_ ?_<;>intro jb px
   ·have eK:iw (t.ag[i.toNat]'aa) k=(t.ag[i.toNat]'aa).keys[k]'w4:=(by unfold iw;rw[getD_eq_getElem?_getD,getElem?_eq_getElem w4];rfl)
    refine cc [0,2,3,4,13,14,16,17,18,100,101,102] ?_;refine⟨_,(aJ (h:=by repeat (first|exact trivial|refine⟨(by (repeat (first|exact fP|(apply gi;focus (first|rfl|(rw[eK];done)|(simp;done)))|(apply fU;focus rfl)));done),?_⟩))),rfl⟩
   have eK:iw (t.ag[i.toNat]'aa) k=high:=(by unfold iw;rw[getD_eq_getElem?_getD,getElem?_eq_none w4];exact CG)
   refine CD.skip ?_;refine⟨_,(aJ (h:=by repeat (first|exact trivial|refine⟨(by (repeat (first|exact fP|(apply gi;focus (first|rfl|(rw[eK];done)|(simp;done)))|(apply fU;focus rfl)));done),?_⟩))),rfl⟩
  rintro _ ⟨rfl⟩;refine aB 5 ?_;refine bV (dA (r:=.int .i64 ((level+1:Nat):Int)) rfl ot bP (kr (by rw[show((level:Nat):Int)+1=((level+1:Nat):Int) from rfl];exact wrap_i64 w4 w4))) ?_;refine OD.call ap rfl rfl rfl call115 (ih ((t.ag[i.toNat]'aa).kids[k]'dJ) (iM low (t.ag[i.toNat]'aa) k) (iw (t.ag[i.toNat]'aa) k) (level+1) m2 L2 u3 uC u4 Zo GU Xe alv hhk Xd j8) ⟨ot,ot,ot,ot,ot,trivial⟩ (perm_append_singleton _ _).symm ?_;rintro r19 S19 mZ;rcases jR:jB t f ((t.ag[i.toNat]'aa).kids[k]'dJ) (iM low (t.ag[i.toNat]'aa) k) (iw (t.ag[i.toNat]'aa) k) (level+1) (m2,(L2.map dF.l)) with _|⟨d,m3,lv3⟩
  ·rw[jR] at mZ;obtain⟨rfl,rfl⟩:=mZ;have aiZ:=Ei.symm.trans (ack dJ jR);refine an 148 [0,2,3,4,13,14,19,100,101,102] ?_;refine aB 3 ?_;refine bY 136 (fun CH Lw=>?_) (fun CH Lw=>?_)
   ·refine bp [0,2,3,4,13,19,100,101,102,144] ?_;refine eY ?_;refine af [10] ?_;refine aM [] ?_;rw[aiZ];exact⟨rfl,rfl⟩
   exact absurd CH w7
  rw[jR] at mZ;obtain⟨rfl,L3,It,Hl,Iu,Xf,x6,rfl,rfl⟩:=mZ;obtain⟨Wa,GH⟩:=KU hp _ _ _ _ _ _ _ _ Zo GU Xe jR;have GH:m2.length≤m3.length:=GH;refine OD.perm (perm_append_singleton _ _) ?_;refine an 148 [0,2,3,4,13,14,19,100,101,102] ?_;refine aB 3 ?_;refine bY 136 (fun CH Lw=>?_) (fun CH Lw=>?_)
  ·exact absurd CH (by intro e;have e:=of_decide_eq_true e;omega)
  refine aH 3 ?_;refine bY 139 (fun Ak ahr=>?_) (fun Ak ahr=>?_)
  ·refine bp [0,2,3,4,13,19,100,101,102,144] ?_;refine av ?_ ?_<;>intro iS mY
   ·refine af [10] ?_;refine aM [] ?_;rw[Ei.symm.trans (ad6 dJ jR (ad9 (by simpa using Ak) (by simpa using iS)))];exact⟨rfl,rfl⟩
   refine cc [0,2,3,4,13,14,100,101,102] ?_;refine cc [0,2,3,4,13,14,100,101,102] ?_;refine⟨((k+1),(some d),m3,L3,It,Hl,Iu),_,cr,aJ,w4,((Ra dJ jR (by first|exact .inl (Rb (by simpa using Ak))|exact .inr (S5 (by simpa using Ak) (by simpa using iS)))).symm.trans Ei),Xf,x6,Wa,w4,w4,(.inr (fun e=>by cases e)),rfl⟩
  refine bp [0,2,3,4,13,19,100,101,102,144] ?_;refine gq ?_;refine cc [0,2,3,4,13,14,100,101,102] ?_;refine cc [0,2,3,4,13,14,100,101,102] ?_;refine⟨((k+1),(some d),m3,L3,It,Hl,Iu),_,cr,aJ,w4,((Ra dJ jR (by first|exact .inl (Rb (by simpa using Ak))|exact .inr (S5 (by simpa using Ak) (by simpa using iS)))).symm.trans Ei),Xf,x6,Wa,w4,w4,(.inr (fun e=>by cases e)),rfl⟩
 obtain rfl:k=(t.ag[i.toNat]'aa).kids.length:=(by omega)
 obtain⟨d,rfl⟩:∃d,deep=some d:=(by rcases hdp with h|h;omega;exact Option.ne_none_iff_exists'.1 h)
 refine af [10] ?_;refine aM (SW t b bm m2 L2 u3 uC u4) ?_;rw[←Ei,ad8 (Nat.le_refl _)];exact⟨rfl,L2,u3,uC,u4,Xd,j8,rfl,rfl⟩

end Go.Proofs.YtkgmonfgofobaaaGreatDoor.Tw

namespace Go.Proofs.YtkgmonfgofobaaaGreatDoor.Tw
open List
open Go.Proofs.Tryz
open Go.RowKit V Go.Proofs.YtkgmonfgofobaaaGreatDoor.Tr Pk
theorem KW{G:List (Nat×List Value)}(t:aG)(hp:vr t)(I:t.ag.length≤4000)(b Z:Nat):∀f,V9 G t b Z f
 | 0=>fun i low high level m L ad cap Sx hr E O U _ _ _=>by have h:m.length≤t.ag.length:=E.n9;exfalso;omega
 | f+1=>fun i low high level m L ad cap Sx hr E O U Zn nj aT=>acn t hp I b Z f (KW t hp I b Z f) i low high level m L ad cap Sx hr E O U Zn nj aT
theorem qL(t:aG):nX t ([],[]):=⟨nodup_nil,(fun x h=>by cases h),Nat.le_refl _,(fun l h=>by cases h),(fun l h=>by cases h)⟩
theorem KX{t:aG}{e:Int}:∀{l:List Int},fm t l e↔∀k (h:k<l.length),(t.pg l[k]).next=l.getD (k+1) e
  | []=>⟨(fun _ k h=>by cases h),fun _=>trivial⟩
  | [i] => ⟨fun h k hk => by obtain rfl : k=0 := by (simp at hk; exact hk)
                             exact h,fun h=>h 0 bj⟩
  | i::j::r=>by
    show(t.pg i).next=j∧fm t (j::r) e↔_;rw[KX (l:=j::r)];constructor
    · rintro⟨h1,h2⟩ k hk;cases k with
      | zero=>exact h1
      | succ k=>exact h2 k (by simpa using hk)
    intro h;exact⟨h 0 bj,fun k hk=>h (k+1) (by simpa using hk)⟩
theorem Rf{p:c9}{n:Int}:CC p n=true↔eN p n:=by unfold CC;simp
section
variable {t:aG}
theorem P4(h:t.ag.length<1∨t.ag.length>4000∨t.root<0∨t.root≥t.ag.length):gS t=11:=by unfold gS;rw[if_pos h]
theorem aaX(h:¬vr t):gS t=11:=by
 unfold gS;split
 ·rfl
 first|rfl|rw[if_pos h]
variable {d:Nat} {m:List Int} {lv:List (List Int)}
theorem aaY(hw:jB t (t.ag.length+1) t.root [] [] 0 ([],[])=none):gS t=11:=by
 unfold gS;split
 ·rfl
 split
 ·rfl
 rw[hw]
theorem aco(hw:jB t (t.ag.length+1) t.root [] [] 0 ([],[])=some (d,m,lv))(h:m.length≠t.ag.length):gS t=11:=by
 unfold gS;split
 ·rfl
 split
 ·rfl
 rw[hw];exact if_pos h
open Classical in
theorem acp(hw:jB t (t.ag.length+1) t.root [] [] 0 ([],[])=some (d,m,lv))(h:¬∀l∈lv,fm t l (-1)):gS t=11:=by
 unfold gS;split
 ·rfl
 split
 ·rfl
 rw[hw];show(if m.length≠t.ag.length then (11:Int) else if ∀l∈lv,fm t l (-1) then 0 else 11)=11;split
 ·rfl
 first|rfl|rw[if_neg h]
open Classical in
theorem acq(h1:¬(t.ag.length<1∨t.ag.length>4000∨t.root<0∨t.root≥t.ag.length))(h2:vr t)(hw:jB t (t.ag.length+1) t.root [] [] 0 ([],[])=some (d,m,lv))(h3:m.length=t.ag.length)(h:∀l∈lv,fm t l (-1)):gS t=0:=by
 unfold gS;rw[if_neg h1,if_neg (fun hn=>hn h2),hw];show(if m.length≠t.ag.length then (11:Int) else if ∀l∈lv,fm t l (-1) then 0 else 11)=0;rw[if_neg (fun hn=>hn h3),if_pos h]
end
def yV(l:List Int):List D:=[au 1 cI l]
theorem afT(l:List Int):(yV l).length=1:=rfl
theorem UB{S:List ah}:∀{L:List dF},(∀o∈L,nr o)→(∀B∈L.flatMap dF.s,B∈S)→gU S (L.flatMap gV) ((L.map dF.l).flatMap yV)
 | [],_,_=>trivial
 | o::L,h,hs=>by
  rw[map_cons,flatMap_cons,flatMap_cons];refine gU.append ⟨lU (h o mem_cons_self) (cz eM _) (fun B E=>hs B ?_),trivial⟩ (UB (fun o ho=>h o (mem_cons_of_mem _ ho)) fun B E=>hs B ?_)
  ·rw[flatMap_cons];exact mem_append_left _ E
  rw[flatMap_cons];exact mem_append_right _ E
theorem ahs{Sx:List ah}{L:List dF}{ad:Option Addr}{cap:Nat}{lv:List (List Int)}(ho:AH L ad cap Sx)(h:∀o∈L,nr o)(hm:L.map dF.l=lv):View (Sx++L.flatMap dF.s) (aP ad L.length cap) (au 1 yV lv):=by
 subst hm;have:=BG ho (UB (S:=Sx++L.flatMap dF.s) h fun B E=>mem_append_right _ E) (cz afT _ |>.trans bj) (fun B E=>mem_append_left _ E);first|rw[length_map]|(show View _ _ (.list _ _ (length _));rw[length_map])|(show View _ _ (.agg [.list _ _ (length _)]);rw[length_map])
 exact this
variable {G:List (Nat×List Value)}

theorem pS(t:aG)(hb:∀p∈t.ag,p.keys.length≤maxLen∧p.kids.length≤maxLen):VP Tryz.prog G 62 [.agg (cT t)] (ae (gS t)):=by
 refine VC.body func62 rfl ntmps62 aQ fun X0 w0 bf=>?_;unfold cT;have c8:=dV;refine cf ?_;refine OD.box (ds:=[_,_]) ap rfl rfl ot rfl rfl (fun b1=>?_);refine an 104 [1] ?_;refine aB 5 ?_;refine bY 15 (fun CR ai0=>?_) (fun CR ai0=>?_)
 ·exact N1
 refine aH 6 ?_;refine bY 21 (fun qY ai1=>?_) (fun qY ai1=>?_)
 ·exact N1
 refine aH 5 ?_;refine bY 26 (fun alw L9=>?_) (fun alw L9=>?_)
 ·exact N1
 refine bp [1,33] ?_;refine av ?_ ?_<;>intro aL bB
 ·refine af [2] ?_;refine eZ ?_;exact⟨vi (P4 w4).symm,rfl⟩
 refine af [1,35,36,37] ?_;refine eG [1,35,36] (fun aS _ (i:Nat) aE=>(i≤t.ag.length)∧(∀j (h:j<t.ag.length),j<i→eN t.ag[j] t.ag.length)∧aE=(⟨104,(37,ae (i:Nat))::aS,[⟨b1,75,2,[au 5 cP t.ag,ae t.root]⟩]⟩:St)) (fun (i:Nat)=>t.ag.length-i) 0 ⟨(Nat.zero_le _),(fun j h h0=>by omega),rfl⟩ ?_;rintro i _ ⟨hi,qx,rfl⟩;refine af [1,35,36,37,38] ?_;refine av ?_ ?_<;>intro aY cD
 ·have aa:i<t.ag.length:=(by omega)
  obtain⟨dJ,fL⟩:=hb (t.ag[i]'aa) (getElem_mem aa);refine aB 2 ?_;refine OD.alloc (ds:=[_,_,_,_,_]) ap rfl rfl zeroValue146 rfl (fun b4=>?_);refine aO 0 [_,_,_,_,_] sizeOf146 ?_;refine an 104 [1,4,35,36,37] ?_;refine cL [1,35,36,37,46] (afN (t.ag[i]'aa) (t.ag.length:Nat) dJ fL) ?_;refine av ?_ ?_<;>intro cm cR
  ·have oI:¬vr t:=fun h=>by have:=Rf.2 (h (t.ag[i]'aa) (getElem_mem aa));rw[this] at cm;cases cm
   refine af [2] ?_;refine aM [] ?_;exact⟨vi (aaX oI).symm,rfl⟩
  have alx:eN (t.ag[i]'aa) t.ag.length:=Rf.1 (by simpa using cm);refine cc [1,35,36,37] ?_;refine⟨(i+1),_,cr,aJ,w4,(fun j h h0=>by rcases Nat.lt_or_ge j i with q|q;exact qx j h q;obtain rfl:j=i:=w4;exact alx),rfl⟩
 have fw:vr t:=fun p h=>by obtain⟨j,hj,rfl⟩:=mem_iff_getElem.1 h;exact qx j hj w4
 have h4:t.ag.length≤4000:=(by omega)
 have E:0≤t.root∧t.root<t.ag.length:=(by omega)
 refine aB 1 ?_;refine OD.ae9 ap rfl rfl (fun O=>?_);refine aH 1 ?_;refine OD.box (ds:=[_,_,_,_]) ap rfl rfl ot rfl rfl (fun U=>?_);refine an 104 [1,5] ?_;refine CD.seq ?_;refine CD.seq ?_;rcases jR:jB t (t.ag.length+1) t.root [] [] 0 ([],[]) with _|⟨d,m,lv⟩
 ·refine iv 14 (ax (drop 2 _)) ?_ (fun _ h=>(Sublist.map _ (drop_sublist _ _)).subset h);refine aD 0 rfl bI ?_;refine aD 1 rfl (dX 1) ?_;refine aD 2 rfl (ee 2) ?_;refine dZ.later rfl ?_;refine AD.one (i:=3) aC ?_;refine bD.call rfl ap rfl rfl rfl call115 (VC.ff (args':=[cZ U,ae t.root,bF,bF,ae 0]) (KW t fw h4 U O (t.ag.length+1) t.root [] [] 0 [] [] none 0 [] E (qL t) (Nat.le_refl _) (Nat.le_refl _) w7 iW (fun o h=>by cases h)) ⟨.inl rfl,.inl rfl,.inr ⟨1,rfl,rfl⟩,.inr ⟨1,rfl,rfl⟩,.inl rfl,trivial⟩) ⟨ot,ot,bP,bP,bP,trivial⟩ (Perm.refl _) iP ?_;rintro r55 NV mZ;rw[show map dF.l []=[] from rfl,jR] at mZ;obtain⟨rfl,rfl⟩:=mZ;refine dj 4 rfl qs ?_;refine dj 5 rfl bI ?_;refine AD.split (t:=57) lk (fun uA=>?_) (fun uA=>?_)
  ·have Cx:=uA;(try simp only[V.nL,ne_eq] at Cx)
   refine qn 6 rfl ?_;refine qn 7 rfl ?_;refine qn 11 rfl ?_;refine qn 12 rfl ?_;refine qn 13 rfl ?_;refine AD.one (i:=8) aC ?_;refine bD.skip rfl (mP rfl rfl rfl lk jC) rfl ?_;refine AD.one (i:=9) aC ?_;refine bD.skip rfl (mP rfl rfl rfl lk jC) rfl ?_;refine AD.one (i:=10) aC ?_;refine bD.skip rfl (mP rfl rfl rfl lk jC) rfl ?_;refine fB ?_;refine bp [1,5,67] ?_;refine eY ?_;try have I:m.length≠t.ag.length:=by intro e;rw[e] at da;simp at da
   refine af [2] ?_;refine eZ ?_;exact⟨vi (aaY jR).symm,rfl⟩
  exact absurd uA w7
 refine iv 14 (ax (drop 2 _)) ?_ (fun _ h=>(Sublist.map _ (drop_sublist _ _)).subset h);refine aD 0 rfl bI ?_;refine aD 1 rfl (dX 1) ?_;refine aD 2 rfl (ee 2) ?_;refine dZ.later rfl ?_;refine AD.one (i:=3) aC ?_;refine bD.call rfl ap rfl rfl rfl call115 (VC.ff (args':=[cZ U,ae t.root,bF,bF,ae 0]) (KW t fw h4 U O (t.ag.length+1) t.root [] [] 0 [] [] none 0 [] E (qL t) (Nat.le_refl _) (Nat.le_refl _) w7 iW (fun o h=>by cases h)) ⟨.inl rfl,.inl rfl,.inr ⟨1,rfl,rfl⟩,.inr ⟨1,rfl,rfl⟩,.inl rfl,trivial⟩) ⟨ot,ot,bP,bP,bP,trivial⟩ (Perm.refl _) iP ?_;rintro r55 NV mZ;rw[show map dF.l []=[] from rfl,jR] at mZ;obtain⟨rfl,L,ad,cap,Sx,nj,aT,AJ,rfl⟩:=mZ;refine AD.perm (Perm.cons _ (Perm.cons _ (perm_append_singleton _ _))) ?_;refine dj 4 rfl qs ?_;refine dj 5 rfl bI ?_;refine AD.split (t:=57) lk (fun uA=>?_) (fun uA=>?_)
 ·exact absurd uA (by intro e;have e:=of_decide_eq_true e;omega)
 have Cx:=uA;(try simp only[V.nL,ne_eq] at Cx)
 refine dj 6 rfl bI ?_;refine dj 7 rfl qm ?_;refine dj 11 rfl (dX 0) ?_;refine dj 12 rfl (ee 2) ?_;refine dj 13 rfl yy ?_;refine AD.one (i:=8) aC ?_;refine at_ rfl (dX 2) ?_;refine AD.one (i:=9) aC ?_;refine at_ rfl (ee 0) ?_;refine AD.one (i:=10) aC ?_;refine at_ rfl (aaI (i:=1) rfl rfl ot rfl underlying179) ?_;refine fB ?_;refine bp [1,5,67] ?_;refine av ?_ ?_<;>intro da eA
 ·try have I:m.length≠t.ag.length:=by intro e;rw[e] at da;simp at da
  refine af [2] ?_;refine eZ ?_;exact⟨vi (aco jR I).symm,rfl⟩
 have I:m.length=t.ag.length:=(by have:=da;simp at this;omega)
 refine CD.wk (Wk.cover (A:=⟨U,182,4,[au 5 cP t.ag,ae t.root,.v (.map (some O)),aP ad L.length cap]⟩) (R:=[lg O m,⟨b1,75,2,[au 5 cP t.ag,ae t.root]⟩]) (Sd:=Sx++L.flatMap dF.s) (cs':=[au 5 cP t.ag,ae t.root,.v (.map (some O)),au 1 yV lv]) (Perm.refl _) ⟨eW,eW,eW,ahs nj aT AJ,trivial⟩) ?_;obtain⟨Z,_⟩:=KU fw _ _ _ _ _ _ _ _ E (qL t) (Nat.le_refl _) jR;refine af [1,71,72,73] ?_;refine YN (fun (i:Nat) aE=>(i≤lv.length)∧(∀j (_:j<i) (h:j<lv.length),fm t lv[j] (-1))∧aE=(⟨104,[(1,cZ b1),(71,au 1 yV lv),(72,ae (lv.length:Nat)),(73,ae (i:Nat))],[⟨b1,75,2,[au 5 cP t.ag,ae t.root]⟩]⟩:St)) (fun (i:Nat)=>lv.length-i) 0 ⟨(Nat.zero_le _),(fun j h _=>by omega),rfl⟩ ?_;rintro i _ ⟨kC,Bm,rfl⟩;refine af [1,71,72,73,74] ?_;refine av ?_ ?_<;>intro dR fH
 ·have fL:i<lv.length:=(by omega)
  have wu:∀x∈(lv[i]'fL),0≤x∧x<t.ag.length:=Z.el _ (getElem_mem fL);have lC:(lv[i]'fL).length≤m.length:=Z.each _ (getElem_mem fL);have Bn:lv.length≤m.length:=Z.eO;refine af [1,7,71,72,73] ?_;refine af [1,7,71,72,73,77,78,79] ?_;refine YN (fun (k:Nat) aE=>(k≤(lv[i]'fL).length)∧(∀j (_:j<k) (h:j<(lv[i]'fL).length),(t.pg (lv[i]'fL)[j]).next=(lv[i]'fL).getD (j+1) (-1))∧aE=(⟨104,[(1,cZ b1),(7,.list 1 ((lv[i]'fL).flatMap cI) (lv[i]'fL).length),(71,au 1 yV lv),(72,ae (lv.length:Nat)),(73,ae (i:Nat)),(77,.list 1 ((lv[i]'fL).flatMap cI) (lv[i]'fL).length),(78,ae ((lv[i]'fL).length:Nat)),(79,ae (k:Nat))],[⟨b1,75,2,[au 5 cP t.ag,ae t.root]⟩]⟩:St)) (fun (k:Nat)=>(lv[i]'fL).length-k) 0 ⟨(Nat.zero_le _),(fun j h _=>by omega),rfl⟩ ?_;rintro k _ ⟨hk,hn,rfl⟩;refine af [1,7,71,72,73,77,78,79,80] ?_;refine av ?_ ?_<;>intro fM gW
  ·have dJ:k<(lv[i]'fL).length:=(by omega)
   have O0:=wu _ (getElem_mem dJ);have gp:((lv[i]'fL)[k]'dJ).toNat<t.ag.length:=(by omega)
   have Zp:t.pg ((lv[i]'fL)[k]'dJ)=t.ag[((lv[i]'fL)[k]'dJ).toNat]'gp:=vI O0;refine af [1,7,8,9,71,72,73,77,78,79] ?_;refine af [1,7,8,9,10,71,72,73,77,78,79] ?_;refine CD.cut (fun aE=>aE=(⟨104,[(1,cZ b1),(7,.list 1 ((lv[i]'fL).flatMap cI) (lv[i]'fL).length),(9,ae ((lv[i]'fL)[k]'dJ)),(10,ae ((lv[i]'fL).getD (k+1) (-1))),(71,au 1 yV lv),(72,ae (lv.length:Nat)),(73,ae (i:Nat)),(77,.list 1 ((lv[i]'fL).flatMap cI) (lv[i]'fL).length),(78,ae ((lv[i]'fL).length:Nat)),(79,ae (k:Nat))],[⟨b1,75,2,[au 5 cP t.ag,ae t.root]⟩]⟩:St)) ?_ ?_
   ·refine af [1,7,8,9,10,71,72,73,77,78,79,88] ?_;refine av ?_ ?_<;>intro jb px
    ·have ic:(lv[i]'fL).getD (k+1) (-1)=(lv[i]'fL)[k+1]'w4:=(by rw[getD_eq_getElem?_getD,getElem?_eq_getElem w4];rfl)
     refine iU [1,7,9,10,71,72,73,77,78,79] ?_;refine aR 3 ?_ (h:=by exact(dO 1 (h:=by first|exact .l (j:=k+1) w4 w4|exact .r (j:=k+1) w4 w4)));refine bH ?_;exact Yn
    have ic:(lv[i]'fL).getD (k+1) (-1) = -1:=(by rw[getD_eq_getElem?_getD,getElem?_eq_none w4];rfl)
    refine CD.skip ?_;exact Yn
   rintro _ ⟨rfl⟩;refine cM [1,7,71,72,73,77,78,79,101] ?_;refine aR 3 ?_ (h:=by exact(dO 5 (h:=by first|exact .l (j:=((lv[i]'fL)[k]'dJ).toNat) (Int.toNat_of_nonneg O0.1).symm gp|exact .r (j:=((lv[i]'fL)[k]'dJ).toNat) (Int.toNat_of_nonneg O0.1).symm gp)));refine bH ?_;refine av ?_ ?_<;>intro iS mY
   ·have oI:¬∀l∈lv,fm t l (-1):=fun h=>by have:=KX.1 (h (lv[i]'fL) (getElem_mem fL)) k dJ;rw[Zp] at this;simp[this] at iS
    refine af [2] ?_;refine aM [] ?_;exact⟨vi (acp jR oI).symm,rfl⟩
   have oe:(t.pg ((lv[i]'fL)[k]'dJ)).next=(lv[i]'fL).getD (k+1) (-1):=(by rw[Zp];simpa using iS)
   refine cc [1,7,71,72,73,77,78,79] ?_;refine⟨(k+1),_,cr,aJ,w4,(fun j h0 h=>by rcases Nat.lt_or_ge j k with q|q;exact hn j q h;obtain rfl:j=k:=w4;exact oe),rfl⟩
  have aly:fm t (lv[i]'fL) (-1):=KX.2 fun j hj=>hn j w4 hj;refine cc [1,71,72,73] ?_;refine⟨(i+1),_,cr,aJ,w4,(fun j h0 h=>by rcases Nat.lt_or_ge j i with q|q;exact Bm j q h;obtain rfl:j=i:=w4;exact aly),rfl⟩
 have nF:i=lv.length:=(by omega)
 refine af [2] ?_;refine aM [] ?_;exact⟨vi (acq w4 fw jR I fun l hl=>by obtain⟨j,hj,rfl⟩:=mem_iff_getElem.1 hl;exact Bm j w4 hj).symm,rfl⟩

end Go.Proofs.YtkgmonfgofobaaaGreatDoor.Tw

namespace Go.Proofs.YtkgmonfgofobaaaGreatDoor.Tw
open List
open Go.Proofs.Tryz
open Go.RowKit V Tr Pk
variable {t:aG} {k:K}
noncomputable def lK(t:aG)(k:K):Int:=if gS t=0 then (if oK k=true then 0 else 1) else gS t
theorem Fv(h:¬gS t=0):lK t k=gS t:=by unfold lK;rw[if_neg h]
theorem E8(h:gS t=0)(hk:oK k=false):lK t k=1:=by unfold lK;rw[if_pos h,hk];rfl
theorem Ko(h:gS t=0)(hk:oK k=true):lK t k=0:=by unfold lK;rw[if_pos h,hk];rfl
def dQ(t:aG)(k:K)(h:Nat):Int:=(t.pg (aI t k h t.root)).kids.getD (aN (t.pg (aI t k h t.root)) k) 0
noncomputable def findF(t:aG)(k:K)(h:Nat):Int×Int:=if lK t k=0 then (if gl t k h=true then (dQ t k h,0) else (0,8)) else (0,lK t k)
theorem aea{h:Nat}(v:Valid t h):∀p∈t.ag,p.keys.length≤maxLen∧p.kids.length≤maxLen:=fun p hp=>by
 have po:=v.fR p hp;have c8:=dV;have h1:=po.eO;cases hl:p.leaf with
 | true=>have:=po.leaf hl;omega
 | false=>have:=(po.node hl).1;omega
theorem E5{h:Nat}(v:Valid t h)(k:K):(jo t k h t.root).length≤1000000:=by
 rw[FG];have:=v.high;have:=v.n9;omega
theorem J1(h:oK k=true):0<k.length∧k.length≤100:=of_decide_eq_true h
variable {G:List (Nat×List Value)}
theorem IY(t:aG)(k:K)(hb:∀p∈t.ag,p.keys.length≤maxLen∧p.kids.length≤maxLen):VP Tryz.prog G 86 [.agg (cT t),au 1 cB k] (ae (lK t k)):=by
 refine VC.body func86 rfl ntmps86 aQ fun X0 w0 bf=>?_;have fC:=pS (G:=G) t hb;unfold cT at fC;unfold cT;refine cf ?_;refine OD.box (ds:=[_,_]) ap rfl rfl ot rfl rfl (fun b2=>?_);refine an 14 [1,2] ?_;refine cL [1,5] (fC) ?_;refine af [1,5,9] ?_;refine av ?_ ?_<;>intro aL bB
 ·have hn:¬gS t=0:=(by simpa using aL)
  exact Yp
 have hz:gS t=0:=(by simpa using aL)
 refine cL [13] (zP k) ?_;refine av ?_ ?_<;>intro aY cD
 ·exact Yp
 refine af [4] ?_;refine aM [] ?_;first|exact⟨vi (Fv hn).symm,rfl⟩|exact⟨vi (E8 hz wi).symm,rfl⟩|exact⟨vi (Ko hz wi).symm,rfl⟩
theorem aht(t:aG)(h:Nat)(k:K)(hb:∀p∈t.ag,p.keys.length≤maxLen∧p.kids.length≤maxLen)(hv:gS t=0→Valid t h):VP Tryz.prog G 83 [.agg (cT t),au 1 cB k] (.dD [ae (findF t k h).1,ae (findF t k h).2]):=by
 refine VC.body func83 rfl ntmps83 aQ fun X0 w0 bf=>?_;have fC:=IY (G:=G) t k hb;unfold cT at fC;unfold cT;have c8:=dV;refine cf ?_;refine OD.box (ds:=[_,_]) ap rfl rfl ot rfl rfl (fun b2=>?_);refine an 34 [1,2] ?_;refine cL [1,2,6] (fC) ?_;refine af [1,2,6,14] ?_;refine av ?_ ?_<;>intro aL bB
 ·have hn:¬lK t k=0:=(by simpa using aL)
  refine af [4,5] ?_;refine aM [] ?_;exact⟨by unfold findF;rw[if_neg hn],rfl⟩
 have hz:lK t k=0:=(by simpa using aL)
 have hc:gS t=0:=Classical.byContradiction fun e=>by rw[Fv e] at hz;exact e hz
 have U:oK k=true:=(by cases hq:oK k with|true=>rfl|false=>rw[E8 hc hq] at hz;cases hz)
 have v:=hv hc;have dJ:=J1 U;have fE:=qK (G:=G) t h v k w4 (E5 v k);unfold cT at fE;obtain⟨q1,E⟩:=v.leaf k;have aa:(aI t k h t.root).toNat<t.ag.length:=(by omega)
 have I:t.pg (aI t k h t.root)=(t.ag[(aI t k h t.root).toNat]'aa):=vI q1;refine cL [2,7,8,9] (fE) ?_;refine af [2,7,8,24] ?_;refine av ?_ ?_<;>intro aY cD
 ·have fK:gl t k h=false:=(by simpa using aY)
  refine af [4,5] ?_;refine aM [] ?_;exact⟨by unfold findF;rw[if_pos hz,if_neg uJ],rfl⟩
 have fK:gl t k h=true:=(by simpa using aY)
 obtain⟨ha,OH⟩:=(E4 v k).1 fK;have po:=v.fR _ (jK q1);have hle:=po.leaf E;have O:aN (t.pg (aI t k h t.root)) k<(t.pg (aI t k h t.root)).kids.length:=(by omega)
 have Z:aN (t.ag[(aI t k h t.root).toNat]'aa) k<(t.ag[(aI t k h t.root).toNat]'aa).kids.length:=(by rw[←I];exact O)
 rw[I];refine cM [4,5] ?_;refine aR 3 ?_ (h:=by exact(dO 5 (h:=by first|exact .l (j:=(aI t k h t.root).toNat) (Int.toNat_of_nonneg q1.1).symm aa|exact .r (j:=(aI t k h t.root).toNat) (Int.toNat_of_nonneg q1.1).symm aa)));refine bH ?_;refine aM [] ?_;exact⟨by unfold findF dQ;rw[if_pos hz,if_pos fK,I,ua Z],rfl⟩
theorem acr{S:List ah}:gU S [bG true,bF,bF,bF,ae (-1)] (cP (⟨true,[],[],[],-1⟩:c9)):=⟨eW,zj,zj,zj,eW,trivial⟩
theorem ahu(E:True):VC Tryz.prog G 49 [] [] (fun r S=>∃b,r = .agg [aP (some ⟨b,0,none⟩) 1 1,ae 0]∧S=[⟨b,146,5,[bG true,bF,bF,bF,ae (-1)]⟩]):=by
 refine VC.body func49 rfl ntmps49 aQ fun X0 w0 bf=>?_;refine cf ?_;refine OD.alloc (ds:=[_,_]) ap rfl rfl zeroValue75 rfl (fun b0=>?_);refine an 4 [0] ?_;refine aB 1 ?_;refine eD (cq 0 [_]) [.bool false,.slice none 0 0,.slice none 0 0,.slice none 0 0,.int .i64 0] [_,_,_,_,_] zeroValue146 runUnderlying73 sizeOf146 (fun b2=>?_);refine aH 1 ?_;refine aO 1 [_,_] sizeOf75 ?_;refine an 4 [0] ?_;refine aM [_] ?_;exact⟨_,rfl,rfl⟩
theorem ahv:VP Tryz.prog G 49 [] (.agg (cT qi)):=VC.cover (ahu trivial) fun r S ⟨b,hr,hS⟩=>by
 subst hr;subst hS;exact vl ⟨QJ (cs:=[bG true,bF,bF,bF,ae (-1)]) (e:=146) (size:=5) mem_cons_self acr rfl (Nat.le_refl _) w7,eW,trivial⟩

end Go.Proofs.YtkgmonfgofobaaaGreatDoor.Tw
namespace Go.Proofs.YtkgmonfgofobaaaGreatDoor.Tr
open List
open Go.Proofs.Tryz
open Go.Lib (compareBytes)
variable {t:aG} {k:K} {row:Int}
variable {h m:Nat} {u:aG} {up:K}
def dr(t:aG)(k:K):Nat→Int→Nat→Int
 | 0,i,_=>i
 | h+1,i,m=>if m=h+1 then i else dr t k h ((t.pg i).kids.getD (aN (t.pg i) k) 0) m
theorem Jl:∀(h:Nat) (i:Int),dr t k h i h=i
 | 0,_=>rfl
 | h+1,i=>by rw[dr,if_pos rfl]
theorem BB:∀{h:Nat} {i:Int} {m:Nat},m<h→dr t k h i m=(t.pg (dr t k h i (m+1))).kids.getD (aN (t.pg (dr t k h i (m+1))) k) 0
 | 0,_,_,hm=>by omega
 | h+1,i,m,hm=>by
  rw[dr,if_neg w4,dr];by_cases e:m=h
  ·subst e;rw[Jl,if_pos rfl]
  rw[if_neg w4];exact BB w4
theorem Rg:∀{h:Nat} {i:Int} {m:Nat},m≤h→(jo t k h i)[h-m]?=some (dr t k h i m)
 | 0,i,m,_=>by
  obtain rfl:m=0:=(by omega)
  rfl
 | h+1,i,m,hm=>by
  rw[jo,dr];by_cases e:m=h+1
  ·subst e;rw[if_pos rfl,Nat.sub_self];rfl
  rw[if_neg e,show h+1-m=(h-m)+1 from by omega,getElem?_cons_succ];exact Rg w4
theorem FH{n:Int}(hp:∀p∈t.ag,eN p n):∀{h:Nat} {i:Int} {low high:K},en t h i low high→(ids t h i).Nodup→lT low high k→(∀x∈eB t h i,x.1≠k)→∀m,m≤h →
  ∃lo hi,en t m (dr t k h i m) lo hi∧(ids t m (dr t k h i m)).Nodup∧lT lo hi k∧∀x∈eB t m (dr t k h i m),x.1≠k
 | 0,i,low,high,ok,nd,hk,hn,m,hm=>by
  obtain rfl:m=0:=(by omega)
  exact⟨low,high,ok,nd,hk,hn⟩
 | h+1,i,low,high,ok,nd,hk,hn,m,hm=>by
  by_cases e:m=h+1
  ·subst e;rw[Jl];exact⟨low,high,ok,nd,hk,hn⟩
  obtain⟨q1,q2,E,O,I⟩:=id ok;have po:=hp _ (jK q1);obtain⟨d1,d2⟩:=down po q2 E hk;have:=FH hp (I _ d1) (wO d1 nd).1 d2 (fun x hx=>hn x NK) m w4;rw[←ua d1] at this;rw[dr,if_neg e];exact this
structure ahw (u:aG) (i:Int) (up:K) (aA:Int):Prop where
 fR:∀p∈u.ag,eN p u.ag.length
 rg:0≤i∧i<u.ag.length
 out:up∉(u.pg i).keys
 len:1≤up.length∧up.length≤100
 high:(u.pg i).high≠[]→bu up (u.pg i).high
 nn:0≤aA
 nnl:(u.pg i).leaf=false→aA<u.ag.length
def kM(t:aG)(k:K)(row:Int)(h m:Nat):aG×Option (K×Int):=if m=0 then (t,some (k,row)) else gQ t k row (m-1) (dr t k h t.root (m-1))
theorem S6(h:Nat):kM t k row h (h+1)=gQ t k row h t.root:=by unfold kM;rw[if_neg w4,Nat.add_sub_cancel,Jl]
theorem Rh(hm:m≤h){aA:Int}(e:kM t k row h m=(u,some (up,aA))):kM t k row h (m+1)=rR u (dr t k h t.root m) up aA:=by
 unfold kM at e ⊢;rw[if_neg w4,Nat.add_sub_cancel];cases m with
 | zero=>rw[if_pos rfl] at e;injection e with e1 e2;injection e2 with e2;injection e2 with e2 E;subst e1 e2 E;rw[gQ]
 | succ m=>rw[if_neg w4,Nat.add_sub_cancel,BB w4] at e;rw[gQ,e]
theorem acs(h0:0<m)(hm:m≤h)(e:kM t k row h m=(u,none)):kM t k row h (m+1)=(u,none):=by
 unfold kM at e ⊢;rw[if_neg w4,Nat.add_sub_cancel];cases m with
 | zero=>omega
 | succ m=>rw[if_neg w4,Nat.add_sub_cancel,BB w4] at e;rw[gQ,e]
theorem Ri{h:Nat}{u:aG}:∀(d m:Nat),m+d=h+1→0<m→kM t k row h m=(u,none)→gQ t k row h t.root=(u,none)
 | 0,m,hm,_,e=>by
  obtain rfl:m=h+1:=(by omega)
  rw[←S6];exact e
 | d+1,m,hm,h0,e=>Ri d (m+1) w4 w4 (acs h0 w4 e)
theorem S8(v:Valid t h)(hn:∀x∈lm t h,x.1≠k)(hl:1≤k.length∧k.length≤100)(hr:0≤row)(hm:m≤h):∃lo hi,en t m (dr t k h t.root m) lo hi∧lT lo hi k∧oU t (gQ t k row m (dr t k h t.root m)).1 m (dr t k h t.root m) lo hi k row (gQ t k row m (dr t k h t.root m)).2:=by
 obtain⟨lo,hi,ok,nd,hk,hne⟩:=FH v.fR v.ok v.AG (uj k) hn m hm;exact⟨lo,hi,ok,hk,Gm v.fR ok nd hk hne hl hr⟩
theorem Jm(v:Valid t h)(hn:∀x∈lm t h,x.1≠k)(hl:1≤k.length∧k.length≤100)(hr:0≤row)(hm:m≤h+1){r:Option (K×Int)}(e:kM t k row h m=(u,r)):u.root=t.root∧u.ag.length≤t.ag.length+m∧t.ag.length≤u.ag.length∧∀p∈u.ag,eN p u.ag.length:=by
 unfold kM at e;cases m with
 | zero=>rw[if_pos rfl] at e;injection e with e1 e2;subst e1;exact⟨rfl,Nat.le_refl _,Nat.le_refl _,v.fR⟩
 | succ m =>
  rw[if_neg w4,Nat.add_sub_cancel] at e;obtain⟨lo,hi,_,_,I⟩:=S8 v hn hl hr (m:=m) w4;rw[e] at I;exact⟨I.root,I.more,I.le,I.fR⟩
theorem afU(v:Valid t h)(hn:∀x∈lm t h,x.1≠k)(hl:1≤k.length∧k.length≤100)(hr:0≤row)(hm:m≤h+1){aA:Int}(e:kM t k row h m=(u,some (up,aA))):up.length≤100:=by
 unfold kM at e;cases m with
 | zero=>rw[if_pos rfl] at e;injection e with e1 e2;injection e2 with e2;injection e2 with e2 E;subst e2;exact hl.2
 | succ m =>
  rw[if_neg w4,Nat.add_sub_cancel] at e;obtain⟨lo,hi,_,_,I⟩:=S8 v hn hl hr (m:=m) w4;rw[e] at I;exact I.ok.1.2
theorem afV(v:Valid t h)(hn:∀x∈lm t h,x.1≠k)(hl:1≤k.length∧k.length≤100)(hr:0≤row)(hm:m≤h){aA:Int}(e:kM t k row h m=(u,some (up,aA))):ahw u (dr t k h t.root m) up aA:=by
 cases m with
 | zero =>
  unfold kM at e;rw[if_pos rfl] at e;injection e with e1 e2;injection e2 with e2;injection e2 with e2 Z;subst e1 e2 Z
  obtain⟨lo,hi,⟨q1,q2,O,q4⟩,nd,hk,hne⟩:=FH v.fR v.ok v.AG (uj k) hn 0 hm;refine⟨v.fR,q1,fun hm=>?_,hl,fun E=>?_,hr,fun h=>by rw[q2] at h;cases h⟩
  ·have po:=v.fR _ (jK q1);have hlen:=po.leaf q2;obtain⟨a,ha,he⟩:=mem_iff_getElem.1 hm;exact hne (k,(t.pg (dr t k h t.root 0)).kids[a]'w4) ((BJ hlen).2 ⟨a,ha,by rw[he]⟩) rfl
  rw[O] at E ⊢;exact hk.2 E
 | succ m =>
  obtain⟨s1,s2,s3,s4⟩:=Jm v hn hl hr w4 e;unfold kM at e;rw[if_neg w4,Nat.add_sub_cancel] at e;obtain⟨lo,hi,ok,nd,hk,hne⟩:=FH v.fR v.ok v.AG (uj k) hn (m+1) hm;obtain⟨q1,q2,O,q4,q5⟩:=id ok;have po:=v.fR _ (jK q1);obtain⟨d1,d2⟩:=down po q2 O hk;have ih:=Gm (row:=row) v.fR (q5 _ d1) (wO d1 nd).1 d2 (fun x hx=>hne x NK) hl hr;rw[←ua d1,←BB w4,e,BB w4] at ih;have M:jG t u m (dr t k h t.root (m+1)) lo hi (aN (t.pg (dr t k h t.root (m+1))) k) k row (some (up,aA)):=⟨v.fR,ok,nd,d1,d2,ih⟩
  obtain⟨m1,m2,m3,m4⟩:=M.place;have U:=M.same;obtain⟨o1,o2,o3,o4,o5⟩:(1≤up.length∧up.length≤100)∧_∧_∧_∧en u m aA up _:=ih.ok;have I:=o5.idx;refine⟨s4,⟨q1.1,by omega⟩,by rw[U];exact m2,o1,fun E=>?_,I.1,fun _=>I.2⟩;rw[U,O] at E ⊢;exact m3.2 E

end Go.Proofs.YtkgmonfgofobaaaGreatDoor.Tr
namespace Go.Proofs.YtkgmonfgofobaaaGreatDoor.Tr
open List
open Go.Proofs.Tryz
open Go.Lib (compareBytes)
variable {t:aG} {h:Nat} {k:K}
variable {i:Int}
noncomputable def mW(t:aG)(h:Nat)(k:K):List (K×Int):=(lm t h).filter fun x=>decide (¬bu x.1 k)
def jn(t:aG)(ls:List Int):List (K×Int):=ls.flatMap fun l=>fi (t.pg l)
theorem fm.tail{r:List Int}{e:Int}(h:fm t (i::r) e):fm t r e:=by
 cases r with
 | nil=>trivial
 | cons j r=>exact h.2
theorem fm.next{i:Int}{r:List Int}{e:Int}(h:fm t (i::r) e):(t.pg i).next=r.headD e:=by
 cases r with
 | nil=>exact h
 | cons j r=>exact h.1
theorem fm.drop{e:Int}:∀{a b:List Int},fm t (a++b) e→fm t b e
 | [],_,h=>h
 | i::a,b,h=>fm.drop (a:=a) (fm.tail h)
theorem Ta:∀{h:Nat} {i:Int} {low high:K},en t h i low high→∀l∈cJ t h i,(0≤l∧l<t.ag.length)∧(t.pg l).leaf=true
 | 0,i,low,high,ok,l,hl=>by
  rw[cJ,mem_singleton] at hl;subst hl;exact⟨ok.1,ok.2.1⟩
 | h+1,i,low,high,ok,l,hl=>by
  obtain⟨q1,q2,I,O,E⟩:=ok;rw[cJ] at hl;obtain⟨c,hc,hl⟩:=mem_flatMap.1 hl;obtain⟨j,hj,rfl⟩:=mem_iff_getElem.1 hc;exact Ta (E j hj) l hl
structure rM (t:aG) (ls:List Int):Prop where
 pM:fm t ls (-1)
 at_:∀l∈ls,(0≤l∧l<t.ag.length)∧(t.pg l).leaf=true
theorem rM.tail{i:Int}{r:List Int}(h:rM t (i::r)):rM t r:=⟨fm.tail h.pM,fun l hl=>h.at_ l (mem_cons_of_mem _ hl)⟩
theorem rM.head{ls:List Int}(h:rM t ls):(0≤ls.headD (-1)→∃r,ls=ls.headD (-1)::r)∧(ls.headD (-1)<0→ls=[]):=by
 cases ls with
 | nil=>exact⟨fun h=>by simp at h,fun _=>rfl⟩
 | cons i r=>exact⟨fun _=>⟨r,rfl⟩,fun h0=>by have:=(h.at_ i mem_cons_self).1;simp at h0;omega⟩
theorem Qv(v:Valid t h):rM t (cJ t h t.root):=⟨v.pM h (Nat.le_refl _),Ta v.ok⟩
theorem Fj(v:Valid t h){l:Int}(hl:(0≤l∧l<t.ag.length)∧(t.pg l).leaf=true):(fi (t.pg l)).length=(t.pg l).keys.length:=by
 have:=(v.fR _ (jK hl.1)).leaf hl.2;unfold fi;rw[length_zip];omega
theorem aaZ(v:Valid t h)(k:K):∃r,rM t (aI t k h t.root::r)∧mW t h k=(jn t (aI t k h t.root::r)).drop (aN (t.pg (aI t k h t.root)) k)∧aN (t.pg (aI t k h t.root)) k≤(t.pg (aI t k h t.root)).keys.length:=by
 obtain⟨pre,post,e,he⟩:=ab2 v.fR v.ok (uj k);have hL:=Qv v;have hl:=v.leaf k;have fD:aN (t.pg (aI t k h t.root)) k≤(t.pg (aI t k h t.root)).keys.length:=by
  unfold aN;split
  ·exact zo _ _
  exact BW _ _
 rw[e] at hL;refine⟨post,⟨fm.drop hL.pM,fun l hl=>hL.at_ l (mem_append_right _ hl)⟩,?_,fD⟩;unfold mW lm;rw[he];unfold jn;rw[flatMap_cons,drop_append_of_le_length (by rw[Fj v hl];exact fD)]
theorem acu(v:Valid t h){r:List Int}(hL:rM t (i::r)){a:Nat}(ha:a<(t.pg i).keys.length)(hk:a<(t.pg i).kids.length) :
  (jn t (i::r)).drop a=((t.pg i).keys[a],(t.pg i).kids[a])::(jn t (i::r)).drop (a+1):=by
 have hi:=hL.at_ i mem_cons_self;have hlen:=Fj v hi;have h1:a<(jn t (i::r)).length:=(by unfold jn;rw[flatMap_cons,length_append];omega)
 rw[drop_eq_getElem_cons h1];congr 1;unfold jn;simp only[flatMap_cons];rw[getElem_append_left w4];unfold fi;rw[getElem_zip]
theorem aa0(v:Valid t h){r:List Int}(hL:rM t (i::r)){a:Nat}(ha:a=(t.pg i).keys.length):(jn t (i::r)).drop a=(jn t r).drop 0:=by
 have hi:=hL.at_ i mem_cons_self;have hlen:=Fj v hi;unfold jn;rw[flatMap_cons,drop_zero,drop_append_of_le_length w4,drop_eq_nil_of_le w4];rfl
theorem aeb(v:Valid t h):lm t h=jn t (cJ t h t.root):=wY t h t.root
theorem zc(v:Valid t h):(lm t h).Pairwise fun x y=>bu x.1 y.1:=(KQ v.fR v.ok).1
theorem acv(v:Valid t h)(k:K):(mW t h k).Pairwise fun x y=>bu x.1 y.1:=(zc v).filter _
theorem aec(t:aG)(h:Nat):mW t h []=lm t h:=by
 unfold mW;rw[filter_eq_self.2];intro x _;simpa using Lr x.1
theorem aed(v:Valid t h):(lm t h).length≤4*t.ag.length:=by
 have key:∀(ls:List Int),(∀l∈ls,(0≤l∧l<t.ag.length)∧(t.pg l).leaf=true)→(jn t ls).length≤4*ls.length:=by
  intro ls;induction ls with
  | nil=>intro _;simp[jn]
  | cons i r ih =>
   intro hl;have h1:=Fj v (hl i mem_cons_self);have h2:=(v.fR _ (jK (hl i mem_cons_self).1)).eO;have h3:=ih fun l E=>hl l (mem_cons_of_mem _ E);unfold jn at h3 ⊢;rw[flatMap_cons,length_append,length_cons];omega
 have I:(cJ t h t.root).length≤(ids t h t.root).length:=by
  have:∀(h:Nat) (i:Int),(cJ t h i).length≤(ids t h i).length:=by
   intro h;induction h with
   | zero=>intro i;simp[cJ,ids]
   | succ h ih =>
    intro i;rw[cJ,ids,length_cons,length_flatMap,length_flatMap];have:∀(l:List Int),(l.map fun a=>(cJ t h a).length).sum≤(l.map fun a=>(ids t h a).length).sum:=by
     intro l;induction l with
     | nil=>simp
     | cons a l O=>simp only[map_cons,sum_cons];have:=ih a;omega
    have:=this (t.pg i).kids;omega
  exact this h t.root
 rw[aeb v];have:=key _ (Qv v).at_;rw[v.all] at I;omega
theorem Tb(v:Valid t h)(k:K):(mW t h k).length≤16000:=by
 have:=aed v;have h1:=v.n9;have:(mW t h k).length≤(lm t h).length:=(filter_sublist).length_le;omega

end Go.Proofs.YtkgmonfgofobaaaGreatDoor.Tr
namespace Go.Proofs.YtkgmonfgofobaaaGreatDoor.Tw
open List
open Go.Proofs.Tryz
open Go.RowKit V Tr Pk
def cE(e:K×Int):List D:=[au 1 cB e.1,ae e.2]
theorem Vd(e:K×Int):(cE e).length=2:=rfl
def Ho(e:K×Int):List D:=[.agg (cE e)]
theorem ahx(b:UInt8):fZ (cB b)=true:=rfl
theorem zQ(k:K):fZ (k.flatMap cB)=true:=vq ahx k
theorem zR(e:K×Int):fZ (cE e)=true:=by simp[cE,fZ,iV,zQ]
theorem aee(e:K×Int):fZ (Ho e)=true:=by simp[Ho,fZ,iV,zR]
def Ma(t:aG)(k:K):List D:=[.fQ [au 5 cP t.ag,ae t.root] 0,.fQ [au 1 cB k] 0]
variable {G:List (Nat×List Value)}
theorem sE : ∀ w, ((#[{ name := "Key", type := 90, offset := 0, embedded := false, tag := "", pkgPath := "", byteOffset := 0 }, { name := "Row", type := 3, offset := 1, embedded := false, tag := "", pkgPath := "", byteOffset := 24 }] : Array Field).mapM fun f => do pure (f.offset, ← sizeOf f.type) : Sem (Array (Nat × Nat))).run Tryz.prog w = .ok #[(0, 1), (1, 1)] w := fun w => by simp [sizeOf3, sizeOf90]
theorem aef(t:aG)(h:Nat)(v:Valid t h)(k:K)(dJ:k.length≤maxLen):VI Tryz.prog G 116 (Ma t k) Ho (fun xs=>xs=mW t h k) (fun pre=>pre <+: mW t h k) (mW t h k).length:=by
 refine VI.body func116 rfl ntmps116 aQ fun Y X0 w0 bf Sc0 hYe hYN O hY hJ0=>?_;have c8:=dV;have fE:=qK (G:=G) t h v k w4 (E5 v k);unfold cT at fE;obtain⟨r0,hL0,alz,W8⟩:=aaZ v k;obtain⟨y1,y2,y3⟩:=(by exact⟨hYe,hYN,O⟩:Y.enc=Ho∧Y.N=(mW t h k).length∧w0.heap.size≤Y.l)
 refine cL [0,1,4,5] (fE) ?_;refine CD.block ?_;refine nq (fun (U:List Int×Nat×List (K×Int)×List ah) aE=>match U with|(ls,a,pre,Sc)=>(rM t ls)∧(mW t h k=pre++(jn t ls).drop a)∧((∀x∈head? ls,a≤(t.pg x).keys.length))∧(Y.J pre Sc)∧aE=(⟨46,[(0,.kz Y.l Y.os),(1,.fQ [au 5 cP t.ag,ae t.root] 0),(4,ae (headD ls (-1))),(5,ae (a:Nat))],Sc⟩:St)) (fun (U:List Int×Nat×List (K×Int)×List ah)=>match U with|(ls,a,pre,Sc)=>length ls) ((aI t k h t.root::r0),(aN (t.pg (aI t k h t.root)) k),[],Sc0) ⟨hL0,(by rw[nil_append];exact alz),(fun x hx=>by simp at hx;subst hx;exact W8),hJ0,rfl⟩ (aJ (h:=by repeat (first|exact trivial|refine⟨(by (repeat (first|exact fP|(apply gi;focus (first|rfl|(simp;done)|(rw[←ir,fm.next hL.pM])))|(apply fU;focus rfl)));done),?_⟩))) ?_;rintro⟨ls,a,pre,Sc⟩ _ ⟨hL,O1,fD,hj,rfl⟩;refine af [0,1,4,5,16] ?_;refine av ?_ ?_<;>intro aL bB
 ·have OT:0≤headD ls (-1):=(by simpa using aL)
  obtain⟨r,hr⟩:=(rM.head hL).1 OT;obtain⟨i,hi⟩:∃i,i=headD ls (-1):=⟨_,rfl⟩
  rw[←hi] at hr OT;subst hr;obtain⟨Bk,L8⟩:=hL.at_ i mem_cons_self;have aa:i.toNat<t.ag.length:=(by omega)
  have ir:t.pg i=t.ag[i.toNat]:=vI Bk;have po:=v.fR _ (jK Bk);have M3:=po.leaf L8;have mb:=po.eO;have Xg:=fD i rfl;have Wb:=v.n9;rw[ir] at po M3 mb Xg;refine aB 3 ?_;refine bV (dO 5 (h:=by first|exact .l (j:=i.toNat) (by show headD (i::r) (-1)=_;simp;omega) aa|exact .r (j:=i.toNat) (by show headD (i::r) (-1)=_;simp;omega) aa)) ?_;refine bV (cW (mk:=Op.load 146) rfl ot (by exact ku (i:=i.toNat) Gn isAgg146 sizeOf146 aa)) ?_;refine OD.alloc (ds:=[_,_,_,_,_]) ap rfl rfl zeroValue146 rfl (fun b7=>?_);refine aO 0 [_,_,_,_,_] sizeOf146 ?_;refine an 46 [0,1,5,7] ?_;refine eG [0,1,7] (fun aS _ (U:Nat×List (K×Int)×List ah) aE=>match U with|(a,E,I)=>(mW t h k=E++(jn t (i::r)).drop a)∧(a≤((t.ag[i.toNat]'aa)).keys.length)∧(Y.J E I)∧aE=(⟨46,(5,ae (a:Nat))::aS,(⟨b7,146,5,cP (t.ag[i.toNat]'aa)⟩::I)⟩:St)) (fun (U:Nat×List (K×Int)×List ah)=>match U with|(a,E,I)=>((t.ag[i.toNat]'aa)).keys.length-a) (a,pre,Sc) ⟨O1,Xg,hj,rfl⟩ ?_;rintro⟨a,E,I⟩ _ ⟨qd,arh,Z,rfl⟩;refine af [0,1,5,7,26] ?_;refine av ?_ ?_<;>intro aY cD
  ·have ru:a<((t.ag[i.toNat]'aa)).keys.length:=(by have:=aY;simp at this;omega)
   have u5:a<((t.ag[i.toNat]'aa)).kids.length:=(by omega)
   have jv:(jn t (i::r)).drop a=(((t.ag[i.toNat]'aa)).keys[a],((t.ag[i.toNat]'aa)).kids[a])::(jn t (i::r)).drop (a+1):=(by have:=acu v hL (a:=a) (by rw[ir];exact ru) (by rw[ir];exact u5);simp only[ir] at this;exact this)
   have kD:((t.ag[i.toNat]'aa)).keys[a].length≤100:=(by have:=(po.lJ _ (getElem_mem ru)).2;omega)
   refine CD.skip ?_;refine CD.seq ?_;refine CD.block ?_;refine CD.seq ?_;refine CD.afa aC ?_;refine gg 0 rfl bI ?_;refine gg 1 rfl (dX 1) ?_;refine gg 3 rfl bI ?_;refine gg 7 rfl (dX 2) ?_;refine gg 9 rfl bI ?_;refine AI.two (i:=2) (j:=8) aC ?_ ?_
   ·refine kU rfl (ee 0) ?_;refine gg 4 rfl (dO 1 (h:=by first|exact .l (j:=a) rfl ru|exact .r (j:=a) rfl ru)) ?_;refine AI.two (i:=5) (j:=8) aC ?_ ?_
    ·refine kU rfl fa ?_;refine AI.two (i:=6) (j:=8) aC ?_ ?_
     ·refine ie.iC rfl ap rfl rfl rfl call90 (mq (((t.ag[i.toNat]'aa)).keys[a]) w4) ⟨ot,trivial⟩ ?_;refine AI.one (i:=8) aC ?_;refine kU rfl (ee 0) ?_;refine gg 10 rfl (dO 1 (h:=by first|exact .l (j:=a) rfl u5|exact .r (j:=a) rfl u5)) ?_;refine AI.one (i:=11) aC ?_;refine kU rfl fa ?_;refine gg 12 rfl (oY (pl:=[(0,_),(1,_)]) (ds:=[_,_]) rfl zeroValue92 runUnderlying92 sE ⟨rfl,ot,rfl,ot,trivial⟩ rfl rfl) ?_;refine AI.one (i:=13) aC ?_;refine ie.yield (Y:=Y) (pre:=E) (y:=(((t.ag[i.toNat]'aa)).keys[a],((t.ag[i.toNat]'aa)).kids[a])) (Sc:=I) (R:=[⟨b7,146,5,cP (t.ag[i.toNat]'aa)⟩]) rfl ap rfl rfl ot aQ lk tE (perm_append_singleton _ _).symm Z tw hY O w7 (fun Ej O2=>?_) (fun Ej O2=>?_)
      ·refine AI.perm (perm_append_singleton _ _) ?_;refine gg 14 rfl lB ?_;refine AI.wk (y:=⟨46,[(0,_),(1,_),(5,_),(7,_),(43,_)],(⟨b7,146,5,[_,_,_,_,_]⟩::Ej)⟩) (Wk.er rfl rfl fI) ?_;refine AI.done aC ?_;refine gq ?_;refine cc [0,1,5,7] ?_;refine⟨((a+1),(E++[(((t.ag[i.toNat]'aa)).keys[a],((t.ag[i.toNat]'aa)).kids[a])]),Ej),_,cr,aJ,tv,w4,O2,rfl⟩
      refine gg 14 rfl lB ?_;refine AI.wk (y:=⟨46,[(0,_),(43,_)],(Ej)⟩) (Wk.er rfl rfl fI) ?_;refine AI.done aC ?_;refine eY ?_;refine CD.ret ?_;refine⟨.inr rfl,⟨_,qG results116⟩,(show 0<46 by decide),Ej,Sublist.refl _,?_⟩;exact .inr ⟨E++[(((t.ag[i.toNat]'aa)).keys[a],((t.ag[i.toNat]'aa)).kids[a])],⟨(jn t (i::r)).drop (a+1),by rw[qd,jv,append_assoc];rfl⟩,O2,lk⟩
     refine kU rfl (ee 0) ?_;refine gg 10 rfl (dO 1 (h:=by first|exact .l (j:=a) rfl u5|exact .r (j:=a) rfl u5)) ?_;refine AI.two (i:=6) (j:=11) aC ?_ ?_
     ·refine ie.iC rfl ap rfl rfl rfl call90 (mq (((t.ag[i.toNat]'aa)).keys[a]) w4) ⟨ot,trivial⟩ ?_;refine AI.one (i:=11) aC ?_;refine kU rfl fa ?_;refine gg 12 rfl (oY (pl:=[(0,_),(1,_)]) (ds:=[_,_]) rfl zeroValue92 runUnderlying92 sE ⟨rfl,ot,rfl,ot,trivial⟩ rfl rfl) ?_;refine AI.one (i:=13) aC ?_;refine ie.yield (Y:=Y) (pre:=E) (y:=(((t.ag[i.toNat]'aa)).keys[a],((t.ag[i.toNat]'aa)).kids[a])) (Sc:=I) (R:=[⟨b7,146,5,cP (t.ag[i.toNat]'aa)⟩]) rfl ap rfl rfl ot aQ lk tE (perm_append_singleton _ _).symm Z tw hY O w7 (fun I O3=>?_) (fun I O3=>?_)
      ·refine AI.perm (perm_append_singleton _ _) ?_;refine gg 14 rfl lB ?_;refine AI.wk (y:=⟨46,[(0,_),(1,_),(5,_),(7,_),(43,_)],(⟨b7,146,5,[_,_,_,_,_]⟩::I)⟩) (Wk.er rfl rfl fI) ?_;refine AI.done aC ?_;refine gq ?_;refine cc [0,1,5,7] ?_;refine⟨((a+1),(E++[(((t.ag[i.toNat]'aa)).keys[a],((t.ag[i.toNat]'aa)).kids[a])]),I),_,cr,aJ,tv,w4,O3,rfl⟩
      refine gg 14 rfl lB ?_;refine AI.wk (y:=⟨46,[(0,_),(43,_)],(I)⟩) (Wk.er rfl rfl fI) ?_;refine AI.done aC ?_;refine eY ?_;refine CD.ret ?_;refine⟨.inr rfl,⟨_,qG results116⟩,(show 0<46 by decide),I,Sublist.refl _,?_⟩;exact .inr ⟨E++[(((t.ag[i.toNat]'aa)).keys[a],((t.ag[i.toNat]'aa)).kids[a])],⟨(jn t (i::r)).drop (a+1),by rw[qd,jv,append_assoc];rfl⟩,O3,lk⟩
     refine kU rfl fa ?_;refine AI.one (i:=6) aC ?_;refine ie.iC rfl ap rfl rfl rfl call90 (mq (((t.ag[i.toNat]'aa)).keys[a]) w4) ⟨ot,trivial⟩ ?_;refine gg 12 rfl (oY (pl:=[(0,_),(1,_)]) (ds:=[_,_]) rfl zeroValue92 runUnderlying92 sE ⟨rfl,ot,rfl,ot,trivial⟩ rfl rfl) ?_;refine AI.one (i:=13) aC ?_;refine ie.yield (Y:=Y) (pre:=E) (y:=(((t.ag[i.toNat]'aa)).keys[a],((t.ag[i.toNat]'aa)).kids[a])) (Sc:=I) (R:=[⟨b7,146,5,cP (t.ag[i.toNat]'aa)⟩]) rfl ap rfl rfl ot aQ lk tE (perm_append_singleton _ _).symm Z tw hY O w7 (fun Ek O4=>?_) (fun Ek O4=>?_)
     ·refine AI.perm (perm_append_singleton _ _) ?_;refine gg 14 rfl lB ?_;refine AI.wk (y:=⟨46,[(0,_),(1,_),(5,_),(7,_),(43,_)],(⟨b7,146,5,[_,_,_,_,_]⟩::Ek)⟩) (Wk.er rfl rfl fI) ?_;refine AI.done aC ?_;refine gq ?_;refine cc [0,1,5,7] ?_;refine⟨((a+1),(E++[(((t.ag[i.toNat]'aa)).keys[a],((t.ag[i.toNat]'aa)).kids[a])]),Ek),_,cr,aJ,tv,w4,O4,rfl⟩
     refine gg 14 rfl lB ?_;refine AI.wk (y:=⟨46,[(0,_),(43,_)],(Ek)⟩) (Wk.er rfl rfl fI) ?_;refine AI.done aC ?_;refine eY ?_;refine CD.ret ?_;refine⟨.inr rfl,⟨_,qG results116⟩,(show 0<46 by decide),Ek,Sublist.refl _,?_⟩;exact .inr ⟨E++[(((t.ag[i.toNat]'aa)).keys[a],((t.ag[i.toNat]'aa)).kids[a])],⟨(jn t (i::r)).drop (a+1),by rw[qd,jv,append_assoc];rfl⟩,O4,lk⟩
    refine kU rfl (ee 0) ?_;refine gg 10 rfl (dO 1 (h:=by first|exact .l (j:=a) rfl u5|exact .r (j:=a) rfl u5)) ?_;refine AI.two (i:=5) (j:=11) aC ?_ ?_
    ·refine kU rfl fa ?_;refine AI.two (i:=6) (j:=11) aC ?_ ?_
     ·refine ie.iC rfl ap rfl rfl rfl call90 (mq (((t.ag[i.toNat]'aa)).keys[a]) w4) ⟨ot,trivial⟩ ?_;refine AI.one (i:=11) aC ?_;refine kU rfl fa ?_;refine gg 12 rfl (oY (pl:=[(0,_),(1,_)]) (ds:=[_,_]) rfl zeroValue92 runUnderlying92 sE ⟨rfl,ot,rfl,ot,trivial⟩ rfl rfl) ?_;refine AI.one (i:=13) aC ?_;refine ie.yield (Y:=Y) (pre:=E) (y:=(((t.ag[i.toNat]'aa)).keys[a],((t.ag[i.toNat]'aa)).kids[a])) (Sc:=I) (R:=[⟨b7,146,5,cP (t.ag[i.toNat]'aa)⟩]) rfl ap rfl rfl ot aQ lk tE (perm_append_singleton _ _).symm Z tw hY O w7 (fun El O5=>?_) (fun El O5=>?_)
      ·refine AI.perm (perm_append_singleton _ _) ?_;refine gg 14 rfl lB ?_;refine AI.wk (y:=⟨46,[(0,_),(1,_),(5,_),(7,_),(43,_)],(⟨b7,146,5,[_,_,_,_,_]⟩::El)⟩) (Wk.er rfl rfl fI) ?_;refine AI.done aC ?_;refine gq ?_;refine cc [0,1,5,7] ?_;refine⟨((a+1),(E++[(((t.ag[i.toNat]'aa)).keys[a],((t.ag[i.toNat]'aa)).kids[a])]),El),_,cr,aJ,tv,w4,O5,rfl⟩
      refine gg 14 rfl lB ?_;refine AI.wk (y:=⟨46,[(0,_),(43,_)],(El)⟩) (Wk.er rfl rfl fI) ?_;refine AI.done aC ?_;refine eY ?_;refine CD.ret ?_;refine⟨.inr rfl,⟨_,qG results116⟩,(show 0<46 by decide),El,Sublist.refl _,?_⟩;exact .inr ⟨E++[(((t.ag[i.toNat]'aa)).keys[a],((t.ag[i.toNat]'aa)).kids[a])],⟨(jn t (i::r)).drop (a+1),by rw[qd,jv,append_assoc];rfl⟩,O5,lk⟩
     refine kU rfl fa ?_;refine AI.one (i:=6) aC ?_;refine ie.iC rfl ap rfl rfl rfl call90 (mq (((t.ag[i.toNat]'aa)).keys[a]) w4) ⟨ot,trivial⟩ ?_;refine gg 12 rfl (oY (pl:=[(0,_),(1,_)]) (ds:=[_,_]) rfl zeroValue92 runUnderlying92 sE ⟨rfl,ot,rfl,ot,trivial⟩ rfl rfl) ?_;refine AI.one (i:=13) aC ?_;refine ie.yield (Y:=Y) (pre:=E) (y:=(((t.ag[i.toNat]'aa)).keys[a],((t.ag[i.toNat]'aa)).kids[a])) (Sc:=I) (R:=[⟨b7,146,5,cP (t.ag[i.toNat]'aa)⟩]) rfl ap rfl rfl ot aQ lk tE (perm_append_singleton _ _).symm Z tw hY O w7 (fun Em O6=>?_) (fun Em O6=>?_)
     ·refine AI.perm (perm_append_singleton _ _) ?_;refine gg 14 rfl lB ?_;refine AI.wk (y:=⟨46,[(0,_),(1,_),(5,_),(7,_),(43,_)],(⟨b7,146,5,[_,_,_,_,_]⟩::Em)⟩) (Wk.er rfl rfl fI) ?_;refine AI.done aC ?_;refine gq ?_;refine cc [0,1,5,7] ?_;refine⟨((a+1),(E++[(((t.ag[i.toNat]'aa)).keys[a],((t.ag[i.toNat]'aa)).kids[a])]),Em),_,cr,aJ,tv,w4,O6,rfl⟩
     refine gg 14 rfl lB ?_;refine AI.wk (y:=⟨46,[(0,_),(43,_)],(Em)⟩) (Wk.er rfl rfl fI) ?_;refine AI.done aC ?_;refine eY ?_;refine CD.ret ?_;refine⟨.inr rfl,⟨_,qG results116⟩,(show 0<46 by decide),Em,Sublist.refl _,?_⟩;exact .inr ⟨E++[(((t.ag[i.toNat]'aa)).keys[a],((t.ag[i.toNat]'aa)).kids[a])],⟨(jn t (i::r)).drop (a+1),by rw[qd,jv,append_assoc];rfl⟩,O6,lk⟩
    refine kU rfl fa ?_;refine AI.one (i:=5) aC ?_;refine kU rfl fa ?_;refine AI.one (i:=6) aC ?_;refine ie.iC rfl ap rfl rfl rfl call90 (mq (((t.ag[i.toNat]'aa)).keys[a]) w4) ⟨ot,trivial⟩ ?_;refine gg 12 rfl (oY (pl:=[(0,_),(1,_)]) (ds:=[_,_]) rfl zeroValue92 runUnderlying92 sE ⟨rfl,ot,rfl,ot,trivial⟩ rfl rfl) ?_;refine AI.one (i:=13) aC ?_;refine ie.yield (Y:=Y) (pre:=E) (y:=(((t.ag[i.toNat]'aa)).keys[a],((t.ag[i.toNat]'aa)).kids[a])) (Sc:=I) (R:=[⟨b7,146,5,cP (t.ag[i.toNat]'aa)⟩]) rfl ap rfl rfl ot aQ lk tE (perm_append_singleton _ _).symm Z tw hY O w7 (fun En O7=>?_) (fun En O7=>?_)
    ·refine AI.perm (perm_append_singleton _ _) ?_;refine gg 14 rfl lB ?_;refine AI.wk (y:=⟨46,[(0,_),(1,_),(5,_),(7,_),(43,_)],(⟨b7,146,5,[_,_,_,_,_]⟩::En)⟩) (Wk.er rfl rfl fI) ?_;refine AI.done aC ?_;refine gq ?_;refine cc [0,1,5,7] ?_;refine⟨((a+1),(E++[(((t.ag[i.toNat]'aa)).keys[a],((t.ag[i.toNat]'aa)).kids[a])]),En),_,cr,aJ,tv,w4,O7,rfl⟩
    refine gg 14 rfl lB ?_;refine AI.wk (y:=⟨46,[(0,_),(43,_)],(En)⟩) (Wk.er rfl rfl fI) ?_;refine AI.done aC ?_;refine eY ?_;refine CD.ret ?_;refine⟨.inr rfl,⟨_,qG results116⟩,(show 0<46 by decide),En,Sublist.refl _,?_⟩;exact .inr ⟨E++[(((t.ag[i.toNat]'aa)).keys[a],((t.ag[i.toNat]'aa)).kids[a])],⟨(jn t (i::r)).drop (a+1),by rw[qd,jv,append_assoc];rfl⟩,O7,lk⟩
   refine kU rfl (ee 0) ?_;refine gg 10 rfl (dO 1 (h:=by first|exact .l (j:=a) rfl u5|exact .r (j:=a) rfl u5)) ?_;refine AI.two (i:=2) (j:=11) aC ?_ ?_
   ·refine kU rfl (ee 0) ?_;refine gg 4 rfl (dO 1 (h:=by first|exact .l (j:=a) rfl ru|exact .r (j:=a) rfl ru)) ?_;refine AI.two (i:=5) (j:=11) aC ?_ ?_
    ·refine kU rfl fa ?_;refine AI.two (i:=6) (j:=11) aC ?_ ?_
     ·refine ie.iC rfl ap rfl rfl rfl call90 (mq (((t.ag[i.toNat]'aa)).keys[a]) w4) ⟨ot,trivial⟩ ?_;refine AI.one (i:=11) aC ?_;refine kU rfl fa ?_;refine gg 12 rfl (oY (pl:=[(0,_),(1,_)]) (ds:=[_,_]) rfl zeroValue92 runUnderlying92 sE ⟨rfl,ot,rfl,ot,trivial⟩ rfl rfl) ?_;refine AI.one (i:=13) aC ?_;refine ie.yield (Y:=Y) (pre:=E) (y:=(((t.ag[i.toNat]'aa)).keys[a],((t.ag[i.toNat]'aa)).kids[a])) (Sc:=I) (R:=[⟨b7,146,5,cP (t.ag[i.toNat]'aa)⟩]) rfl ap rfl rfl ot aQ lk tE (perm_append_singleton _ _).symm Z tw hY O w7 (fun Eo O8=>?_) (fun Eo O8=>?_)
      ·refine AI.perm (perm_append_singleton _ _) ?_;refine gg 14 rfl lB ?_;refine AI.wk (y:=⟨46,[(0,_),(1,_),(5,_),(7,_),(43,_)],(⟨b7,146,5,[_,_,_,_,_]⟩::Eo)⟩) (Wk.er rfl rfl fI) ?_;refine AI.done aC ?_;refine gq ?_;refine cc [0,1,5,7] ?_;refine⟨((a+1),(E++[(((t.ag[i.toNat]'aa)).keys[a],((t.ag[i.toNat]'aa)).kids[a])]),Eo),_,cr,aJ,tv,w4,O8,rfl⟩
      refine gg 14 rfl lB ?_;refine AI.wk (y:=⟨46,[(0,_),(43,_)],(Eo)⟩) (Wk.er rfl rfl fI) ?_;refine AI.done aC ?_;refine eY ?_;refine CD.ret ?_;refine⟨.inr rfl,⟨_,qG results116⟩,(show 0<46 by decide),Eo,Sublist.refl _,?_⟩;exact .inr ⟨E++[(((t.ag[i.toNat]'aa)).keys[a],((t.ag[i.toNat]'aa)).kids[a])],⟨(jn t (i::r)).drop (a+1),by rw[qd,jv,append_assoc];rfl⟩,O8,lk⟩
     refine kU rfl fa ?_;refine AI.one (i:=6) aC ?_;refine ie.iC rfl ap rfl rfl rfl call90 (mq (((t.ag[i.toNat]'aa)).keys[a]) w4) ⟨ot,trivial⟩ ?_;refine gg 12 rfl (oY (pl:=[(0,_),(1,_)]) (ds:=[_,_]) rfl zeroValue92 runUnderlying92 sE ⟨rfl,ot,rfl,ot,trivial⟩ rfl rfl) ?_;refine AI.one (i:=13) aC ?_;refine ie.yield (Y:=Y) (pre:=E) (y:=(((t.ag[i.toNat]'aa)).keys[a],((t.ag[i.toNat]'aa)).kids[a])) (Sc:=I) (R:=[⟨b7,146,5,cP (t.ag[i.toNat]'aa)⟩]) rfl ap rfl rfl ot aQ lk tE (perm_append_singleton _ _).symm Z tw hY O w7 (fun Ep O9=>?_) (fun Ep O9=>?_)
     ·refine AI.perm (perm_append_singleton _ _) ?_;refine gg 14 rfl lB ?_;refine AI.wk (y:=⟨46,[(0,_),(1,_),(5,_),(7,_),(43,_)],(⟨b7,146,5,[_,_,_,_,_]⟩::Ep)⟩) (Wk.er rfl rfl fI) ?_;refine AI.done aC ?_;refine gq ?_;refine cc [0,1,5,7] ?_;refine⟨((a+1),(E++[(((t.ag[i.toNat]'aa)).keys[a],((t.ag[i.toNat]'aa)).kids[a])]),Ep),_,cr,aJ,tv,w4,O9,rfl⟩
     refine gg 14 rfl lB ?_;refine AI.wk (y:=⟨46,[(0,_),(43,_)],(Ep)⟩) (Wk.er rfl rfl fI) ?_;refine AI.done aC ?_;refine eY ?_;refine CD.ret ?_;refine⟨.inr rfl,⟨_,qG results116⟩,(show 0<46 by decide),Ep,Sublist.refl _,?_⟩;exact .inr ⟨E++[(((t.ag[i.toNat]'aa)).keys[a],((t.ag[i.toNat]'aa)).kids[a])],⟨(jn t (i::r)).drop (a+1),by rw[qd,jv,append_assoc];rfl⟩,O9,lk⟩
    refine kU rfl fa ?_;refine AI.one (i:=5) aC ?_;refine kU rfl fa ?_;refine AI.one (i:=6) aC ?_;refine ie.iC rfl ap rfl rfl rfl call90 (mq (((t.ag[i.toNat]'aa)).keys[a]) w4) ⟨ot,trivial⟩ ?_;refine gg 12 rfl (oY (pl:=[(0,_),(1,_)]) (ds:=[_,_]) rfl zeroValue92 runUnderlying92 sE ⟨rfl,ot,rfl,ot,trivial⟩ rfl rfl) ?_;refine AI.one (i:=13) aC ?_;refine ie.yield (Y:=Y) (pre:=E) (y:=(((t.ag[i.toNat]'aa)).keys[a],((t.ag[i.toNat]'aa)).kids[a])) (Sc:=I) (R:=[⟨b7,146,5,cP (t.ag[i.toNat]'aa)⟩]) rfl ap rfl rfl ot aQ lk tE (perm_append_singleton _ _).symm Z tw hY O w7 (fun Er Pb=>?_) (fun Er Pb=>?_)
    ·refine AI.perm (perm_append_singleton _ _) ?_;refine gg 14 rfl lB ?_;refine AI.wk (y:=⟨46,[(0,_),(1,_),(5,_),(7,_),(43,_)],(⟨b7,146,5,[_,_,_,_,_]⟩::Er)⟩) (Wk.er rfl rfl fI) ?_;refine AI.done aC ?_;refine gq ?_;refine cc [0,1,5,7] ?_;refine⟨((a+1),(E++[(((t.ag[i.toNat]'aa)).keys[a],((t.ag[i.toNat]'aa)).kids[a])]),Er),_,cr,aJ,tv,w4,Pb,rfl⟩
    refine gg 14 rfl lB ?_;refine AI.wk (y:=⟨46,[(0,_),(43,_)],(Er)⟩) (Wk.er rfl rfl fI) ?_;refine AI.done aC ?_;refine eY ?_;refine CD.ret ?_;refine⟨.inr rfl,⟨_,qG results116⟩,(show 0<46 by decide),Er,Sublist.refl _,?_⟩;exact .inr ⟨E++[(((t.ag[i.toNat]'aa)).keys[a],((t.ag[i.toNat]'aa)).kids[a])],⟨(jn t (i::r)).drop (a+1),by rw[qd,jv,append_assoc];rfl⟩,Pb,lk⟩
   refine kU rfl fa ?_;refine AI.one (i:=2) aC ?_;refine kU rfl (ee 0) ?_;refine gg 4 rfl (dO 1 (h:=by first|exact .l (j:=a) rfl ru|exact .r (j:=a) rfl ru)) ?_;refine AI.one (i:=5) aC ?_;refine kU rfl fa ?_;refine AI.one (i:=6) aC ?_;refine ie.iC rfl ap rfl rfl rfl call90 (mq (((t.ag[i.toNat]'aa)).keys[a]) w4) ⟨ot,trivial⟩ ?_;refine gg 12 rfl (oY (pl:=[(0,_),(1,_)]) (ds:=[_,_]) rfl zeroValue92 runUnderlying92 sE ⟨rfl,ot,rfl,ot,trivial⟩ rfl rfl) ?_;refine AI.one (i:=13) aC ?_;refine ie.yield (Y:=Y) (pre:=E) (y:=(((t.ag[i.toNat]'aa)).keys[a],((t.ag[i.toNat]'aa)).kids[a])) (Sc:=I) (R:=[⟨b7,146,5,cP (t.ag[i.toNat]'aa)⟩]) rfl ap rfl rfl ot aQ lk tE (perm_append_singleton _ _).symm Z tw hY O w7 (fun Dc M7=>?_) (fun Dc M7=>?_)
   ·refine AI.perm (perm_append_singleton _ _) ?_;refine gg 14 rfl lB ?_;refine AI.wk (y:=⟨46,[(0,_),(1,_),(5,_),(7,_),(43,_)],(⟨b7,146,5,[_,_,_,_,_]⟩::Dc)⟩) (Wk.er rfl rfl fI) ?_;refine AI.done aC ?_;refine gq ?_;refine cc [0,1,5,7] ?_;refine⟨((a+1),(E++[(((t.ag[i.toNat]'aa)).keys[a],((t.ag[i.toNat]'aa)).kids[a])]),Dc),_,cr,aJ,tv,w4,M7,rfl⟩
   refine gg 14 rfl lB ?_;refine AI.wk (y:=⟨46,[(0,_),(43,_)],(Dc)⟩) (Wk.er rfl rfl fI) ?_;refine AI.done aC ?_;refine eY ?_;refine CD.ret ?_;refine⟨.inr rfl,⟨_,qG results116⟩,(show 0<46 by decide),Dc,Sublist.refl _,?_⟩;exact .inr ⟨E++[(((t.ag[i.toNat]'aa)).keys[a],((t.ag[i.toNat]'aa)).kids[a])],⟨(jn t (i::r)).drop (a+1),by rw[qd,jv,append_assoc];rfl⟩,M7,lk⟩
  have fk:a=(t.pg i).keys.length:=(by rw[ir];have:=aY;simp at this;omega)
  refine cc [0,1,4,5] ?_;refine⟨(r,0,E,I),_,(by (show length r<length (i::r);simp)),(aJ (h:=by repeat (first|exact trivial|refine⟨(by (repeat (first|exact fP|(apply gi;focus (first|rfl|(simp;done)|(rw[←ir,fm.next hL.pM])))|(apply fU;focus rfl)));done),?_⟩))),hL.tail,(by rw[qd,aa0 v hL fk]),(fun x hx=>Nat.zero_le _),Z,rfl⟩
 have alA:ls=[]:=hL.head.2 yh;refine CD.exit ?_;refine⟨.inl rfl,⟨_,qG results116⟩,(show 0<46 by decide),Sc,Sublist.refl _,?_⟩;exact .inl ⟨pre,by rw[O1,alA];simp[jn],hj,lk⟩

open Go.Lib (compareBytes)
theorem agI(e:K×Int):(cE e).all V.one=true:=rfl
theorem ahy(k:K):fZ (cK k)=true:=by simp[cK,fZ,iV,zQ]
theorem ahz(n:Int):fZ (cI n)=true:=rfl
theorem ahA(p:c9):fZ (cP p)=true:=by simp[cP,fZ,iV,zQ,vq ahy,vq ahz]
def Wc(t:aG)(k:K):D:=.eH (.func 116) (Ma t k)
noncomputable def vE(ff:K)(x:K×Int):Bool:=decide (0<ff.length∧bu ff x.1)
noncomputable def vJ(t:aG)(h:Nat)(f ff:K):List (K×Int):=(mW t h f).takeWhile fun x=>!vE ff x
noncomputable def xG(t:aG)(h:Nat)(f ff:K):List (K×Int)×Int:=if gS t=0 then (if f.length≤100∧ff.length≤100 then (vJ t h f ff,0) else ([],1)) else ([],gS t)
theorem Jn{α:Type}{p:α→Bool}:∀{l:List α},(∀x∈l,p x=true)→l.takeWhile p=l
 | [],_=>rfl
 | x::l,h=>by rw[takeWhile_cons,if_pos (h x mem_cons_self),Jn fun y hy=>h y (mem_cons_of_mem _ hy)]
theorem Rj{α:Type}{p:α→Bool}{y:α}{r:List α}(hy:p y=false):∀{l:List α},(∀x∈l,p x=true)→(l++y::r).takeWhile p=l
 | [],_=>by rw[nil_append,takeWhile_cons,if_neg (by rw[hy];decide)]
 | x::l,h=>by rw[cons_append,takeWhile_cons,if_pos (h x mem_cons_self),Rj hy fun y hy=>h y (mem_cons_of_mem _ hy)]
def xM(b9 b5:Nat)(ff:K)(pre:List (K×Int))(Sc:List ah):Prop:=(∀x∈pre,vE ff x=false)∧∃ad cap So,bn 92 2 (pre.flatMap cE) pre.length ad cap So∧Sc=⟨b9,87,1,[aP ad pre.length cap]⟩::⟨b5,90,1,[au 1 cB ff]⟩::So
def GV(b9 b5:Nat)(ff:K)(pre:List (K×Int))(Sc:List ah):Prop:=∃init y,pre=init++[y]∧vE ff y=true∧xM b9 b5 ff init Sc
theorem xM.iV{b9 b5:Nat}{ff:K}{pre:List (K×Int)}{Sc:List ah}(h:xM b9 b5 ff pre Sc):∀B∈Sc,fZ B.cs=true:=by
 obtain⟨_,ad,cap,So,ho,rfl⟩:=h;intro B E;rcases mem_cons.1 E with rfl|E
 ·rfl
 rcases mem_cons.1 E with rfl|E
 ·simp[fZ,V.iV,zQ]
 rcases ho with ⟨_,_,_,_,rfl⟩|⟨b,_,_,_,rfl⟩
 ·cases E
 rw[mem_singleton] at E;subst E;exact vq zR pre
theorem GV.iV{b9 b5:Nat}{ff:K}{pre:List (K×Int)}{Sc:List ah}(h:GV b9 b5 ff pre Sc):∀B∈Sc,fZ B.cs=true:=by
 obtain⟨init,y,_,_,h⟩:=h;exact h.iV
def Mb(b9 b5:Nat)(ff:K)(pre:List (K×Int))(y:K×Int)(Sc:List ah)(z:St):Prop:=xM b9 b5 ff pre Sc∧∃kf,z=⟨43,[(5,cZ b5),(9,cZ b9),(10,cZ kf)],⟨kf,92,2,cE y⟩::Sc⟩
theorem Mb.iV{b9 b5:Nat}{ff:K}{pre:List (K×Int)}{y:K×Int}{Sc:List ah}{z:St}(h:Mb b9 b5 ff pre y Sc z):(z.env.all fun p=>V.iV p.2)=true∧∀B∈z.S,fZ B.cs=true:=by
 obtain⟨hj,kf,rfl⟩:=h;refine⟨rfl,fun B E=>?_⟩;rcases mem_cons.1 E with rfl|E
 ·exact zR y
 exact hj.iV B E
theorem aeg{b9 b5:Nat}{t:aG}{h:Nat}{f ff:K}{Sc:List ah}{c d:Code}(he:(∃xs,xs=mW t h f∧xM b9 b5 ff xs Sc)∨(c=d∧∃pre,pre <+: mW t h f∧GV b9 b5 ff pre Sc)):∃I,I=vJ t h f ff∧xM b9 b5 ff I Sc:=by
 rcases he with ⟨xs,rfl,hj⟩|⟨_,pre,⟨r,hr⟩,E,y,rfl,hy,hj⟩
 ·exact⟨_,(Jn fun x hx=>by rw[hj.1 x hx];rfl).symm,hj⟩
 refine⟨E,?_,hj⟩;unfold vJ;rw[←hr,append_assoc,singleton_append];exact(Rj (by rw[hy];rfl) fun x hx=>by rw[hj.1 x hx];rfl).symm
theorem afW(t:aG)(k:K):VC Tryz.prog G 63 [.agg (cT t),au 1 cB k] [] (fun r S=>∃b2 b3,r = .eH (.func 116) [cZ b2,cZ b3]∧S=[⟨b3,90,1,[au 1 cB k]⟩,⟨b2,75,2,cT t⟩]):=by
 refine VC.body func63 rfl ntmps63 aQ fun X0 w0 bf=>?_;unfold cT;refine cf ?_;refine OD.box (ds:=[_,_]) ap rfl rfl ot rfl rfl (fun b2=>?_);refine OD.box (ds:=[_]) ap rfl rfl ot rfl rfl (fun b3=>?_);refine an 6 [2,3] ?_;refine cM [4] ?_;refine aR 0 ?_ (h:=by exact(pR (ds:=[_,_]) rfl ⟨ot,ot,trivial⟩));refine bH ?_;refine aM [_,_] ?_;exact⟨_,_,rfl,rfl⟩
theorem afX(t:aG)(k:K):VP Tryz.prog G 63 [.agg (cT t),au 1 cB k] (Wc t k):=VC.cover (afW t k) fun r S ⟨b2,b3,hr,hS⟩=>by
 subst hr;subst hS;exact adj ⟨R3 (e:=75) (size:=2) (cs:=cT t) (mem_cons_of_mem _ mem_cons_self) gU.same,R3 (e:=90) (size:=1) mem_cons_self gU.same,trivial⟩
theorem aaA:(Tryz.prog.info? 92).map (fun i=>(i.zero,i.size,i.bytes))=some (some (.agg #[.slice none 0 0,.int .i64 0]),2,32):=by kernel_rfl
theorem afY(t:aG)(h:Nat)(hb:∀p∈t.ag,p.keys.length≤maxLen∧p.kids.length≤maxLen)(hv:gS t=0→Valid t h)(f ff:K):VP Tryz.prog G 32 [.agg (cT t),au 1 cB f,au 1 cB ff] (.dD [.list 2 ((xG t h f ff).1.flatMap cE) (xG t h f ff).1.length,ae (xG t h f ff).2]):=by
 refine VC.Af func32 rfl ntmps32 aQ fun X0 w0 bf=>?_;have c8:=dV;have fC:=pS (G:=G) t hb;have U:=afX (G:=G) t f;unfold cT at fC U;unfold cT;refine cf ?_;refine OD.box (ds:=[_,_]) ap rfl rfl ot rfl rfl (fun b3=>?_);refine OD.box (ds:=[_]) ap rfl rfl ot rfl rfl (fun b5=>?_);refine an 43 [1,3,5] ?_;refine cL [1,3,5,8] (fC) ?_;refine af [1,3,5,8,14] ?_;refine av ?_ ?_<;>intro aL bB
 ·have hn:¬gS t=0:=(by simpa using aL)
  refine af [6,7] ?_;refine CD.wk (Wk.ue (t:=6) (sz:=2) lk) ?_;refine aM [] ?_;exact⟨by unfold xG;rw[if_neg hn];rfl,rfl⟩
 have hz:gS t=0:=(by simpa using aL)
 have v:=hv hz;have Wb:=Tb v f;refine aB 4 ?_;refine bY 19 (fun Z O=>?_) (fun Z O=>?_)
 ·refine bp [1,3,5,23] ?_;refine eY ?_;exact z85
 refine bp [1,3,5,23] ?_;refine av ?_ ?_<;>intro aY cD
 ·exact z85
 have apQ:f.length≤100∧ff.length≤100:=(by simp_all;omega)
 have hf1:f.length≤maxLen:=(by omega)
 refine cf ?_;refine OD.alloc (ds:=[_]) ap rfl rfl zeroValue87 rfl (fun b9=>?_);refine an 43 [1,3,5,9] ?_;refine CD.ajT ?_;refine dY 2 ?_;refine ec call63 (U) ?_;refine an 43 [5,9,26] ?_;refine wA.wk (Wk.drop _ _ _ [⟨b9,87,1,[bF]⟩,⟨b5,90,1,[au 1 cB ff]⟩] (Sublist.cons_cons _ (Sublist.cons_cons _ (Sublist.cons _ (Sublist.refl _))))) ?_;refine wA.range ot call116 (aef t h v f hf1) (fun _=>rfl) aee (.exit 0) (.inr rfl) (xM b9 b5 ff) (GV b9 b5 ff) (fun _ _ h=>h.iV) (fun _ _ h=>h.iV) ⟨(fun _ h=>by cases h),none,0,[],iW,rfl⟩ (Mb b9 b5 ff) (fun _ _ _ _ h=>h.iV) ?_ ?_ ?_ (fun h=>by cases h)
 ·intro X1 W1 S1 l1 pre y Sc hJ hN;refine CI.region NL rfl ?_;refine OD.alloc (ds:=[_,_]) ap rfl rfl zeroValue92 rfl (fun kf=>?_);refine aO 0 [_,_] sizeOf92 ?_;refine OD.wk (Wk.er (n:=43) (l':=[(5,_),(9,_),(10,_)]) (S':=(⟨kf,92,2,[_,_]⟩::Sc)) rfl rfl fI) ?_;refine OD.nil ?_;exact⟨rfl,hJ,kf,rfl⟩
 ·intro X1 W1 S1 l1 pre y Sc z hJ hN hz;obtain⟨⟨aT,ad,cap,So,ho,rfl⟩,kf,rfl⟩:=hz;unfold cE;refine CI.block ?_;refine CI.seq ?_;refine CI.seq ?_;refine CI.region NL rfl ?_;refine bV (ee 2) ?_;refine bV yy ?_;refine bV qs ?_;refine om_ ?_;refine OD.split (t:=31) lk (fun I=>?_) (fun I=>?_)
  ·have E:=I;(try simp only[V.nL,ne_eq] at E)
   refine bV (dX 0) ?_;refine bV (ee 0) ?_;refine bV (ee 2) ?_;refine OD.iC iJ rfl rfl rfl call64 (xw y.1 ff) ⟨ot,ot,trivial⟩ ?_;refine bV qs ?_;refine bV xU ?_;refine OD.wk (Wk.er (n:=43) (l':=[(9,_),(10,_),(37,_)]) (S':=(⟨kf,92,2,[_,_]⟩::⟨b9,87,1,[_]⟩::⟨b5,90,1,[_]⟩::So)) rfl rfl fI) ?_;refine OD.nil ?_;refine CI.cond ot (fun cm=>?_) (fun cm=>?_)
   ·have cR:=cm
    (try simp only[V.nL,ne_eq] at cR)
    have fS:vE ff y=true:=(by unfold vE;simp_all[Vc])
    refine CI.exit ?_;exact⟨rfl,_,Sublist.cons _ (Sublist.refl _),pre,y,rfl,fS,aT,ad,cap,So,ho,rfl⟩
   have cR:=cm
   (try simp only[V.nL,ne_eq] at cR)
   exact z25
  have E:=I;(try simp only[V.nL,ne_eq] at E)
  refine DO ?_;refine DO ?_;refine DO ?_;refine DO ?_;refine DO ?_;refine bV vM ?_;refine Yw [9,10,37] ?_;refine CI.LW ot jC ?_;exact z25
 intro W1 S1 D1 Sc fk;obtain⟨es,hes,aT,ad,cap,So,ho,rfl⟩:=aeg fk;refine af [6,7] ?_;refine CD.iE (t:=6) (Sq:=So) lk ho (cz Vd _) (dI (A:=[_,_])) ?_;refine CD.ret ?_;refine⟨rfl,(by simp[iV,fZ,vq zR,zQ,zR,vq ahA,Wc,Ma]),(by intro B hB;simp only[mem_cons,not_mem_nil,or_false] at hB;rcases hB with rfl|rfl<;>simp[iV,fZ,zQ]),_,[],nil_sublist _,Ks results32 (zy aQ lk) (zy aQ lk),(by simp[iV,fZ,vq zR]),?_⟩;rw[hes];exact⟨by unfold xG;rw[if_pos hz,if_pos ⟨by omega,by omega⟩],rfl⟩

end Go.Proofs.YtkgmonfgofobaaaGreatDoor.Tw
namespace Go.Proofs.YtkgmonfgofobaaaGreatDoor.Tw

open List
open Go.Proofs.Tryz
open Go.RowKit V Tr Pk
variable {α:Type} {i h:Nat} {t u:aG} {k up:K} {J:List D} {row:Int}
theorem UC{g:α→List D}(hg:∀a,(g a).length=1){q:List α}{cap:Nat}(hi:i<q.length)(hc:q.length≤cap):((q.flatMap g).drop (eS cap (i+1) 1 0)).take ((q.length-(i+1))*1)=(q.drop (i+1)).flatMap g:=by
 unfold eS;by_cases h:cap=i+1
 ·have e:q.length=i+1:=(by omega)
  have e2:q.drop (i+1)=[]:=drop_of_length_le w4;rw[if_pos h,show q.length-(i+1)=0 from by omega,e2];simp
 rw[if_neg h,Nat.zero_add,vp hg,take_of_length_le];rw[cz hg,length_drop];exact Nat.le_refl _
theorem Vx{g:α→List D}(hg:∀a,(g a).length=1){q:List α}(hi:i<q.length):dm (q.flatMap g) (i*1) ((q.drop (i+1)).flatMap g)=(q.eraseIdx i).flatMap g++(q.flatMap g).drop (i*1+((q.drop (i+1)).flatMap g).length):=by
 rw[wM _ _ _ (by rw[cz hg,cz hg,length_drop];omega),ug hg,eraseIdx_eq_take_drop_succ,flatMap_append]
variable {G:List (Nat×List Value)}
theorem ZM:(Tryz.prog.info? 90).map (fun i=>i.size)=some 1:=by kernel_rfl
theorem IZ(q:List K)(i cap b:Nat)(hi:i<q.length)(hc:q.length≤cap)(hm:cap≤maxLen)(hs:q.length≤1000):VC Tryz.prog G 151 [aP (some ⟨b,0,none⟩) q.length cap,ae (i:Nat),ae ((i+1:Nat):Int)] [⟨b,90,cap*1,q.flatMap cK⟩] (fun r S=>r=aP (some ⟨b,0,none⟩) (q.length-1) cap∧S=[⟨b,90,cap*1,(q.eraseIdx i).flatMap cK⟩]):=by
 refine VC.body func151 rfl ntmps151 aQ fun X0 w0 bf=>?_;refine af [0,1,2] ?_;refine cM [0,1,2] ?_;refine aR 5 ?_ (h:=by exact(PX rfl ot ot ot ot runUnderlying144 sizeOf90 w4 w4 hc));refine jP ?_;refine af [0,1,2,16] ?_;refine av ?_ ?_<;>intro aL bB
 ·exact absurd aL uI
 refine af [0,1,2,7] ?_;refine CD.seq ?_;refine iv 7 (ax (eraseIdx _ 0)) ?_ (fun _ h=>(Sublist.map _ (eraseIdx_sublist _ 0)).subset h);refine aD 0 rfl bI ?_;refine aD 1 rfl bI ?_;refine aD 2 rfl (eJ (l:=0) (h:=i) rfl ot trivial ⟨_,ot⟩ Nv) ?_;refine aD 3 rfl bI ?_;refine aD 4 rfl bI ?_;refine aD 5 rfl (eJ (l:=i+1) rfl ot ⟨_,ot⟩ trivial uG) ?_;refine dZ.later rfl ?_;refine AD.one (i:=6) aC ?_;refine bD.RT (n:=i) (m:=q.length-(i+1)) (k:=0) (new:=(q.drop (i+1)).flatMap cK) (cs':=(q.eraseIdx i).flatMap cK++(q.flatMap cK).drop (i*1+((q.drop (i+1)).flatMap cK).length)) rfl ap rfl rfl underlying144 ZM ot rfl rfl ot (UC gw hi hc) (by rw[cz gw,length_drop]) (uq pZ _) w4 (by show _≤(q.flatMap cK).length;rw[cz gw];omega) (Vx gw hi) iP ?_;rw[show i+(q.length-(i+1))=q.length-1 from by omega];refine fB ?_;refine bp [0,7] ?_;refine aB 4 ?_;refine bV (eJ (l:=q.length-1) (h:=q.length) rfl ot ⟨_,ot⟩ ⟨_,ot⟩ (by first|exact nx (fun h=>by cases h) runUnderlying144 sizeOf90 w4|exact zw (fun h=>by cases h) (fun h=>by cases h) runUnderlying144 sizeOf90 w4 w4|exact mO (fun h=>by cases h) (fun h=>by cases h) runUnderlying144 sizeOf90 w4 w4)) ?_;refine OD.shrink (k:=0) (cs':=(q.eraseIdx i).flatMap cK) rfl (prefix_append _ _) ?_;refine OD.clear (k:=0) (sz:=1) ap rfl rfl underlying144 zeroValue90 rfl aC ot rfl rfl (fun h0=>?_) ?_
 ·have h3:eS cap (q.length-1) 1 0=(q.length-1)*1:=(by unfold eS;rw[if_neg w4];omega)
  rw[h3];refine⟨?_,?_⟩
  ·show((q.eraseIdx i).flatMap cK).length≤_;rw[cz gw,length_eraseIdx_of_lt hi];exact Nat.le_refl _
  show _≤cap*1;omega
 refine an 33 [0] ?_;refine af [6] ?_;refine aM [_] ?_;exact⟨rfl,rfl⟩
theorem ZN:(Tryz.prog.info? 3).map (fun i=>i.size)=some 1:=by kernel_rfl
theorem Qd(q:List Int)(i cap b:Nat)(hi:i<q.length)(hc:q.length≤cap)(hm:cap≤maxLen)(hs:q.length≤1000):VC Tryz.prog G 152 [aP (some ⟨b,0,none⟩) q.length cap,ae (i:Nat),ae ((i+1:Nat):Int)] [⟨b,3,cap*1,q.flatMap cI⟩] (fun r S=>r=aP (some ⟨b,0,none⟩) (q.length-1) cap∧S=[⟨b,3,cap*1,(q.eraseIdx i).flatMap cI⟩]):=by
 refine VC.body func152 rfl ntmps152 aQ fun X0 w0 bf=>?_;refine af [0,1,2] ?_;refine cM [0,1,2] ?_;refine aR 5 ?_ (h:=by exact(PX rfl ot ot ot ot runUnderlying70 sizeOf3 w4 w4 hc));refine jP ?_;refine af [0,1,2,16] ?_;refine av ?_ ?_<;>intro aL bB
 ·exact absurd aL uI
 refine af [0,1,2,7] ?_;refine CD.seq ?_;refine iv 7 (ax (eraseIdx _ 0)) ?_ (fun _ h=>(Sublist.map _ (eraseIdx_sublist _ 0)).subset h);refine aD 0 rfl bI ?_;refine aD 1 rfl bI ?_;refine aD 2 rfl (eJ (l:=0) (h:=i) rfl ot trivial ⟨_,ot⟩ Nw) ?_;refine aD 3 rfl bI ?_;refine aD 4 rfl bI ?_;refine aD 5 rfl (eJ (l:=i+1) rfl ot ⟨_,ot⟩ trivial uH) ?_;refine dZ.later rfl ?_;refine AD.one (i:=6) aC ?_;refine bD.RT (n:=i) (m:=q.length-(i+1)) (k:=0) (new:=(q.drop (i+1)).flatMap cI) (cs':=(q.eraseIdx i).flatMap cI++(q.flatMap cI).drop (i*1+((q.drop (i+1)).flatMap cI).length)) rfl ap rfl rfl underlying70 ZN ot rfl rfl ot (UC eM hi hc) (by rw[cz eM,length_drop]) (uq nT _) w4 (by show _≤(q.flatMap cI).length;rw[cz eM];omega) (Vx eM hi) iP ?_;rw[show i+(q.length-(i+1))=q.length-1 from by omega];refine fB ?_;refine bp [0,7] ?_;refine aB 4 ?_;refine bV (eJ (l:=q.length-1) (h:=q.length) rfl ot ⟨_,ot⟩ ⟨_,ot⟩ (by first|exact nx (fun h=>by cases h) runUnderlying70 sizeOf3 w4|exact zw (fun h=>by cases h) (fun h=>by cases h) runUnderlying70 sizeOf3 w4 w4|exact mO (fun h=>by cases h) (fun h=>by cases h) runUnderlying70 sizeOf3 w4 w4)) ?_;refine OD.shrink (k:=0) (cs':=(q.eraseIdx i).flatMap cI) rfl (prefix_append _ _) ?_;refine OD.clear (k:=0) (sz:=1) ap rfl rfl underlying70 zeroValue3 rfl aC ot rfl rfl (fun h0=>?_) ?_
 ·have h3:eS cap (q.length-1) 1 0=(q.length-1)*1:=(by unfold eS;rw[if_neg w4];omega)
  rw[h3];refine⟨?_,?_⟩
  ·show((q.eraseIdx i).flatMap cI).length≤_;rw[cz eM,length_eraseIdx_of_lt hi];exact Nat.le_refl _
  show _≤cap*1;omega
 refine an 33 [0] ?_;refine af [6] ?_;refine aM [_] ?_;exact⟨rfl,rfl⟩

theorem wL{α:Type}{g:α→List D}{sz:Nat}(hg:∀a,(g a).length=sz){a':α}{c:Nat}{d:D}(hc:c<sz):∀{L:List α} {j:Nat} (hj:j<L.length),g a'=(g L[j]).set c d→(L.flatMap g).set (j*sz+c) d=(L.set j a').flatMap g
 | a::L,0,_,h=>by
  simp only[getElem_cons_zero] at h;rw[flatMap_cons,set_cons_zero,flatMap_cons,h,set_append_left _ _ (by rw[hg];omega),Nat.zero_mul,Nat.zero_add]
 | a::L,j+1,hj,h=>by
  have ih:=wL hg hc (L:=L) (j:=j) (by simpa using hj) pC;have e:(j+1)*sz+c=sz+(j*sz+c):=(by rw[Nat.succ_mul];omega)
  rw[flatMap_cons,set_cons_succ,flatMap_cons,←ih,set_append_right _ _ (by rw[hg];omega),hg,e,show sz+(j*sz+c)-sz=j*sz+c from by omega]
theorem Vy{L:List aX}(hL:L.map aX.p=t.ag){i:Int}(hi:0≤i∧i<t.ag.length)(hj:i.toNat<L.length):L[i.toNat].p=t.pg i:=by
 rw[vI hi];have h:(L.map aX.p)[i.toNat]?=some L[i.toNat].p:=(by rw[getElem?_map,getElem?_eq_getElem hj];rfl)
 rw[hL,getElem?_eq_getElem w4] at h;exact(Option.some.inj h).symm
def wD:aG:=⟨[],0⟩
def De(te:aG×Int)(r:D)(S:List ah):Prop:=∃r',r = .dD [r',ae te.2]∧Hi te.1 r' S
theorem zE(e:Int):De (wD,e) (.dD [.agg [bF,ae 0],ae e]) []:=⟨_,rfl,[],none,0,[],rfl,iW,(fun o h=>by cases h),rfl,rfl⟩
theorem Hi.view{r:D}{S:List ah}(h:Hi t r S):View S r (.agg (cT t)):=by
 obtain⟨L,ad,cap,Sx,rfl,ho,aT,hL,rfl⟩:=h;have:=Lv (root:=t.root) ho aT (fun B E=>E);rw[hL] at this;exact this
theorem De.view{te:aG×Int}{r:D}{S:List ah}(h:De te r S):View S r (.dD [.agg (cT te.1),ae te.2]):=by
 obtain⟨r',rfl,h⟩:=h;exact Fy ⟨h.view,eW,trivial⟩
noncomputable def rN(t:aG)(k:K)(h:Nat):aG×Int:=if lK t k=0 then (if gl t k h=true then (hU t h k,0) else (wD,8)) else (wD,lK t k)
theorem Rk(h:lK t k=0):gS t=0∧oK k=true:=by
 have hc:gS t=0:=Classical.byContradiction fun e=>by rw[Fv e] at h;exact e h
 refine⟨hc,?_⟩;cases hq:oK k with
 | true=>rfl
 | false=>rw[E8 hc hq] at h;cases h
theorem acw(t:aG)(h:Nat)(k:K)(hb:∀p∈t.ag,p.keys.length≤maxLen∧p.kids.length≤maxLen)(hv:gS t=0→Valid t h):VC Tryz.prog G 113 [.agg [au 5 cP t.ag,ae t.root],au 1 cB k] [] (De (rN t k h)):=by
 refine VC.body func113 rfl ntmps113 aQ fun X0 w0 bf=>?_;have fC:=IY (G:=G) t k hb;unfold cT at fC;have hcT:cT t=[au 5 cP t.ag,ae t.root]:=rfl;have c8:=dV;refine cf ?_;refine OD.box (ds:=[_,_]) ap rfl rfl ot rfl rfl (fun b2=>?_);refine OD.alloc (ds:=[_,_]) ap rfl rfl zeroValue75 rfl (fun b4=>?_);refine an 58 [1,2,4] ?_;refine cL [1,2,4,6] (fC) ?_;refine af [1,2,4,6,16] ?_;refine av ?_ ?_<;>intro aL bB
 ·have hn:¬lK t k=0:=(by simpa using aL)
  refine aB 2 ?_;refine aO 0 [_,_] sizeOf75 ?_;refine an 58 [4,5] ?_;refine aM [] ?_;unfold rN;rw[if_neg hn];exact zE _
 have hz:lK t k=0:=(by simpa using aL)
 obtain⟨hc,Pd⟩:=Rk hz;have v:=hv hc;have Df:=J1 Pd;have fE:=qK (G:=G) t h v k w4 (E5 v k);obtain⟨q1,E⟩:=v.leaf k;refine aB 1 ?_;refine OD.call ap rfl rfl rfl call88 (Gp t h v) ⟨ot,trivial⟩ (fg _) ?_;rintro _ _ ⟨L,ad,cap,Sx,rfl,ey,aT,hL,rfl⟩;refine OD.perm (ez (A:=[_,_])) ?_;refine OD.alloc (ds:=[_,_]) ap rfl rfl zeroValue75 rfl (fun b7=>?_);refine aO 0 [_,_] sizeOf75 ?_;refine an 58 [1,4,7] ?_;refine cM [4,7,8,9,10] ?_;refine mI 2 ?_;refine Aw (fE) (ha:=by exact⟨⟨_,ot,by have:=Lv (root:=t.root) ey aT (fun B hB=>mem_cons_of_mem ⟨b7,75,2,[aP ad L.length cap,ae t.root]⟩ (mem_cons_of_mem ⟨b4,75,2,[bF,ae 0]⟩ (mem_cons_of_mem ⟨b2,75,2,[au 5 cP t.ag,ae t.root]⟩ hB)));rw[hL] at this;exact this⟩,⟨_,ot,eW⟩,trivial⟩) (K:=?_);refine bH ?_;refine af [4,7,8,9,29] ?_;refine av ?_ ?_<;>intro aY cD
 ·have fK:gl t k h=false:=(by simpa using aY)
  refine aB 1 ?_;refine aO 1 [_,_] sizeOf75 ?_;refine an 58 [4,5] ?_;refine aM [] ?_;unfold rN;rw[if_pos hz,if_neg uJ];exact zE _
 have fK:gl t k h=true:=(by simpa using aY)
 obtain⟨ha,OH⟩:=(E4 v k).1 fK;have po:=v.fR _ (jK q1);have hle:=po.leaf E;have Bn:=po.eO;have so:L.length=t.ag.length:=(by rw[←hL];(first|rw[length_map]|(unfold au;rw[length_map])))
 have hj:(aI t k h t.root).toNat<L.length:=(by omega)
 have O:=Vy hL q1 hj;obtain⟨bx,rfl,gp,ym,rfl⟩:=ey.pos w4;have U:=aT _ (getElem_mem hj);obtain⟨o,ho⟩:∃o,o=L[(aI t k h t.root).toNat]:=⟨_,rfl⟩
 rw[←ho] at U O;rcases o with ⟨p,ak,ck,sk,ai,ci,si⟩
 have ir:p=t.pg (aI t k h t.root):=O;obtain⟨ei,Z⟩:nW p.keys ak ck sk∧nf p.kids ai ci si:=U;rw[←ir] at ha hle Bn;obtain⟨bk,rfl,dJ,yn,rfl⟩:=ei.pos w4;obtain⟨bi,rfl,fL,HL,rfl⟩:=Z.pos w4;have I:(L.flatMap bO).Perm (⟨bk,90,ck*1,flatMap cK p.keys⟩::⟨bi,3,ci*1,flatMap cI p.kids⟩::((L.eraseIdx (aI t k h t.root).toNat).flatMap bO)):=(by have:=zD bO hj;rw[←ho] at this;exact this)
 refine CD.perm (Perm.cons _ (Perm.cons _ (Perm.cons _ (Perm.cons _ I)))) ?_;rw[ir] at ha;have ha:(aN (t.pg (aI t k h t.root)) k)<p.keys.length:=(by rw[ir];exact ha)
 have ql:(aN (t.pg (aI t k h t.root)) k)<p.kids.length:=(by omega)
 have hid:=dJ;clear ei Z;refine cM [4,7,9,11] ?_;refine aR 3 ?_ (h:=by exact(dO 5 (h:=by first|exact .l (j:=(aI t k h t.root).toNat) (Int.toNat_of_nonneg q1.1).symm hj|exact .r (j:=(aI t k h t.root).toNat) (Int.toNat_of_nonneg q1.1).symm hj)));refine bH ?_;refine CD.seq ?_;refine iv 21 (ax (take 3 _)) ?_ (fun _ h=>(Sublist.map _ (take_sublist _ _)).subset h);refine aD 0 rfl bI ?_;refine aD 1 rfl bI ?_;refine aD 2 rfl bI ?_;refine aD 3 rfl qm ?_;refine aD 4 rfl (dX 1) ?_;refine aD 6 rfl bI ?_;refine aD 7 rfl bI ?_;refine aD 8 rfl (dA (r:=.int .i64 (((aN (t.pg (aI t k h t.root)) k)+1:Nat):Int)) rfl ot bP (kr (by rw[show(((aN (t.pg (aI t k h t.root)) k):Nat):Int)+1=(((aN (t.pg (aI t k h t.root)) k)+1:Nat):Int) from rfl];exact wrap_i64 w4 w4))) ?_;refine aD 10 rfl bI ?_;refine aD 11 rfl qm ?_;refine aD 12 rfl (dX 2) ?_;refine aD 14 rfl bI ?_;refine aD 15 rfl bI ?_;refine aD 16 rfl (dA (r:=.int .i64 (((aN (t.pg (aI t k h t.root)) k)+1:Nat):Int)) rfl ot bP (kr (by rw[show(((aN (t.pg (aI t k h t.root)) k):Nat):Int)+1=(((aN (t.pg (aI t k h t.root)) k)+1:Nat):Int) from rfl];exact wrap_i64 w4 w4))) ?_;refine dZ.later rfl ?_;refine AD.two (i:=5) (j:=13) aC ?_ ?_
 ·first|refine at_ rfl (cW (mk:=Op.load 144) rfl ot (lG (k:=3) (j:=1) (d:=aP (some ⟨bk,0,none⟩) p.keys.length ck) (ls:=L) iz rfl rfl rfl isAgg144 hj rX)) ?_|refine at_ rfl (cW (mk:=Op.load 144) rfl ot (lG (k:=4) (j:=1) (d:=aP (some ⟨bk,0,none⟩) p.keys.length ck) (ls:=L) iz rfl rfl rfl isAgg144 hj rX)) ?_
  refine AD.two (i:=9) (j:=13) aC ?_ ?_
  ·refine bD.call rfl ap rfl rfl rfl call151 (IZ p.keys (aN (t.pg (aI t k h t.root)) k) ck bk ha dJ yn w4) ⟨ot,ot,ot,trivial⟩ (mN (k:=4) rfl) iP ?_;rintro _ _ ⟨rfl,rfl⟩;refine AD.perm (perm_middle (l₁:=[_,_,_,_])).symm ?_;refine AD.one (i:=13) aC ?_;first|refine at_ rfl (cW (mk:=Op.load 70) rfl ot (lG (k:=3) (j:=2) (d:=aP (some ⟨bi,0,none⟩) p.kids.length ci) (ls:=L) iz rfl rfl rfl isAgg70 hj rX)) ?_|refine at_ rfl (cW (mk:=Op.load 70) rfl ot (lG (k:=4) (j:=2) (d:=aP (some ⟨bi,0,none⟩) p.kids.length ci) (ls:=L) iz rfl rfl rfl isAgg70 hj rX)) ?_
   exact z4
  first|refine at_ rfl (cW (mk:=Op.load 70) rfl ot (lG (k:=3) (j:=2) (d:=aP (some ⟨bi,0,none⟩) p.kids.length ci) (ls:=L) iz rfl rfl rfl isAgg70 hj rX)) ?_|refine at_ rfl (cW (mk:=Op.load 70) rfl ot (lG (k:=4) (j:=2) (d:=aP (some ⟨bi,0,none⟩) p.kids.length ci) (ls:=L) iz rfl rfl rfl isAgg70 hj rX)) ?_
  refine AD.one (i:=9) aC ?_;refine bD.call rfl ap rfl rfl rfl call151 (IZ p.keys (aN (t.pg (aI t k h t.root)) k) ck bk ha dJ yn w4) ⟨ot,ot,ot,trivial⟩ (mN (k:=4) rfl) iP ?_;rintro _ _ ⟨rfl,rfl⟩;refine AD.perm (perm_middle (l₁:=[_,_,_,_])).symm ?_;exact z4
 first|refine at_ rfl (cW (mk:=Op.load 70) rfl ot (lG (k:=3) (j:=2) (d:=aP (some ⟨bi,0,none⟩) p.kids.length ci) (ls:=L) iz rfl rfl rfl isAgg70 hj rX)) ?_|refine at_ rfl (cW (mk:=Op.load 70) rfl ot (lG (k:=4) (j:=2) (d:=aP (some ⟨bi,0,none⟩) p.kids.length ci) (ls:=L) iz rfl rfl rfl isAgg70 hj rX)) ?_
 refine AD.one (i:=5) aC ?_;first|refine at_ rfl (cW (mk:=Op.load 144) rfl ot (lG (k:=3) (j:=1) (d:=aP (some ⟨bk,0,none⟩) p.keys.length ck) (ls:=L) iz rfl rfl rfl isAgg144 hj rX)) ?_|refine at_ rfl (cW (mk:=Op.load 144) rfl ot (lG (k:=4) (j:=1) (d:=aP (some ⟨bk,0,none⟩) p.keys.length ck) (ls:=L) iz rfl rfl rfl isAgg144 hj rX)) ?_
 refine AD.one (i:=9) aC ?_;refine bD.call rfl ap rfl rfl rfl call151 (IZ p.keys (aN (t.pg (aI t k h t.root)) k) ck bk ha dJ yn w4) ⟨ot,ot,ot,trivial⟩ (mN (k:=4) rfl) iP ?_;rintro _ _ ⟨rfl,rfl⟩;refine AD.perm (perm_middle (l₁:=[_,_,_,_])).symm ?_;refine AD.one (i:=17) aC ?_;refine bD.call rfl ap rfl rfl rfl call152 (Qd p.kids (aN (t.pg (aI t k h t.root)) k) ci bi ql fL HL w4) ⟨ot,ot,ot,trivial⟩ (mN (k:=5) rfl) iP ?_;rintro _ _ ⟨rfl,rfl⟩;refine AD.perm (perm_middle (l₁:=[_,_,_,_,_])).symm ?_;refine dj 18 rfl qm ?_;refine dj 19 rfl (dX 1) ?_;refine AD.one (i:=20) aC ?_
 refine bD.storeAt (k:=3) (cs':=flatMap gO (L.set (aI t k h t.root).toNat (⟨{p with keys:=(p.keys.eraseIdx (aN (t.pg (aI t k h t.root)) k))},some ⟨bk,0,none⟩,ck,[⟨bk,90,ck*1,flatMap cK (p.keys.eraseIdx (aN (t.pg (aI t k h t.root)) k))⟩],some ⟨bi,0,none⟩,ci,[⟨bi,3,ci*1,flatMap cI p.kids⟩]⟩:aX))) rfl ap rfl rfl ot rfl rfl ot rfl rfl sizeOf144 rfl (by show 0+(aI t k h t.root).toNat*5+1+1≤(flatMap gO L).length;rw[cz iz];omega) (by show(L.flatMap gO).set (0+(aI t k h t.root).toNat*5+1) _=_;rw[Nat.zero_add];exact wL iz w7 hj (by rw[←ho];show gO (⟨{p with keys:=(p.keys.eraseIdx (aN (t.pg (aI t k h t.root)) k))},some ⟨bk,0,none⟩,ck,[⟨bk,90,ck*1,flatMap cK (p.keys.eraseIdx (aN (t.pg (aI t k h t.root)) k))⟩],some ⟨bi,0,none⟩,ci,[⟨bi,3,ci*1,flatMap cI p.kids⟩]⟩:aX)=(gO (⟨p,some ⟨bk,0,none⟩,ck,[⟨bk,90,ck*1,flatMap cK p.keys⟩],some ⟨bi,0,none⟩,ci,[⟨bi,3,ci*1,flatMap cI p.kids⟩]⟩:aX)).set 1 _;unfold gO;rw[length_eraseIdx_of_lt ha];rfl)) iP ?_;refine fB ?_;refine aH 2 ?_
 refine OD.storeAt (k:=3) (cs':=flatMap gO (L.set (aI t k h t.root).toNat (⟨(kO p (aN (t.pg (aI t k h t.root)) k)),some ⟨bk,0,none⟩,ck,[⟨bk,90,ck*1,flatMap cK (p.keys.eraseIdx (aN (t.pg (aI t k h t.root)) k))⟩],some ⟨bi,0,none⟩,ci,[⟨bi,3,ci*1,flatMap cI (p.kids.eraseIdx (aN (t.pg (aI t k h t.root)) k))⟩]⟩:aX))) ap rfl rfl ot rfl rfl ot rfl rfl sizeOf70 rfl (by show 0+(aI t k h t.root).toNat*5+2+1≤(flatMap gO (L.set (aI t k h t.root).toNat (⟨{p with keys:=(p.keys.eraseIdx (aN (t.pg (aI t k h t.root)) k))},some ⟨bk,0,none⟩,ck,[⟨bk,90,ck*1,flatMap cK (p.keys.eraseIdx (aN (t.pg (aI t k h t.root)) k))⟩],some ⟨bi,0,none⟩,ci,[⟨bi,3,ci*1,flatMap cI p.kids⟩]⟩:aX))).length;rw[cz iz,length_set];omega) (by show(flatMap gO (L.set (aI t k h t.root).toNat (⟨{p with keys:=(p.keys.eraseIdx (aN (t.pg (aI t k h t.root)) k))},some ⟨bk,0,none⟩,ck,[⟨bk,90,ck*1,flatMap cK (p.keys.eraseIdx (aN (t.pg (aI t k h t.root)) k))⟩],some ⟨bi,0,none⟩,ci,[⟨bi,3,ci*1,flatMap cI p.kids⟩]⟩:aX))).set (0+(aI t k h t.root).toNat*5+2) _=_;rw[Nat.zero_add,wL iz (a':=(⟨(kO p (aN (t.pg (aI t k h t.root)) k)),some ⟨bk,0,none⟩,ck,[⟨bk,90,ck*1,flatMap cK (p.keys.eraseIdx (aN (t.pg (aI t k h t.root)) k))⟩],some ⟨bi,0,none⟩,ci,[⟨bi,3,ci*1,flatMap cI (p.kids.eraseIdx (aN (t.pg (aI t k h t.root)) k))⟩]⟩:aX)) w7 yd (by rw[getElem_set_self];show gO (⟨(kO p (aN (t.pg (aI t k h t.root)) k)),some ⟨bk,0,none⟩,ck,[⟨bk,90,ck*1,flatMap cK (p.keys.eraseIdx (aN (t.pg (aI t k h t.root)) k))⟩],some ⟨bi,0,none⟩,ci,[⟨bi,3,ci*1,flatMap cI (p.kids.eraseIdx (aN (t.pg (aI t k h t.root)) k))⟩]⟩:aX)=(gO (⟨{p with keys:=(p.keys.eraseIdx (aN (t.pg (aI t k h t.root)) k))},some ⟨bk,0,none⟩,ck,[⟨bk,90,ck*1,flatMap cK (p.keys.eraseIdx (aN (t.pg (aI t k h t.root)) k))⟩],some ⟨bi,0,none⟩,ci,[⟨bi,3,ci*1,flatMap cI p.kids⟩]⟩:aX)).set 2 _;unfold gO kO;simp only[];rw[length_eraseIdx_of_lt ql];rfl),set_set]) ?_
 have wj:(⟨bk,90,ck*1,flatMap cK (p.keys.eraseIdx (aN (t.pg (aI t k h t.root)) k))⟩::⟨bi,3,ci*1,flatMap cI (p.kids.eraseIdx (aN (t.pg (aI t k h t.root)) k))⟩::((L.eraseIdx (aI t k h t.root).toNat).flatMap bO)).Perm ((L.set (aI t k h t.root).toNat (⟨(kO p (aN (t.pg (aI t k h t.root)) k)),some ⟨bk,0,none⟩,ck,[⟨bk,90,ck*1,flatMap cK (p.keys.eraseIdx (aN (t.pg (aI t k h t.root)) k))⟩],some ⟨bi,0,none⟩,ci,[⟨bi,3,ci*1,flatMap cI (p.kids.eraseIdx (aN (t.pg (aI t k h t.root)) k))⟩]⟩:aX)).flatMap bO):=(zi bO hj (⟨(kO p (aN (t.pg (aI t k h t.root)) k)),some ⟨bk,0,none⟩,ck,[⟨bk,90,ck*1,flatMap cK (p.keys.eraseIdx (aN (t.pg (aI t k h t.root)) k))⟩],some ⟨bi,0,none⟩,ci,[⟨bi,3,ci*1,flatMap cI (p.kids.eraseIdx (aN (t.pg (aI t k h t.root)) k))⟩]⟩:aX)).symm;refine OD.perm (Perm.cons _ (Perm.cons _ (Perm.cons _ (Perm.cons _ wj)))) ?_;refine an 58 [4,7] ?_;refine aB 1 ?_;refine aO 1 [_,_] sizeOf75 ?_;refine an 58 [4,5] ?_
 refine aM ([⟨bx,146,cap*5,flatMap gO (L.set (aI t k h t.root).toNat (⟨(kO p (aN (t.pg (aI t k h t.root)) k)),some ⟨bk,0,none⟩,ck,[⟨bk,90,ck*1,flatMap cK (p.keys.eraseIdx (aN (t.pg (aI t k h t.root)) k))⟩],some ⟨bi,0,none⟩,ci,[⟨bi,3,ci*1,flatMap cI (p.kids.eraseIdx (aN (t.pg (aI t k h t.root)) k))⟩]⟩:aX))⟩]++(L.set (aI t k h t.root).toNat (⟨(kO p (aN (t.pg (aI t k h t.root)) k)),some ⟨bk,0,none⟩,ck,[⟨bk,90,ck*1,flatMap cK (p.keys.eraseIdx (aN (t.pg (aI t k h t.root)) k))⟩],some ⟨bi,0,none⟩,ci,[⟨bi,3,ci*1,flatMap cI (p.kids.eraseIdx (aN (t.pg (aI t k h t.root)) k))⟩]⟩:aX)).flatMap bO) ?_;unfold rN;rw[if_pos hz,if_pos fK];refine⟨_,rfl,L.set (aI t k h t.root).toNat (⟨(kO p (aN (t.pg (aI t k h t.root)) k)),some ⟨bk,0,none⟩,ck,[⟨bk,90,ck*1,flatMap cK (p.keys.eraseIdx (aN (t.pg (aI t k h t.root)) k))⟩],some ⟨bi,0,none⟩,ci,[⟨bi,3,ci*1,flatMap cI (p.kids.eraseIdx (aN (t.pg (aI t k h t.root)) k))⟩]⟩:aX),some ⟨bx,0,none⟩,cap,_,by rw[length_set];rfl,bQ yc ym,fun x hx=>?_,?_,rfl⟩
 ·rcases mem_or_eq_of_mem_set hx with hx|rfl
  ·exact aT x hx
  exact⟨bQ (by show(p.keys.eraseIdx (aN (t.pg (aI t k h t.root)) k)).length≤ck;rw[length_eraseIdx_of_lt ha];omega) yn,bQ (by show(p.kids.eraseIdx (aN (t.pg (aI t k h t.root)) k)).length≤ci;rw[length_eraseIdx_of_lt ql];omega) HL⟩
 rw[map_set,hL];show _=t.ag.set (aI t k h t.root).toNat (kO (t.pg (aI t k h t.root)) (aN (t.pg (aI t k h t.root)) k));rw[←ir]
theorem acy(t:aG)(h:Nat)(k:K)(hb:∀p∈t.ag,p.keys.length≤maxLen∧p.kids.length≤maxLen)(hv:gS t=0→Valid t h):VP Tryz.prog G 113 [.agg (cT t),au 1 cB k] (.dD [.agg (cT (rN t k h).1),ae (rN t k h).2]):=(acw t h k hb hv).cover fun r S hr=>hr.view

def Xh(L:List aX)(b:Nat)(root:Int)(j:Nat)(p:c9)(r:D)(S:List ah):Prop:=r = .dD [.list 1 ((ig p).flatMap cB) (ig p).length,ae (L.length:Nat)]∧∃L' ad cap Sx,uB L' ad cap Sx∧(∀o∈L',rA o)∧L'.map aX.p=(L.map aX.p).set j (eC p L.length)++[cu p]∧S=⟨b,75,2,[aP ad (length L') cap,ae root]⟩::(Sx++L'.flatMap bO)
theorem Qc:(Tryz.prog.info? 146).map (fun i=>(i.zero,i.size,i.bytes))=some (some (.agg #[.bool false,.slice none 0 0,.slice none 0 0,.slice none 0 0,.int .i64 0]),5,88):=by kernel_rfl
theorem aeh(L:List aX)(b:Nat)(root i:Int)(ad:Option Addr)(cap:Nat)(Sx:List ah)(hi:0≤i∧i<L.length)(hn:L.length≤10000)(ey:uB L ad cap Sx)(aT:∀o∈L,rA o)(h5:(L[i.toNat]'w4).p.keys.length=5)(dJ:(L[i.toNat]'w4).p.leaf=true→(L[i.toNat]'w4).p.kids.length=5)(u6:(L[i.toNat]'w4).p.leaf=false→(L[i.toNat]'w4).p.kids.length=6)(Iv:∀k∈(L[i.toNat]'w4).p.keys,k.length≤100)(hh:(L[i.toNat]'w4).p.high.length≤100) :
 VC Tryz.prog G 94 [cZ b,ae i] (⟨b,75,2,[aP ad L.length cap,ae root]⟩::(Sx++L.flatMap bO)) (Xh L b root i.toNat (L[i.toNat]'w4).p):=by
 refine VC.body func94 rfl ntmps94 aQ fun X0 w0 bf=>?_;have c8:=dV;have hj:i.toNat<L.length:=(by omega)
 obtain⟨bx,rfl,gp,ym,rfl⟩:=ey.pos w4;have yH:=aT _ (getElem_mem hj);obtain⟨o,ho⟩:∃o,o=L[i.toNat]:=⟨_,rfl⟩
 rw[←ho] at yH h5 dJ u6 Iv hh ⊢;rcases o with ⟨p,ak,ck,sk,ai,ci,si⟩
 obtain⟨ei,kC⟩:nW p.keys ak ck sk∧nf p.kids ai ci si:=yH;change p.keys.length=5 at h5;change p.leaf=true→p.kids.length=5 at dJ;change p.leaf=false→p.kids.length=6 at u6;change ∀k∈p.keys,k.length≤100 at Iv;change p.high.length≤100 at hh;have Mc:(L.flatMap bO).Perm (sk++(si++((L.eraseIdx i.toNat).flatMap bO))):=(by have:=zD bO hj;rw[←ho] at this;exact this.trans (by rw[show bO ⟨p,ak,ck,sk,ai,ci,si⟩=sk++si from rfl,append_assoc]))
 refine CD.perm (Perm.cons _ (Perm.cons _ Mc)) ?_;have uE:ig p=p.keys[2]'w4:=zO h5;have Zq:(p.keys[2]'w4).length≤100:=Iv _ (getElem_mem _);refine af [0,1] ?_;refine aB 5 ?_;refine bV (dO 5 (h:=by first|exact .l (j:=i.toNat) (Int.toNat_of_nonneg hi.1).symm hj|exact .r (j:=i.toNat) (Int.toNat_of_nonneg hi.1).symm hj)) ?_;refine bV (cW (mk:=Op.load 146) rfl ot (dL (k:=1) (ls:=L) (i:=i.toNat) iz rfl rfl rfl isAgg146 sizeOf146 hj)) ?_;refine OD.alloc (ds:=[_,_,_,_,_]) ap rfl rfl zeroValue146 rfl (fun b6=>?_);refine aO 0 [_,_,_,_,_] sizeOf146 ?_;refine an 98 [0,1,6] ?_;refine CD.seq ?_;refine CD.wk (Wk.cover (A:=⟨b6,146,5,gO L[i.toNat]⟩) (R:=⟨b,75,2,[aP (some ⟨bx,0,none⟩) L.length cap,ae root]⟩::⟨bx,146,cap*5,flatMap gO L⟩::((L.eraseIdx i.toNat).flatMap bO)) (Sd:=sk++si) (cs':=cP p) (Perm.cons _ (Perm.cons _ (Perm.cons _ (by rw[←append_assoc];exact perm_append_comm)))) (by show gU _ (gO L[i.toNat]) _;rw[←ho];exact⟨eW,lU ei (cz gw _) (fun B hB=>mem_append_left _ hB),lU kC (cz eM _) (fun B hB=>mem_append_right _ hB),eW,eW,trivial⟩)) ?_;refine dY 7 ?_;refine OD.alloc (ds:=[_,_,_,_,_]) ap rfl rfl zeroValue146 rfl (fun b7=>?_);refine aO 0 [_,_,_,_,_] sizeOf146 ?_;refine an 98 [0,1,6,7] ?_;refine cM [0,1,6,7,8] ?_
 refine aR 2 ?_ (h:=by exact(o9 (mk:=Op.indexAddr 144) rfl ot bP (by first|exact pU runUnderlying144 sizeOf90 (j:=2) rfl w4|exact pY runUnderlying144 sizeOf90 (j:=2) rfl w4)));refine bH ?_;refine CD.cut (fun aE=>∃(b7:Nat),∃(O:Option Addr),∃(U:Nat),∃(E:List ah),∃(Z:Option Addr),∃(iN:Nat),∃(I:List ah),∃(ju:Option Addr),∃(fh:Nat),∃(je:List ah),(nW (cu p).keys O U E)∧(nf (cu p).kids Z iN I)∧(nf (eC p L.length).kids ju fh je)∧aE=(⟨98,[(0,cZ b),(1,ae i),(6,cZ b6),(7,cZ b7),(8,.list 1 ((ig p).flatMap cB) (ig p).length)],(⟨b7,146,5,[bG p.leaf,aP O (cu p).keys.length U,aP Z (cu p).kids.length iN,au 1 cB p.high,ae p.next]⟩::⟨b6,146,5,[bG p.leaf,au 1 cK p.keys,aP ju (eC p L.length).kids.length fh,au 1 cB p.high,ae p.next]⟩::⟨b,75,2,[aP (some ⟨bx,0,none⟩) L.length cap,ae root]⟩::⟨bx,146,cap*5,flatMap gO L⟩::(je++(I++(E++((L.eraseIdx i.toNat).flatMap bO)))))⟩:St)) ?_ ?_
 ·refine af [0,1,6,7,8,28] ?_;refine av ?_ ?_<;>intro aL bB
  ·have fA:p.leaf=true:=aL;have dJ:=dJ fA;refine CD.cut (fun aE=>∃(O:Option Addr),∃(U:Nat),∃(E:List ah),∃(Z:Option Addr),∃(iN:Nat),∃(I:List ah),(nW (cu p).keys O U E)∧(nf (cu p).kids Z iN I)∧aE=(⟨98,[(0,cZ b),(1,ae i),(6,cZ b6),(7,cZ b7),(8,.list 1 ((ig p).flatMap cB) (ig p).length)],(⟨b7,146,5,[bG p.leaf,aP O (cu p).keys.length U,aP Z (cu p).kids.length iN,au 1 cB p.high,ae p.next]⟩::⟨b6,146,5,[bG p.leaf,au 1 cK p.keys,au 1 cI p.kids,au 1 cB p.high,ae p.next]⟩::⟨b,75,2,[aP (some ⟨bx,0,none⟩) L.length cap,ae root]⟩::⟨bx,146,cap*5,flatMap gO L⟩::(I++(E++((L.eraseIdx i.toNat).flatMap bO))))⟩:St)) ?_ ?_
   ·refine iv 10 (ax (take 2 (drop 1 _))) ?_ (fun _ h=>(Sublist.map _ ((take_sublist _ _).trans (drop_sublist _ _))).subset h);refine aD 0 rfl (dX 1) ?_;refine aD 4 rfl (dX 2) ?_;refine dZ.later rfl ?_;refine AD.two (i:=1) (j:=5) aC ?_ ?_
    ·refine at_ rfl (ee 1) ?_;refine dj 2 rfl (eJ (l:=2) rfl ot ⟨_,bP⟩ trivial HD) ?_;refine AD.two (i:=3) (j:=5) aC ?_ ?_
     ·have CJ:VC Tryz.prog G 140 [.list 1 ((p.keys.drop 2).flatMap cK) (p.keys.drop 2).length] [] (fun r S=>∃ad cap,r=aP ad (cu p).keys.length cap∧nW (cu p).keys ad cap S):=(by rw[show(p.keys.drop 2)=(cu p).keys from v7];exact wP _ NC)
      refine bD.call rfl ap rfl rfl rfl call140 CJ ⟨ot,trivial⟩ (fg _) iP ?_;rintro _ Es ⟨Et,Eu,rfl,Dg⟩;refine AD.perm (kp (A:=[_,_,_,_])) ?_;refine dj 8 rfl (dX 1) ?_;refine AD.one (i:=5) aC ?_;refine at_ rfl (ee 1) ?_;refine dj 6 rfl (eJ (l:=2) rfl ot ⟨_,bP⟩ trivial AO) ?_;refine AD.one (i:=7) aC ?_;have CK:VC Tryz.prog G 131 [.list 1 ((p.kids.drop 2).flatMap cI) (p.kids.drop 2).length] [] (fun r S=>∃ad cap,r=aP ad (cu p).kids.length cap∧nf (cu p).kids ad cap S):=(by rw[show(p.kids.drop 2)=(cu p).kids from vZ];exact rD _ NA)
      refine bD.call rfl ap rfl rfl rfl call131 CK ⟨ot,trivial⟩ (fg _) iP ?_;rintro _ Ev ⟨Ew,Ey,rfl,Dh⟩;refine AD.perm (kp (A:=[_,_,_,_])) ?_;refine AD.one (i:=9) aC ?_;refine er 0 [_,_,_,_,_] sizeOf144 ?_;refine fB ?_;refine aH 1 ?_;refine aO 0 [_,_,_,_,_] sizeOf70 ?_;refine an 98 [0,1,6,7,8] ?_;refine⟨_,(aJ (h:=by repeat (first|exact trivial|refine⟨w8,?_⟩))),Et,Eu,Es,Ew,Ey,Ev,Dg,Dh,rfl⟩
     refine at_ rfl (ee 1) ?_;refine dj 6 rfl (eJ (l:=2) rfl ot ⟨_,bP⟩ trivial AO) ?_;refine AD.one (i:=3) aC ?_;have CJ:VC Tryz.prog G 140 [.list 1 ((p.keys.drop 2).flatMap cK) (p.keys.drop 2).length] [] (fun r S=>∃ad cap,r=aP ad (cu p).keys.length cap∧nW (cu p).keys ad cap S):=(by rw[show(p.keys.drop 2)=(cu p).keys from v7];exact wP _ NC)
     refine bD.call rfl ap rfl rfl rfl call140 CJ ⟨ot,trivial⟩ (fg _) iP ?_;rintro _ Es ⟨Et,Eu,rfl,Dg⟩;refine AD.perm (kp (A:=[_,_,_,_])) ?_;refine dj 8 rfl (dX 1) ?_;refine AD.one (i:=7) aC ?_;have CK:VC Tryz.prog G 131 [.list 1 ((p.kids.drop 2).flatMap cI) (p.kids.drop 2).length] [] (fun r S=>∃ad cap,r=aP ad (cu p).kids.length cap∧nf (cu p).kids ad cap S):=(by rw[show(p.kids.drop 2)=(cu p).kids from vZ];exact rD _ NA)
     refine bD.call rfl ap rfl rfl rfl call131 CK ⟨ot,trivial⟩ (fg _) iP ?_;rintro _ Ev ⟨Ew,Ey,rfl,Dh⟩;refine AD.perm (kp (A:=[_,_,_,_])) ?_;refine AD.one (i:=9) aC ?_;refine er 0 [_,_,_,_,_] sizeOf144 ?_;refine fB ?_;refine aH 1 ?_;refine aO 0 [_,_,_,_,_] sizeOf70 ?_;refine an 98 [0,1,6,7,8] ?_;refine⟨_,(aJ (h:=by repeat (first|exact trivial|refine⟨w8,?_⟩))),Et,Eu,Es,Ew,Ey,Ev,Dg,Dh,rfl⟩
    refine at_ rfl (ee 1) ?_;refine dj 6 rfl (eJ (l:=2) rfl ot ⟨_,bP⟩ trivial AO) ?_;refine AD.one (i:=1) aC ?_;refine at_ rfl (ee 1) ?_;refine dj 2 rfl (eJ (l:=2) rfl ot ⟨_,bP⟩ trivial HD) ?_;refine AD.one (i:=3) aC ?_;have CJ:VC Tryz.prog G 140 [.list 1 ((p.keys.drop 2).flatMap cK) (p.keys.drop 2).length] [] (fun r S=>∃ad cap,r=aP ad (cu p).keys.length cap∧nW (cu p).keys ad cap S):=(by rw[show(p.keys.drop 2)=(cu p).keys from v7];exact wP _ NC)
    refine bD.call rfl ap rfl rfl rfl call140 CJ ⟨ot,trivial⟩ (fg _) iP ?_;rintro _ Es ⟨Et,Eu,rfl,Dg⟩;refine AD.perm (kp (A:=[_,_,_,_])) ?_;refine dj 8 rfl (dX 1) ?_;refine AD.one (i:=7) aC ?_;have CK:VC Tryz.prog G 131 [.list 1 ((p.kids.drop 2).flatMap cI) (p.kids.drop 2).length] [] (fun r S=>∃ad cap,r=aP ad (cu p).kids.length cap∧nf (cu p).kids ad cap S):=(by rw[show(p.kids.drop 2)=(cu p).kids from vZ];exact rD _ NA)
    refine bD.call rfl ap rfl rfl rfl call131 CK ⟨ot,trivial⟩ (fg _) iP ?_;rintro _ Ev ⟨Ew,Ey,rfl,Dh⟩;refine AD.perm (kp (A:=[_,_,_,_])) ?_;refine AD.one (i:=9) aC ?_;refine er 0 [_,_,_,_,_] sizeOf144 ?_;refine fB ?_;refine aH 1 ?_;refine aO 0 [_,_,_,_,_] sizeOf70 ?_;refine an 98 [0,1,6,7,8] ?_;refine⟨_,(aJ (h:=by repeat (first|exact trivial|refine⟨w8,?_⟩))),Et,Eu,Es,Ew,Ey,Ev,Dg,Dh,rfl⟩
   rintro _ ⟨O,U,E,Z,iN,I,qZ,Di,rfl⟩;refine dY 2 ?_;refine bV (eJ (l:=0) (h:=2) rfl ot trivial ⟨_,bP⟩ (by first|exact nS gw (fun h=>by cases h) runUnderlying70 sizeOf3 w4|exact nS eM (fun h=>by cases h) runUnderlying70 sizeOf3 w4|exact nx (fun h=>by cases h) runUnderlying70 sizeOf3 w4|exact mO (fun _=>rfl) (fun h=>by cases h) runUnderlying70 sizeOf3 w4 w4)) ?_;have ai3:VC Tryz.prog G 131 [.list 1 ((p.kids.take 2).flatMap cI) (p.kids.take 2).length] [] (fun r S=>∃ad cap,r=aP ad (eC p L.length).kids.length cap∧nf (eC p L.length).kids ad cap S):=(by rw[show(p.kids.take 2)=(eC p L.length).kids from HB];exact rD _ (by rw[←show(p.kids.take 2)=(eC p L.length).kids from HB];simp only[length_take,length_drop];omega))
   refine OD.call ap rfl rfl rfl call131 ai3 ⟨ot,trivial⟩ (fg _) ?_;rintro _ S42 ⟨a42,c42,rfl,alB⟩;refine OD.perm (kp (A:=[_,_,_,_])) ?_;refine aH 1 ?_;refine aO 1 [_,_,_,_,_] sizeOf70 ?_;refine an 98 [0,1,6,7,8] ?_;refine⟨_,(aJ (h:=by repeat (first|exact trivial|refine⟨w8,?_⟩))),b7,O,U,E,Z,iN,I,a42,c42,S42,qZ,Di,alB,rfl⟩
  have fA:p.leaf=false:=aL;have u6:=u6 fA;refine CD.cut (fun aE=>∃(O:Option Addr),∃(U:Nat),∃(E:List ah),∃(Z:Option Addr),∃(iN:Nat),∃(I:List ah),(nW (cu p).keys O U E)∧(nf (cu p).kids Z iN I)∧aE=(⟨98,[(0,cZ b),(1,ae i),(6,cZ b6),(7,cZ b7),(8,.list 1 ((ig p).flatMap cB) (ig p).length)],(⟨b7,146,5,[bG p.leaf,aP O (cu p).keys.length U,aP Z (cu p).kids.length iN,au 1 cB p.high,ae p.next]⟩::⟨b6,146,5,[bG p.leaf,au 1 cK p.keys,au 1 cI p.kids,au 1 cB p.high,ae p.next]⟩::⟨b,75,2,[aP (some ⟨bx,0,none⟩) L.length cap,ae root]⟩::⟨bx,146,cap*5,flatMap gO L⟩::(I++(E++((L.eraseIdx i.toNat).flatMap bO))))⟩:St)) ?_ ?_
  ·refine iv 10 (ax (take 2 (drop 1 _))) ?_ (fun _ h=>(Sublist.map _ ((take_sublist _ _).trans (drop_sublist _ _))).subset h);refine aD 0 rfl (dX 1) ?_;refine aD 4 rfl (dX 2) ?_;refine dZ.later rfl ?_;refine AD.two (i:=1) (j:=5) aC ?_ ?_
   ·refine at_ rfl (ee 1) ?_;refine dj 2 rfl (eJ (l:=3) rfl ot ⟨_,bP⟩ trivial HD) ?_;refine AD.two (i:=3) (j:=5) aC ?_ ?_
    ·have CL:VC Tryz.prog G 140 [.list 1 ((p.keys.drop 3).flatMap cK) (p.keys.drop 3).length] [] (fun r S=>∃ad cap,r=aP ad (cu p).keys.length cap∧nW (cu p).keys ad cap S):=(by rw[show(p.keys.drop 3)=(cu p).keys from v7];exact wP _ NB)
     refine bD.call rfl ap rfl rfl rfl call140 CL ⟨ot,trivial⟩ (fg _) iP ?_;rintro _ Ez ⟨EA,EB,rfl,Dj⟩;refine AD.perm (kp (A:=[_,_,_,_])) ?_;refine dj 8 rfl (dX 1) ?_;refine AD.one (i:=5) aC ?_;refine at_ rfl (ee 1) ?_;refine dj 6 rfl (eJ (l:=3) rfl ot ⟨_,bP⟩ trivial AO) ?_;refine AD.one (i:=7) aC ?_;have CM:VC Tryz.prog G 131 [.list 1 ((p.kids.drop 3).flatMap cI) (p.kids.drop 3).length] [] (fun r S=>∃ad cap,r=aP ad (cu p).kids.length cap∧nf (cu p).kids ad cap S):=(by rw[show(p.kids.drop 3)=(cu p).kids from vZ];exact rD _ Nz)
     refine bD.call rfl ap rfl rfl rfl call131 CM ⟨ot,trivial⟩ (fg _) iP ?_;rintro _ EC ⟨a51,ED,rfl,Dk⟩;refine AD.perm (kp (A:=[_,_,_,_])) ?_;refine AD.one (i:=9) aC ?_;refine er 0 [_,_,_,_,_] sizeOf144 ?_;refine fB ?_;refine aH 1 ?_;refine aO 0 [_,_,_,_,_] sizeOf70 ?_;refine an 98 [0,1,6,7,8] ?_;refine⟨_,(aJ (h:=by repeat (first|exact trivial|refine⟨w8,?_⟩))),EA,EB,Ez,a51,ED,EC,Dj,Dk,rfl⟩
    refine at_ rfl (ee 1) ?_;refine dj 6 rfl (eJ (l:=3) rfl ot ⟨_,bP⟩ trivial AO) ?_;refine AD.one (i:=3) aC ?_;have CL:VC Tryz.prog G 140 [.list 1 ((p.keys.drop 3).flatMap cK) (p.keys.drop 3).length] [] (fun r S=>∃ad cap,r=aP ad (cu p).keys.length cap∧nW (cu p).keys ad cap S):=(by rw[show(p.keys.drop 3)=(cu p).keys from v7];exact wP _ NB)
    refine bD.call rfl ap rfl rfl rfl call140 CL ⟨ot,trivial⟩ (fg _) iP ?_;rintro _ Ez ⟨EA,EB,rfl,Dj⟩;refine AD.perm (kp (A:=[_,_,_,_])) ?_;refine dj 8 rfl (dX 1) ?_;refine AD.one (i:=7) aC ?_;have CM:VC Tryz.prog G 131 [.list 1 ((p.kids.drop 3).flatMap cI) (p.kids.drop 3).length] [] (fun r S=>∃ad cap,r=aP ad (cu p).kids.length cap∧nf (cu p).kids ad cap S):=(by rw[show(p.kids.drop 3)=(cu p).kids from vZ];exact rD _ Nz)
    refine bD.call rfl ap rfl rfl rfl call131 CM ⟨ot,trivial⟩ (fg _) iP ?_;rintro _ EC ⟨a51,ED,rfl,Dk⟩;refine AD.perm (kp (A:=[_,_,_,_])) ?_;refine AD.one (i:=9) aC ?_;refine er 0 [_,_,_,_,_] sizeOf144 ?_;refine fB ?_;refine aH 1 ?_;refine aO 0 [_,_,_,_,_] sizeOf70 ?_;refine an 98 [0,1,6,7,8] ?_;refine⟨_,(aJ (h:=by repeat (first|exact trivial|refine⟨w8,?_⟩))),EA,EB,Ez,a51,ED,EC,Dj,Dk,rfl⟩
   refine at_ rfl (ee 1) ?_;refine dj 6 rfl (eJ (l:=3) rfl ot ⟨_,bP⟩ trivial AO) ?_;refine AD.one (i:=1) aC ?_;refine at_ rfl (ee 1) ?_;refine dj 2 rfl (eJ (l:=3) rfl ot ⟨_,bP⟩ trivial HD) ?_;refine AD.one (i:=3) aC ?_;have CL:VC Tryz.prog G 140 [.list 1 ((p.keys.drop 3).flatMap cK) (p.keys.drop 3).length] [] (fun r S=>∃ad cap,r=aP ad (cu p).keys.length cap∧nW (cu p).keys ad cap S):=(by rw[show(p.keys.drop 3)=(cu p).keys from v7];exact wP _ NB)
   refine bD.call rfl ap rfl rfl rfl call140 CL ⟨ot,trivial⟩ (fg _) iP ?_;rintro _ Ez ⟨EA,EB,rfl,Dj⟩;refine AD.perm (kp (A:=[_,_,_,_])) ?_;refine dj 8 rfl (dX 1) ?_;refine AD.one (i:=7) aC ?_;have CM:VC Tryz.prog G 131 [.list 1 ((p.kids.drop 3).flatMap cI) (p.kids.drop 3).length] [] (fun r S=>∃ad cap,r=aP ad (cu p).kids.length cap∧nf (cu p).kids ad cap S):=(by rw[show(p.kids.drop 3)=(cu p).kids from vZ];exact rD _ Nz)
   refine bD.call rfl ap rfl rfl rfl call131 CM ⟨ot,trivial⟩ (fg _) iP ?_;rintro _ EC ⟨a51,ED,rfl,Dk⟩;refine AD.perm (kp (A:=[_,_,_,_])) ?_;refine AD.one (i:=9) aC ?_;refine er 0 [_,_,_,_,_] sizeOf144 ?_;refine fB ?_;refine aH 1 ?_;refine aO 0 [_,_,_,_,_] sizeOf70 ?_;refine an 98 [0,1,6,7,8] ?_;refine⟨_,(aJ (h:=by repeat (first|exact trivial|refine⟨w8,?_⟩))),EA,EB,Ez,a51,ED,EC,Dj,Dk,rfl⟩
  rintro _ ⟨O,U,E,Z,iN,I,qZ,Di,rfl⟩;refine dY 2 ?_;refine bV (eJ (l:=0) (h:=3) rfl ot trivial ⟨_,bP⟩ (by first|exact nS gw (fun h=>by cases h) runUnderlying70 sizeOf3 w4|exact nS eM (fun h=>by cases h) runUnderlying70 sizeOf3 w4|exact nx (fun h=>by cases h) runUnderlying70 sizeOf3 w4|exact mO (fun _=>rfl) (fun h=>by cases h) runUnderlying70 sizeOf3 w4 w4)) ?_;have ai4:VC Tryz.prog G 131 [.list 1 ((p.kids.take 3).flatMap cI) (p.kids.take 3).length] [] (fun r S=>∃ad cap,r=aP ad (eC p L.length).kids.length cap∧nf (eC p L.length).kids ad cap S):=(by rw[show(p.kids.take 3)=(eC p L.length).kids from HB];exact rD _ (by rw[←show(p.kids.take 3)=(eC p L.length).kids from HB];simp only[length_take,length_drop];omega))
  refine OD.call ap rfl rfl rfl call131 ai4 ⟨ot,trivial⟩ (fg _) ?_;rintro _ Ii ⟨a57,c57,rfl,He⟩;refine OD.perm (kp (A:=[_,_,_,_])) ?_;refine aH 1 ?_;refine aO 1 [_,_,_,_,_] sizeOf70 ?_;refine an 98 [0,1,6,7,8] ?_;refine⟨_,(aJ (h:=by repeat (first|exact trivial|refine⟨w8,?_⟩))),b7,O,U,E,Z,iN,I,a57,c57,Ii,qZ,Di,He,rfl⟩
 rintro _ ⟨b7,O,U,E,Z,iN,I,ju,fh,je,qZ,Di,alC,rfl⟩;refine aB 2 ?_;refine bV (eJ (l:=0) (h:=2) rfl ot trivial ⟨_,bP⟩ (by first|exact nS gw (fun h=>by cases h) runUnderlying144 sizeOf90 w4|exact nS eM (fun h=>by cases h) runUnderlying144 sizeOf90 w4|exact nx (fun h=>by cases h) runUnderlying144 sizeOf90 w4|exact mO (fun _=>rfl) (fun h=>by cases h) runUnderlying144 sizeOf90 w4 w4)) ?_;have ai5:VC Tryz.prog G 140 [.list 1 ((p.keys.take 2).flatMap cK) (p.keys.take 2).length] [] (fun r S=>∃ad cap,r=aP ad (eC p L.length).keys.length cap∧nW (eC p L.length).keys ad cap S):=(by rw[show(p.keys.take 2)=(eC p L.length).keys from rfl];exact wP _ (by rw[←show(p.keys.take 2)=(eC p L.length).keys from rfl];simp only[length_take,length_drop];omega))
 refine OD.call ap rfl rfl rfl call140 ai5 ⟨ot,trivial⟩ (fg _) ?_;rintro _ jI ⟨jX,jY,rfl,alD⟩;refine OD.perm (kp (A:=[_,_,_,_])) ?_;refine aH 1 ?_;refine aO 1 [_,_,_,_,_] sizeOf144 ?_;refine an 98 [0,1,6,7,8] ?_;refine CD.cut (fun aE=>(True)∧aE=(⟨98,[(0,cZ b),(1,ae i),(6,cZ b6),(7,cZ b7),(8,.list 1 ((ig p).flatMap cB) (ig p).length)],(⟨b7,146,5,[bG p.leaf,aP O (cu p).keys.length U,aP Z (cu p).kids.length iN,au 1 cB p.high,ae p.next]⟩::⟨b6,146,5,[bG p.leaf,aP jX (eC p L.length).keys.length jY,aP ju (eC p L.length).kids.length fh,.list 1 ((ig p).flatMap cB) (ig p).length,ae (L.length:Nat)]⟩::⟨b,75,2,[aP (some ⟨bx,0,none⟩) L.length cap,ae root]⟩::⟨bx,146,cap*5,flatMap gO L⟩::(jI++(je++(I++(E++((L.eraseIdx i.toNat).flatMap bO))))))⟩:St)) ?_ ?_
 ·refine iv 9 (ax (take 1 (drop 0 _))) ?_ (fun _ h=>(Sublist.map _ ((take_sublist _ _).trans (drop_sublist _ _))).subset h);refine aD 0 rfl bI ?_;refine aD 2 rfl bI ?_;refine aD 3 rfl qm ?_;refine aD 4 rfl (dX 0) ?_;refine dZ.later rfl ?_;refine AD.two (i:=1) (j:=5) aC ?_ ?_
  ·refine qq call90 (mq (ig p) (by rw[uE];omega)) ?_;refine dj 7 rfl (dX 3) ?_;refine AD.two (i:=5) (j:=8) aC ?_ ?_
   ·refine at_ rfl (ee 2) ?_;refine dj 6 rfl yy ?_;refine AD.one (i:=8) aC ?_;refine er 1 [_,_,_,_,_] sizeOf90 ?_;refine fB ?_;refine aH 1 ?_;refine aO 1 [_,_,_,_,_] sizeOf3 ?_;refine an 98 [0,1,6,7,8] ?_;refine⟨_,(aJ (h:=by repeat (first|exact trivial|refine⟨w8,?_⟩))),trivial,rfl⟩
   refine er 1 [_,_,_,_,_] sizeOf90 ?_;refine AD.one (i:=5) aC ?_;refine at_ rfl (ee 2) ?_;refine dj 6 rfl yy ?_;refine fB ?_;refine aH 1 ?_;refine aO 1 [_,_,_,_,_] sizeOf3 ?_;refine an 98 [0,1,6,7,8] ?_;refine⟨_,(aJ (h:=by repeat (first|exact trivial|refine⟨w8,?_⟩))),trivial,rfl⟩
  refine at_ rfl (ee 2) ?_;refine dj 6 rfl yy ?_;refine AD.one (i:=1) aC ?_;refine qq call90 (mq (ig p) (by rw[uE];omega)) ?_;refine dj 7 rfl (dX 3) ?_;refine AD.one (i:=8) aC ?_;refine er 1 [_,_,_,_,_] sizeOf90 ?_;refine fB ?_;refine aH 1 ?_;refine aO 1 [_,_,_,_,_] sizeOf3 ?_;refine an 98 [0,1,6,7,8] ?_;refine⟨_,(aJ (h:=by repeat (first|exact trivial|refine⟨w8,?_⟩))),trivial,rfl⟩
 rintro _ ⟨_,rfl⟩;refine CD.seq ?_;refine mE 6 [0,7,8,76,77,78] ?_;refine bH ?_;refine bV (dO 5 (h:=by first|exact .l (j:=i.toNat) (Int.toNat_of_nonneg hi.1).symm hj|exact .r (j:=i.toNat) (Int.toNat_of_nonneg hi.1).symm hj)) ?_;refine OD.storeAt (k:=3) (cs':=flatMap gO (L.set i.toNat (⟨eC p L.length,jX,jY,jI,ju,fh,je⟩:aX))) ap rfl rfl ot rfl rfl ot rfl rfl sizeOf146 rfl (by show 0+i.toNat*5+5≤(flatMap gO L).length;rw[cz iz];omega) (by show dm (L.flatMap gO) (0+i.toNat*5) (gO (⟨eC p L.length,jX,jY,jI,ju,fh,je⟩:aX))=_;rw[Nat.zero_add];exact pi iz L (⟨eC p L.length,jX,jY,jI,ju,fh,je⟩:aX) hj) ?_;refine an 98 [0,7,8] ?_
 refine CD.cut (fun aE=>∃(pN:Nat),∃(oL:Nat),(((L.set i.toNat (⟨eC p L.length,jX,jY,jI,ju,fh,je⟩:aX))++[(⟨cu p,O,U,E,Z,iN,I⟩:aX)]).length≤oL)∧(oL≤maxLen)∧aE=(⟨98,[(0,cZ b),(8,.list 1 ((ig p).flatMap cB) (ig p).length)],(⟨pN,146,oL*5,flatMap gO ((L.set i.toNat (⟨eC p L.length,jX,jY,jI,ju,fh,je⟩:aX))++[(⟨cu p,O,U,E,Z,iN,I⟩:aX)])⟩::⟨b7,146,5,[bG p.leaf,aP O (cu p).keys.length U,aP Z (cu p).kids.length iN,au 1 cB p.high,ae p.next]⟩::⟨b6,146,5,[bG p.leaf,aP jX (eC p L.length).keys.length jY,aP ju (eC p L.length).kids.length fh,.list 1 ((ig p).flatMap cB) (ig p).length,ae (L.length:Nat)]⟩::⟨b,75,2,[aP (some ⟨pN,0,none⟩) ((L.set i.toNat (⟨eC p L.length,jX,jY,jI,ju,fh,je⟩:aX))++[(⟨cu p,O,U,E,Z,iN,I⟩:aX)]).length oL,ae root]⟩::(jI++(je++(I++(E++((L.eraseIdx i.toNat).flatMap bO))))))⟩:St)) ?_ ?_
 ·refine iv 8 (ax (take 2 _)) ?_ (fun _ h=>(Sublist.map _ (take_sublist _ _)).subset h);refine aD 0 rfl bI ?_;refine aD 1 rfl bI ?_;refine aD 2 rfl qm ?_;refine aD 3 rfl (dX 0) ?_;refine aD 5 rfl (Mm 0 [_,_,_,_,_]) ?_;refine dZ.later rfl ?_;refine AD.two (i:=4) (j:=6) aC ?_ ?_
  ·refine at_ rfl (cW (mk:=Op.load 73) rfl ot (zL (k:=2) (d:=aP (some ⟨bx,0,none⟩) (L.set i.toNat (⟨eC p L.length,jX,jY,jI,ju,fh,je⟩:aX)).length cap) rfl rfl isAgg73 (by rw[length_set];rfl))) ?_;refine AD.one (i:=6) aC ?_;refine nJ (cq 0 [_]) [.bool false,.slice none 0 0,.slice none 0 0,.slice none 0 0,.int .i64 0] [_,_,_,_,_] zeroValue146 runUnderlying73 sizeOf146 (fun b86=>?_);refine nK 0 86 5 1 ?_;refine AD.one (i:=7) aC ?_;refine bD.eL (ls:=(L.set i.toNat (⟨eC p L.length,jX,jY,jI,ju,fh,je⟩:aX))) (new:=[(⟨cu p,O,U,E,Z,iN,I⟩:aX)]) (Sq:=[⟨bx,146,cap*5,flatMap gO (L.set i.toNat (⟨eC p L.length,jX,jY,jI,ju,fh,je⟩:aX))⟩]) iz Ga rfl ap rfl rfl underlying73 Qc rfl w7 ot (bQ yc ym) (mN (k:=3) rfl) ot bj (by simp only[maxLen,length_set,length_cons,length_nil] at *;omega) (by simp only[length_set,length_cons,length_nil] at *;omega) (hT:=by intro x0 fO;have fO:x0∈[b7,b6]:=fO;show x0∈(b7::b6::_:List Nat);simp only[mem_cons,not_mem_nil,or_false] at fO ⊢;omega) (fun pN oL Dl Dm=>?_);refine fB ?_;refine aH 2 ?_;refine aO 3 [_,_] sizeOf73 ?_;refine an 98 [0,8] ?_;refine⟨_,(aJ (h:=by repeat (first|exact trivial|refine⟨w8,?_⟩))),pN,oL,Dl,Dm,rfl⟩
  refine nJ (cq 0 [_]) [.bool false,.slice none 0 0,.slice none 0 0,.slice none 0 0,.int .i64 0] [_,_,_,_,_] zeroValue146 runUnderlying73 sizeOf146 (fun b86=>?_);refine nK 0 86 5 1 ?_;refine AD.one (i:=4) aC ?_;refine at_ rfl (cW (mk:=Op.load 73) rfl ot (zL (k:=2) (d:=aP (some ⟨bx,0,none⟩) (L.set i.toNat (⟨eC p L.length,jX,jY,jI,ju,fh,je⟩:aX)).length cap) rfl rfl isAgg73 (by rw[length_set];rfl))) ?_;refine AD.one (i:=7) aC ?_;refine bD.eL (ls:=(L.set i.toNat (⟨eC p L.length,jX,jY,jI,ju,fh,je⟩:aX))) (new:=[(⟨cu p,O,U,E,Z,iN,I⟩:aX)]) (Sq:=[⟨bx,146,cap*5,flatMap gO (L.set i.toNat (⟨eC p L.length,jX,jY,jI,ju,fh,je⟩:aX))⟩]) iz Ga rfl ap rfl rfl underlying73 Qc rfl w7 ot (bQ yc ym) (mN (k:=3) rfl) ot bj (by simp only[maxLen,length_set,length_cons,length_nil] at *;omega) (by simp only[length_set,length_cons,length_nil] at *;omega) (hT:=by intro x0 fO;have fO:x0∈[b7,b6]:=fO;show x0∈(b7::b6::_:List Nat);simp only[mem_cons,not_mem_nil,or_false] at fO ⊢;omega) (fun pN oL Dl Dm=>?_);refine fB ?_;refine aH 2 ?_;refine aO 3 [_,_] sizeOf73 ?_;refine an 98 [0,8] ?_;refine⟨_,(aJ (h:=by repeat (first|exact trivial|refine⟨w8,?_⟩))),pN,oL,Dl,Dm,rfl⟩
 rintro _ ⟨pN,oL,Dl,Dm,rfl⟩;refine CD.seq ?_;refine iv 9 (ax _) ?_ (fun _ h=>h);refine aD 0 rfl bI ?_;refine aD 2 rfl bI ?_;refine aD 3 rfl qm ?_;refine aD 4 rfl (dX 0) ?_;refine aD 5 rfl (ee 3) ?_;refine aD 6 rfl yy ?_;refine aD 7 rfl (dA (r:=.int .i64 (L.length:Nat)) rfl ot bP (iy (by rw[length_append,length_set];exact(show IntKind.wrap .i64 (((L.length+[(⟨cu p,O,U,E,Z,iN,I⟩:aX)].length:Nat):Int)-1)=_ from by rw[show(((L.length+[(⟨cu p,O,U,E,Z,iN,I⟩:aX)].length:Nat):Int)-1)=(L.length:Int) from by simp];exact wrap_i64 w4 w4)))) ?_;refine dZ.later rfl ?_;refine AD.one (i:=1) aC ?_;refine qq call90 (mq (ig p) (by rw[uE];omega)) ?_;have uS:(jI++(je++(I++(E++((L.eraseIdx i.toNat).flatMap bO))))).Perm (((L.set i.toNat (⟨eC p L.length,jX,jY,jI,ju,fh,je⟩:aX))++[(⟨cu p,O,U,E,Z,iN,I⟩:aX)]).flatMap bO):=jS fun mD=>by have hq:=adb (zi bO hj (⟨eC p L.length,jX,jY,jI,ju,fh,je⟩:aX)) mD;rw[flatMap_append,show[(⟨cu p,O,U,E,Z,iN,I⟩:aX)].flatMap bO=E++(I++[]) from by simp[bO]];simp only[show bO (⟨eC p L.length,jX,jY,jI,ju,fh,je⟩:aX)=jI++je from rfl,map_append,map_cons,map_nil,sum_append,sum_cons,sum_nil] at *;omega
 refine AD.perm (S':=⟨b7,146,5,gO (⟨cu p,O,U,E,Z,iN,I⟩:aX)⟩::⟨b6,146,5,gO (⟨eC p L.length,jX,jY,jI,ju,fh,je⟩:aX)⟩::⟨b,75,2,[aP (some ⟨pN,0,none⟩) ((L.set i.toNat (⟨eC p L.length,jX,jY,jI,ju,fh,je⟩:aX))++[(⟨cu p,O,U,E,Z,iN,I⟩:aX)]).length oL,ae root]⟩::(([⟨pN,146,oL*5,flatMap gO ((L.set i.toNat (⟨eC p L.length,jX,jY,jI,ju,fh,je⟩:aX))++[(⟨cu p,O,U,E,Z,iN,I⟩:aX)])⟩]:List ah)++((L.set i.toNat (⟨eC p L.length,jX,jY,jI,ju,fh,je⟩:aX))++[(⟨cu p,O,U,E,Z,iN,I⟩:aX)]).flatMap bO)) (by exact(perm_middle (l₁:=[_,_,_])).symm.trans (Perm.cons _ (Perm.cons _ (Perm.cons _ (Perm.cons _ uS))))) ?_;refine dj 8 rfl bI ?_;refine fB ?_;refine bp [4,5] ?_;refine aM (⟨b,75,2,[aP (some ⟨pN,0,none⟩) ((L.set i.toNat (⟨eC p L.length,jX,jY,jI,ju,fh,je⟩:aX))++[(⟨cu p,O,U,E,Z,iN,I⟩:aX)]).length oL,ae root]⟩::([⟨pN,146,oL*5,flatMap gO ((L.set i.toNat (⟨eC p L.length,jX,jY,jI,ju,fh,je⟩:aX))++[(⟨cu p,O,U,E,Z,iN,I⟩:aX)])⟩]++((L.set i.toNat (⟨eC p L.length,jX,jY,jI,ju,fh,je⟩:aX))++[(⟨cu p,O,U,E,Z,iN,I⟩:aX)]).flatMap bO)) ?_
 refine⟨rfl,((L.set i.toNat (⟨eC p L.length,jX,jY,jI,ju,fh,je⟩:aX))++[(⟨cu p,O,U,E,Z,iN,I⟩:aX)]),some ⟨pN,0,none⟩,oL,[⟨pN,146,oL*5,flatMap gO ((L.set i.toNat (⟨eC p L.length,jX,jY,jI,ju,fh,je⟩:aX))++[(⟨cu p,O,U,E,Z,iN,I⟩:aX)])⟩],bQ Dl Dm,fun x hx=>?_,?_,rfl⟩
 ·rcases mem_append.1 hx with hx|hx
  ·rcases mem_or_eq_of_mem_set hx with hx|rfl
   ·exact aT x hx
   exact⟨alD,alC⟩
  rw[mem_singleton] at hx;subst hx;exact⟨qZ,Di⟩
 rw[map_append,map_set];rfl

def iH(q:List α)(i:Nat)(a:α):List α:=q.take i++a::q.drop i
theorem zq{q:List α}{a:α}(hi:i≤q.length):(iH q i a).length=q.length+1:=by unfold iH;rw[length_append,length_take,length_cons,length_drop];omega
theorem Tc{q:List α}{a:α}:iH q q.length a=q++[a]:=by unfold iH;rw[take_length,drop_length]
theorem Fk{g:α→List D}(hg:∀a,(g a).length=1){q:List α}{a:α}:(iH q i a).flatMap g=(q.flatMap g).take i++(g a++(q.flatMap g).drop i):=by
 have h1:=ug hg q i;have h2:=vp hg q i;rw[Nat.mul_one] at h1 h2;unfold iH;rw[flatMap_append,flatMap_cons,h1,h2]
theorem E6{A ds:List D}{off:Nat}(hA:A.length=off)(hl:ds.length≤J.length):dm (A++J) off ds=A++(ds++J.drop ds.length):=by
 rw[wM _ _ _ v8,take_left' hA,append_assoc,←drop_drop,drop_left' hA]
theorem Td{T R c:List D}(hT:T.length=i)(hc:c.length=1)(E:R.length+1≤J.length):T++(c++R) <+: dm (dm (T++J) i c) (i+1) R:=by
 rw[E6 hT w4,show T++(c++J.drop c.length)=(T++c)++J.drop c.length from(append_assoc _ _ _).symm,E6 (A:=T++c) v8 Dy];exact⟨_,by simp only[append_assoc];rfl⟩
theorem UD{T R c:List D}(hT:T.length=i)(hc:c.length=1)(O:1≤J.length):T++(c++R) <+: dm (dm ((T++R)++J) (i+1) R) i c:=by
 obtain⟨E,I,hX,h1⟩:∃E I,R++J=E++I∧E.length=1:=⟨(R++J).take 1,(R++J).drop 1,(take_append_drop 1 _).symm,by rw[length_take,length_append];omega⟩
 have h2:R.length≤I.length:=(by have:=congrArg length hX;rw[length_append,length_append] at this;omega)
 have e1:(T++R)++J=(T++E)++I:=(by rw[append_assoc,hX,←append_assoc])
 have e2:(T++E)++(R++I.drop R.length)=T++(E++(R++I.drop R.length)):=append_assoc _ _ _;rw[e1,E6 (A:=T++E) v8 h2,e2,E6 hT v8,drop_left' w4];exact⟨I.drop R.length,by simp only[append_assoc]⟩
theorem qI(n:Nat)(x:α):(replicate n x).length=n:=length_replicate
theorem ER:(Tryz.prog.info? 90).map (fun i=>i.size)=some 1:=by kernel_rfl
theorem I0:(Tryz.prog.info? 90).map (fun i=>(i.zero,i.size,i.bytes))=some (some (.slice none 0 0),1,24):=by kernel_rfl
theorem aa1(q:List K)(i:Nat)(a:K)(cap b bv:Nat)(hi:i≤q.length)(hc:q.length≤cap)(hm:cap≤maxLen)(hs:q.length≤1000):VC Tryz.prog G 92 [aP (some ⟨b,0,none⟩) q.length cap,ae (i:Nat),aP (some ⟨bv,0,none⟩) 1 1] [⟨bv,90,1*1,cK a⟩,⟨b,90,cap*1,q.flatMap cK⟩] (fun r S=>∃ad kP,r=aP ad (q.length+1) kP∧bn 90 1 ((iH q i a).flatMap cK) (iH q i a).length ad kP S):=by
 refine VC.body func92 rfl ntmps92 aQ fun X0 w0 bf=>?_;refine af [0,1,2] ?_;refine aB 2 ?_;refine bV (eJ (l:=i) rfl ot ⟨_,ot⟩ trivial uG) ?_;refine an 95 [0,1,2] ?_;refine af [0,1,2,7] ?_;refine af [0,1,2,7,16] ?_;refine av ?_ ?_<;>intro aL bB
 ·exact absurd aL (by simp at *)
 refine af [0,1,2,7,8] ?_;refine af [0,1,2,7,8,22] ?_;refine av ?_ ?_<;>intro aY cD
 ·obtain rfl:i=q.length:=(by simp at *;omega)
  refine aB 2 ?_;refine fT 0 24 1 1 ?_;refine OD.eL (ls:=q) (new:=[a]) (Sq:=[⟨b,90,cap*1,q.flatMap cK⟩]) gw pZ ap rfl rfl underlying144 I0 rfl w7 ot (bQ hc hm) (dI (A:=[])) ot bj wg iB (fun yN Dn M8 M9=>?_);refine OD.perm (ez (S1:=[⟨yN,90,Dn*1,flatMap cK (q++[a])⟩]) (A:=[])) ?_;refine an 95 [6] ?_;refine aM [⟨yN,90,Dn*1,flatMap cK (q++[a])⟩] ?_;exact⟨_,_,by rw[length_append];rfl,by rw[Tc];exact bQ M8 M9⟩
 have aa:i<q.length:=(by omega)
 have hQ:(q.flatMap cK).length=q.length:=(by rw[cz gw];omega)
 have Z:((q.flatMap cK).take i).length=i:=(by rw[length_take];omega)
 have U:((q.flatMap cK).drop i).length=q.length-i:=(by rw[length_drop];omega)
 have jU:∀d∈(q.flatMap cK),V.one d=true:=uq pZ _;refine cM [0,1,2,7,8,31] ?_;refine aR 4 ?_ (h:=by exact(Fe rfl rfl ot runUnderlying144));refine bH ?_;refine av ?_ ?_<;>intro cm cR
 ·have I:eS cap (i) 1 0=i:=(by unfold eS;rw[if_neg w4];omega)
  have su:Nat.min (q.length-i) (q.length+1-(i+1))=q.length-i:=Nat.min_eq_left w4;refine aB 2 ?_;refine bV (eJ (l:=0) (h:=i) rfl ot trivial ⟨_,ot⟩ Nv) ?_;refine aH 5 ?_;refine OD.T6 (n:=i) (m:=q.length+1-i) (k:=1) ap rfl rfl underlying144 underlying3 I0 rfl ot rfl rfl (by show i≤(q.flatMap cK).length;omega) (Eq.trans ot (congrArg (fun z=>D.v (.int .i64 z)) (show((q.length:Int)+(1:Nat)-(i:Int))=((q.length+1-i:Nat):Int) by omega))) w4 w4 HJ w4 (fun HP E Dp Na=>?_);have oS:i+(q.length+1-i)=q.length+1:=(by omega)
  rw[oS] at Dp ⊢;refine an 95 [0,1,2,7,9] ?_;refine aB 2 ?_;refine bV (eJ (l:=i) (h:=q.length+1) rfl ot ⟨_,ot⟩ trivial uG) ?_;have wB:eS E (i) 1 0=i:=(by unfold eS;rw[if_neg w4];omega)
  rw[wB];refine aH 1 ?_;have O:eS E (i+1) 1 0=i+1:=(by unfold eS;rw[if_neg w4];omega)
  refine OD.wk (Wk.toEnd (k:=0) rfl) ?_;refine OD.copy (k:=0) (k2:=1) (od:=i) (new:=cK a) (cs':=dm ((q.flatMap cK).take i++replicate (E*1-((q.flatMap cK).take i).length) D.bX) i (cK a)) ap rfl rfl underlying144 ER ot rfl rfl ot rfl rfl (by show take (Nat.min 1 (q.length+1-i)) (cK a)=_;rw[show Nat.min 1 (q.length+1-i)=1 from Nat.min_eq_left w4];rfl) (Nat.min_eq_left (by omega:1≤q.length+1-i)).symm (fun d hd=>all_eq_true.1 (pZ a) d hd) (by show i+1≤((q.flatMap cK).take i++replicate (E*1-((q.flatMap cK).take i).length) D.bX).length;rw[length_append,qI,Z];omega) rfl ?_;refine an 95 [0,1,7,9] ?_;refine CD.seq ?_;refine mE 8 [9,50,53] ?_;refine aR 4 ?_ (h:=by exact(eJ (l:=i+1) (h:=q.length+1) rfl ot ⟨_,ot⟩ trivial uG));refine aR 2 ?_ (h:=by exact(eJ (l:=i) (h:=q.length) rfl ot ⟨_,ot⟩ trivial uG));refine jP ?_
  refine OD.copy (k:=0) (k2:=2) (od:=eS E (i+1) 1 0) (oy:=eS cap i 1 0) (new:=(q.flatMap cK).drop i) (cs':=dm (dm ((q.flatMap cK).take i++replicate (E*1-((q.flatMap cK).take i).length) D.bX) i (cK a)) (i+1) ((q.flatMap cK).drop i)) ap rfl rfl underlying144 ER ot rfl rfl ot rfl rfl (by show take (Nat.min (q.length-i) (q.length+1-(i+1))) (drop (eS cap i 1 0) (q.flatMap cK))=_;rw[I,su,take_of_length_le w4]) (by show _=Nat.min (q.length-i) (q.length+1-(i+1));rw[su,U]) (fun d hd=>jU d (mem_of_mem_drop hd)) (by show eS E (i+1) 1 0+_≤(dm ((q.flatMap cK).take i++replicate (E*1-((q.flatMap cK).take i).length) D.bX) i (cK a)).length;rw[O,U,y6,length_append,qI,Z];omega) (by show dm (dm ((q.flatMap cK).take i++replicate (E*1-((q.flatMap cK).take i).length) D.bX) i (cK a)) (eS E (i+1) 1 0) _=_;rw[O]) ?_;refine an 95 [9] ?_;refine aB 1 ?_;refine OD.shrink (k:=0) (cs':=(iH q i a).flatMap cK) rfl (by rw[Fk gw];exact Td Z rfl (by rw[qI,U,Z];omega)) ?_;refine an 95 [6] ?_;refine aM [⟨HP,90,E*1,(iH q i a).flatMap cK⟩] ?_;exact⟨_,_,rfl,bQ (by rw[zq hi];exact Dp) Na⟩
 have I:eS cap (i) 1 0=i:=(by unfold eS;rw[if_neg w4];omega)
 have O:eS cap (i+1) 1 0=i+1:=(by unfold eS;rw[if_neg w4];omega)
 have su:Nat.min (q.length+1-i) (q.length+1-(i+1))=q.length-i:=(by rw[show q.length+1-(i+1)=q.length-i from by omega];exact Nat.min_eq_right w4)
 refine cM [0,1,2,7,8] ?_;refine aR 4 ?_ (h:=by exact(eJ (l:=0) (h:=q.length+1) rfl ot trivial ⟨_,ot⟩ Nv));refine bH ?_;refine aB 5 ?_;refine bV (eJ (l:=i+1) (h:=q.length+1) rfl ot ⟨_,ot⟩ trivial uG) ?_;refine OD.wk (Wk.toEnd (k:=1) rfl) ?_;refine OD.overlaps (r:=4) (k:=0) (k2:=1) ap rfl rfl func136 aC aC aC aC underlying144 sizeOf90 ot rfl rfl ot rfl rfl w7 (by show cap*1≠0;omega) ?_;refine an 95 [0,1,2,7,8,68] ?_;refine av ?_ ?_<;>intro da eA
 ·refine CD.seq ?_;refine mE 8 [0,1,2,73,76] ?_;refine aR 4 ?_ (h:=by exact(eJ (l:=i+1) (h:=q.length+1) rfl ot ⟨_,ot⟩ trivial uG));refine aR 2 ?_ (h:=by exact(eJ (l:=i) (h:=q.length+1) rfl ot ⟨_,ot⟩ trivial uG));refine jP ?_;refine OD.copy (k:=1) (k2:=1) (od:=eS cap (i+1) 1 0) (oy:=eS cap i 1 0) (new:=(q.flatMap cK).drop i) (cs':=dm ((q.flatMap cK)++replicate (cap*1-(q.flatMap cK).length) D.bX) (i+1) ((q.flatMap cK).drop i)) ap rfl rfl underlying144 ER ot rfl rfl ot rfl rfl (by show take (Nat.min (q.length+1-i) (q.length+1-(i+1))) (drop (eS cap i 1 0) ((q.flatMap cK)++replicate (cap*1-(q.flatMap cK).length) D.bX))=_;rw[I,su,drop_append_of_le_length w4,take_left' U]) (by show _=Nat.min (q.length+1-i) (q.length+1-(i+1));rw[su,U]) (fun d hd=>jU d (mem_of_mem_drop hd)) (by show eS cap (i+1) 1 0+_≤((q.flatMap cK)++replicate (cap*1-(q.flatMap cK).length) D.bX).length;rw[O,U,length_append,qI,hQ];omega) (by show dm ((q.flatMap cK)++replicate (cap*1-(q.flatMap cK).length) D.bX) (eS cap (i+1) 1 0) _=_;rw[O]) ?_;refine an 95 [0,1,2] ?_;refine aB 2 ?_;refine bV (eJ (l:=i) (h:=q.length+1) rfl ot ⟨_,ot⟩ trivial uG) ?_;refine aH 1 ?_
  refine OD.copy (k:=1) (k2:=0) (od:=eS cap i 1 0) (new:=cK a) (cs':=dm (dm ((q.flatMap cK)++replicate (cap*1-(q.flatMap cK).length) D.bX) (i+1) ((q.flatMap cK).drop i)) i (cK a)) ap rfl rfl underlying144 ER ot rfl rfl ot rfl rfl (by show take (Nat.min 1 (q.length+1-i)) (cK a)=_;rw[show Nat.min 1 (q.length+1-i)=1 from Nat.min_eq_left w4];rfl) (Nat.min_eq_left (by omega:1≤q.length+1-i)).symm (fun d hd=>all_eq_true.1 (pZ a) d hd) (by show eS cap i 1 0+1≤(dm ((q.flatMap cK)++replicate (cap*1-(q.flatMap cK).length) D.bX) (i+1) ((q.flatMap cK).drop i)).length;rw[I,y6,length_append,qI,hQ];omega) (by show dm (dm ((q.flatMap cK)++replicate (cap*1-(q.flatMap cK).length) D.bX) (i+1) ((q.flatMap cK).drop i)) (eS cap i 1 0) _=_;rw[I]) ?_;refine an 95 [0] ?_;refine aB 1 ?_;refine OD.shrink (k:=1) (cs':=(iH q i a).flatMap cK) rfl (by rw[Fk gw];show _ <+: dm (dm ((q.flatMap cK)++_) (i+1) ((q.flatMap cK).drop i)) i (cK a);rw[show(q.flatMap cK)++replicate (cap*1-(q.flatMap cK).length) D.bX=((q.flatMap cK).take i++(q.flatMap cK).drop i)++replicate (cap*1-(q.flatMap cK).length) D.bX from by rw[take_append_drop]];exact UD Z rfl (by rw[qI,hQ];omega)) ?_;refine an 95 [6] ?_;refine aM [⟨b,90,cap*1,(iH q i a).flatMap cK⟩] ?_;exact⟨_,_,rfl,bQ (by rw[zq hi];omega) hm⟩
 exact absurd da (by simp at *)
theorem ES:(Tryz.prog.info? 3).map (fun i=>i.size)=some 1:=by kernel_rfl
theorem Jo:(Tryz.prog.info? 3).map (fun i=>(i.zero,i.size,i.bytes))=some (some (.int .i64 0),1,8):=by kernel_rfl
theorem aa2(q:List Int)(i:Nat)(a:Int)(cap b bv:Nat)(hi:i≤q.length)(hc:q.length≤cap)(hm:cap≤maxLen)(hs:q.length≤1000):VC Tryz.prog G 93 [aP (some ⟨b,0,none⟩) q.length cap,ae (i:Nat),aP (some ⟨bv,0,none⟩) 1 1] [⟨bv,3,1*1,cI a⟩,⟨b,3,cap*1,q.flatMap cI⟩] (fun r S=>∃ad kP,r=aP ad (q.length+1) kP∧bn 3 1 ((iH q i a).flatMap cI) (iH q i a).length ad kP S):=by
 refine VC.body func93 rfl ntmps93 aQ fun X0 w0 bf=>?_;refine af [0,1,2] ?_;refine aB 2 ?_;refine bV (eJ (l:=i) rfl ot ⟨_,ot⟩ trivial uH) ?_;refine an 95 [0,1,2] ?_;refine af [0,1,2,7] ?_;refine af [0,1,2,7,16] ?_;refine av ?_ ?_<;>intro aL bB
 ·exact absurd aL (by simp at *)
 refine af [0,1,2,7,8] ?_;refine af [0,1,2,7,8,22] ?_;refine av ?_ ?_<;>intro aY cD
 ·obtain rfl:i=q.length:=(by simp at *;omega)
  refine aB 2 ?_;refine fT 0 24 1 1 ?_;refine OD.eL (ls:=q) (new:=[a]) (Sq:=[⟨b,3,cap*1,q.flatMap cI⟩]) eM nT ap rfl rfl underlying70 Jo rfl w7 ot (bQ hc hm) (dI (A:=[])) ot bj wg iB (fun yN Dn M8 M9=>?_);refine OD.perm (ez (S1:=[⟨yN,3,Dn*1,flatMap cI (q++[a])⟩]) (A:=[])) ?_;refine an 95 [6] ?_;refine aM [⟨yN,3,Dn*1,flatMap cI (q++[a])⟩] ?_;exact⟨_,_,by rw[length_append];rfl,by rw[Tc];exact bQ M8 M9⟩
 have aa:i<q.length:=(by omega)
 have hQ:(q.flatMap cI).length=q.length:=(by rw[cz eM];omega)
 have Z:((q.flatMap cI).take i).length=i:=(by rw[length_take];omega)
 have U:((q.flatMap cI).drop i).length=q.length-i:=(by rw[length_drop];omega)
 have jU:∀d∈(q.flatMap cI),V.one d=true:=uq nT _;refine cM [0,1,2,7,8,31] ?_;refine aR 4 ?_ (h:=by exact(Fe rfl rfl ot runUnderlying70));refine bH ?_;refine av ?_ ?_<;>intro cm cR
 ·have I:eS cap (i) 1 0=i:=(by unfold eS;rw[if_neg w4];omega)
  have su:Nat.min (q.length-i) (q.length+1-(i+1))=q.length-i:=Nat.min_eq_left w4;refine aB 2 ?_;refine bV (eJ (l:=0) (h:=i) rfl ot trivial ⟨_,ot⟩ Nw) ?_;refine aH 5 ?_;refine OD.T6 (n:=i) (m:=q.length+1-i) (k:=1) ap rfl rfl underlying70 underlying3 Jo rfl ot rfl rfl (by show i≤(q.flatMap cI).length;omega) (Eq.trans ot (congrArg (fun z=>D.v (.int .i64 z)) (show((q.length:Int)+(1:Nat)-(i:Int))=((q.length+1-i:Nat):Int) by omega))) w4 w4 HJ w4 (fun HP E Dp Na=>?_);have oS:i+(q.length+1-i)=q.length+1:=(by omega)
  rw[oS] at Dp ⊢;refine an 95 [0,1,2,7,9] ?_;refine aB 2 ?_;refine bV (eJ (l:=i) (h:=q.length+1) rfl ot ⟨_,ot⟩ trivial uH) ?_;have wB:eS E (i) 1 0=i:=(by unfold eS;rw[if_neg w4];omega)
  rw[wB];refine aH 1 ?_;have O:eS E (i+1) 1 0=i+1:=(by unfold eS;rw[if_neg w4];omega)
  refine OD.wk (Wk.toEnd (k:=0) rfl) ?_;refine OD.copy (k:=0) (k2:=1) (od:=i) (new:=cI a) (cs':=dm ((q.flatMap cI).take i++replicate (E*1-((q.flatMap cI).take i).length) D.bX) i (cI a)) ap rfl rfl underlying70 ES ot rfl rfl ot rfl rfl (by show take (Nat.min 1 (q.length+1-i)) (cI a)=_;rw[show Nat.min 1 (q.length+1-i)=1 from Nat.min_eq_left w4];rfl) (Nat.min_eq_left (by omega:1≤q.length+1-i)).symm (fun d hd=>all_eq_true.1 (nT a) d hd) (by show i+1≤((q.flatMap cI).take i++replicate (E*1-((q.flatMap cI).take i).length) D.bX).length;rw[length_append,qI,Z];omega) rfl ?_;refine an 95 [0,1,7,9] ?_;refine CD.seq ?_;refine mE 8 [9,50,53] ?_;refine aR 4 ?_ (h:=by exact(eJ (l:=i+1) (h:=q.length+1) rfl ot ⟨_,ot⟩ trivial uH));refine aR 2 ?_ (h:=by exact(eJ (l:=i) (h:=q.length) rfl ot ⟨_,ot⟩ trivial uH));refine jP ?_
  refine OD.copy (k:=0) (k2:=2) (od:=eS E (i+1) 1 0) (oy:=eS cap i 1 0) (new:=(q.flatMap cI).drop i) (cs':=dm (dm ((q.flatMap cI).take i++replicate (E*1-((q.flatMap cI).take i).length) D.bX) i (cI a)) (i+1) ((q.flatMap cI).drop i)) ap rfl rfl underlying70 ES ot rfl rfl ot rfl rfl (by show take (Nat.min (q.length-i) (q.length+1-(i+1))) (drop (eS cap i 1 0) (q.flatMap cI))=_;rw[I,su,take_of_length_le w4]) (by show _=Nat.min (q.length-i) (q.length+1-(i+1));rw[su,U]) (fun d hd=>jU d (mem_of_mem_drop hd)) (by show eS E (i+1) 1 0+_≤(dm ((q.flatMap cI).take i++replicate (E*1-((q.flatMap cI).take i).length) D.bX) i (cI a)).length;rw[O,U,y6,length_append,qI,Z];omega) (by show dm (dm ((q.flatMap cI).take i++replicate (E*1-((q.flatMap cI).take i).length) D.bX) i (cI a)) (eS E (i+1) 1 0) _=_;rw[O]) ?_;refine an 95 [9] ?_;refine aB 1 ?_;refine OD.shrink (k:=0) (cs':=(iH q i a).flatMap cI) rfl (by rw[Fk eM];exact Td Z rfl (by rw[qI,U,Z];omega)) ?_;refine an 95 [6] ?_;refine aM [⟨HP,3,E*1,(iH q i a).flatMap cI⟩] ?_;exact⟨_,_,rfl,bQ (by rw[zq hi];exact Dp) Na⟩
 have I:eS cap (i) 1 0=i:=(by unfold eS;rw[if_neg w4];omega)
 have O:eS cap (i+1) 1 0=i+1:=(by unfold eS;rw[if_neg w4];omega)
 have su:Nat.min (q.length+1-i) (q.length+1-(i+1))=q.length-i:=(by rw[show q.length+1-(i+1)=q.length-i from by omega];exact Nat.min_eq_right w4)
 refine cM [0,1,2,7,8] ?_;refine aR 4 ?_ (h:=by exact(eJ (l:=0) (h:=q.length+1) rfl ot trivial ⟨_,ot⟩ Nw));refine bH ?_;refine aB 5 ?_;refine bV (eJ (l:=i+1) (h:=q.length+1) rfl ot ⟨_,ot⟩ trivial uH) ?_;refine OD.wk (Wk.toEnd (k:=1) rfl) ?_;refine OD.overlaps (r:=4) (k:=0) (k2:=1) ap rfl rfl func138 aC aC aC aC underlying70 sizeOf3 ot rfl rfl ot rfl rfl w7 (by show cap*1≠0;omega) ?_;refine an 95 [0,1,2,7,8,68] ?_;refine av ?_ ?_<;>intro da eA
 ·refine CD.seq ?_;refine mE 8 [0,1,2,73,76] ?_;refine aR 4 ?_ (h:=by exact(eJ (l:=i+1) (h:=q.length+1) rfl ot ⟨_,ot⟩ trivial uH));refine aR 2 ?_ (h:=by exact(eJ (l:=i) (h:=q.length+1) rfl ot ⟨_,ot⟩ trivial uH));refine jP ?_;refine OD.copy (k:=1) (k2:=1) (od:=eS cap (i+1) 1 0) (oy:=eS cap i 1 0) (new:=(q.flatMap cI).drop i) (cs':=dm ((q.flatMap cI)++replicate (cap*1-(q.flatMap cI).length) D.bX) (i+1) ((q.flatMap cI).drop i)) ap rfl rfl underlying70 ES ot rfl rfl ot rfl rfl (by show take (Nat.min (q.length+1-i) (q.length+1-(i+1))) (drop (eS cap i 1 0) ((q.flatMap cI)++replicate (cap*1-(q.flatMap cI).length) D.bX))=_;rw[I,su,drop_append_of_le_length w4,take_left' U]) (by show _=Nat.min (q.length+1-i) (q.length+1-(i+1));rw[su,U]) (fun d hd=>jU d (mem_of_mem_drop hd)) (by show eS cap (i+1) 1 0+_≤((q.flatMap cI)++replicate (cap*1-(q.flatMap cI).length) D.bX).length;rw[O,U,length_append,qI,hQ];omega) (by show dm ((q.flatMap cI)++replicate (cap*1-(q.flatMap cI).length) D.bX) (eS cap (i+1) 1 0) _=_;rw[O]) ?_;refine an 95 [0,1,2] ?_;refine aB 2 ?_;refine bV (eJ (l:=i) (h:=q.length+1) rfl ot ⟨_,ot⟩ trivial uH) ?_;refine aH 1 ?_
  refine OD.copy (k:=1) (k2:=0) (od:=eS cap i 1 0) (new:=cI a) (cs':=dm (dm ((q.flatMap cI)++replicate (cap*1-(q.flatMap cI).length) D.bX) (i+1) ((q.flatMap cI).drop i)) i (cI a)) ap rfl rfl underlying70 ES ot rfl rfl ot rfl rfl (by show take (Nat.min 1 (q.length+1-i)) (cI a)=_;rw[show Nat.min 1 (q.length+1-i)=1 from Nat.min_eq_left w4];rfl) (Nat.min_eq_left (by omega:1≤q.length+1-i)).symm (fun d hd=>all_eq_true.1 (nT a) d hd) (by show eS cap i 1 0+1≤(dm ((q.flatMap cI)++replicate (cap*1-(q.flatMap cI).length) D.bX) (i+1) ((q.flatMap cI).drop i)).length;rw[I,y6,length_append,qI,hQ];omega) (by show dm (dm ((q.flatMap cI)++replicate (cap*1-(q.flatMap cI).length) D.bX) (i+1) ((q.flatMap cI).drop i)) (eS cap i 1 0) _=_;rw[I]) ?_;refine an 95 [0] ?_;refine aB 1 ?_;refine OD.shrink (k:=1) (cs':=(iH q i a).flatMap cI) rfl (by rw[Fk eM];show _ <+: dm (dm ((q.flatMap cI)++_) (i+1) ((q.flatMap cI).drop i)) i (cI a);rw[show(q.flatMap cI)++replicate (cap*1-(q.flatMap cI).length) D.bX=((q.flatMap cI).take i++(q.flatMap cI).drop i)++replicate (cap*1-(q.flatMap cI).length) D.bX from by rw[take_append_drop]];exact UD Z rfl (by rw[qI,hQ];omega)) ?_;refine an 95 [6] ?_;refine aM [⟨b,3,cap*1,(iH q i a).flatMap cI⟩] ?_;exact⟨_,_,rfl,bQ (by rw[zq hi];omega) hm⟩
 exact absurd da (by simp at *)
theorem acz(a:K)(bv:Nat):VC Tryz.prog G 92 [bF,ae (0:Nat),aP (some ⟨bv,0,none⟩) 1 1] [⟨bv,90,1*1,cK a⟩] (fun r S=>∃ad E,r=aP ad 1 E∧bn 90 1 ((iH ([]:List K) 0 a).flatMap cK) (iH ([]:List K) 0 a).length ad E S):=by
 refine VC.body func92 rfl ntmps92 aQ fun X0 w0 bf=>?_;refine af [0,1,2] ?_;refine aB 2 ?_;refine bV (ET rfl ot ⟨_,_,ot,rfl⟩ rfl runUnderlying144 sizeOf90) ?_;refine an 95 [0,1,2] ?_;refine af [0,1,2,7] ?_;refine af [0,1,2,7,16] ?_;refine av ?_ ?_<;>intro aL bB
 ·exact absurd aL (by simp at *)
 refine af [0,1,2,7,8] ?_;refine af [0,1,2,7,8,22] ?_;refine av ?_ ?_<;>intro aY cD
 ·refine aB 2 ?_;refine fT 0 24 1 1 ?_;refine OD.eL (ls:=([]:List K)) (new:=[a]) (Sq:=[]) gw pZ ap rfl rfl underlying144 I0 rfl w7 ot iW (dI (A:=[])) ot bj (by simp[maxLen]) bj (fun O I U Z=>?_);refine OD.perm (ez (S1:=[⟨O,90,I*1,flatMap cK (([]:List K)++[a])⟩]) (A:=[])) ?_;refine an 95 [6] ?_;refine aM [⟨O,90,I*1,flatMap cK (([]:List K)++[a])⟩] ?_;exact⟨_,_,rfl,bQ U Z⟩
 exact absurd aY (by simp at *)
theorem aa3(q:List K)(i:Nat)(a:K)(ad:Option Addr)(cap:Nat)(Sq:List ah)(I:Nat)(hi:i≤q.length)(hs:q.length≤1000)(ho:bn 90 1 (q.flatMap cK) q.length ad cap Sq):VC Tryz.prog G 92 [aP ad q.length cap,ae (i:Nat),aP (some ⟨I,0,none⟩) 1 1] (⟨I,90,1*1,cK a⟩::Sq) (fun r S=>∃ad E,r=aP ad (q.length+1) E∧bn 90 1 ((iH q i a).flatMap cK) (iH q i a).length ad E S):=by
 rcases ho with ⟨h1,h2,rfl,rfl,rfl⟩|⟨b,rfl,h1,h2,rfl⟩
 ·obtain rfl:=length_eq_zero_iff.1 h1;obtain rfl:i=0:=Nat.le_zero.1 hi;exact acz a I
 exact aa1 q i a cap b I hi h1 h2 hs
theorem acA(a:Int)(bv:Nat):VC Tryz.prog G 93 [bF,ae (0:Nat),aP (some ⟨bv,0,none⟩) 1 1] [⟨bv,3,1*1,cI a⟩] (fun r S=>∃ad E,r=aP ad 1 E∧bn 3 1 ((iH ([]:List Int) 0 a).flatMap cI) (iH ([]:List Int) 0 a).length ad E S):=by
 refine VC.body func93 rfl ntmps93 aQ fun X0 w0 bf=>?_;refine af [0,1,2] ?_;refine aB 2 ?_;refine bV (ET rfl ot ⟨_,_,ot,rfl⟩ rfl runUnderlying70 sizeOf3) ?_;refine an 95 [0,1,2] ?_;refine af [0,1,2,7] ?_;refine af [0,1,2,7,16] ?_;refine av ?_ ?_<;>intro aL bB
 ·exact absurd aL (by simp at *)
 refine af [0,1,2,7,8] ?_;refine af [0,1,2,7,8,22] ?_;refine av ?_ ?_<;>intro aY cD
 ·refine aB 2 ?_;refine fT 0 24 1 1 ?_;refine OD.eL (ls:=([]:List Int)) (new:=[a]) (Sq:=[]) eM nT ap rfl rfl underlying70 Jo rfl w7 ot iW (dI (A:=[])) ot bj (by simp[maxLen]) bj (fun O I U Z=>?_);refine OD.perm (ez (S1:=[⟨O,3,I*1,flatMap cI (([]:List Int)++[a])⟩]) (A:=[])) ?_;refine an 95 [6] ?_;refine aM [⟨O,3,I*1,flatMap cI (([]:List Int)++[a])⟩] ?_;exact⟨_,_,rfl,bQ U Z⟩
 exact absurd aY (by simp at *)
theorem aa4(q:List Int)(i:Nat)(a:Int)(ad:Option Addr)(cap:Nat)(Sq:List ah)(I:Nat)(hi:i≤q.length)(hs:q.length≤1000)(ho:bn 3 1 (q.flatMap cI) q.length ad cap Sq):VC Tryz.prog G 93 [aP ad q.length cap,ae (i:Nat),aP (some ⟨I,0,none⟩) 1 1] (⟨I,3,1*1,cI a⟩::Sq) (fun r S=>∃ad E,r=aP ad (q.length+1) E∧bn 3 1 ((iH q i a).flatMap cI) (iH q i a).length ad E S):=by
 rcases ho with ⟨h1,h2,rfl,rfl,rfl⟩|⟨b,rfl,h1,h2,rfl⟩
 ·obtain rfl:=length_eq_zero_iff.1 h1;obtain rfl:i=0:=Nat.le_zero.1 hi;exact acA a I
 exact aa2 q i a cap b I hi h1 h2 hs

noncomputable def pz(t:aG)(k:K)(row:Int)(h:Nat):aG×Int:=if lK t k=0 then (if row<0 then (wD,3) else if gl t k h=true then (wD,9) else if 4000<(gb t h k row).ag.length then (wD,10) else (gb t h k row,0)) else (wD,lK t k)
theorem afZ{ls:List Int}{r:D}{S:List ah}(h:gE cI 3 1 ls r S):kZ r=true∧∀B∈S,∀d∈B.cs,kZ d=true:=by
 obtain⟨ad,cap,rfl,ho⟩:=h;refine⟨rfl,fun B E d hd=>?_⟩;rcases ho with ⟨_,_,_,_,rfl⟩|⟨b,_,_,_,rfl⟩
 ·cases E
 rw[mem_singleton] at E;subst E;obtain⟨n,_,hn⟩:=mem_flatMap.1 hd;rw[cI,mem_singleton] at hn;subst hn;rfl
theorem Rl(v:Valid t h)(hf:gl t k h=false):∀x∈lm t h,x.1≠k:=fun x hx e=>by
 have:gl t k h=true:=(E4 v k).2 ((BK v k).2 ⟨x.2,by rw[←e];exact hx⟩);rw[hf] at this;cases this
theorem acB{G:List (Nat×List Value)}(L:List aX)(b:Nat)(root i:Int)(ad:Option Addr)(cap:Nat)(Sx:List ah)(hi:0≤i∧i<L.length)(p:c9)(E:(L[i.toNat]'w4).p=p)(hn:L.length≤10000)(ey:uB L ad cap Sx)(aT:∀o∈L,rA o)(h5:p.keys.length=5)(dJ:p.leaf=true→p.kids.length=5)(I:p.leaf=false→p.kids.length=6)(O:∀k∈p.keys,k.length≤100)(U:p.high.length≤100) :
 VC Tryz.prog G 94 [cZ b,ae i] (⟨b,75,2,[aP ad L.length cap,ae root]⟩::(Sx++L.flatMap bO)) (Xh L b root i.toNat p):=by
 subst E;exact aeh L b root i ad cap Sx hi hn ey aT h5 dJ I O U
theorem aei{aA:Int}(e:kM t k row h (h+1)=(u,some (up,aA)))(hr:u.root=t.root):gb t h k row=⟨u.ag++[⟨false,[up],[t.root,aA],[],-1⟩],u.ag.length⟩:=by
 unfold gb;rw[←S6,e];show(⟨u.ag++[⟨false,[up],[u.root,aA],[],-1⟩],u.ag.length⟩:aG)=_;rw[hr]
theorem af0{aA:Int}{m:Nat}(hm:m≤h)(e:kM t k row h m=(u,some (up,aA)))(h4:(bz (u.pg (dr t k h t.root m)) up aA).keys.length≤4):gb t h k row=u.set (dr t k h t.root m) (bz (u.pg (dr t k h t.root m)) up aA):=by
 have:=Rh hm e;rw[JV h4] at this;unfold gb;rw[Ri (h-m) (m+1) w4 w4 this];rfl
theorem aej{aA:Int}{m:Nat}(hm:m≤h)(e:kM t k row h m=(u,some (up,aA)))(h4:¬(bz (u.pg (dr t k h t.root m)) up aA).keys.length≤4) :
  kM t k row h (m+1)=(jA u (dr t k h t.root m) (eC (bz (u.pg (dr t k h t.root m)) up aA) u.ag.length) (cu (bz (u.pg (dr t k h t.root m)) up aA)),some (ig (bz (u.pg (dr t k h t.root m)) up aA),(u.ag.length:Int))):=by
 rw[Rh hm e,Jj h4]
theorem aay:(Tryz.prog.info? 146).map (fun i=>(i.zero,i.size,i.bytes))=some (some (.agg #[.bool false,.slice none 0 0,.slice none 0 0,.slice none 0 0,.int .i64 0]),5,88):=by kernel_rfl
theorem Jp(t:aG)(h:Nat)(k:K)(row:Int)(hb:∀p∈t.ag,p.keys.length≤maxLen∧p.kids.length≤maxLen)(hv:gS t=0→Valid t h):VC Tryz.prog G 50 [.agg [au 5 cP t.ag,ae t.root],au 1 cB k,ae row] [] (De (pz t k row h)):=by
 refine VC.body func50 rfl ntmps50 aQ fun X0 w0 bf=>?_;have fC:=IY (G:=G) t k hb;unfold cT at fC;have c8:=dV;refine cf ?_;refine OD.box (ds:=[_,_]) ap rfl rfl ot rfl rfl (fun b3=>?_);refine OD.alloc (ds:=[_,_]) ap rfl rfl zeroValue75 rfl (fun b6=>?_);refine an 131 [1,2,3,6] ?_;refine cL [1,2,3,6,8] (fC) ?_;refine af [1,2,3,6,8,23] ?_;refine av ?_ ?_<;>intro aL bB
 ·have hn:¬lK t k=0:=(by simpa using aL)
  refine aB 2 ?_;refine aO 0 [_,_] sizeOf75 ?_;refine an 131 [6,7] ?_;refine aM [] ?_;unfold pz;rw[if_neg hn];exact zE _
 have hz:lK t k=0:=(by simpa using aL)
 obtain⟨hc,Pd⟩:=Rk hz;have v:=hv hc;have Df:=J1 Pd;have fE:=qK (G:=G) t h v k w4 (E5 v k);unfold cT at fE;have apR:=v.high;have apS:=v.n9;refine af [1,2,3,6,27] ?_;refine av ?_ ?_<;>intro aY cD
 ·have vT:row<0:=(by omega)
  refine aB 1 ?_;refine aO 0 [_,_] sizeOf75 ?_;refine an 131 [6,7] ?_;refine aM [] ?_;unfold pz;rw[if_pos hz,if_pos vT];exact zE _
 have vT:0≤row:=(by omega)
 refine cL [1,2,3,6,11] (fE) ?_;refine af [1,2,3,6,36] ?_;refine av ?_ ?_<;>intro cm cR
 ·have fK:gl t k h=true:=cm;refine aB 1 ?_;refine aO 0 [_,_] sizeOf75 ?_;refine an 131 [6,7] ?_;refine aM [] ?_;unfold pz;rw[if_pos hz,if_neg w4,if_pos fK];exact zE _
 have fK:gl t k h=false:=cm;have hne:=Rl v fK;refine aB 1 ?_;refine OD.call ap rfl rfl rfl call88 (Gp t h v) ⟨ot,trivial⟩ (fg _) ?_;rintro _ _ ⟨L,ad,cap,Sx,rfl,ey,aT,hL,rfl⟩;refine OD.perm (ez (A:=[_,_])) ?_;refine OD.alloc (ds:=[_,_]) ap rfl rfl zeroValue75 rfl (fun u7=>?_);refine aO 0 [_,_] sizeOf75 ?_;refine an 131 [1,2,6,12] ?_;refine aB 2 ?_;refine OD.LY ap rfl rfl rfl call89 (Uv t h v k) (fun r S=>afZ) ⟨⟨_,ot,(by have:=Lv (root:=t.root) ey aT (fun B hB=>mem_cons_of_mem ⟨u7,75,2,[aP ad L.length cap,ae t.root]⟩ (mem_cons_of_mem ⟨b6,75,2,[bF,ae 0]⟩ (mem_cons_of_mem ⟨b3,75,2,[au 5 cP t.ag,ae t.root]⟩ hB)));rw[hL] at this;exact this)⟩,⟨_,ot,eW⟩,trivial⟩ ?_;rintro _ Sw ⟨aw,cw,rfl,how⟩;refine OD.iE (t:=42) (Sq:=Sw) lk how (cz eM _) (Perm.refl _) ?_;refine an 131 [1,2,6,12,13] ?_;refine cL [6,12,13,14,15] (mq k w4) ?_;refine iL [6,12] (fun aS _ aE=>∃(L:List aX),∃(ad:Option Addr),∃(cap:Nat),∃(Sx:List ah),∃(root:Int),(uB L ad cap Sx)∧(∀o∈L,rA o)∧(gb t h k row=⟨L.map aX.p,root⟩)∧(L.length≤10000)∧aE=(⟨131,aS,(⟨u7,75,2,[aP ad L.length cap,ae root]⟩::⟨b6,75,2,[bF,ae 0]⟩::(Sx++L.flatMap bO))⟩:St)) ?_ ?_
 ·refine cM [6,12,13,14,15,16] ?_;refine aR 2 ?_ (h:=by exact(dA (r:=.int .i64 ((h:Nat):Int)) rfl ot bP (iy (by rw[FG,show(((h+1:Nat):Int)-1)=(h:Int) from by omega];exact wrap_i64 w4 w4))));refine bH ?_;refine eG [6,12,13] (fun aS _ (jO:Nat×K×Int×List aX×Option Addr×Nat×List ah) aE=>match jO with|(m,up,aA,L,ad,cap,Sx)=>(m≤h+1)∧(kM t k row h m=(⟨L.map aX.p,t.root⟩,some (up,aA)))∧(uB L ad cap Sx)∧(∀o∈L,rA o)∧aE=(⟨131,(14,au 1 cB up)::(15,ae aA)::(16,ae ((h:Int)-(m:Nat)))::aS,(⟨u7,75,2,[aP ad L.length cap,ae t.root]⟩::⟨b6,75,2,[bF,ae 0]⟩::(Sx++L.flatMap bO))⟩:St)) (fun (jO:Nat×K×Int×List aX×Option Addr×Nat×List ah)=>match jO with|(m,up,aA,L,ad,cap,Sx)=>h+1-m) (0,k,row,L,ad,cap,Sx) ⟨(Nat.zero_le _),(by unfold kM;rw[if_pos rfl,hL]),ey,aT,rfl⟩ ?_;rintro⟨m,up,aA,L,ad,cap,Sx⟩ _ ⟨hm0,he,ey,aT,rfl⟩;refine af [6,12,13,14,15,16,52] ?_;refine av ?_ ?_<;>intro da eA
  ·obtain rfl:m=h+1:=(by omega)
   obtain⟨s1,s2,s3,s4⟩:=Jm v hne Df vT w4 he;have pO:L.length≤t.ag.length+(h+1):=(by rw[←length_map (f:=aX.p)];exact s2)
   have Zq:=afU v hne Df vT w4 he;refine aB 3 ?_;refine eD (cq 0 [_]) [.slice none 0 0] [_] zeroValue90 runUnderlying144 sizeOf90 (fun kW=>?_);refine aH 3 ?_;refine eD (cq 0 [_,_]) [.int .i64 0,.int .i64 0] [_,_] zeroValue3 runUnderlying70 sizeOf3 (fun mL=>?_);refine aH 1 ?_;refine eD (cq 0 [_]) [.bool false,.slice none 0 0,.slice none 0 0,.slice none 0 0,.int .i64 0] [_,_,_,_,_] zeroValue146 runUnderlying73 sizeOf146 (fun OP=>?_);refine OD.agV (cs':=gO (⟨⟨false,[up],[t.root,aA],[],-1⟩,some ⟨kW,0,none⟩,1,[⟨kW,90,1*1,flatMap cK [up]⟩],some ⟨mL,0,none⟩,2,[⟨mL,3,2*1,flatMap cI [t.root,aA]⟩]⟩:aX)) rfl ⟨eW,eW,eW,zj,eW,trivial⟩ ?_;refine fT 0 62 5 1 ?_;refine OD.eL (ls:=L) (new:=[(⟨⟨false,[up],[t.root,aA],[],-1⟩,some ⟨kW,0,none⟩,1,[⟨kW,90,1*1,flatMap cK [up]⟩],some ⟨mL,0,none⟩,2,[⟨mL,3,2*1,flatMap cI [t.root,aA]⟩]⟩:aX)]) (Sq:=Sx) iz Ga ap rfl rfl underlying73 aay rfl w7 ot ey (pc (A:=[_,_,_,_])) ot bj nH nI (fun EE xZ alE alF=>?_);refine aH 1 ?_;refine aO 3 [_,_] sizeOf73 ?_;refine an 131 [6,12] ?_;refine aB 3 ?_
   refine bV (dA (r:=.int .i64 (L.length:Nat)) rfl ot bP (iy (by rw[length_append,show(((L.length+[(⟨⟨false,[up],[t.root,aA],[],-1⟩,some ⟨kW,0,none⟩,1,[⟨kW,90,1*1,flatMap cK [up]⟩],some ⟨mL,0,none⟩,2,[⟨mL,3,2*1,flatMap cI [t.root,aA]⟩]⟩:aX)].length:Nat):Int)-1)=(L.length:Int) from by simp];exact wrap_i64 w4 w4))) ?_;refine aH 1 ?_;refine aO 3 [_,_] sizeOf3 ?_;have hX:((⟨mL,3,2*1,flatMap cI [t.root,aA]⟩:ah)::⟨kW,90,1*1,flatMap cK [up]⟩::L.flatMap bO).Perm ((L++[(⟨⟨false,[up],[t.root,aA],[],-1⟩,some ⟨kW,0,none⟩,1,[⟨kW,90,1*1,flatMap cK [up]⟩],some ⟨mL,0,none⟩,2,[⟨mL,3,2*1,flatMap cI [t.root,aA]⟩]⟩:aX)]).flatMap bO):=(by rw[TH];exact(Perm.swap _ _ _).trans (perm_append_comm (l₁:=[_,_])))
   refine OD.perm (S':=⟨u7,75,2,[aP (some ⟨EE,0,none⟩) (L++[(⟨⟨false,[up],[t.root,aA],[],-1⟩,some ⟨kW,0,none⟩,1,[⟨kW,90,1*1,flatMap cK [up]⟩],some ⟨mL,0,none⟩,2,[⟨mL,3,2*1,flatMap cI [t.root,aA]⟩]⟩:aX)]).length xZ,ae (L.length:Nat)]⟩::⟨b6,75,2,[bF,ae 0]⟩::(([⟨EE,146,xZ*5,flatMap gO (L++[(⟨⟨false,[up],[t.root,aA],[],-1⟩,some ⟨kW,0,none⟩,1,[⟨kW,90,1*1,flatMap cK [up]⟩],some ⟨mL,0,none⟩,2,[⟨mL,3,2*1,flatMap cI [t.root,aA]⟩]⟩:aX)])⟩]:List ah)++(L++[(⟨⟨false,[up],[t.root,aA],[],-1⟩,some ⟨kW,0,none⟩,1,[⟨kW,90,1*1,flatMap cK [up]⟩],some ⟨mL,0,none⟩,2,[⟨mL,3,2*1,flatMap cI [t.root,aA]⟩]⟩:aX)]).flatMap bO)) (by exact(perm_middle (l₁:=[_,_,_])).trans (Perm.cons _ ((perm_middle (l₁:=[_,_,_])).trans (Perm.cons _ (Perm.cons _ hX))))) ?_;refine an 131 [6,12] ?_;refine CD.exit ?_
   refine⟨_,aJ,(L++[(⟨⟨false,[up],[t.root,aA],[],-1⟩,some ⟨kW,0,none⟩,1,[⟨kW,90,1*1,flatMap cK [up]⟩],some ⟨mL,0,none⟩,2,[⟨mL,3,2*1,flatMap cI [t.root,aA]⟩]⟩:aX)]),(some ⟨EE,0,none⟩),xZ,[⟨EE,146,xZ*5,flatMap gO (L++[(⟨⟨false,[up],[t.root,aA],[],-1⟩,some ⟨kW,0,none⟩,1,[⟨kW,90,1*1,flatMap cK [up]⟩],some ⟨mL,0,none⟩,2,[⟨mL,3,2*1,flatMap cI [t.root,aA]⟩]⟩:aX)])⟩],(L.length:Nat),(bQ alE alF),(fun o ho=>by rcases mem_append.1 ho with ho|ho;exact aT o ho;rw[mem_singleton] at ho;subst ho;exact⟨bQ (Nat.le_refl _) (show 1≤maxLen by decide),bQ (Nat.le_refl _) (show 2≤maxLen by decide)⟩),(by rw[aei he rfl];show(⟨map aX.p L++[_],((map aX.p L).length:Int)⟩:aG)=_;rw[map_append,length_map];rfl),HG,rfl⟩
  have hm:m≤h:=(by omega)
  have hP:=afV v hne Df vT hm he;obtain⟨s1,s2,s3,s4⟩:=Jm v hne Df vT w4 he;have pO:L.length≤t.ag.length+m:=(by rw[←length_map (f:=aX.p)];exact s2)
  have Pe:0≤(dr t k h t.root m)∧(dr t k h t.root m)<L.length:=(by have:=hP.rg;rw[←length_map (f:=aX.p)];exact this)
  have hj:(dr t k h t.root m).toNat<L.length:=(by omega)
  have Zr:L[(dr t k h t.root m).toNat].p=(⟨L.map aX.p,t.root⟩:aG).pg (dr t k h t.root m):=Vy (t:=(⟨L.map aX.p,t.root⟩:aG)) rfl hP.rg hj;have po:eN ((⟨L.map aX.p,t.root⟩:aG).pg (dr t k h t.root m)) (⟨L.map aX.p,t.root⟩:aG).ag.length:=s4 _ (jK hP.rg);have full:=JT po hP.out hP.len hP.high hP.nn hP.nnl;obtain⟨bx,rfl,gp,ym,rfl⟩:=ey.pos w4;have yH:=aT _ (getElem_mem hj);obtain⟨o,ho⟩:∃o,o=L[(dr t k h t.root m).toNat]:=⟨_,rfl⟩
  rw[←ho] at yH Zr;rcases o with ⟨p,ak,ck,sk,ai,ci,si⟩
  have ir:p=(⟨L.map aX.p,t.root⟩:aG).pg (dr t k h t.root m):=Zr;obtain⟨ei,kC⟩:nW p.keys ak ck sk∧nf p.kids ai ci si:=yH;rw[←ir] at po full;have mb:=po.eO;have fD:=SZ po up;have Zq:=hP.len.2;have GS:(if p.leaf=true then aN p up else aN p up+1)≤p.kids.length∧p.kids.length≤5:=(by cases fA:p.leaf;(have:=(po.node fA).1;rw[if_neg w7];omega);(have:=po.leaf fA;rw[if_pos rfl];omega))
  have hW:h-m<(jo t k h t.root).length:=(by rw[FG];omega)
  have Zs:(jo t k h t.root)[h-m]=(dr t k h t.root m):=(by have:=Rg (t:=t) (k:=k) (h:=h) (i:=t.root) hm;exact(List.getElem?_eq_some_iff.1 this).2)
  have CG:=v.high;have Wb:=v.n9;have Mc:(L.flatMap bO).Perm (sk++(si++((L.eraseIdx (dr t k h t.root m).toNat).flatMap bO))):=(by have:=zD bO hj;rw[←ho] at this;exact this.trans (by rw[show bO ⟨p,ak,ck,sk,ai,ci,si⟩=sk++si from rfl,append_assoc]))
  refine CD.perm (Perm.cons _ (Perm.cons _ (Perm.cons _ Mc))) ?_;refine cM [6,12,13,14,15,16,17] ?_;refine aR 4 ?_ (h:=by exact(dO 1 (h:=by first|exact .l (j:=h-m) w4 hW|exact .r (j:=h-m) w4 hW)));refine aR 0 ?_ (h:=by exact(cW (mk:=Op.load 3) rfl ot (rJ (d:=ae (dr t k h t.root m)) (i:=h-m) eM isAgg3 hW (by rw[Zs];rfl))));refine aR 0 ?_ (h:=by exact(dO 5 (h:=by first|exact .l (j:=(dr t k h t.root m).toNat) (Int.toNat_of_nonneg Pe.1).symm hj|exact .r (j:=(dr t k h t.root m).toNat) (Int.toNat_of_nonneg Pe.1).symm hj)));refine bH ?_;refine cM [6,12,13,14,15,16,17,18] ?_;refine aR 2 ?_ (h:=by exact(cW (mk:=Op.load 146) rfl ot (dL (k:=2) (ls:=L) (i:=(dr t k h t.root m).toNat) iz rfl rfl rfl isAgg146 sizeOf146 hj)));refine mI 1 ?_;refine Aw (J0 p up po.ke w4) (ha:=by exact⟨⟨_,ot,(by rw[←ho];exact vl ⟨eW,lU ei (cz gw _) (fun B hB=>.tail _ (.tail _ (.tail _ (mem_append_left _ hB)))),lU kC (cz eM _) (fun B hB=>.tail _ (.tail _ (.tail _ (mem_append_right _ (mem_append_left _ hB))))),eW,eW,trivial⟩)⟩,⟨_,ot,eW⟩,trivial⟩) (K:=?_);refine bH ?_;refine aB 4 ?_;refine bV (cW (mk:=Op.load 144) rfl ot (lG (k:=2) (j:=1) (d:=aP ak p.keys.length ck) (ls:=L) iz rfl rfl rfl isAgg144 hj rX)) ?_;refine aH 2 ?_;refine eD (cq 0 [_]) [.slice none 0 0] [_] zeroValue90 runUnderlying144 sizeOf90 (fun b89=>?_)
  refine OD.call ap rfl rfl rfl call92 (aa3 p.keys (aN p up) up ak ck sk b89 fD w4 ei) ⟨ot,ot,ot,trivial⟩ (Perm.cons _ (pc (A:=[_,_,_]))) ?_;rintro _ E ⟨I,O,rfl,fF⟩;refine OD.perm (kp (A:=[_,_,_])) ?_;refine aH 2 ?_;refine OD.storeAt (k:=2) (cs':=flatMap gO (L.set (dr t k h t.root m).toNat (⟨{p with keys:=iH p.keys (aN p up) up},I,O,E,ai,ci,si⟩:aX))) ap rfl rfl ot rfl rfl ot rfl rfl sizeOf144 rfl (by show 0+(dr t k h t.root m).toNat*5+1+1≤(flatMap gO L).length;rw[cz iz];omega) (by show(L.flatMap gO).set (0+(dr t k h t.root m).toNat*5+1) _=_;rw[Nat.zero_add];exact wL iz w7 hj (by rw[←ho];unfold gO;rw[zq fD];rfl)) ?_;refine an 131 [6,12,13,15,16,17,18] ?_;refine CD.cut (fun aE=>aE=(⟨131,[(6,cZ b6),(12,cZ u7),(13,.list 1 ((jo t k h t.root).flatMap cI) (jo t k h t.root).length),(15,ae aA),(16,ae ((h:Int)-(m:Nat))),(17,.v (.pointer (some ⟨bx,0+(dr t k h t.root m).toNat*5,none⟩))),(18,ae (((if p.leaf=true then aN p up else aN p up+1):Nat):Int))],(⟨u7,75,2,[aP (some ⟨bx,0,none⟩) L.length cap,ae t.root]⟩::⟨b6,75,2,[bF,ae 0]⟩::⟨bx,146,cap*5,flatMap gO (L.set (dr t k h t.root m).toNat (⟨{p with keys:=iH p.keys (aN p up) up},I,O,E,ai,ci,si⟩:aX))⟩::(E++(si++((L.eraseIdx (dr t k h t.root m).toNat).flatMap bO))))⟩:St)) ?_ ?_
  ·refine cM [6,12,13,15,16,17,18,97] ?_;refine aR 3 ?_ (h:=by exact(cW (mk:=Op.load 4) rfl ot (lG (k:=2) (j:=0) (d:=bG p.leaf) (ls:=(L.set (dr t k h t.root m).toNat (⟨{p with keys:=iH p.keys (aN p up) up},I,O,E,ai,ci,si⟩:aX))) iz rfl rfl rfl isAgg4 yd (by rw[getElem_set_self];rfl))));refine bH ?_;refine av ?_ ?_<;>intro dR fH
   ·have dx:(((if p.leaf=true then aN p up else aN p up+1):Nat):Int)=(((aN p up):Nat):Int)+1:=(by rw[if_neg (by simpa using dR)];rfl)
    refine cc [6,12,13,15,16,17,18] ?_;exact z93
   have dx:(((if p.leaf=true then aN p up else aN p up+1):Nat):Int)=(((aN p up):Nat):Int):=(by rw[if_pos (by simpa using dR)])
   refine CD.skip ?_;exact z93
  rintro _ ⟨rfl⟩;refine aB 4 ?_;refine bV (cW (mk:=Op.load 70) rfl ot (lG (k:=2) (j:=2) (d:=aP ai p.kids.length ci) (ls:=(L.set (dr t k h t.root m).toNat (⟨{p with keys:=iH p.keys (aN p up) up},I,O,E,ai,ci,si⟩:aX))) iz rfl rfl rfl isAgg70 yd (by rw[getElem_set_self];rfl))) ?_;refine aH 2 ?_;refine eD (cq 0 [_]) [.int .i64 0] [_] zeroValue3 runUnderlying70 sizeOf3 (fun alG=>?_);refine OD.call ap rfl rfl rfl call93 (aa4 p.kids (if p.leaf=true then aN p up else aN p up+1) aA ai ci si alG GS.1 w4 kC) ⟨ot,ot,ot,trivial⟩ (Perm.cons _ (tW (A:=[_,_,_]))) ?_;rintro _ U ⟨Z,fh,rfl,lQ⟩;refine OD.perm (wU (A:=[_,_,_])) ?_;refine aH 2 ?_
  refine OD.storeAt (k:=2) (cs':=flatMap gO (L.set (dr t k h t.root m).toNat (⟨(bz p up aA),I,O,E,Z,fh,U⟩:aX))) ap rfl rfl ot rfl rfl ot rfl rfl sizeOf70 rfl (by show 0+(dr t k h t.root m).toNat*5+2+1≤(flatMap gO (L.set (dr t k h t.root m).toNat (⟨{p with keys:=iH p.keys (aN p up) up},I,O,E,ai,ci,si⟩:aX))).length;rw[cz iz,length_set];omega) (by show(flatMap gO (L.set (dr t k h t.root m).toNat (⟨{p with keys:=iH p.keys (aN p up) up},I,O,E,ai,ci,si⟩:aX))).set (0+(dr t k h t.root m).toNat*5+2) _=_;rw[Nat.zero_add,wL iz (a':=(⟨(bz p up aA),I,O,E,Z,fh,U⟩:aX)) w7 yd (by rw[getElem_set_self];show gO (⟨(bz p up aA),I,O,E,Z,fh,U⟩:aX)=(gO (⟨{p with keys:=iH p.keys (aN p up) up},I,O,E,ai,ci,si⟩:aX)).set 2 _;unfold gO;rw[show((⟨(bz p up aA),I,O,E,Z,fh,U⟩:aX)).p.kids.length=p.kids.length+1 from zq GS.1];rfl),set_set]) ?_;have wj:(E++(U++((L.eraseIdx (dr t k h t.root m).toNat).flatMap bO))).Perm ((L.set (dr t k h t.root m).toNat (⟨(bz p up aA),I,O,E,Z,fh,U⟩:aX)).flatMap bO):=(by have:=(zi bO hj (⟨(bz p up aA),I,O,E,Z,fh,U⟩:aX)).symm;rw[show bO (⟨(bz p up aA),I,O,E,Z,fh,U⟩:aX)=E++U from rfl,append_assoc] at this;exact this)
  refine OD.perm (S':=⟨u7,75,2,[aP (some ⟨bx,0,none⟩) (L.set (dr t k h t.root m).toNat (⟨(bz p up aA),I,O,E,Z,fh,U⟩:aX)).length cap,ae t.root]⟩::⟨b6,75,2,[bF,ae 0]⟩::(([⟨bx,146,cap*5,flatMap gO (L.set (dr t k h t.root m).toNat (⟨(bz p up aA),I,O,E,Z,fh,U⟩:aX))⟩]:List ah)++(L.set (dr t k h t.root m).toNat (⟨(bz p up aA),I,O,E,Z,fh,U⟩:aX)).flatMap bO)) (by rw[length_set];exact Perm.cons _ (Perm.cons _ (Perm.cons _ wj))) ?_;have Xi:uB (L.set (dr t k h t.root m).toNat (⟨(bz p up aA),I,O,E,Z,fh,U⟩:aX)) (some ⟨bx,0,none⟩) cap [⟨bx,146,cap*5,flatMap gO (L.set (dr t k h t.root m).toNat (⟨(bz p up aA),I,O,E,Z,fh,U⟩:aX))⟩]:=bQ yc ym;have j8:∀o∈(L.set (dr t k h t.root m).toNat (⟨(bz p up aA),I,O,E,Z,fh,U⟩:aX)),rA o:=fun x hx=>by rcases mem_or_eq_of_mem_set hx with hx|rfl;exact aT x hx;exact⟨fF,lQ⟩
  refine an 131 [6,12,13,16,17] ?_;refine cM [6,12,13,16,116] ?_;refine aR 3 ?_ (h:=by exact(cW (mk:=Op.load 144) rfl ot (lG (k:=2) (j:=1) (d:=aP I (bz p up aA).keys.length O) (ls:=(L.set (dr t k h t.root m).toNat (⟨(bz p up aA),I,O,E,Z,fh,U⟩:aX))) iz rfl rfl rfl isAgg144 yd (by rw[getElem_set_self];rfl))));refine bH ?_;refine av ?_ ?_<;>intro fM gW
  ·have h4:(bz p up aA).keys.length≤4:=(by have:=of_decide_eq_true fM;omega)
   refine CD.exit ?_;refine⟨_,aJ,(L.set (dr t k h t.root m).toNat (⟨(bz p up aA),I,O,E,Z,fh,U⟩:aX)),(some ⟨bx,0,none⟩),cap,[⟨bx,146,cap*5,flatMap gO (L.set (dr t k h t.root m).toNat (⟨(bz p up aA),I,O,E,Z,fh,U⟩:aX))⟩],t.root,Xi,j8,(by rw[af0 hm he (by rw[←ir];exact h4),←ir,map_set];rfl),wc,rfl⟩
  have h4:¬(bz p up aA).keys.length≤4:=(by have:=of_decide_eq_false fM;omega)
  have h5:(bz p up aA).keys.length=5:=(by have:=full.eO;omega)
  refine dY 2 ?_;refine bV (dO 1 (h:=by first|exact .l (j:=h-m) w4 hW|exact .r (j:=h-m) w4 hW)) ?_;refine bV (cW (mk:=Op.load 3) rfl ot (rJ (d:=ae (dr t k h t.root m)) (i:=h-m) eM isAgg3 hW (by rw[Zs];rfl))) ?_;have lC:(L.set (dr t k h t.root m).toNat (⟨(bz p up aA),I,O,E,Z,fh,U⟩:aX)).length=L.length:=length_set ..;refine OD.call ap rfl rfl rfl call94 (acB (L.set (dr t k h t.root m).toNat (⟨(bz p up aA),I,O,E,Z,fh,U⟩:aX)) u7 t.root (dr t k h t.root m) (some ⟨bx,0,none⟩) cap [⟨bx,146,cap*5,flatMap gO (L.set (dr t k h t.root m).toNat (⟨(bz p up aA),I,O,E,Z,fh,U⟩:aX))⟩] (by rw[lC];exact Pe) (bz p up aA) (by rw[getElem_set_self]) (by rw[lC];omega) Xi j8 h5 (fun hl=>by have:=full.leaf hl;omega) (fun hl=>by have:=(full.node hl).1;omega) (fun x hx=>(full.lJ x hx).2) full.hlen) ⟨ot,ot,trivial⟩ (Perm.cons _ (perm_append_singleton _ _).symm) ?_;rintro _ _ ⟨rfl,L3,It,Hl,Iu,alH,x6,hL3,rfl⟩;refine OD.perm (Perm.cons _ (perm_append_singleton _ _)) ?_;have DA:kM t k row h (m+1)=(⟨L3.map aX.p,t.root⟩,some (ig (bz p up aA),((L.set (dr t k h t.root m).toNat (⟨(bz p up aA),I,O,E,Z,fh,U⟩:aX)).length:Int))):=(by rw[aej hm he (by rw[←ir];exact h4),←ir,hL3,lC];unfold jA;show(({ag:=(map aX.p L).set _ _++_,root:=t.root}:aG),_)=_;rw[map_set,set_set,length_map])
  refine an 131 [6,12,13,14,15,16] ?_;refine cc [6,12,13,14,15,16] ?_;refine⟨((m+1),(ig (bz p up aA)),((L.set (dr t k h t.root m).toNat (⟨(bz p up aA),I,O,E,Z,fh,U⟩:aX)).length:Int),L3,It,Hl,Iu),_,cr,aJ,w4,DA,alH,x6,rfl⟩
 rintro _ ⟨L,ad,cap,Sx,root,ey,aT,Hp,pO,rfl⟩;refine af [6,12,128] ?_;refine av ?_ ?_<;>intro jb px
 ·refine aB 1 ?_;refine aO 1 [_,_] sizeOf75 ?_;refine an 131 [6,7] ?_;refine aM [] ?_;unfold pz;rw[if_pos hz,if_neg w4,if_neg uJ,if_pos (by rw[Hp];show 4000<(L.map aX.p).length;rw[length_map];omega)];exact zE _
 refine aB 1 ?_;refine aO 1 [_,_] sizeOf75 ?_;refine an 131 [6,7] ?_;refine aM (Sx++L.flatMap bO) ?_;unfold pz;rw[if_pos hz,if_neg w4,if_neg uJ,if_neg (by rw[Hp];show ¬4000<(L.map aX.p).length;rw[length_map];omega)];exact⟨_,rfl,L,ad,cap,Sx,by rw[Hp],ey,aT,by rw[Hp],rfl⟩
theorem acC(t:aG)(h:Nat)(k:K)(row:Int)(hb:∀p∈t.ag,p.keys.length≤maxLen∧p.kids.length≤maxLen)(hv:gS t=0→Valid t h):VP Tryz.prog G 50 [.agg (cT t),au 1 cB k,ae row] (.dD [.agg (cT (pz t k row h).1),ae (pz t k row h).2]):=(Jp t h k row hb hv).cover fun r S hr=>hr.view

end Go.Proofs.YtkgmonfgofobaaaGreatDoor.Tw
namespace Go.Proofs.YtkgmonfgofobaaaGreatDoor.Tr
open List
open Go.Proofs.Tryz
open Go.Lib (compareBytes)
variable {t:aG} {h:Nat} {k:K}
variable {n:Nat}
theorem Te(hp:∀p∈t.ag,eN p t.ag.length):∀{h h':Nat} {i:Int} {a b c d:K},en t h i a b→en t h' i c d→h=h'
 | 0,0,_,_,_,_,_,_,_=>rfl
 | 0,h'+1,i,_,_,_,_,h1,h2=>by have:=h1.2.1;rw[h2.2.1] at this;cases this
 | h+1,0,i,_,_,_,_,h1,h2=>by have:=h1.2.1;rw[h2.2.1] at this;cases this
 | h+1,h'+1,i,_,_,_,_,h1,h2=>by
  obtain⟨p1,p2,p3,O,E⟩:=h1;obtain⟨q1,q2,U,Z,I⟩:=h2;have hn:=((hp _ (jK p1)).node p2).1;have:=Te hp (E 0 w4) (I 0 w4);rw[this]
noncomputable def cQ(t:aG):Nat:=Classical.epsilon fun h=>Valid t h
theorem Fl(v:Valid t h):Valid t (cQ t):=Classical.epsilon_spec (p:=fun h=>Valid t h) ⟨h,v⟩
theorem Lx(v:Valid t h):cQ t=h:=Te v.fR (Fl v).ok v.ok
noncomputable def dh(t:aG):List (K×Int):=lm t (cQ t)
theorem KY(hp:∀p∈t.ag,eN p t.ag.length):∀{h:Nat} {i:Int} {a b:K},en t h i a b→2 ^ h≤(ids t h i).length
 | 0,i,_,_,_=>by simp[ids]
 | h+1,i,_,_,ok=>by
  obtain⟨p1,p2,p3,O,E⟩:=ok;have hn:=(hp _ (jK p1)).node p2;have hk:1≤(t.pg i).keys.length:=by
   have:=hn.2;cases lO:(t.pg i).keys with
   | nil=>exact absurd lO this
   | cons _ _=>simp
  have h0:=KY hp (E 0 w4);have h1:=KY hp (E 1 w4);have key:∀(l:List Int) (h2:2≤l.length),2 ^ h≤(ids t h (l[0]'w4)).length→2 ^ h≤(ids t h (l[1]'w4)).length→2 ^ h+2 ^ h≤(l.flatMap (ids t h)).length:=by
   intro l h2 I a1;match l,h2 with
   | x::y::r,_ =>
    simp only[flatMap_cons,length_append];simp only[getElem_cons_zero,getElem_cons_succ] at I a1;omega
  have:=key _ w4 h0 h1;rw[ids,length_cons,Nat.pow_succ];omega
theorem af1(v:Valid t h):h≤11:=by
 have h1:=KY v.fR v.ok;rw[v.all] at h1;have h2:=v.n9;refine Nat.le_of_not_lt fun h3=>?_;have:2 ^ 12≤2 ^ h:=Nat.pow_le_pow_right w7 h3;omega
structure ja (t:aG) (n:Nat):Prop where
 val:Valid t (cQ t)
 eO:t.ag.length≤1+13*n
theorem ja.mono{m:Nat}(g:ja t n)(h:n≤m):ja t m:=⟨g.val,by have:=g.eO;omega⟩
theorem aek:ja qi 0:=⟨Fl Q7,by decide⟩
theorem ael:dh qi=[]:=by unfold dh;rw[Lx Q7];exact adW
theorem xj{row:Int}(g:ja t n)(hn:n≤300)(lA:∀x∈dh t,x.1≠k)(hk:1≤k.length∧k.length≤100)(hr:0≤row) :
  ja (gb t (cQ t) k row) (n+1)∧(gb t (cQ t) k row).ag.length≤4000∧∀x,x∈dh (gb t (cQ t) k row)↔x=(k,row)∨x∈dh t:=by
 have E:=af1 g.val;have hf:=g.eO;obtain⟨h',_,v,⟨_,hm⟩,he⟩:=ab5 g.val lA hk hr w4;refine⟨⟨Fl v,by omega⟩,v.n9,fun x=>?_⟩;unfold dh;rw[Lx v];exact he x
theorem J2(g:ja t n)(ht:Cr t k (cQ t)):ja (hU t (cQ t) k) n∧∀x,x∈dh (hU t (cQ t) k)↔x∈dh t∧x.1≠k:=by
 obtain⟨v,hl,he⟩:=ab6 g.val ht;refine⟨⟨Fl v,by have:=g.eO;omega⟩,fun x=>?_⟩;unfold dh;rw[Lx v];exact he x
theorem JD:∀{a b:List (K×Int)},a.Pairwise (fun x y=>bu x.1 y.1)→b.Pairwise (fun x y=>bu x.1 y.1)→(∀x,x∈a↔x∈b)→a=b
 | [],[],_,_,_=>rfl
 | [],y::b,_,_,h=>absurd ((h y).2 mem_cons_self) bj
 | x::a,[],_,_,h=>absurd ((h x).1 mem_cons_self) bj
 | x::a,y::b,ha,hb,h=>by
  obtain⟨a1,a2⟩:=pairwise_cons.1 ha;obtain⟨b1,b2⟩:=pairwise_cons.1 hb;have E:x=y:=by
   rcases mem_cons.1 ((h x).1 mem_cons_self) with e|e
   ·exact e
   rcases mem_cons.1 ((h y).2 mem_cons_self) with e2|e2
   ·exact e2.symm
   exact absurd (a1 y e2) (xA (b1 x e))
  subst E;congr 1;refine JD a2 b2 fun z=>⟨fun hz=>?_,fun hz=>?_⟩
  ·rcases mem_cons.1 ((h z).1 (mem_cons_of_mem _ hz)) with e|e
   ·subst e;exact absurd (a1 z hz) (jl _)
   exact e
  rcases mem_cons.1 ((h z).2 (mem_cons_of_mem _ hz)) with e|e
  ·subst e;exact absurd (b1 z hz) (jl _)
  exact e

end Go.Proofs.YtkgmonfgofobaaaGreatDoor.Tr
