/-
  What the proof of IndexRows leans on, part 6 of 8: walks of the program's functions at the level of values, and plain facts of what they compute.
-/
import Derived.Test.YtbcmjoaggammcaaGreatDoorPIndexRows5
set_option linter.unusedVariables false
set_option linter.unusedSimpArgs false
set_option maxRecDepth 100000
set_option maxHeartbeats 4000000
namespace Go.Proofs.YtbcmjoaggammcaaGreatDoor.Tw
open List
open Go.Proofs.Tryz
open Go.RowKit V Tr Pk
structure aA where
 p:cR
 ak:Option Addr
 ck:Nat
 sk:List ag
 ai:Option Addr
 ci:Nat
 si:List ag
def gO(o:aA):List D:=[.v (.bool o.p.leaf),.v (.slice o.ak o.p.keys.length o.ck),.v (.slice o.ai o.p.kids.length o.ci),.list 1 (o.p.high.flatMap cB) o.p.high.length,.v (.int .i64 o.p.next)]
theorem fW(o:aA):(gO o).length=5:=rfl
theorem uz(o:aA):(gO o).all V.one=true:=rfl
def bO(o:aA):List ag:=o.sk++o.si
def qm(o:aA):Prop:=oq o.p.keys o.ak o.ck o.sk∧lu o.p.kids o.ai o.ci o.si
theorem Rv{S:List ag}:∀{L:List aA},(∀o∈L,qm o)→(∀B∈L.flatMap bO,B∈S)→gk S (L.flatMap gO) ((L.map aA.p).flatMap cP)
 | [],_,_=>trivial
 | o::L,h,hs=>by
  rw[map_cons,flatMap_cons,flatMap_cons];obtain⟨h1,h2⟩:=h o mem_cons_self;refine gk.append ⟨eL,kZ h1 (cr fX _) (fun B E=>hs B ?_),kZ h2 (cr eu _) (fun B E=>hs B ?_),eL,eL,trivial⟩ (Rv (fun o ho=>h o (mem_cons_of_mem _ ho)) fun B E=>hs B ?_)
  ·rw[flatMap_cons];exact mem_append_left _ (mem_append_left _ E)
  ·rw[flatMap_cons];exact mem_append_left _ (mem_append_right _ E)
  rw[flatMap_cons];exact mem_append_right _ E
abbrev tE(L:List aA)(ad:Option Addr)(cap:Nat)(S:List ag):Prop:=bq 93 5 (L.flatMap gO) L.length ad cap S
theorem Ji{S Sx:List ag}{L:List aA}{ad:Option Addr}{cap:Nat}{root:Int}(ho:tE L ad cap Sx)(h:∀o∈L,qm o)(hs:∀B∈Sx++L.flatMap bO,B∈S) :
  View S (.agg [.v (.slice ad L.length cap),.v (.int .i64 root)]) (.agg (cT ⟨L.map aA.p,root⟩)):=by
 refine um ⟨?_,eL,trivial⟩;have:=Am ho (Rv h fun B E=>hs B (mem_append_right _ E)) (cr EO _ |>.trans bu) (fun B E=>hs B (mem_append_left _ E));rw[length_map];exact this
def FC(t:aE)(r:D)(S:List ag):Prop:=∃L ad cap Sx,r = .agg [.v (.slice ad (length L) cap),.v (.int .i64 t.root)]∧tE L ad cap Sx∧(∀o∈L,qm o)∧L.map aA.p=t.af∧S=Sx++L.flatMap bO
theorem Qz(L:List aA)(o:aA):(L++[o]).flatMap bO=L.flatMap bO++bO o:=by simp
variable {G:List (Nat×List Value)}
theorem pK{α:Type}{l:List α}{j:Nat}(h:j<l.length):take j l++[l[j]]=take (j+1) l:=(take_succ_eq_append_getElem h).symm
theorem Yt:(Tryz.prog.info? 49).map (fun i=>(i.zero,i.size,i.bytes))=some (some (.slice none 0 0),1,24):=by kernel_rfl
theorem X7:(Tryz.prog.info? 93).map (fun i=>(i.zero,i.size,i.bytes))=some (some (.agg #[.bool false,.slice none 0 0,.slice none 0 0,.slice none 0 0,.int .i64 0]),5,88):=by kernel_rfl
theorem Ni : ∀ w, ((#[{ name := "Leaf", type := 4, offset := 0, embedded := false, tag := "", pkgPath := "", byteOffset := 0 }, { name := "Keys", type := 90, offset := 1, embedded := false, tag := "", pkgPath := "", byteOffset := 8 }, { name := "Kids", type := 91, offset := 2, embedded := false, tag := "", pkgPath := "", byteOffset := 32 }, { name := "High", type := 49, offset := 3, embedded := false, tag := "", pkgPath := "", byteOffset := 56 }, { name := "Next", type := 3, offset := 4, embedded := false, tag := "", pkgPath := "", byteOffset := 80 }] : Array Field).mapM fun f => do pure (f.offset, ← sizeOf f.type) : Sem (Array (Nat × Nat))).run Tryz.prog w = .ok #[(0, 1), (1, 1), (2, 1), (3, 1), (4, 1)] w := fun w => by simp [sizeOf3, sizeOf4, sizeOf49, sizeOf90, sizeOf91]
theorem EP(t:aE)(h:Nat)(v:Valid t h):VC Tryz.prog G 115 [.agg (cT t)] [] (FC t):=by
 refine VC.body func115 rfl ntmps115 aO fun X0 w0 aZ=>?_;unfold cT;have dr:maxLen=9223372036854775807:=rfl;have hval:=v;have MD:=v.mT;refine cj ?_;refine OD.box (ds:=[_,_]) an rfl rfl ot rfl rfl (fun b1=>?_);refine OD.alloc (ds:=[_,_]) an rfl rfl zeroValue46 rfl (fun b2=>?_);refine aj 51 [1,2] ?_;refine aC 3 ?_;refine OD.alloc (ds:=[_,_]) an rfl rfl zeroValue46 rfl (fun b3=>?_);refine aN 0 [_,_] sizeOf46 ?_;refine aj 51 [1,2,3] ?_;refine ae [2,3,13,14,15] ?_;refine eH [2,3,13,14] (fun aW _ (E:Nat×List aA×Option Addr×Nat×List ag) aK=>match E with|(i,L,dQ,dD,Sx)=>(i≤t.af.length)∧(L.map aA.p=t.af.take i)∧(∀o∈L,qm o)∧(tE L dQ dD Sx)∧aK=(⟨51,(15,.v (.int .i64 (i:Nat)))::aW,(⟨b3,46,2,[.v (.slice dQ L.length dD),.v (.int .i64 t.root)]⟩::⟨b2,46,2,[.v (.slice none 0 0),.v (.int .i64 0)]⟩::(Sx++L.flatMap bO))⟩:St)) (fun (E:Nat×List aA×Option Addr×Nat×List ag)=>match E with|(i,L,dQ,dD,Sx)=>t.af.length-i) (0,([]:List aA),none,0,[]) ⟨(Nat.zero_le _),rfl,(fun o h=>by cases h),iC,rfl⟩ ?_;rintro⟨i,L,dQ,dD,Sx⟩ _ ⟨hi,hL,aQ,ec,rfl⟩;refine ae [2,3,13,14,15,16] ?_;refine aq (fun az aG=>?_) (fun az aG=>?_)
 ·have aa:i<t.af.length:=(by omega)
  have po:=v.page _ (getElem_mem aa);have rh:L.length=i:=(by have:=congrArg length hL;rw[length_map,length_take] at this;omega)
  have mw:=po.eI;have WR:=po.hlen;have E8:(t.af[i]'aa).kids.length≤5:=by
      exact VS
  refine aC 2 ?_;refine OD.alloc (ds:=[_,_,_,_,_]) an rfl rfl zeroValue93 rfl (fun b5=>?_);refine aN 0 [_,_,_,_,_] sizeOf93 ?_;refine aj 51 [2,3,5,13,14,15] ?_;refine cj ?_;refine aY [2,3,5,6,13,14,15] ?_;refine ae [2,3,5,6,13,14,15,20,21,22] ?_;refine CD.block ?_;refine l5 (fun (E:Nat×Option Addr×Nat×List ag) aK=>match E with|(j,ie,ig,Sy)=>(j≤(t.af[i]'aa).keys.length)∧(oq (take j (t.af[i]'aa).keys) ie ig Sy)∧aK=(⟨51,[(2,.v (.pointer (some ⟨b2,0,none⟩))),(3,.v (.pointer (some ⟨b3,0,none⟩))),(5,.v (.pointer (some ⟨b5,0,none⟩))),(6,.v (.slice ie (take j (t.af[i]'aa).keys).length ig)),(13,.list 5 (t.af.flatMap cP) t.af.length),(14,.v (.int .i64 (t.af.length:Nat))),(15,.v (.int .i64 (i:Nat))),(20,.list 1 ((t.af[i]'aa).keys.flatMap cK) (t.af[i]'aa).keys.length),(21,.v (.int .i64 ((t.af[i]'aa).keys.length:Nat))),(22,.v (.int .i64 (j:Nat)))],(⟨b5,93,5,cP (t.af[i]'aa)⟩::⟨b3,46,2,[.v (.slice dQ L.length dD),.v (.int .i64 t.root)]⟩::⟨b2,46,2,[.v (.slice none 0 0),.v (.int .i64 0)]⟩::(Sy++(Sx++L.flatMap bO)))⟩:St)) (fun (E:Nat×Option Addr×Nat×List ag)=>match E with|(j,ie,ig,Sy)=>(t.af[i]'aa).keys.length-j) (0,none,0,[]) ⟨(Nat.zero_le _),iC,rfl⟩ (aM (h:=by repeat (first|exact trivial|refine⟨(by (repeat (first|exact fu|(apply fN;focus (first|rfl|(simp;done)|(congr 2;omega)|(apply eB;exact pK O)))|(apply fE;focus rfl)));done),?_⟩))) ?_
  rintro⟨j,ie,ig,Sy⟩ _ ⟨hj,U,rfl⟩;refine ae [2,3,5,6,13,14,15,20,21,22,23] ?_;refine aq (fun aH aT=>?_) (fun aH aT=>?_)
  ·have O:j<(t.af[i]'aa).keys.length:=(by omega)
   have KF:=(po.kR _ (getElem_mem O)).2;refine ae [2,3,5,6,8,13,14,15,20,21,22] ?_;refine dK 2 ?_;refine dS call59 (jK (t.af[i]'aa).keys[j] w4) ?_;refine ei (cc 0 [_]) [.slice none 0 0] [_] zeroValue49 runUnderlying90 sizeOf49 (fun tY=>?_);refine fH 0 29 1 1 ?_;refine OD.ee (ls:=(take j (t.af[i]'aa).keys)) (new:=[(t.af[i]'aa).keys[j]]) (Sq:=Sy) fX oV an rfl rfl underlying90 Yt rfl w7 ot U (HK (A:=[_,_,_])) ot bu vc gN (fun Z I KA KB=>?_);refine OD.perm (Pj (S1:=[⟨Z,49,I*1,flatMap cK ((take j (t.af[i]'aa).keys)++[(t.af[i]'aa).keys[j]])⟩]) (A:=[_,_,_])) ?_;refine aj 51 [2,3,5,6,13,14,15,20,21,22] ?_;refine cg [2,3,5,6,13,14,15,20,21,22] ?_;refine⟨((j+1),(some ⟨Z,0,none⟩),I,[⟨Z,49,I*1,flatMap cK ((take j (t.af[i]'aa).keys)++[(t.af[i]'aa).keys[j]])⟩]),_,cz,(aM (h:=by repeat (first|exact trivial|refine⟨(by (repeat (first|exact fu|(apply fN;focus (first|rfl|(simp;done)|(congr 2;omega)|(apply eB;exact pK O)))|(apply fE;focus rfl)));done),?_⟩))),w4,(bq.cast (bI KA KB) (pK O)),rfl⟩
  have hjt:take j (t.af[i]'aa).keys=(t.af[i]'aa).keys:=take_of_length_le w4;rw[hjt] at U ⊢;refine CD.exit ?_;refine fF 16 (ap (take 1 _)) ?_ (fun _ h=>(Sublist.map _ (take_sublist _ _)).subset h);refine ax 0 rfl (cY 0) ?_;refine ax 2 rfl (cY 0) ?_;refine ax 3 rfl (dw 0) ?_;refine ax 4 rfl bg ?_;refine ax 5 rfl (cY 2) ?_;refine ax 6 rfl (dw 0) ?_;refine ax 8 rfl (cY 3) ?_;refine ax 9 rfl (dw 0) ?_;refine ax 11 rfl (cY 4) ?_;refine ax 12 rfl (dw 0) ?_;refine dh.later rfl ?_;refine AD.two (i:=1) (j:=7) ay ?_ ?_
  ·refine at_ rfl (dw 1) ?_;refine AD.one (i:=7) ay ?_;refine bf.call rfl an rfl rfl rfl call114 (nE (t.af[i]'aa).kids w4) ⟨ot,trivial⟩ (eK _) (fun b hb=>by simp[ap,St.put] at hb ⊢;try simp[hb]) ?_;rintro _ Sz ⟨lD,lE,rfl,xH⟩;refine AD.perm (iW (A:=[_,_,_])) ?_;have vh:(L++[(⟨(t.af[i]'aa),ie,ig,Sy,lD,lE,Sz⟩:aA)]).map aA.p=t.af.take (i+1):=(by rw[map_append,hL];exact pK aa)
   have jD:∀o∈L++[(⟨(t.af[i]'aa),ie,ig,Sy,lD,lE,Sz⟩:aA)],qm o:=fun o ho=>by rcases mem_append.1 ho with ho|ho;exact aQ o ho;rw[mem_singleton] at ho;subst ho;exact⟨U,xH⟩
   exact z117
  refine bf.call rfl an rfl rfl rfl call114 (nE (t.af[i]'aa).kids w4) ⟨ot,trivial⟩ (eK _) (fun b hb=>by simp[ap,St.put] at hb ⊢;try simp[hb]) ?_;rintro _ Sz ⟨lD,lE,rfl,xH⟩;refine AD.perm (iW (A:=[_,_,_])) ?_;have vh:(L++[(⟨(t.af[i]'aa),ie,ig,Sy,lD,lE,Sz⟩:aA)]).map aA.p=t.af.take (i+1):=(by rw[map_append,hL];exact pK aa)
  have jD:∀o∈L++[(⟨(t.af[i]'aa),ie,ig,Sy,lD,lE,Sz⟩:aA)],qm o:=fun o ho=>by rcases mem_append.1 ho with ho|ho;exact aQ o ho;rw[mem_singleton] at ho;subst ho;exact⟨U,xH⟩
  refine AD.two (i:=1) (j:=10) ay ?_ ?_
  ·refine at_ rfl (dw 1) ?_;exact z117
  refine ju call59 (jK (t.af[i]'aa).high w4) ?_;refine cq 13 rfl (nf (pl:=[(0,_),(1,_),(2,_),(3,_),(4,_)]) (ds:=[_,_,_,_,_]) rfl zeroValue93 runUnderlying93 Ni ⟨rfl,ot,rfl,ot,rfl,ot,rfl,ot,rfl,ot,trivial⟩ rfl rfl) ?_;refine AD.two (i:=1) (j:=14) ay ?_ ?_
  ·refine at_ rfl (dw 1) ?_;refine AD.one (i:=14) ay ?_;refine jf (cc 0 [_]) [.bool false,.slice none 0 0,.slice none 0 0,.slice none 0 0,.int .i64 0] [_,_,_,_,_] zeroValue93 runUnderlying44 sizeOf93 (fun zO=>?_);refine jg 0 46 5 1 ?_;exact Lr
  refine jf (cc 0 [_]) [.bool false,.slice none 0 0,.slice none 0 0,.slice none 0 0,.int .i64 0] [_,_,_,_,_] zeroValue93 runUnderlying44 sizeOf93 (fun zO=>?_);refine jg 0 46 5 1 ?_;refine AD.one (i:=1) ay ?_;refine at_ rfl (dw 1) ?_;exact Lr
 refine aC 1 ?_;refine aN 1 [_,_] sizeOf46 ?_;refine aj 51 [2] ?_;refine aJ (Sx++L.flatMap bO) ?_;exact⟨L,dQ,dD,Sx,rfl,ec,aQ,by rw[hL,take_of_length_le w4],rfl⟩

end Go.Proofs.YtbcmjoaggammcaaGreatDoor.Tw

namespace Go.Proofs.YtbcmjoaggammcaaGreatDoor.Tw
open List
open Go.Proofs.Tryz
open Go.RowKit V Go.Proofs.YtbcmjoaggammcaaGreatDoor.Tr Pk
open Go.Lib (compareBytes)
variable {t:aE} {lv:List (List Int)} {level:Nat} {i:Int}
structure ni (t:aE) (s:jm):Prop where
 nd:s.1.Nodup
 rg:∀x∈s.1,0≤x∧x<t.af.length
 eI:s.2.length≤s.1.length
 each:∀l∈s.2,l.length≤s.1.length
 el:∀l∈s.2,∀x∈l,0≤x∧x<t.af.length
theorem abg{n:Nat}{l:List Int}(h:l.Nodup)(hr:∀x∈l,0≤x∧x<n):l.length≤n:=by
 induction n generalizing l with
 | zero =>
  cases l with
  | nil=>simp
  | cons a l=>have:=hr a mem_cons_self;omega
 | succ n ih =>
  have h1:=ih (l:=l.erase (n:Int)) (h.erase _) fun x hx=>by
   have h2:=(h.mem_erase_iff).1 hx;have h3:=hr x h2.2;have:=h2.1;omega
  rw[length_erase] at h1;split at h1<;>omega
theorem ni.mT{s:jm}(h:ni t s):s.1.length≤t.af.length:=abg h.nd h.rg
theorem ZL{n:Nat}(h:∀l∈lv,l.length≤n):∀l∈kj lv level i,l.length≤n+1:=fun l hl=>by
 obtain⟨j,hj,rfl⟩:=mem_iff_getElem.1 hl;have e:(kj lv level i)[j]=(kj lv level i).getD j []:=(by rw[getD_eq_getElem?_getD,getElem?_eq_getElem hj];rfl)
 rw[e,Ew,length_append];have h1:(lv.getD j []).length≤n:=by
  rw[getD_eq_getElem?_getD];rcases Nat.lt_or_ge j lv.length with q|q
  ·rw[getElem?_eq_getElem q];exact h _ (getElem_mem q)
  rw[getElem?_eq_none q];simp
 split
 ·simp only[length_cons,length_nil];omega
 simp only[length_nil];omega
theorem acU{Q:Int→Prop}(h:∀l∈lv,∀x∈l,Q x)(hi:Q i):∀l∈kj lv level i,∀x∈l,Q x:=fun l hl x hx=>by
 obtain⟨j,hj,rfl⟩:=mem_iff_getElem.1 hl;have e:(kj lv level i)[j]=(kj lv level i).getD j []:=(by rw[getD_eq_getElem?_getD,getElem?_eq_getElem hj];rfl)
 rw[e,Ew,mem_append] at hx;rcases hx with hx|hx
 ·rw[getD_eq_getElem?_getD] at hx;rcases Nat.lt_or_ge j lv.length with q|q
  ·rw[getElem?_eq_getElem q] at hx;exact h _ (getElem_mem q) x hx
  rw[getElem?_eq_none q] at hx;cases hx
 split at hx
 ·rw[mem_singleton] at hx;subst hx;exact hi
 cases hx
theorem ni.add{s:jm}(h:ni t s)(hi:0≤i∧i<t.af.length)(hn:i∉s.1)(hl:level≤s.1.length):ni t (s.1++[i],kj s.2 level i):=by
 refine⟨?_,fun x hx=>?_,?_,?_,acU h.el hi⟩
 ·exact nodup_append.2 ⟨h.nd,by simp,fun a ha b hb e=>by rw[mem_singleton] at hb;subst hb;subst e;exact hn ha⟩
 ·rcases mem_append.1 hx with hx|hx
  ·exact h.rg x hx
  rw[mem_singleton] at hx;subst hx;exact hi
 ·show(kj s.2 level i).length≤(s.1++[i]).length;rw[HX,length_append];have:=h.eI;simp;omega
 show ∀l∈kj s.2 level i,l.length≤(s.1++[i]).length;rw[length_append];exact ZL h.each
theorem P9{t:aE}{go:Int→K→K→jm→Option (Nat×jm)}{low:K}{p:cR}{n:Nat}(E:∀(c:Int) lo hi s d s',(0≤c∧c<t.af.length)→ni t s→n≤s.1.length→go c lo hi s=some (d,s')→ni t s'∧s.1.length≤s'.1.length) :
  ∀(cs:List Int) (k:Nat) (deep:Option Nat) (s:jm) (d:Nat) (s':jm),(∀c∈cs,0≤c∧c<t.af.length)→ni t s→n≤s.1.length→lp go low p cs k deep s=some (d,s')→ni t s'∧s.1.length≤s'.1.length
 | [],k,deep,s,d,s',_,hs,_,h=>by
  rw[lp] at h;cases deep with
  | none=>cases h
  | some e=>simp at h;rw[←h.2];exact⟨hs,Nat.le_refl _⟩
 | c::cs,k,deep,s,d,s',hc,hs,hn,h=>by
  rw[lp] at h;cases hg:go c (gQ low p k) (gC p k) s with
  | none=>rw[hg] at h;cases h
  | some q =>
   obtain⟨d1,s1⟩:=q;rw[hg] at h;obtain⟨h1,h2⟩:=E _ _ _ _ _ _ (hc c mem_cons_self) hs hn hg;change (if deep=none∨deep=some d1 then lp go low p cs (k+1) (some d1) s1 else none)=_ at h;split at h
   ·obtain⟨h3,h4⟩:=P9 E cs _ _ _ _ _ (fun c tX=>hc c (mem_cons_of_mem _ tX)) h1 w4 h;exact⟨h3,by omega⟩
   cases h
theorem Oy{p:cR}(hp:ew p t.af.length)(hl:p.leaf=false):∀c∈p.kids,0≤c∧c<t.af.length:=fun c hc=>⟨hp.aB c hc,hp.uX hl c hc⟩
theorem IN{t:aE}(hp:uw t):∀(f:Nat) (i:Int) (lo hi:K) (level:Nat) (s:jm) (d:Nat) (s':jm),(0≤i∧i<t.af.length)→ni t s→level≤s.1.length→jd t f i lo hi level s=some (d,s')→ni t s'∧s.1.length≤s'.1.length
 | 0,i,lo,hi,level,s,d,s',_,_,_,h=>by rw[jd] at h;cases h
 | f+1,i,lo,hi,level,s,d,s',hr,hs,hl,h=>by
  rw[jd] at h;split at h
  ·cases h
  rename_i hn;split at h
  ·cases h
  have ha:=hs.add hr hn hl;have hlen:s.1.length+1=(s.1++[i]).length:=(by simp)
  split at h
  ·simp at h;rw[←h.2];exact⟨ha,by show s.1.length≤(s.1++[i]).length;omega⟩
  rename_i fB;have fB:(t.pg i).leaf=false:=(by simpa using fB)
  obtain⟨h1,h2⟩:=P9 (n:=level+1) (fun c lo hi s d s' hc hs hn h=>IN hp f c lo hi (level+1) s d s' hc hs hn h) _ _ _ _ _ _ (Oy (hp _ (jq hr)) fB) ha (by show level+1≤(s.1++[i]).length;omega) h;have h3:(s.1++[i]).length≤s'.1.length:=h2;exact⟨h1,by omega⟩
structure dm where
 l:List Int
 ad:Option Addr
 cp:Nat
 s:List ag
variable {L:List dm}
def gV(o:dm):List D:=[.v (.slice o.ad o.l.length o.cp)]
theorem vU(o:dm):(gV o).length=1:=rfl
theorem aev(o:dm):(gV o).all V.one=true:=rfl
def mG(o:dm):Prop:=lu o.l o.ad o.cp o.s
def qL:dm:=⟨[],none,0,[]⟩
theorem acV:mG qL:=.inl ⟨rfl,rfl,rfl,rfl,rfl⟩
abbrev zc(L:List dm)(ad:Option Addr)(cap:Nat)(S:List ag):Prop:=bq 91 1 (L.flatMap gV) L.length ad cap S
def UD(t:aE)(b bm:Nat)(n:Nat)(ad:Option Addr)(cap:Nat):ag:=⟨b,104,4,[.list 5 (t.af.flatMap cP) t.af.length,.v (.int .i64 t.root),.v (.map (some bm)),.v (.slice ad n cap)]⟩
def SW(t:aE)(b bm:Nat)(m:List Int)(L:List dm)(ad:Option Addr)(cap:Nat)(Sx:List ag):List ag:=UD t b bm L.length ad cap::kz bm m::(Sx++L.flatMap dm.s)
def UE(t:aE)(b bm:Nat):Option (Nat×jm)→D→List ag→Prop
 | none,r,S=>r = .v (.int .i64 (-1))∧S=[]
 | some (d,s),r,S=>r = .v (.int .i64 (d:Nat))∧∃L ad cap Sx,zc L ad cap Sx∧(∀o∈L,mG o)∧L.map dm.l=s.2∧S=SW t b bm s.1 L ad cap Sx
theorem yn{α:Type}(g:α→List ag):∀{L:List α} {j:Nat} (h:j<L.length),(L.flatMap g).Perm (g L[j]++(L.eraseIdx j).flatMap g)
 | a::L,0,_=>by simp
 | a::L,j+1,h=>by
  have E:=yn g (L:=L) (j:=j) oB;simp only[flatMap_cons,getElem_cons_succ,eraseIdx_cons_succ];refine(E.append_left (g a)).trans ?_;rw[←append_assoc,←append_assoc];exact List.perm_append_comm.append_right _
theorem qp{α:Type}(g:α→List ag){L:List α}{j:Nat}(h:j<L.length)(a:α):((L.set j a).flatMap g).Perm (g a++(L.eraseIdx j).flatMap g):=by
 have:=yn g (L:=L.set j a) (j:=j) (by rw[length_set];exact h);rw[getElem_set_self,eraseIdx_set_eq] at this;exact this
def rN:Option Nat→Int
 | none=>-2
 | some d=>d
variable {G:List (Nat×List Value)}

theorem aew{f:Nat}{low high:K}{s:jm}(h:i∈s.1):jd t (f+1) i low high level s=none:=by rw[jd,if_pos h]
theorem Rw{f:Nat}{low high:K}{s:jm}(h:((t.pg i).high≠high∨∃k,(t.pg i).keys.head?=some k∧bM k low)):jd t (f+1) i low high level s=none:=by
 rw[jd];by_cases hi:i∈s.1
 ·rw[if_pos hi]
 rw[if_neg hi,if_pos h]
theorem abh{f:Nat}{low high:K}{s:jm}(h:i∉s.1)(h2:¬((t.pg i).high≠high∨∃k,(t.pg i).keys.head?=some k∧bM k low))(h3:(t.pg i).leaf=true):jd t (f+1) i low high level s=some (level,(s.1++[i],kj s.2 level i)):=by rw[jd,if_neg h,if_neg h2,if_pos h3]
theorem abi{f:Nat}{low high:K}{s:jm}(h:i∉s.1)(h2:¬((t.pg i).high≠high∨∃k,(t.pg i).keys.head?=some k∧bM k low))(h3:(t.pg i).leaf=false):jd t (f+1) i low high level s=lp (fun c lo hi s=>jd t f c lo hi (level+1) s) low (t.pg i) (t.pg i).kids 0 none (s.1++[i],kj s.2 level i):=by rw[jd,if_neg h,if_neg h2,if_neg (by rw[h3];decide)]
section
variable {go:Int→K→K→jm→Option (Nat×jm)} {low:K} {p:cR} {k:Nat} {deep:Option Nat} {s s':jm} {d:Nat}
theorem ZM(hk:k<p.kids.length)(h:go p.kids[k] (gQ low p k) (gC p k) s=none):lp go low p (p.kids.drop k) k deep s=none:=by rw[drop_eq_getElem_cons hk,lp,h]
theorem Oz(hk:k<p.kids.length)(h:go p.kids[k] (gQ low p k) (gC p k) s=some (d,s'))(hd:deep=none∨deep=some d):lp go low p (p.kids.drop k) k deep s=lp go low p (p.kids.drop (k+1)) (k+1) (some d) s':=by
 rw[drop_eq_getElem_cons hk,lp,h];show(if deep=none∨deep=some d then _ else _)=_;rw[if_pos hd]
theorem abj(hk:k<p.kids.length)(h:go p.kids[k] (gQ low p k) (gC p k) s=some (d,s'))(hd:¬(deep=none∨deep=some d)):lp go low p (p.kids.drop k) k deep s=none:=by
 rw[drop_eq_getElem_cons hk,lp,h];show(if deep=none∨deep=some d then _ else _)=_;rw[if_neg hd]
theorem abk(hk:p.kids.length≤k):lp go low p (p.kids.drop k) k deep s=deep.map fun d=>(d,s):=by rw[drop_of_length_le hk,lp]
end
theorem ZN:(L++[qL]).flatMap dm.s=L.flatMap dm.s:=by simp[qL]
theorem acW{E:List dm}(h:E.map dm.l=L.map dm.l++replicate (E.length-L.length) [])(h1:L.length≤E.length)(h2:E.length≤max L.length (level+1))(h3:level<E.length):E.map dm.l=rX (L.map dm.l) (level+1):=by
 rw[h];unfold rX;rw[length_map,show E.length-L.length=level+1-L.length from by omega]
theorem IP{E:List dm}{o:dm}(h:E.map dm.l=rX (L.map dm.l) (level+1))(h3:level<E.length)(ho:o.l=E[level].l++[i]):(E.set level o).map dm.l=kj (L.map dm.l) level i:=by
 rw[map_set,ho];unfold kj;rw[←h,getD_eq_getElem?_getD,getElem?_eq_getElem (by rw[length_map];exact h3),getElem_map];rfl
theorem Rx{j:Nat}{o:dm}(h:∀o∈L,mG o)(ho:mG o):∀x∈L.set j o,mG x:=fun x hx=>by
 rcases mem_or_eq_of_mem_set hx with hx|rfl
 ·exact h x hx
 exact ho
theorem Qa{deep:Option Nat}{d:Nat}(h:rN deep≠-2)(h2:(d:Int)=rN deep):deep=some d:=by
 cases deep with
 | none=>exact absurd rfl h
 | some e=>unfold rN at h2;simp only at h2;rw[show d=e from by omega]
theorem abl{deep:Option Nat}{d:Nat}(h:rN deep≠-2)(h2:¬(d:Int)=rN deep):¬(deep=none∨deep=some d):=by
 rintro(rfl|rfl)
 ·exact h rfl
 exact h2 rfl
theorem OA{deep:Option Nat}(h:rN deep = -2):deep=none:=by
 cases deep with
 | none=>rfl
 | some e=>unfold rN at h;simp only at h;omega
def TG(G:List (Nat×List Value))(t:aE)(b bm f:Nat):Prop:=∀(i:Int) (low high:K) (level:Nat) (m:List Int) (L:List dm) (ad:Option Addr) (cap:Nat) (Sx:List ag),(0≤i∧i<t.af.length)→ni t (m,(L.map dm.l))→level≤m.length→t.af.length+1≤f+m.length→high.length≤100→zc L ad cap Sx→(∀o∈L,mG o) →
 VC Tryz.prog G 37 [.v (.pointer (some ⟨b,0,none⟩)),.v (.int .i64 i),.list 1 (low.flatMap cB) low.length,.list 1 (high.flatMap cB) high.length,.v (.int .i64 (level:Nat))] (SW t b bm m L ad cap Sx) (UE t b bm (jd t f i low high level (m,(L.map dm.l))))

theorem OB:(Tryz.prog.info? 3).map (fun i=>(i.zero,i.size,i.bytes))=some (some (.int .i64 0),1,8):=by kernel_rfl

theorem Yu:(Tryz.prog.info? 91).map (fun i=>(i.zero,i.size,i.bytes))=some (some (.slice none 0 0),1,24):=by kernel_rfl

theorem ZO(t:aE)(hp:uw t)(qM:t.af.length≤4000)(b bm f:Nat)(ih:TG G t b bm f)(i:Int)(low high:K)(level:Nat)(m:List Int)(L:List dm)(ad:Option Addr)(cap:Nat)(Sx:List ag)(hr:0≤i∧i<t.af.length)(FD:ni t (m,(L.map dm.l)))(hlm:level≤m.length)(hfu:t.af.length+1≤(f+1)+m.length)(WS:high.length≤100)(mD:zc L ad cap Sx)(aQ:∀o∈L,mG o) :
 VC Tryz.prog G 37 [.v (.pointer (some ⟨b,0,none⟩)),.v (.int .i64 i),.list 1 (low.flatMap cB) low.length,.list 1 (high.flatMap cB) high.length,.v (.int .i64 (level:Nat))] (SW t b bm m L ad cap Sx) (UE t b bm (jd t (f+1) i low high level (m,(L.map dm.l)))):=by
 refine VC.body func37 rfl ntmps37 aO fun X0 w0 aZ=>?_;unfold SW UD;have dr:maxLen=9223372036854775807:=rfl;have aa:i.toNat<t.af.length:=(by omega)
 have pF:t.pg i=(t.af[i.toNat]'aa):=uO hr;have po:ew (t.af[i.toNat]'aa) t.af.length:=hp _ (getElem_mem aa);have WR:=po.hlen;have LO:=FD.mT;have CJ:m.length≤t.af.length:=LO;refine ae [0,1,2,3,4] ?_;refine aC 5 ?_;refine bQ (Y8 (i:=1) rfl ot ot rfl underlying101 underlying3 zeroValue130) ?_;refine aD 3 ?_;refine OD.alloc (ds:=[]) an rfl rfl zeroValue130 rfl (fun kE=>?_);refine aN 0 [] sizeOf130 ?_;refine aj 148 [0,1,2,3,4,12] ?_;refine ae [0,1,2,3,4,29] ?_;refine aq (fun az aG=>?_) (fun az aG=>?_)
 ·have jV:i∈m:=(by simpa using az)
  refine ae [10] ?_;refine aJ [] ?_;rw[aew (by exact jV)];exact⟨rfl,rfl⟩
 have pB:i∉m:=(by simpa using az)
 refine aC 6 ?_;refine OD.addKey (i:=2) an rfl rfl ot ot ot rfl pB underlying101 underlying3 ?_;refine aj 148 [0,1,2,3,4] ?_;refine aC 6 ?_;refine bQ (dx 5 (h:=by first|exact .l (j:=i.toNat) (Int.toNat_of_nonneg hr.1).symm aa|exact .r (j:=i.toNat) (Int.toNat_of_nonneg hr.1).symm aa)) ?_;refine aD 1 ?_;refine OD.alloc (ds:=[_,_,_,_,_]) an rfl rfl zeroValue93 rfl (fun mI=>?_);refine aN 0 [_,_,_,_,_] sizeOf93 ?_;refine aj 148 [0,1,2,3,4,13] ?_;refine jI [0,1,2,3,4] (fun aW _ aK=>∃(mI:Nat),(¬((t.pg i).high≠high∨∃k,(t.pg i).keys.head?=some k∧bM k low))∧aK=(⟨148,(13,.v (.pointer (some ⟨mI,0,none⟩)))::aW,(⟨mI,93,5,cP (t.af[i.toNat]'aa)⟩::⟨b,104,4,[.list 5 (t.af.flatMap cP) t.af.length,.v (.int .i64 t.root),.v (.map (some bm)),.v (.slice ad L.length cap)]⟩::kz bm (m++[i])::(Sx++L.flatMap dm.s))⟩:St)) ?_ ?_
 ·refine aC 3 ?_;refine dS call57 (TD (t.af[i.toNat]'aa).high high w4 w4) ?_;refine aD 2 ?_;refine bS 49 (fun BH afU=>?_) (fun BH afU=>?_)
  ·refine aj 148 [0,1,2,3,4,13,63] ?_;refine ez ?_;have nP:((t.pg i).high≠high∨∃k,(t.pg i).keys.head?=some k∧bM k low):=(by rw[pF];first|exact .inl (by simpa using BH)|exact .inr ⟨_,head?_eq_getElem? .. ▸ getElem?_eq_getElem w4,of_decide_eq_true aH⟩)
   refine ae [10] ?_;refine aJ [] ?_;rw[Rw nP];exact⟨rfl,rfl⟩
  refine aD 5 ?_;refine bS 54 (fun yX yC=>?_) (fun yX yC=>?_)
  ·refine aD 2 ?_;refine OD.still gH rfl (qq (mk:=Op.indexAddr 90) rfl ot bH (by first|exact rC (j:=0) runUnderlying90 sizeOf49 rfl zB|exact rF (j:=0) runUnderlying90 sizeOf49 rfl zB)) ?_;refine aD 2 ?_;refine OD.gE gH rfl rfl rfl call35 (vO ((t.af[i.toNat]'aa).keys[0]'w4) low) ⟨ot,ot,trivial⟩ ?_;refine aj 148 [0,1,2,3,4,13,63] ?_;refine aq (fun aH aT=>?_) (fun aH aT=>?_)
   ·have nP:((t.pg i).high≠high∨∃k,(t.pg i).keys.head?=some k∧bM k low):=(by rw[pF];first|exact .inl (by simpa using BH)|exact .inr ⟨_,head?_eq_getElem? .. ▸ getElem?_eq_getElem w4,of_decide_eq_true aH⟩)
    refine ae [10] ?_;refine aJ [] ?_;rw[Rw nP];exact⟨rfl,rfl⟩
   have nM:¬((t.pg i).high≠high∨∃k,(t.pg i).keys.head?=some k∧bM k low):=(by rw[pF];rintro(h|⟨k,hk,uT⟩);exact h (by simpa using BH);first|(rw[head?_eq_getElem?,getElem?_eq_none w4] at hk;cases hk;done)|(rw[head?_eq_getElem?,getElem?_eq_getElem w4] at hk;cases hk;exact of_decide_eq_false aH uT))
   refine CD.skip ?_;refine⟨_,aM,mI,nM,rfl⟩
  refine aj 148 [0,1,2,3,4,13,63] ?_;refine fG ?_;have nM:¬((t.pg i).high≠high∨∃k,(t.pg i).keys.head?=some k∧bM k low):=(by rw[pF];rintro(h|⟨k,hk,uT⟩);exact h (by simpa using BH);first|(rw[head?_eq_getElem?,getElem?_eq_none w4] at hk;cases hk;done)|(rw[head?_eq_getElem?,getElem?_eq_getElem w4] at hk;cases hk;exact of_decide_eq_false aH uT))
  refine CD.skip ?_;refine⟨_,aM,mI,nM,rfl⟩
 rintro _ ⟨mI,nM,rfl⟩;refine eH [0,1,2,3,4,13] (fun aW _ (lV:List dm×Option Addr×Nat×List ag) aK=>match lV with|(I,Gw,Z,CN)=>(zc I Gw Z CN)∧(∀o∈I,mG o)∧(I.map dm.l=L.map dm.l++replicate (I.length-L.length) [])∧(L.length≤I.length)∧(I.length≤max L.length (level+1))∧aK=(⟨148,aW,(⟨mI,93,5,cP (t.af[i.toNat]'aa)⟩::⟨b,104,4,[.list 5 (t.af.flatMap cP) t.af.length,.v (.int .i64 t.root),.v (.map (some bm)),.v (.slice Gw I.length Z)]⟩::kz bm (m++[i])::(CN++I.flatMap dm.s))⟩:St)) (fun (lV:List dm×Option Addr×Nat×List ag)=>match lV with|(I,Gw,Z,CN)=>level+1-I.length) (L,ad,cap,Sx) ⟨mD,aQ,bu,(Nat.le_refl _),w4,rfl⟩ ?_;rintro⟨I,Gw,Z,CN⟩ _ ⟨UF,pn,UG,ail,aim,rfl⟩;refine ae [0,1,2,3,4,13,70] ?_;refine aq (fun aX bw=>?_) (fun aX bw=>?_)
 ·have mw:=FD.eI;have mw:L.length≤m.length:=(by simpa using mw)
  have E:I.length≤level:=(by omega)
  refine dK 5 ?_;refine ei (cc 0 [_]) [.slice none 0 0] [_] zeroValue91 runUnderlying102 sizeOf91 (fun b76=>?_);refine fH 0 76 1 1 ?_;refine OD.ee (ls:=I) (new:=[qL]) (Sq:=CN) vU aev an rfl rfl underlying102 Yu rfl w7 ot UF (oe (A:=[_,_,_])) ot bu FO FO (fun MF KG ain aio=>?_);refine OD.perm (iW (S1:=[⟨MF,91,KG*1,flatMap gV (I++[qL])⟩]) (A:=[_,_,_])) ?_;rw[←ZN (L:=I)];refine aD 2 ?_;refine aN 1 [_,_,_,_] sizeOf102 ?_;refine aj 148 [0,1,2,3,4,13] ?_;refine⟨((I++[qL]),(some ⟨MF,0,none⟩),KG,[⟨MF,91,KG*1,flatMap gV (I++[qL])⟩]),_,(by (show level+1-(I++[qL]).length<level+1-I.length;rw[length_append,show[qL].length=1 from rfl];omega)),aM,(bI ain aio),(fun o ho=>by rcases mem_append.1 ho with ho|ho;exact pn o ho;rw[mem_singleton] at ho;subst ho;exact acV),(by rw[map_append,UG,append_assoc,length_append,show[qL].length=1 from rfl,show I.length+1-L.length=I.length-L.length+1 from by omega,replicate_succ'];rfl),u6,(by rw[length_append,show[qL].length=1 from rfl];omega),rfl⟩
 have E:level<I.length:=(by omega)
 have ze:=acW UG ail aim E;obtain⟨bv,rfl,BG,Bb,rfl⟩:=UF.pos w4;have ec:mG (I[level]'E):=pn _ (getElem_mem E);have lK:(I[level]'E).l.length≤m.length:=by
    have hz:(I[level]'E).l=(rX (L.map dm.l) (level+1)).getD level []:=(by rw[←ze,getD_eq_getElem?_getD,getElem?_eq_getElem (by rw[length_map];exact E),getElem_map];rfl)
    rw[hz,IM,getD_eq_getElem?_getD];rcases Nat.lt_or_ge level (L.map dm.l).length with q|q
    ·rw[getElem?_eq_getElem q];exact FD.each _ (getElem_mem q)
    rw[getElem?_eq_none q];simp
 refine CD.perm (Perm.cons _ (Perm.cons _ (Perm.cons _ ((yn dm.s E).append_left _)))) ?_;refine CD.exit ?_;refine CD.seq ?_;refine CD.mono (Q:=fun aW aK=>aW=Exit.normal∧∃(o2:dm),(mG o2)∧(o2.l=(I[level]'E).l++[i])∧Wk aK (⟨148,[(0,.v (.pointer (some ⟨b,0,none⟩))),(2,.list 1 (low.flatMap cB) low.length),(3,.list 1 (high.flatMap cB) high.length),(4,.v (.int .i64 (level:Nat))),(13,.v (.pointer (some ⟨mI,0,none⟩)))],(⟨mI,93,5,cP (t.af[i.toNat]'aa)⟩::⟨b,104,4,[.list 5 (t.af.flatMap cP) t.af.length,.v (.int .i64 t.root),.v (.map (some bm)),.v (.slice (some ⟨bv,0,none⟩) (I.set level o2).length Z)]⟩::kz bm (m++[i])::([⟨bv,91,Z*1,flatMap gV (I.set level o2)⟩]++(I.set level o2).flatMap dm.s))⟩:St)) ?_ ?_
 ·refine CD.draw (ap (take 3 _)) ay (fun _ h=>(Sublist.map _ (take_sublist _ _)).subset h) ?_;refine ax 0 rfl bg ?_;refine ax 1 rfl lC ?_;refine ax 2 rfl (cY 3) ?_;refine ax 3 rfl (dw 1) ?_;refine ax 4 rfl bg ?_;refine ax 5 rfl bg ?_;refine ax 6 rfl lC ?_;refine ax 7 rfl (cY 3) ?_;refine ax 8 rfl (dw 1) ?_;refine ax 9 rfl bg ?_;refine ax 10 rfl (dx 1) ?_;refine ax 12 rfl bg ?_;refine dh.later rfl ?_;refine AD.two (i:=11) (j:=13) ay ?_ ?_
  ·refine at_ rfl (cH (mk:=Op.load 91) rfl ot (iL (k:=3) (d:=.v (.slice (I[level]'E).ad (I[level]'E).l.length (I[level]'E).cp)) (i:=level) vU rfl rfl rfl isAgg91 E rfl)) ?_;refine AD.one (i:=13) ay ?_;refine jf (cc 0 [_]) [.int .i64 0] [_] zeroValue3 runUnderlying91 sizeOf3 (fun WE=>?_);refine jg 0 93 1 1 ?_;refine AD.one (i:=14) ay ?_;refine bf.ee (ls:=(I[level]'E).l) (new:=[i]) (Sq:=(I[level]'E).s) eu ng rfl an rfl rfl underlying91 OB rfl w7 ot ec (sN (A:=[_,_,_]) (S1:=[⟨bv,91,Z*1,flatMap gV I⟩])) ot bu nv nw (fun U O KH KI=>?_);refine AD.perm (vH (S2:=[⟨U,3,O*1,flatMap cI ((I[level]'E).l++[i])⟩]) (A:=[_,_,_])) ?_;refine cq 15 rfl (dx 1) ?_;refine AD.one (i:=16) ay ?_;refine bf.storeAt (k:=3) (cs':=flatMap gV (I.set level (⟨(I[level]'E).l++[i],some ⟨U,0,none⟩,O,[⟨U,3,O*1,flatMap cI ((I[level]'E).l++[i])⟩]⟩:dm))) rfl an rfl rfl ot rfl rfl ot rfl rfl sizeOf91 rfl (by show 0+level*1+1≤(flatMap gV I).length;rw[cr vU];omega) (by rw[Nat.zero_add];exact og vU I (⟨(I[level]'E).l++[i],some ⟨U,0,none⟩,O,[⟨U,3,O*1,flatMap cI ((I[level]'E).l++[i])⟩]⟩:dm) E) ic ?_
   refine AD.wk (y:=⟨148,[(0,_),(2,_),(3,_),(4,_),(13,_)],(⟨mI,93,5,[_,_,_,_,_]⟩::⟨b,104,4,[_,_,_,_]⟩::_::([⟨bv,91,Z*1,flatMap gV (I.set level (⟨(I[level]'E).l++[i],some ⟨U,0,none⟩,O,[⟨U,3,O*1,flatMap cI ((I[level]'E).l++[i])⟩]⟩:dm))⟩]++([⟨U,3,O*1,flatMap cI ((I[level]'E).l++[i])⟩]++((I.eraseIdx level).flatMap dm.s))))⟩) (Wk.dL rfl rfl ff) rfl ?_;refine AD.done ay ?_;exact⟨rfl,(⟨(I[level]'E).l++[i],some ⟨U,0,none⟩,O,[⟨U,3,O*1,flatMap cI ((I[level]'E).l++[i])⟩]⟩:dm),bI KH KI,rfl,by rw[length_set];exact Wk.perm (Perm.cons _ (Perm.cons _ (Perm.cons _ ((qp dm.s E (⟨(I[level]'E).l++[i],some ⟨U,0,none⟩,O,[⟨U,3,O*1,flatMap cI ((I[level]'E).l++[i])⟩]⟩:dm)).symm.append_left _))))⟩
  refine jf (cc 0 [_]) [.int .i64 0] [_] zeroValue3 runUnderlying91 sizeOf3 (fun WE=>?_);refine jg 0 93 1 1 ?_;refine AD.one (i:=11) ay ?_;refine at_ rfl (cH (mk:=Op.load 91) rfl ot (iL (k:=3) (d:=.v (.slice (I[level]'E).ad (I[level]'E).l.length (I[level]'E).cp)) (i:=level) vU rfl rfl rfl isAgg91 E rfl)) ?_;refine AD.one (i:=14) ay ?_;refine bf.ee (ls:=(I[level]'E).l) (new:=[i]) (Sq:=(I[level]'E).s) eu ng rfl an rfl rfl underlying91 OB rfl w7 ot ec (sN (A:=[_,_,_]) (S1:=[⟨bv,91,Z*1,flatMap gV I⟩])) ot bu nv nw (fun U O KH KI=>?_);refine AD.perm (vH (S2:=[⟨U,3,O*1,flatMap cI ((I[level]'E).l++[i])⟩]) (A:=[_,_,_])) ?_;refine cq 15 rfl (dx 1) ?_;refine AD.one (i:=16) ay ?_;refine bf.storeAt (k:=3) (cs':=flatMap gV (I.set level (⟨(I[level]'E).l++[i],some ⟨U,0,none⟩,O,[⟨U,3,O*1,flatMap cI ((I[level]'E).l++[i])⟩]⟩:dm))) rfl an rfl rfl ot rfl rfl ot rfl rfl sizeOf91 rfl (by show 0+level*1+1≤(flatMap gV I).length;rw[cr vU];omega) (by rw[Nat.zero_add];exact og vU I (⟨(I[level]'E).l++[i],some ⟨U,0,none⟩,O,[⟨U,3,O*1,flatMap cI ((I[level]'E).l++[i])⟩]⟩:dm) E) ic ?_
  refine AD.wk (y:=⟨148,[(0,_),(2,_),(3,_),(4,_),(13,_)],(⟨mI,93,5,[_,_,_,_,_]⟩::⟨b,104,4,[_,_,_,_]⟩::_::([⟨bv,91,Z*1,flatMap gV (I.set level (⟨(I[level]'E).l++[i],some ⟨U,0,none⟩,O,[⟨U,3,O*1,flatMap cI ((I[level]'E).l++[i])⟩]⟩:dm))⟩]++([⟨U,3,O*1,flatMap cI ((I[level]'E).l++[i])⟩]++((I.eraseIdx level).flatMap dm.s))))⟩) (Wk.dL rfl rfl ff) rfl ?_;refine AD.done ay ?_;exact⟨rfl,(⟨(I[level]'E).l++[i],some ⟨U,0,none⟩,O,[⟨U,3,O*1,flatMap cI ((I[level]'E).l++[i])⟩]⟩:dm),bI KH KI,rfl,by rw[length_set];exact Wk.perm (Perm.cons _ (Perm.cons _ (Perm.cons _ ((qp dm.s E (⟨(I[level]'E).l++[i],some ⟨U,0,none⟩,O,[⟨U,3,O*1,flatMap cI ((I[level]'E).l++[i])⟩]⟩:dm)).symm.append_left _))))⟩
 rintro _ _ ⟨rfl,o2,oM,Fz,JN⟩;refine CD.wk JN ?_;refine ae [0,2,3,4,13,97] ?_;refine aq (fun bC bW=>?_) (fun bC bW=>?_)
 ·refine ae [10] ?_;refine aJ (SW t b bm (m++[i]) (I.set level o2) (some ⟨bv,0,none⟩) Z _) ?_;rw[abh pB nM (by rw[pF];exact bC)];exact⟨rfl,_,_,_,_,bI (by rw[length_set];exact BG) Bb,Rx pn oM,IP ze E Fz,rfl⟩
 have fB:(t.pg i).leaf=false:=(by rw[pF];exact bC)
 have E9:ni t (m++[i],(I.set level o2).map dm.l):=(by rw[IP ze E Fz];exact FD.add hr pB hlm)
 have aip:=Oy po (by rw[←pF];exact fB);have am3:=(po.node (by rw[←pF];exact fB)).1;have am4:=po.eI;have Bc:(t.af[i.toNat]'aa).high=high:=(by rw[←pF];exact Classical.byContradiction fun h=>nM (.inl h))
 refine ae [0,2,3,4,13,14] ?_;refine ae [0,2,3,4,13,14,100,101,102] ?_;refine eH [0,2,3,4,13,100,101] (fun aW _ (lV:Nat×Option Nat×List Int×List dm×Option Addr×Nat×List ag) aK=>match lV with|(k,deep,m2,L2,ud,tF,ue)=>(k≤(t.af[i.toNat]'aa).kids.length)∧(lp (fun c lo hi s=>jd t f c lo hi (level+1) s) low (t.af[i.toNat]'aa) ((t.af[i.toNat]'aa).kids.drop k) k deep (m2,(L2.map dm.l))=(jd t (f+1) i low high level (m,(L.map dm.l))))∧(zc L2 ud tF ue)∧(∀o∈L2,mG o)∧(ni t (m2,(L2.map dm.l)))∧(level+1≤m2.length)∧(t.af.length+1≤f+m2.length)∧((k=0∨deep≠none))∧aK=(⟨148,(14,.v (.int .i64 (rN deep)))::(102,.v (.int .i64 (k:Nat)))::aW,(⟨mI,93,5,cP (t.af[i.toNat]'aa)⟩::⟨b,104,4,[.list 5 (t.af.flatMap cP) t.af.length,.v (.int .i64 t.root),.v (.map (some bm)),.v (.slice ud L2.length tF)]⟩::kz bm m2::(ue++L2.flatMap dm.s))⟩:St)) (fun (lV:Nat×Option Nat×List Int×List dm×Option Addr×Nat×List ag)=>match lV with|(k,deep,m2,L2,ud,tF,ue)=>(t.af[i.toNat]'aa).kids.length-k) (0,none,(m++[i]),(I.set level o2),(some ⟨bv,0,none⟩),Z,[⟨bv,91,Z*1,flatMap gV (I.set level o2)⟩]) ⟨(Nat.zero_le _),(by rw[abi pB nM fB,IP ze E Fz,pF];rfl),(bI (by rw[length_set];exact BG) Bb),(Rx pn oM),E9,FU,FU,(.inl rfl),rfl⟩ ?_;rintro⟨k,deep,m2,L2,ud,tF,ue⟩ _ ⟨hk,CO,UH,jD,E9,UI,aiq,hdp,rfl⟩;refine ae [0,2,3,4,13,14,100,101,102,103] ?_
 refine aq (fun cx c9=>?_) (fun cx c9=>?_)
 ·have dR:k<(t.af[i.toNat]'aa).kids.length:=(by omega)
  have WT:=aip _ (getElem_mem dR);have hhk:(gC (t.af[i.toNat]'aa) k).length≤100:=(by unfold gC;rw[getD_eq_getElem?_getD];rcases Nat.lt_or_ge k (t.af[i.toNat]'aa).keys.length with q|q;(rw[getElem?_eq_getElem q];exact(po.kR _ (getElem_mem q)).2);(rw[getElem?_eq_none q];exact po.hlen))
  refine ae [0,2,3,4,13,14,15,16,100,101,102] ?_;refine ae [0,2,3,4,13,14,15,16,17,18,100,101,102] ?_;refine CD.cut (fun aK=>aK=(⟨148,[(0,.v (.pointer (some ⟨b,0,none⟩))),(2,.list 1 (low.flatMap cB) low.length),(3,.list 1 (high.flatMap cB) high.length),(4,.v (.int .i64 (level:Nat))),(13,.v (.pointer (some ⟨mI,0,none⟩))),(14,.v (.int .i64 (rN deep))),(15,.v (.int .i64 (k:Nat))),(16,.v (.int .i64 ((t.af[i.toNat]'aa).kids[k]'dR))),(17,.list 1 ((gQ low (t.af[i.toNat]'aa) k).flatMap cB) (gQ low (t.af[i.toNat]'aa) k).length),(18,.list 1 (high.flatMap cB) high.length),(100,.list 1 ((t.af[i.toNat]'aa).kids.flatMap cI) (t.af[i.toNat]'aa).kids.length),(101,.v (.int .i64 ((t.af[i.toNat]'aa).kids.length:Nat))),(102,.v (.int .i64 (k:Nat)))],(⟨mI,93,5,cP (t.af[i.toNat]'aa)⟩::⟨b,104,4,[.list 5 (t.af.flatMap cP) t.af.length,.v (.int .i64 t.root),.v (.map (some bm)),.v (.slice ud L2.length tF)]⟩::kz bm m2::(ue++L2.flatMap dm.s))⟩:St)) ?_ ?_
  ·refine ae [0,2,3,4,13,14,15,16,17,18,100,101,102,110] ?_;refine aq (fun dN en=>?_) (fun dN en=>?_)
   ·have eO:gQ low (t.af[i.toNat]'aa) k=(t.af[i.toNat]'aa).keys[k-1]'w4:=(by unfold gQ;rw[if_neg w4,getD_eq_getElem?_getD,getElem?_eq_getElem w4];rfl)
    refine ij [0,2,3,4,13,14,15,16,17,18,100,101,102] ?_;refine aP 4 ?_ (h:=by exact(dx 1 (h:=by first|exact .l (j:=k-1) w4 w4|exact .r (j:=k-1) w4 w4)));refine bG ?_;refine⟨_,(aM (h:=by repeat (first|exact trivial|refine⟨(by (repeat (first|exact fu|(apply fN;focus (first|rfl|(rw[eO];done)|(simp;done)))|(apply fE;focus rfl)));done),?_⟩))),rfl⟩
   have eO:gQ low (t.af[i.toNat]'aa) k=low:=(by unfold gQ;rw[if_pos w4])
   refine CD.skip ?_;refine⟨_,(aM (h:=by repeat (first|exact trivial|refine⟨(by (repeat (first|exact fu|(apply fN;focus (first|rfl|(rw[eO];done)|(simp;done)))|(apply fE;focus rfl)));done),?_⟩))),rfl⟩
  rintro _ ⟨rfl⟩;refine CD.cut (fun aK=>aK=(⟨148,[(0,.v (.pointer (some ⟨b,0,none⟩))),(2,.list 1 (low.flatMap cB) low.length),(3,.list 1 (high.flatMap cB) high.length),(4,.v (.int .i64 (level:Nat))),(13,.v (.pointer (some ⟨mI,0,none⟩))),(14,.v (.int .i64 (rN deep))),(16,.v (.int .i64 ((t.af[i.toNat]'aa).kids[k]'dR))),(17,.list 1 ((gQ low (t.af[i.toNat]'aa) k).flatMap cB) (gQ low (t.af[i.toNat]'aa) k).length),(18,.list 1 ((gC (t.af[i.toNat]'aa) k).flatMap cB) (gC (t.af[i.toNat]'aa) k).length),(100,.list 1 ((t.af[i.toNat]'aa).kids.flatMap cI) (t.af[i.toNat]'aa).kids.length),(101,.v (.int .i64 ((t.af[i.toNat]'aa).kids.length:Nat))),(102,.v (.int .i64 (k:Nat)))],(⟨mI,93,5,cP (t.af[i.toNat]'aa)⟩::⟨b,104,4,[.list 5 (t.af.flatMap cP) t.af.length,.v (.int .i64 t.root),.v (.map (some bm)),.v (.slice ud L2.length tF)]⟩::kz bm m2::(ue++L2.flatMap dm.s))⟩:St)) ?_ ?_
  ·refine ae [0,2,3,4,13,14,15,16,17,18,100,101,102,121] ?_;refine aq (fun eN fT=>?_) (fun eN fT=>?_)
   ·have er:gC (t.af[i.toNat]'aa) k=(t.af[i.toNat]'aa).keys[k]'w4:=(by unfold gC;rw[getD_eq_getElem?_getD,getElem?_eq_getElem w4];rfl)
    refine cg [0,2,3,4,13,14,16,17,18,100,101,102] ?_;refine⟨_,(aM (h:=by repeat (first|exact trivial|refine⟨(by (repeat (first|exact fu|(apply fN;focus (first|rfl|(rw[er];done)|(simp;done)))|(apply fE;focus rfl)));done),?_⟩))),rfl⟩
   have er:gC (t.af[i.toNat]'aa) k=high:=(by unfold gC;rw[getD_eq_getElem?_getD,getElem?_eq_none w4];exact Bc)
   refine CD.skip ?_;refine⟨_,(aM (h:=by repeat (first|exact trivial|refine⟨(by (repeat (first|exact fu|(apply fN;focus (first|rfl|(rw[er];done)|(simp;done)))|(apply fE;focus rfl)));done),?_⟩))),rfl⟩
  rintro _ ⟨rfl⟩;refine aC 5 ?_;refine bQ (cX (r:=.int .i64 ((level+1:Nat):Int)) rfl ot bH (jZ (by rw[show((level:Nat):Int)+1=((level+1:Nat):Int) from rfl];exact wrap_i64 w4 w4))) ?_;refine OD.call an rfl rfl rfl call37 (ih ((t.af[i.toNat]'aa).kids[k]'dR) (gQ low (t.af[i.toNat]'aa) k) (gC (t.af[i.toNat]'aa) k) (level+1) m2 L2 ud tF ue WT E9 UI aiq hhk UH jD) ⟨ot,ot,ot,ot,ot,trivial⟩ (perm_append_singleton _ _).symm ?_;rintro r19 S19 mr;rcases jw:jd t f ((t.af[i.toNat]'aa).kids[k]'dR) (gQ low (t.af[i.toNat]'aa) k) (gC (t.af[i.toNat]'aa) k) (level+1) (m2,(L2.map dm.l)) with _|⟨d,m3,lv3⟩
  ·rw[jw] at mr;obtain⟨rfl,rfl⟩:=mr;have afV:=CO.symm.trans (ZM dR jw);refine aj 148 [0,2,3,4,13,14,19,100,101,102] ?_;refine aC 3 ?_;refine bS 136 (fun Be Jj=>?_) (fun Be Jj=>?_)
   ·refine aY [0,2,3,4,13,19,100,101,102,144] ?_;refine ez ?_;refine ae [10] ?_;refine aJ [] ?_;rw[afV];exact⟨rfl,rfl⟩
   exact absurd Be w7
  rw[jw] at mr;obtain⟨rfl,L3,Gx,FE,Gy,UJ,wK,rfl,rfl⟩:=mr;obtain⟨TH,E0⟩:=IN hp _ _ _ _ _ _ _ _ WT E9 UI jw;have E0:m2.length≤m3.length:=E0;refine OD.perm (perm_append_singleton _ _) ?_;refine aj 148 [0,2,3,4,13,14,19,100,101,102] ?_;refine aC 3 ?_;refine bS 136 (fun Be Jj=>?_) (fun Be Jj=>?_)
  ·exact absurd Be (by intro e;have e:=of_decide_eq_true e;omega)
  refine aD 3 ?_;refine bS 139 (fun yP aex=>?_) (fun yP aex=>?_)
  ·refine aY [0,2,3,4,13,19,100,101,102,144] ?_;refine aq (fun eG fZ=>?_) (fun eG fZ=>?_)
   ·refine ae [10] ?_;refine aJ [] ?_;rw[CO.symm.trans (abj dR jw (abl (by simpa using yP) (by simpa using eG)))];exact⟨rfl,rfl⟩
   refine cg [0,2,3,4,13,14,100,101,102] ?_;refine cg [0,2,3,4,13,14,100,101,102] ?_;refine⟨((k+1),(some d),m3,L3,Gx,FE,Gy),_,cz,aM,w4,((Oz dR jw (by first|exact .inl (OA (by simpa using yP))|exact .inr (Qa (by simpa using yP) (by simpa using eG)))).symm.trans CO),UJ,wK,TH,w4,w4,(.inr (fun e=>by cases e)),rfl⟩
  refine aY [0,2,3,4,13,19,100,101,102,144] ?_;refine fG ?_;refine cg [0,2,3,4,13,14,100,101,102] ?_;refine cg [0,2,3,4,13,14,100,101,102] ?_;refine⟨((k+1),(some d),m3,L3,Gx,FE,Gy),_,cz,aM,w4,((Oz dR jw (by first|exact .inl (OA (by simpa using yP))|exact .inr (Qa (by simpa using yP) (by simpa using eG)))).symm.trans CO),UJ,wK,TH,w4,w4,(.inr (fun e=>by cases e)),rfl⟩
 obtain rfl:k=(t.af[i.toNat]'aa).kids.length:=(by omega)
 obtain⟨d,rfl⟩:∃d,deep=some d:=(by rcases hdp with h|h;omega;exact Option.ne_none_iff_exists'.1 h)
 refine ae [10] ?_;refine aJ (SW t b bm m2 L2 ud tF ue) ?_;rw[←CO,abk (Nat.le_refl _)];exact⟨rfl,L2,ud,tF,ue,UH,jD,rfl,rfl⟩

end Go.Proofs.YtbcmjoaggammcaaGreatDoor.Tw

namespace Go.Proofs.YtbcmjoaggammcaaGreatDoor.Tw
open List
open Go.Proofs.Tryz
open Go.RowKit V Go.Proofs.YtbcmjoaggammcaaGreatDoor.Tr Pk
theorem IQ{G:List (Nat×List Value)}(t:aE)(hp:uw t)(I:t.af.length≤4000)(b Z:Nat):∀f,TG G t b Z f
 | 0=>fun i low high level m L ad cap Sx hr E O U _ _ _=>by have h:m.length≤t.af.length:=E.mT;exfalso;omega
 | f+1=>fun i low high level m L ad cap Sx hr E O U WS mD aQ=>ZO t hp I b Z f (IQ t hp I b Z f) i low high level m L ad cap Sx hr E O U WS mD aQ
theorem IR(t:aE):ni t ([],[]):=⟨nodup_nil,(fun x h=>by cases h),Nat.le_refl _,(fun l h=>by cases h),(fun l h=>by cases h)⟩
theorem IS{t:aE}{e:Int}:∀{l:List Int},eV t l e↔∀k (h:k<l.length),(t.pg l[k]).next=l.getD (k+1) e
  | []=>⟨(fun _ k h=>by cases h),fun _=>trivial⟩
  | [i] => ⟨fun h k hk => by obtain rfl : k=0 := by (simp at hk; exact hk)
                             exact h,fun h=>h 0 bu⟩
  | i::j::r=>by
    show(t.pg i).next=j∧eV t (j::r) e↔_;rw[IS (l:=j::r)];constructor
    · rintro⟨h1,h2⟩ k hk;cases k with
      | zero=>exact h1
      | succ k=>exact h2 k (by simpa using hk)
    intro h;exact⟨h 0 bu,fun k hk=>h (k+1) (by simpa using hk)⟩
theorem OC{p:cR}{n:Int}:A8 p n=true↔ew p n:=by unfold A8;simp
section
variable {t:aE}
theorem No(h:t.af.length<1∨t.af.length>4000∨t.root<0∨t.root≥t.af.length):gj t=11:=by unfold gj;rw[if_pos h]
theorem Yv(h:¬uw t):gj t=11:=by
 unfold gj;split
 ·rfl
 first|rfl|rw[if_pos h]
variable {d:Nat} {m:List Int} {lv:List (List Int)}
theorem Yw(hw:jd t (t.af.length+1) t.root [] [] 0 ([],[])=none):gj t=11:=by
 unfold gj;split
 ·rfl
 split
 ·rfl
 rw[hw]
theorem ZP(hw:jd t (t.af.length+1) t.root [] [] 0 ([],[])=some (d,m,lv))(h:m.length≠t.af.length):gj t=11:=by
 unfold gj;split
 ·rfl
 split
 ·rfl
 rw[hw];exact if_pos h
open Classical in
theorem ZQ(hw:jd t (t.af.length+1) t.root [] [] 0 ([],[])=some (d,m,lv))(h:¬∀l∈lv,eV t l (-1)):gj t=11:=by
 unfold gj;split
 ·rfl
 split
 ·rfl
 rw[hw];show(if m.length≠t.af.length then (11:Int) else if ∀l∈lv,eV t l (-1) then 0 else 11)=11;split
 ·rfl
 first|rfl|rw[if_neg h]
open Classical in
theorem ZR(h1:¬(t.af.length<1∨t.af.length>4000∨t.root<0∨t.root≥t.af.length))(h2:uw t)(hw:jd t (t.af.length+1) t.root [] [] 0 ([],[])=some (d,m,lv))(h3:m.length=t.af.length)(h:∀l∈lv,eV t l (-1)):gj t=0:=by
 unfold gj;rw[if_neg h1,if_neg (fun hn=>hn h2),hw];show(if m.length≠t.af.length then (11:Int) else if ∀l∈lv,eV t l (-1) then 0 else 11)=0;rw[if_neg (fun hn=>hn h3),if_pos h]
end
def xI(l:List Int):List D:=[.list 1 (l.flatMap cI) l.length]
theorem acX(l:List Int):(xI l).length=1:=rfl
theorem Ry{S:List ag}:∀{L:List dm},(∀o∈L,mG o)→(∀B∈L.flatMap dm.s,B∈S)→gk S (L.flatMap gV) ((L.map dm.l).flatMap xI)
 | [],_,_=>trivial
 | o::L,h,hs=>by
  rw[map_cons,flatMap_cons,flatMap_cons];refine gk.append ⟨kZ (h o mem_cons_self) (cr eu _) (fun B E=>hs B ?_),trivial⟩ (Ry (fun o ho=>h o (mem_cons_of_mem _ ho)) fun B E=>hs B ?_)
  ·rw[flatMap_cons];exact mem_append_left _ E
  rw[flatMap_cons];exact mem_append_right _ E
theorem aey{Sx:List ag}{L:List dm}{ad:Option Addr}{cap:Nat}{lv:List (List Int)}(ho:zc L ad cap Sx)(h:∀o∈L,mG o)(hm:L.map dm.l=lv):View (Sx++L.flatMap dm.s) (.v (.slice ad L.length cap)) (.list 1 (lv.flatMap xI) lv.length):=by
 subst hm;have:=Am ho (Ry (S:=Sx++L.flatMap dm.s) h fun B E=>mem_append_right _ E) (cr acX _ |>.trans bu) (fun B E=>mem_append_left _ E);rw[length_map];exact this
variable {G:List (Nat×List Value)}

theorem oQ(t:aE)(hb:∀p∈t.af,p.keys.length≤maxLen∧p.kids.length≤maxLen):VP Tryz.prog G 16 [.agg (cT t)] (.v (.int .i64 (gj t))):=by
 refine VC.body func16 rfl ntmps16 aO fun X0 w0 aZ=>?_;unfold cT;have dr:maxLen=9223372036854775807:=rfl;refine cj ?_;refine OD.box (ds:=[_,_]) an rfl rfl ot rfl rfl (fun b1=>?_);refine aj 104 [1] ?_;refine aC 5 ?_;refine bS 15 (fun Bs afW=>?_) (fun Bs afW=>?_)
 ·exact z75
 refine aD 6 ?_;refine bS 21 (fun p9 afX=>?_) (fun p9 afX=>?_)
 ·exact z75
 refine aD 5 ?_;refine bS 26 (fun air JO=>?_) (fun air JO=>?_)
 ·exact z75
 refine aY [1,33] ?_;refine aq (fun az aG=>?_) (fun az aG=>?_)
 ·refine ae [2] ?_;refine eE ?_;exact⟨vi (No w4).symm,rfl⟩
 refine ae [1,35,36,37] ?_;refine eH [1,35,36] (fun aW _ (i:Nat) aK=>(i≤t.af.length)∧(∀j (h:j<t.af.length),j<i→ew t.af[j] t.af.length)∧aK=(⟨104,(37,.v (.int .i64 (i:Nat)))::aW,[⟨b1,46,2,[.list 5 (t.af.flatMap cP) t.af.length,.v (.int .i64 t.root)]⟩]⟩:St)) (fun (i:Nat)=>t.af.length-i) 0 ⟨(Nat.zero_le _),(fun j h h0=>by omega),rfl⟩ ?_;rintro i _ ⟨hi,pF,rfl⟩;refine ae [1,35,36,37,38] ?_;refine aq (fun aH aT=>?_) (fun aH aT=>?_)
 ·have aa:i<t.af.length:=(by omega)
  obtain⟨dR,fi⟩:=hb (t.af[i]'aa) (getElem_mem aa);refine aC 2 ?_;refine OD.alloc (ds:=[_,_,_,_,_]) an rfl rfl zeroValue93 rfl (fun b4=>?_);refine aN 0 [_,_,_,_,_] sizeOf93 ?_;refine aj 104 [1,4,35,36,37] ?_;refine cM [1,35,36,37,46] (acR (t.af[i]'aa) (t.af.length:Nat) dR fi) ?_;refine aq (fun aX bw=>?_) (fun aX bw=>?_)
  ·have nP:¬uw t:=fun h=>by have:=OC.2 (h (t.af[i]'aa) (getElem_mem aa));rw[this] at aX;cases aX
   refine ae [2] ?_;refine aJ [] ?_;exact⟨vi (Yv nP).symm,rfl⟩
  have ais:ew (t.af[i]'aa) t.af.length:=OC.1 (by simpa using aX);refine cg [1,35,36,37] ?_;refine⟨(i+1),_,cz,aM,w4,(fun j h h0=>by rcases Nat.lt_or_ge j i with q|q;exact pF j h q;obtain rfl:j=i:=w4;exact ais),rfl⟩
 have eY:uw t:=fun p h=>by obtain⟨j,hj,rfl⟩:=mem_iff_getElem.1 h;exact pF j hj w4
 have h4:t.af.length≤4000:=(by omega)
 have E:0≤t.root∧t.root<t.af.length:=(by omega)
 refine aC 1 ?_;refine OD.ab7 an rfl rfl (fun O=>?_);refine aD 1 ?_;refine OD.box (ds:=[_,_,_,_]) an rfl rfl ot rfl rfl (fun U=>?_);refine aj 104 [1,5] ?_;refine CD.seq ?_;refine CD.seq ?_;rcases jw:jd t (t.af.length+1) t.root [] [] 0 ([],[]) with _|⟨d,m,lv⟩
 ·refine fF 14 (ap (drop 2 _)) ?_ (fun _ h=>(Sublist.map _ (drop_sublist _ _)).subset h);refine ax 0 rfl bg ?_;refine ax 1 rfl (cY 1) ?_;refine ax 2 rfl (dw 2) ?_;refine dh.later rfl ?_;refine AD.one (i:=3) ay ?_;refine bf.call rfl an rfl rfl rfl call37 (VC.eA (args':=[.v (.pointer (some ⟨U,0,none⟩)),.v (.int .i64 t.root),.v (.slice none 0 0),.v (.slice none 0 0),.v (.int .i64 0)]) (IQ t eY h4 U O (t.af.length+1) t.root [] [] 0 [] [] none 0 [] E (IR t) (Nat.le_refl _) (Nat.le_refl _) w7 iC (fun o h=>by cases h)) ⟨.inl rfl,.inl rfl,.inr ⟨1,rfl,rfl⟩,.inr ⟨1,rfl,rfl⟩,.inl rfl,trivial⟩) ⟨ot,ot,bH,bH,bH,trivial⟩ (Perm.refl _) ic ?_;rintro r55 Lw mr;rw[show map dm.l []=[] from rfl,jw] at mr;obtain⟨rfl,rfl⟩:=mr;refine cq 4 rfl mE ?_;refine cq 5 rfl bg ?_;refine AD.split (t:=57) lk (fun tv=>?_) (fun tv=>?_)
  ·have AZ:=tv;(try simp only[V.mV,ne_eq] at AZ)
   refine py 6 rfl ?_;refine py 7 rfl ?_;refine py 11 rfl ?_;refine py 12 rfl ?_;refine py 13 rfl ?_;refine AD.one (i:=8) ay ?_;refine bf.skip rfl (mb rfl rfl rfl lk je) rfl ?_;refine AD.one (i:=9) ay ?_;refine bf.skip rfl (mb rfl rfl rfl lk je) rfl ?_;refine AD.one (i:=10) ay ?_;refine bf.skip rfl (mb rfl rfl rfl lk je) rfl ?_;refine ey ?_;refine aY [1,5,67] ?_;refine ez ?_;try have I:m.length≠t.af.length:=by intro e;rw[e] at bC;simp at bC
   refine ae [2] ?_;refine eE ?_;exact⟨vi (Yw jw).symm,rfl⟩
  exact absurd tv w7
 refine fF 14 (ap (drop 2 _)) ?_ (fun _ h=>(Sublist.map _ (drop_sublist _ _)).subset h);refine ax 0 rfl bg ?_;refine ax 1 rfl (cY 1) ?_;refine ax 2 rfl (dw 2) ?_;refine dh.later rfl ?_;refine AD.one (i:=3) ay ?_;refine bf.call rfl an rfl rfl rfl call37 (VC.eA (args':=[.v (.pointer (some ⟨U,0,none⟩)),.v (.int .i64 t.root),.v (.slice none 0 0),.v (.slice none 0 0),.v (.int .i64 0)]) (IQ t eY h4 U O (t.af.length+1) t.root [] [] 0 [] [] none 0 [] E (IR t) (Nat.le_refl _) (Nat.le_refl _) w7 iC (fun o h=>by cases h)) ⟨.inl rfl,.inl rfl,.inr ⟨1,rfl,rfl⟩,.inr ⟨1,rfl,rfl⟩,.inl rfl,trivial⟩) ⟨ot,ot,bH,bH,bH,trivial⟩ (Perm.refl _) ic ?_;rintro r55 Lw mr;rw[show map dm.l []=[] from rfl,jw] at mr;obtain⟨rfl,L,ad,cap,Sx,mD,aQ,ze,rfl⟩:=mr;refine AD.perm (Perm.cons _ (Perm.cons _ (perm_append_singleton _ _))) ?_;refine cq 4 rfl mE ?_;refine cq 5 rfl bg ?_;refine AD.split (t:=57) lk (fun tv=>?_) (fun tv=>?_)
 ·exact absurd tv (by intro e;have e:=of_decide_eq_true e;omega)
 have AZ:=tv;(try simp only[V.mV,ne_eq] at AZ)
 refine cq 6 rfl bg ?_;refine cq 7 rfl lC ?_;refine cq 11 rfl (cY 0) ?_;refine cq 12 rfl (dw 2) ?_;refine cq 13 rfl qj ?_;refine AD.one (i:=8) ay ?_;refine at_ rfl (cY 2) ?_;refine AD.one (i:=9) ay ?_;refine at_ rfl (dw 0) ?_;refine AD.one (i:=10) ay ?_;refine at_ rfl (Yg (i:=1) rfl rfl ot rfl underlying101) ?_;refine ey ?_;refine aY [1,5,67] ?_;refine aq (fun bC bW=>?_) (fun bC bW=>?_)
 ·try have I:m.length≠t.af.length:=by intro e;rw[e] at bC;simp at bC
  refine ae [2] ?_;refine eE ?_;exact⟨vi (ZP jw I).symm,rfl⟩
 have I:m.length=t.af.length:=(by have:=bC;simp at this;omega)
 refine CD.wk (Wk.cover (A:=⟨U,104,4,[.list 5 (t.af.flatMap cP) t.af.length,.v (.int .i64 t.root),.v (.map (some O)),.v (.slice ad L.length cap)]⟩) (R:=[kz O m,⟨b1,46,2,[.list 5 (t.af.flatMap cP) t.af.length,.v (.int .i64 t.root)]⟩]) (Sd:=Sx++L.flatMap dm.s) (cs':=[.list 5 (t.af.flatMap cP) t.af.length,.v (.int .i64 t.root),.v (.map (some O)),.list 1 (lv.flatMap xI) lv.length]) (Perm.refl _) ⟨eL,eL,eL,aey mD aQ ze,trivial⟩) ?_;obtain⟨Z,_⟩:=IN eY _ _ _ _ _ _ _ _ E (IR t) (Nat.le_refl _) jw;refine ae [1,71,72,73] ?_;refine Wg (fun (i:Nat) aK=>(i≤lv.length)∧(∀j (_:j<i) (h:j<lv.length),eV t lv[j] (-1))∧aK=(⟨104,[(1,.v (.pointer (some ⟨b1,0,none⟩))),(71,.list 1 (lv.flatMap xI) lv.length),(72,.v (.int .i64 (lv.length:Nat))),(73,.v (.int .i64 (i:Nat)))],[⟨b1,46,2,[.list 5 (t.af.flatMap cP) t.af.length,.v (.int .i64 t.root)]⟩]⟩:St)) (fun (i:Nat)=>lv.length-i) 0 ⟨(Nat.zero_le _),(fun j h _=>by omega),rfl⟩ ?_;rintro i _ ⟨jU,Gz,rfl⟩;refine ae [1,71,72,73,74] ?_;refine aq (fun cx c9=>?_) (fun cx c9=>?_)
 ·have fi:i<lv.length:=(by omega)
  have Cv:∀x∈(lv[i]'fi),0≤x∧x<t.af.length:=Z.el _ (getElem_mem fi);have lK:(lv[i]'fi).length≤m.length:=Z.each _ (getElem_mem fi);have WU:lv.length≤m.length:=Z.eI;refine ae [1,7,71,72,73] ?_;refine ae [1,7,71,72,73,77,78,79] ?_;refine Wg (fun (k:Nat) aK=>(k≤(lv[i]'fi).length)∧(∀j (_:j<k) (h:j<(lv[i]'fi).length),(t.pg (lv[i]'fi)[j]).next=(lv[i]'fi).getD (j+1) (-1))∧aK=(⟨104,[(1,.v (.pointer (some ⟨b1,0,none⟩))),(7,.list 1 ((lv[i]'fi).flatMap cI) (lv[i]'fi).length),(71,.list 1 (lv.flatMap xI) lv.length),(72,.v (.int .i64 (lv.length:Nat))),(73,.v (.int .i64 (i:Nat))),(77,.list 1 ((lv[i]'fi).flatMap cI) (lv[i]'fi).length),(78,.v (.int .i64 ((lv[i]'fi).length:Nat))),(79,.v (.int .i64 (k:Nat)))],[⟨b1,46,2,[.list 5 (t.af.flatMap cP) t.af.length,.v (.int .i64 t.root)]⟩]⟩:St)) (fun (k:Nat)=>(lv[i]'fi).length-k) 0 ⟨(Nat.zero_le _),(fun j h _=>by omega),rfl⟩ ?_;rintro k _ ⟨hk,hn,rfl⟩;refine ae [1,7,71,72,73,77,78,79,80] ?_;refine aq (fun dN en=>?_) (fun dN en=>?_)
  ·have dR:k<(lv[i]'fi).length:=(by omega)
   have MG:=Cv _ (getElem_mem dR);have fQ:((lv[i]'fi)[k]'dR).toNat<t.af.length:=(by omega)
   have WV:t.pg ((lv[i]'fi)[k]'dR)=t.af[((lv[i]'fi)[k]'dR).toNat]'fQ:=uO MG;refine ae [1,7,8,9,71,72,73,77,78,79] ?_;refine ae [1,7,8,9,10,71,72,73,77,78,79] ?_;refine CD.cut (fun aK=>aK=(⟨104,[(1,.v (.pointer (some ⟨b1,0,none⟩))),(7,.list 1 ((lv[i]'fi).flatMap cI) (lv[i]'fi).length),(9,.v (.int .i64 ((lv[i]'fi)[k]'dR))),(10,.v (.int .i64 ((lv[i]'fi).getD (k+1) (-1)))),(71,.list 1 (lv.flatMap xI) lv.length),(72,.v (.int .i64 (lv.length:Nat))),(73,.v (.int .i64 (i:Nat))),(77,.list 1 ((lv[i]'fi).flatMap cI) (lv[i]'fi).length),(78,.v (.int .i64 ((lv[i]'fi).length:Nat))),(79,.v (.int .i64 (k:Nat)))],[⟨b1,46,2,[.list 5 (t.af.flatMap cP) t.af.length,.v (.int .i64 t.root)]⟩]⟩:St)) ?_ ?_
   ·refine ae [1,7,8,9,10,71,72,73,77,78,79,88] ?_;refine aq (fun eN fT=>?_) (fun eN fT=>?_)
    ·have jR:(lv[i]'fi).getD (k+1) (-1)=(lv[i]'fi)[k+1]'w4:=(by rw[getD_eq_getElem?_getD,getElem?_eq_getElem w4];rfl)
     refine ij [1,7,9,10,71,72,73,77,78,79] ?_;refine aP 3 ?_ (h:=by exact(dx 1 (h:=by first|exact .l (j:=k+1) w4 w4|exact .r (j:=k+1) w4 w4)));refine bG ?_;exact z87
    have jR:(lv[i]'fi).getD (k+1) (-1) = -1:=(by rw[getD_eq_getElem?_getD,getElem?_eq_none w4];rfl)
    refine CD.skip ?_;exact z87
   rintro _ ⟨rfl⟩;refine cL [1,7,71,72,73,77,78,79,101] ?_;refine aP 3 ?_ (h:=by exact(dx 5 (h:=by first|exact .l (j:=((lv[i]'fi)[k]'dR).toNat) (Int.toNat_of_nonneg MG.1).symm fQ|exact .r (j:=((lv[i]'fi)[k]'dR).toNat) (Int.toNat_of_nonneg MG.1).symm fQ)));refine bG ?_;refine aq (fun eG fZ=>?_) (fun eG fZ=>?_)
   ·have nP:¬∀l∈lv,eV t l (-1):=fun h=>by have:=IS.1 (h (lv[i]'fi) (getElem_mem fi)) k dR;rw[WV] at this;simp[this] at eG
    refine ae [2] ?_;refine aJ [] ?_;exact⟨vi (ZQ jw nP).symm,rfl⟩
   have ny:(t.pg ((lv[i]'fi)[k]'dR)).next=(lv[i]'fi).getD (k+1) (-1):=(by rw[WV];simpa using eG)
   refine cg [1,7,71,72,73,77,78,79] ?_;refine⟨(k+1),_,cz,aM,w4,(fun j h0 h=>by rcases Nat.lt_or_ge j k with q|q;exact hn j q h;obtain rfl:j=k:=w4;exact ny),rfl⟩
  have ait:eV t (lv[i]'fi) (-1):=IS.2 fun j hj=>hn j w4 hj;refine cg [1,71,72,73] ?_;refine⟨(i+1),_,cz,aM,w4,(fun j h0 h=>by rcases Nat.lt_or_ge j i with q|q;exact Gz j q h;obtain rfl:j=i:=w4;exact ait),rfl⟩
 have nR:i=lv.length:=(by omega)
 refine ae [2] ?_;refine aJ [] ?_;exact⟨vi (ZR w4 eY jw I fun l hl=>by obtain⟨j,hj,rfl⟩:=mem_iff_getElem.1 hl;exact Gz j w4 hj).symm,rfl⟩

end Go.Proofs.YtbcmjoaggammcaaGreatDoor.Tw

namespace Go.Proofs.YtbcmjoaggammcaaGreatDoor.Tw
open List
open Go.Proofs.Tryz
open Go.RowKit V Tr Pk
variable {t:aE} {k:K}
noncomputable def kS(t:aE)(k:K):Int:=if gj t=0 then (if nS k=true then 0 else 1) else gj t
theorem DZ(h:¬gj t=0):kS t k=gj t:=by unfold kS;rw[if_neg h]
theorem DH(h:gj t=0)(hk:nS k=false):kS t k=1:=by unfold kS;rw[if_pos h,hk];rfl
theorem Ii(h:gj t=0)(hk:nS k=true):kS t k=0:=by unfold kS;rw[if_pos h,hk];rfl
def dU(t:aE)(k:K)(h:Nat):Int:=(t.pg (aI t k h t.root)).kids.getD (aL (t.pg (aI t k h t.root)) k) 0
noncomputable def findF(t:aE)(k:K)(h:Nat):Int×Int:=if kS t k=0 then (if gU t k h=true then (dU t k h,0) else (0,8)) else (0,kS t k)
theorem abm{h:Nat}(v:Valid t h):∀p∈t.af,p.keys.length≤maxLen∧p.kids.length≤maxLen:=fun p hp=>by
 have po:=v.page p hp;have dr:maxLen=9223372036854775807:=rfl;have h1:=po.eI;cases hl:p.leaf with
 | true=>have:=po.leaf hl;omega
 | false=>have:=(po.node hl).1;omega
theorem DE{h:Nat}(v:Valid t h)(k:K):(iP t k h t.root).length≤1000000:=by
 rw[Ea];have:=v.high;have:=v.mT;omega
theorem H6(h:nS k=true):0<k.length∧k.length≤100:=of_decide_eq_true h
variable {G:List (Nat×List Value)}
theorem G0(t:aE)(k:K)(hb:∀p∈t.af,p.keys.length≤maxLen∧p.kids.length≤maxLen):VP Tryz.prog G 32 [.agg (cT t),.list 1 (k.flatMap cB) k.length] (.v (.int .i64 (kS t k))):=by
 refine VC.body func32 rfl ntmps32 aO fun X0 w0 aZ=>?_;have eZ:=oQ (G:=G) t hb;unfold cT at eZ;unfold cT;refine cj ?_;refine OD.box (ds:=[_,_]) an rfl rfl ot rfl rfl (fun b2=>?_);refine aj 14 [1,2] ?_;refine cM [1,5] (eZ) ?_;refine ae [1,5,9] ?_;refine aq (fun az aG=>?_) (fun az aG=>?_)
 ·have hn:¬gj t=0:=(by simpa using az)
  exact VO
 have hz:gj t=0:=(by simpa using az)
 refine cM [13] (yy k) ?_;refine aq (fun aH aT=>?_) (fun aH aT=>?_)
 ·exact VO
 refine ae [4] ?_;refine aJ [] ?_;first|exact⟨vi (DZ hn).symm,rfl⟩|exact⟨vi (DH hz ve).symm,rfl⟩|exact⟨vi (Ii hz ve).symm,rfl⟩
theorem aez(t:aE)(h:Nat)(k:K)(hb:∀p∈t.af,p.keys.length≤maxLen∧p.kids.length≤maxLen)(hv:gj t=0→Valid t h):VP Tryz.prog G 14 [.agg (cT t),.list 1 (k.flatMap cB) k.length] (.dy [.v (.int .i64 (findF t k h).1),.v (.int .i64 (findF t k h).2)]):=by
 refine VC.body func14 rfl ntmps14 aO fun X0 w0 aZ=>?_;have eZ:=G0 (G:=G) t k hb;unfold cT at eZ;unfold cT;have dr:maxLen=9223372036854775807:=rfl;refine cj ?_;refine OD.box (ds:=[_,_]) an rfl rfl ot rfl rfl (fun b2=>?_);refine aj 34 [1,2] ?_;refine cM [1,2,6] (eZ) ?_;refine ae [1,2,6,14] ?_;refine aq (fun az aG=>?_) (fun az aG=>?_)
 ·have hn:¬kS t k=0:=(by simpa using az)
  refine ae [4,5] ?_;refine aJ [] ?_;exact⟨by unfold findF;rw[if_neg hn],rfl⟩
 have hz:kS t k=0:=(by simpa using az)
 have hc:gj t=0:=Classical.byContradiction fun e=>by rw[DZ e] at hz;exact e hz
 have U:nS k=true:=(by cases hq:nS k with|true=>rfl|false=>rw[DH hc hq] at hz;cases hz)
 have v:=hv hc;have dR:=H6 U;have fj:=qv (G:=G) t h v k w4 (DE v k);unfold cT at fj;obtain⟨q1,E⟩:=v.leaf k;have aa:(aI t k h t.root).toNat<t.af.length:=(by omega)
 have I:t.pg (aI t k h t.root)=(t.af[(aI t k h t.root).toNat]'aa):=uO q1;refine cM [2,7,8,9] (fj) ?_;refine ae [2,7,8,24] ?_;refine aq (fun aH aT=>?_) (fun aH aT=>?_)
 ·have iI:gU t k h=false:=(by simpa using aH)
  refine ae [4,5] ?_;refine aJ [] ?_;exact⟨by unfold findF;rw[if_pos hz,if_neg wT],rfl⟩
 have iI:gU t k h=true:=(by simpa using aH)
 obtain⟨ha,Mn⟩:=(DD v k).1 iI;have po:=v.page _ (jq q1);have hle:=po.leaf E;have O:aL (t.pg (aI t k h t.root)) k<(t.pg (aI t k h t.root)).kids.length:=(by omega)
 have Z:aL (t.af[(aI t k h t.root).toNat]'aa) k<(t.af[(aI t k h t.root).toNat]'aa).kids.length:=(by rw[←I];exact O)
 rw[I];refine cL [4,5] ?_;refine aP 3 ?_ (h:=by exact(dx 5 (h:=by first|exact .l (j:=(aI t k h t.root).toNat) (Int.toNat_of_nonneg q1.1).symm aa|exact .r (j:=(aI t k h t.root).toNat) (Int.toNat_of_nonneg q1.1).symm aa)));refine bG ?_;refine aJ [] ?_;exact⟨by unfold findF dU;rw[if_pos hz,if_pos iI,I,sR Z],rfl⟩
theorem ZS{S:List ag}:gk S [.v (.bool true),.v (.slice none 0 0),.v (.slice none 0 0),.v (.slice none 0 0),.v (.int .i64 (-1))] (cP (⟨true,[],[],[],-1⟩:cR)):=⟨eL,xX,xX,xX,eL,trivial⟩
theorem aeA(E:True):VC Tryz.prog G 84 [] [] (fun r S=>∃b,r = .agg [.v (.slice (some ⟨b,0,none⟩) 1 1),.v (.int .i64 0)]∧S=[⟨b,93,5,[.v (.bool true),.v (.slice none 0 0),.v (.slice none 0 0),.v (.slice none 0 0),.v (.int .i64 (-1))]⟩]):=by
 refine VC.body func84 rfl ntmps84 aO fun X0 w0 aZ=>?_;refine cj ?_;refine OD.alloc (ds:=[_,_]) an rfl rfl zeroValue46 rfl (fun b0=>?_);refine aj 4 [0] ?_;refine aC 1 ?_;refine ei (cc 0 [_]) [.bool false,.slice none 0 0,.slice none 0 0,.slice none 0 0,.int .i64 0] [_,_,_,_,_] zeroValue93 runUnderlying44 sizeOf93 (fun b2=>?_);refine aD 1 ?_;refine aN 1 [_,_] sizeOf46 ?_;refine aj 4 [0] ?_;refine aJ [_] ?_;exact⟨_,rfl,rfl⟩
theorem aeB:VP Tryz.prog G 84 [] (.agg (cT rV)):=VC.cover (aeA trivial) fun r S ⟨b,hr,hS⟩=>by
 subst hr;subst hS;exact um ⟨N3 (cs:=[.v (.bool true),.v (.slice none 0 0),.v (.slice none 0 0),.v (.slice none 0 0),.v (.int .i64 (-1))]) (e:=93) (size:=5) mem_cons_self ZS rfl (Nat.le_refl _) w7,eL,trivial⟩

end Go.Proofs.YtbcmjoaggammcaaGreatDoor.Tw
namespace Go.Proofs.YtbcmjoaggammcaaGreatDoor.Tr
open List
open Go.Proofs.Tryz
open Go.Lib (compareBytes)
variable {t:aE} {k:K} {row:Int}
variable {h m:Nat} {u:aE} {up:K}
def c8(t:aE)(k:K):Nat→Int→Nat→Int
 | 0,i,_=>i
 | h+1,i,m=>if m=h+1 then i else c8 t k h ((t.pg i).kids.getD (aL (t.pg i) k) 0) m
theorem Hs:∀(h:Nat) (i:Int),c8 t k h i h=i
 | 0,_=>rfl
 | h+1,i=>by rw[c8,if_pos rfl]
theorem Aj:∀{h:Nat} {i:Int} {m:Nat},m<h→c8 t k h i m=(t.pg (c8 t k h i (m+1))).kids.getD (aL (t.pg (c8 t k h i (m+1))) k) 0
 | 0,_,_,hm=>by omega
 | h+1,i,m,hm=>by
  rw[c8,if_neg w4,c8];by_cases e:m=h
  ·subst e;rw[Hs,if_pos rfl]
  rw[if_neg w4];exact Aj w4
theorem OE:∀{h:Nat} {i:Int} {m:Nat},m≤h→(iP t k h i)[h-m]?=some (c8 t k h i m)
 | 0,i,m,_=>by
  obtain rfl:m=0:=(by omega)
  rfl
 | h+1,i,m,hm=>by
  rw[iP,c8];by_cases e:m=h+1
  ·subst e;rw[if_pos rfl,Nat.sub_self];rfl
  rw[if_neg e,show h+1-m=(h-m)+1 from by omega,getElem?_cons_succ];exact OE w4
theorem Eb{n:Int}(hp:∀p∈t.af,ew p n):∀{h:Nat} {i:Int} {low high:K},dP t h i low high→(ids t h i).Nodup→kY low high k→(∀x∈dX t h i,x.1≠k)→∀m,m≤h →
  ∃lo hi,dP t m (c8 t k h i m) lo hi∧(ids t m (c8 t k h i m)).Nodup∧kY lo hi k∧∀x∈dX t m (c8 t k h i m),x.1≠k
 | 0,i,low,high,ok,nd,hk,hn,m,hm=>by
  obtain rfl:m=0:=(by omega)
  exact⟨low,high,ok,nd,hk,hn⟩
 | h+1,i,low,high,ok,nd,hk,hn,m,hm=>by
  by_cases e:m=h+1
  ·subst e;rw[Hs];exact⟨low,high,ok,nd,hk,hn⟩
  obtain⟨q1,q2,E,O,I⟩:=id ok;have po:=hp _ (jq q1);obtain⟨d1,d2⟩:=down po q2 E hk;have:=Eb hp (I _ d1) (vD d1 nd).1 d2 (fun x hx=>hn x Lj) m w4;rw[←sR d1] at this;rw[c8,if_neg e];exact this
structure aeC (u:aE) (i:Int) (up:K) (aB:Int):Prop where
 page:∀p∈u.af,ew p u.af.length
 rg:0≤i∧i<u.af.length
 out:up∉(u.pg i).keys
 len:1≤up.length∧up.length≤100
 high:(u.pg i).high≠[]→bM up (u.pg i).high
 nn:0≤aB
 nnl:(u.pg i).leaf=false→aB<u.af.length
def j8(t:aE)(k:K)(row:Int)(h m:Nat):aE×Option (K×Int):=if m=0 then (t,some (k,row)) else gi t k row (m-1) (c8 t k h t.root (m-1))
theorem Qb(h:Nat):j8 t k row h (h+1)=gi t k row h t.root:=by unfold j8;rw[if_neg w4,Nat.add_sub_cancel,Hs]
theorem OF(hm:m≤h){aB:Int}(e:j8 t k row h m=(u,some (up,aB))):j8 t k row h (m+1)=qK u (c8 t k h t.root m) up aB:=by
 unfold j8 at e ⊢;rw[if_neg w4,Nat.add_sub_cancel];cases m with
 | zero=>rw[if_pos rfl] at e;injection e with e1 e2;injection e2 with e2;injection e2 with e2 E;subst e1 e2 E;rw[gi]
 | succ m=>rw[if_neg w4,Nat.add_sub_cancel,Aj w4] at e;rw[gi,e]
theorem ZT(h0:0<m)(hm:m≤h)(e:j8 t k row h m=(u,none)):j8 t k row h (m+1)=(u,none):=by
 unfold j8 at e ⊢;rw[if_neg w4,Nat.add_sub_cancel];cases m with
 | zero=>omega
 | succ m=>rw[if_neg w4,Nat.add_sub_cancel,Aj w4] at e;rw[gi,e]
theorem OG{h:Nat}{u:aE}:∀(d m:Nat),m+d=h+1→0<m→j8 t k row h m=(u,none)→gi t k row h t.root=(u,none)
 | 0,m,hm,_,e=>by
  obtain rfl:m=h+1:=(by omega)
  rw[←Qb];exact e
 | d+1,m,hm,h0,e=>OG d (m+1) w4 w4 (ZT h0 w4 e)
theorem Qc(v:Valid t h)(hn:∀x∈kD t h,x.1≠k)(hl:1≤k.length∧k.length≤100)(hr:0≤row)(hm:m≤h):∃lo hi,dP t m (c8 t k h t.root m) lo hi∧kY lo hi k∧nY t (gi t k row m (c8 t k h t.root m)).1 m (c8 t k h t.root m) lo hi k row (gi t k row m (c8 t k h t.root m)).2:=by
 obtain⟨lo,hi,ok,nd,hk,hne⟩:=Eb v.page v.ok v.zb (sZ k) hn m hm;exact⟨lo,hi,ok,hk,EN v.page ok nd hk hne hl hr⟩
theorem Ht(v:Valid t h)(hn:∀x∈kD t h,x.1≠k)(hl:1≤k.length∧k.length≤100)(hr:0≤row)(hm:m≤h+1){r:Option (K×Int)}(e:j8 t k row h m=(u,r)):u.root=t.root∧u.af.length≤t.af.length+m∧t.af.length≤u.af.length∧∀p∈u.af,ew p u.af.length:=by
 unfold j8 at e;cases m with
 | zero=>rw[if_pos rfl] at e;injection e with e1 e2;subst e1;exact⟨rfl,Nat.le_refl _,Nat.le_refl _,v.page⟩
 | succ m =>
  rw[if_neg w4,Nat.add_sub_cancel] at e;obtain⟨lo,hi,_,_,I⟩:=Qc v hn hl hr (m:=m) w4;rw[e] at I;exact⟨I.root,I.more,I.le,I.page⟩
theorem acY(v:Valid t h)(hn:∀x∈kD t h,x.1≠k)(hl:1≤k.length∧k.length≤100)(hr:0≤row)(hm:m≤h+1){aB:Int}(e:j8 t k row h m=(u,some (up,aB))):up.length≤100:=by
 unfold j8 at e;cases m with
 | zero=>rw[if_pos rfl] at e;injection e with e1 e2;injection e2 with e2;injection e2 with e2 E;subst e2;exact hl.2
 | succ m =>
  rw[if_neg w4,Nat.add_sub_cancel] at e;obtain⟨lo,hi,_,_,I⟩:=Qc v hn hl hr (m:=m) w4;rw[e] at I;exact I.ok.1.2
theorem acZ(v:Valid t h)(hn:∀x∈kD t h,x.1≠k)(hl:1≤k.length∧k.length≤100)(hr:0≤row)(hm:m≤h){aB:Int}(e:j8 t k row h m=(u,some (up,aB))):aeC u (c8 t k h t.root m) up aB:=by
 cases m with
 | zero =>
  unfold j8 at e;rw[if_pos rfl] at e;injection e with e1 e2;injection e2 with e2;injection e2 with e2 e3;subst e1 e2 e3
  obtain⟨lo,hi,⟨q1,q2,O,q4⟩,nd,hk,hne⟩:=Eb v.page v.ok v.zb (sZ k) hn 0 hm;refine⟨v.page,q1,fun hm=>?_,hl,fun E=>?_,hr,fun h=>by rw[q2] at h;cases h⟩
  ·have po:=v.page _ (jq q1);have hlen:=po.leaf q2;obtain⟨a,ha,he⟩:=mem_iff_getElem.1 hm;exact hne (k,(t.pg (c8 t k h t.root 0)).kids[a]'w4) ((Ap hlen).2 ⟨a,ha,by rw[he]⟩) rfl
  rw[O] at E ⊢;exact hk.2 E
 | succ m =>
  obtain⟨s1,s2,s3,s4⟩:=Ht v hn hl hr w4 e;unfold j8 at e;rw[if_neg w4,Nat.add_sub_cancel] at e;obtain⟨lo,hi,ok,nd,hk,hne⟩:=Eb v.page v.ok v.zb (sZ k) hn (m+1) hm;obtain⟨q1,q2,O,q4,q5⟩:=id ok;have po:=v.page _ (jq q1);obtain⟨d1,d2⟩:=down po q2 O hk;have U:=EN (row:=row) v.page (q5 _ d1) (vD d1 nd).1 d2 (fun x hx=>hne x Lj) hl hr;rw[←sR d1,←Aj w4,e,Aj w4] at U;have M:jl t u m (c8 t k h t.root (m+1)) lo hi (aL (t.pg (c8 t k h t.root (m+1))) k) k row (some (up,aB)):=⟨v.page,ok,nd,d1,d2,U⟩
  obtain⟨m1,m2,m3,m4⟩:=M.place;have Z:=M.same;obtain⟨o1,o2,o3,o4,o5⟩:(1≤up.length∧up.length≤100)∧_∧_∧_∧dP u m aB up _:=U.ok;have I:=o5.idx;refine⟨s4,⟨q1.1,by omega⟩,by rw[Z];exact m2,o1,fun E=>?_,I.1,fun _=>I.2⟩;rw[Z,O] at E ⊢;exact m3.2 E

end Go.Proofs.YtbcmjoaggammcaaGreatDoor.Tr
namespace Go.Proofs.YtbcmjoaggammcaaGreatDoor.Tr
open List
open Go.Proofs.Tryz
open Go.Lib (compareBytes)
variable {t:aE} {h:Nat} {k:K}
variable {i:Int}
noncomputable def mQ(t:aE)(h:Nat)(k:K):List (K×Int):=(kD t h).filter fun x=>decide (¬bM x.1 k)
def iN(t:aE)(ls:List Int):List (K×Int):=ls.flatMap fun l=>eU (t.pg l)
theorem eV.tail{r:List Int}{e:Int}(h:eV t (i::r) e):eV t r e:=by
 cases r with
 | nil=>trivial
 | cons j r=>exact h.2
theorem eV.next{i:Int}{r:List Int}{e:Int}(h:eV t (i::r) e):(t.pg i).next=r.headD e:=by
 cases r with
 | nil=>exact h
 | cons j r=>exact h.1
theorem eV.drop{e:Int}:∀{a b:List Int},eV t (a++b) e→eV t b e
 | [],_,h=>h
 | i::a,b,h=>eV.drop (a:=a) (eV.tail h)
theorem Qd:∀{h:Nat} {i:Int} {low high:K},dP t h i low high→∀l∈cy t h i,(0≤l∧l<t.af.length)∧(t.pg l).leaf=true
 | 0,i,low,high,ok,l,hl=>by
  rw[cy,mem_singleton] at hl;subst hl;exact⟨ok.1,ok.2.1⟩
 | h+1,i,low,high,ok,l,hl=>by
  obtain⟨q1,q2,I,O,E⟩:=ok;rw[cy] at hl;obtain⟨c,hc,hl⟩:=mem_flatMap.1 hl;obtain⟨j,hj,rfl⟩:=mem_iff_getElem.1 hc;exact Qd (E j hj) l hl
structure qD (t:aE) (ls:List Int):Prop where
 oL:eV t ls (-1)
 at_:∀l∈ls,(0≤l∧l<t.af.length)∧(t.pg l).leaf=true
theorem qD.tail{i:Int}{r:List Int}(h:qD t (i::r)):qD t r:=⟨eV.tail h.oL,fun l hl=>h.at_ l (mem_cons_of_mem _ hl)⟩
theorem qD.head{ls:List Int}(h:qD t ls):(0≤ls.headD (-1)→∃r,ls=ls.headD (-1)::r)∧(ls.headD (-1)<0→ls=[]):=by
 cases ls with
 | nil=>exact⟨fun h=>by simp at h,fun _=>rfl⟩
 | cons i r=>exact⟨fun _=>⟨r,rfl⟩,fun h0=>by have:=(h.at_ i mem_cons_self).1;simp at h0;omega⟩
theorem NQ(v:Valid t h):qD t (cy t h t.root):=⟨v.oL h (Nat.le_refl _),Qd v.ok⟩
theorem DS(v:Valid t h){l:Int}(hl:(0≤l∧l<t.af.length)∧(t.pg l).leaf=true):(eU (t.pg l)).length=(t.pg l).keys.length:=by
 have:=(v.page _ (jq hl.1)).leaf hl.2;unfold eU;rw[length_zip];omega
theorem Yx(v:Valid t h)(k:K):∃r,qD t (aI t k h t.root::r)∧mQ t h k=(iN t (aI t k h t.root::r)).drop (aL (t.pg (aI t k h t.root)) k)∧aL (t.pg (aI t k h t.root)) k≤(t.pg (aI t k h t.root)).keys.length:=by
 obtain⟨pre,post,e,he⟩:=Zx v.page v.ok (sZ k);have hL:=NQ v;have hl:=v.leaf k;have fC:aL (t.pg (aI t k h t.root)) k≤(t.pg (aI t k h t.root)).keys.length:=by
  unfold aL;split
  ·exact x7 _ _
  exact Ax _ _
 rw[e] at hL;refine⟨post,⟨eV.drop hL.oL,fun l hl=>hL.at_ l (mem_append_right _ hl)⟩,?_,fC⟩;unfold mQ kD;rw[he];unfold iN;rw[flatMap_cons,drop_append_of_le_length (by rw[DS v hl];exact fC)]
theorem ZU(v:Valid t h){r:List Int}(hL:qD t (i::r)){a:Nat}(ha:a<(t.pg i).keys.length)(hk:a<(t.pg i).kids.length) :
  (iN t (i::r)).drop a=((t.pg i).keys[a],(t.pg i).kids[a])::(iN t (i::r)).drop (a+1):=by
 have hi:=hL.at_ i mem_cons_self;have hlen:=DS v hi;have h1:a<(iN t (i::r)).length:=(by unfold iN;rw[flatMap_cons,length_append];omega)
 rw[drop_eq_getElem_cons h1];congr 1;unfold iN;simp only[flatMap_cons];rw[getElem_append_left w4];unfold eU;rw[getElem_zip]
theorem Yy(v:Valid t h){r:List Int}(hL:qD t (i::r)){a:Nat}(ha:a=(t.pg i).keys.length):(iN t (i::r)).drop a=(iN t r).drop 0:=by
 have hi:=hL.at_ i mem_cons_self;have hlen:=DS v hi;unfold iN;rw[flatMap_cons,drop_zero,drop_append_of_le_length w4,drop_eq_nil_of_le w4];rfl
theorem abn(v:Valid t h):kD t h=iN t (cy t h t.root):=vL t h t.root
theorem Hu(v:Valid t h):(kD t h).Pairwise fun x y=>bM x.1 y.1:=(IJ v.page v.ok).1
theorem ZV(v:Valid t h)(k:K):(mQ t h k).Pairwise fun x y=>bM x.1 y.1:=(Hu v).filter _
theorem abo(t:aE)(h:Nat):mQ t h []=kD t h:=by
 unfold mQ;rw[filter_eq_self.2];intro x _;simpa using Jf x.1
theorem abp(v:Valid t h):(kD t h).length≤4*t.af.length:=by
 have key:∀(ls:List Int),(∀l∈ls,(0≤l∧l<t.af.length)∧(t.pg l).leaf=true)→(iN t ls).length≤4*ls.length:=by
  intro ls;induction ls with
  | nil=>intro _;simp[iN]
  | cons i r ih =>
   intro hl;have h1:=DS v (hl i mem_cons_self);have h2:=(v.page _ (jq (hl i mem_cons_self).1)).eI;have h3:=ih fun l E=>hl l (mem_cons_of_mem _ E);unfold iN at h3 ⊢;rw[flatMap_cons,length_append,length_cons];omega
 have I:(cy t h t.root).length≤(ids t h t.root).length:=by
  have:∀(h:Nat) (i:Int),(cy t h i).length≤(ids t h i).length:=by
   intro h;induction h with
   | zero=>intro i;simp[cy,ids]
   | succ h ih =>
    intro i;rw[cy,ids,length_cons,length_flatMap,length_flatMap];have:∀(l:List Int),(l.map fun a=>(cy t h a).length).sum≤(l.map fun a=>(ids t h a).length).sum:=by
     intro l;induction l with
     | nil=>simp
     | cons a l O=>simp only[map_cons,sum_cons];have:=ih a;omega
    have:=this (t.pg i).kids;omega
  exact this h t.root
 rw[abn v];have:=key _ (NQ v).at_;rw[v.all] at I;omega
theorem Qe(v:Valid t h)(k:K):(mQ t h k).length≤16000:=by
 have:=abp v;have h1:=v.mT;have:(mQ t h k).length≤(kD t h).length:=(filter_sublist).length_le;omega

end Go.Proofs.YtbcmjoaggammcaaGreatDoor.Tr
namespace Go.Proofs.YtbcmjoaggammcaaGreatDoor.Tw
open List
open Go.Proofs.Tryz
open Go.RowKit V Tr Pk
def cE(e:K×Int):List D:=[.list 1 (e.1.flatMap cB) e.1.length,.v (.int .i64 e.2)]
theorem Sk(e:K×Int):(cE e).length=2:=rfl
def FF(e:K×Int):List D:=[.agg (cE e)]
theorem aeD(b:UInt8):fA (cB b)=true:=rfl
theorem yz(k:K):fA (k.flatMap cB)=true:=uv aeD k
theorem yA(e:K×Int):fA (cE e)=true:=by simp[cE,fA,iq,yz]
theorem abq(e:K×Int):fA (FF e)=true:=by simp[FF,fA,iq,yA]
def JP(t:aE)(k:K):List D:=[.fp [.list 5 (t.af.flatMap cP) t.af.length,.v (.int .i64 t.root)] 0,.fp [.list 1 (k.flatMap cB) k.length] 0]
variable {G:List (Nat×List Value)}
theorem ru : ∀ w, ((#[{ name := "Key", type := 49, offset := 0, embedded := false, tag := "", pkgPath := "", byteOffset := 0 }, { name := "Row", type := 3, offset := 1, embedded := false, tag := "", pkgPath := "", byteOffset := 24 }] : Array Field).mapM fun f => do pure (f.offset, ← sizeOf f.type) : Sem (Array (Nat × Nat))).run Tryz.prog w = .ok #[(0, 1), (1, 1)] w := fun w => by simp [sizeOf3, sizeOf49]
theorem abr(t:aE)(h:Nat)(v:Valid t h)(k:K)(dR:k.length≤maxLen):VI Tryz.prog G 58 (JP t k) FF (fun xs=>xs=mQ t h k) (fun pre=>pre <+: mQ t h k) (mQ t h k).length:=by
 refine VI.body func58 rfl ntmps58 aO fun Y X0 w0 aZ Sc0 hYe hYN O hY hJ0=>?_;have dr:maxLen=9223372036854775807:=rfl;have fj:=qv (G:=G) t h v k w4 (DE v k);unfold cT at fj;obtain⟨r0,hL0,aiu,UC⟩:=Yx v k;obtain⟨y1,y2,y3⟩:=(by exact⟨hYe,hYN,O⟩:Y.enc=FF∧Y.N=(mQ t h k).length∧w0.heap.size≤Y.l)
 refine cM [0,1,4,5] (fj) ?_;refine CD.block ?_;refine l5 (fun (U:List Int×Nat×List (K×Int)×List ag) aK=>match U with|(ls,a,pre,Sc)=>(qD t ls)∧(mQ t h k=pre++(iN t ls).drop a)∧((∀x∈head? ls,a≤(t.pg x).keys.length))∧(Y.J pre Sc)∧aK=(⟨46,[(0,.jT Y.l Y.os),(1,.fp [.list 5 (t.af.flatMap cP) t.af.length,.v (.int .i64 t.root)] 0),(4,.v (.int .i64 (headD ls (-1)))),(5,.v (.int .i64 (a:Nat)))],Sc⟩:St)) (fun (U:List Int×Nat×List (K×Int)×List ag)=>match U with|(ls,a,pre,Sc)=>length ls) ((aI t k h t.root::r0),(aL (t.pg (aI t k h t.root)) k),[],Sc0) ⟨hL0,(by rw[nil_append];exact aiu),(fun x hx=>by simp at hx;subst hx;exact UC),hJ0,rfl⟩ (aM (h:=by repeat (first|exact trivial|refine⟨(by (repeat (first|exact fu|(apply fN;focus (first|rfl|(simp;done)|(rw[←gB,eV.next hL.oL])))|(apply fE;focus rfl)));done),?_⟩))) ?_;rintro⟨ls,a,pre,Sc⟩ _ ⟨hL,WW,fC,hj,rfl⟩;refine ae [0,1,4,5,16] ?_;refine aq (fun az aG=>?_) (fun az aG=>?_)
 ·have Mz:0≤headD ls (-1):=(by simpa using az)
  obtain⟨r,hr⟩:=(qD.head hL).1 Mz;obtain⟨i,hi⟩:∃i,i=headD ls (-1):=⟨_,rfl⟩
  rw[←hi] at hr Mz;subst hr;obtain⟨zY,JM⟩:=hL.at_ i mem_cons_self;have aa:i.toNat<t.af.length:=(by omega)
  have gB:t.pg i=t.af[i.toNat]:=uO zY;have po:=v.page _ (jq zY);have KF:=po.leaf JM;have mw:=po.eI;have UK:=fC i rfl;have TI:=v.mT;rw[gB] at po KF mw UK;refine aC 3 ?_;refine bQ (dx 5 (h:=by first|exact .l (j:=i.toNat) (by show headD (i::r) (-1)=_;simp;omega) aa|exact .r (j:=i.toNat) (by show headD (i::r) (-1)=_;simp;omega) aa)) ?_;refine bQ (cH (mk:=Op.load 93) rfl ot (by exact jM (i:=i.toNat) EO isAgg93 sizeOf93 aa)) ?_;refine OD.alloc (ds:=[_,_,_,_,_]) an rfl rfl zeroValue93 rfl (fun b7=>?_);refine aN 0 [_,_,_,_,_] sizeOf93 ?_;refine aj 46 [0,1,5,7] ?_;refine eH [0,1,7] (fun aW _ (U:Nat×List (K×Int)×List ag) aK=>match U with|(a,E,I)=>(mQ t h k=E++(iN t (i::r)).drop a)∧(a≤((t.af[i.toNat]'aa)).keys.length)∧(Y.J E I)∧aK=(⟨46,(5,.v (.int .i64 (a:Nat)))::aW,(⟨b7,93,5,cP (t.af[i.toNat]'aa)⟩::I)⟩:St)) (fun (U:Nat×List (K×Int)×List ag)=>match U with|(a,E,I)=>((t.af[i.toNat]'aa)).keys.length-a) (a,pre,Sc) ⟨WW,UK,hj,rfl⟩ ?_;rintro⟨a,E,I⟩ _ ⟨oY,an2,Z,rfl⟩;refine ae [0,1,5,7,26] ?_;refine aq (fun aH aT=>?_) (fun aH aT=>?_)
  ·have qZ:a<((t.af[i.toNat]'aa)).keys.length:=(by have:=aH;simp at this;omega)
   have uf:a<((t.af[i.toNat]'aa)).kids.length:=(by omega)
   have iY:(iN t (i::r)).drop a=(((t.af[i.toNat]'aa)).keys[a],((t.af[i.toNat]'aa)).kids[a])::(iN t (i::r)).drop (a+1):=(by have:=ZU v hL (a:=a) (by rw[gB];exact qZ) (by rw[gB];exact uf);simp only[gB] at this;exact this)
   have kJ:((t.af[i.toNat]'aa)).keys[a].length≤100:=(by have:=(po.kR _ (getElem_mem qZ)).2;omega)
   refine CD.skip ?_;refine CD.seq ?_;refine CD.block ?_;refine CD.seq ?_;refine CD.ab8 ay ?_;refine fJ 0 rfl bg ?_;refine fJ 1 rfl (cY 1) ?_;refine fJ 3 rfl bg ?_;refine fJ 7 rfl (cY 2) ?_;refine fJ 9 rfl bg ?_;refine AI.two (i:=2) (j:=8) ay ?_ ?_
   ·refine ko rfl (dw 0) ?_;refine fJ 4 rfl (dx 1 (h:=by first|exact .l (j:=a) rfl qZ|exact .r (j:=a) rfl qZ)) ?_;refine AI.two (i:=5) (j:=8) ay ?_ ?_
    ·refine ko rfl eP ?_;refine AI.two (i:=6) (j:=8) ay ?_ ?_
     ·refine gw.gE rfl an rfl rfl rfl call59 (jK (((t.af[i.toNat]'aa)).keys[a]) w4) ⟨ot,trivial⟩ ?_;refine AI.one (i:=8) ay ?_;refine ko rfl (dw 0) ?_;refine fJ 10 rfl (dx 1 (h:=by first|exact .l (j:=a) rfl uf|exact .r (j:=a) rfl uf)) ?_;refine AI.one (i:=11) ay ?_;refine ko rfl eP ?_;refine fJ 12 rfl (nf (pl:=[(0,_),(1,_)]) (ds:=[_,_]) rfl zeroValue97 runUnderlying97 ru ⟨rfl,ot,rfl,ot,trivial⟩ rfl rfl) ?_;refine AI.one (i:=13) ay ?_;refine gw.yield (Y:=Y) (pre:=E) (y:=(((t.af[i.toNat]'aa)).keys[a],((t.af[i.toNat]'aa)).kids[a])) (Sc:=I) (R:=[⟨b7,93,5,cP (t.af[i.toNat]'aa)⟩]) rfl an rfl rfl ot aO lk sg (perm_append_singleton _ _).symm Z sc hY O w7 (fun CP MH=>?_) (fun CP MH=>?_)
      ·refine AI.perm (perm_append_singleton _ _) ?_;refine fJ 14 rfl kI ?_;refine AI.wk (y:=⟨46,[(0,_),(1,_),(5,_),(7,_),(43,_)],(⟨b7,93,5,[_,_,_,_,_]⟩::CP)⟩) (Wk.dL rfl rfl ff) ?_;refine AI.done ay ?_;refine fG ?_;refine cg [0,1,5,7] ?_;refine⟨((a+1),(E++[(((t.af[i.toNat]'aa)).keys[a],((t.af[i.toNat]'aa)).kids[a])]),CP),_,cz,aM,sb,w4,MH,rfl⟩
      refine fJ 14 rfl kI ?_;refine AI.wk (y:=⟨46,[(0,_),(43,_)],(CP)⟩) (Wk.dL rfl rfl ff) ?_;refine AI.done ay ?_;refine ez ?_;refine CD.ret ?_;refine⟨.inr rfl,⟨_,pM results58⟩,(show 0<46 by decide),CP,Sublist.refl _,?_⟩;exact .inr ⟨E++[(((t.af[i.toNat]'aa)).keys[a],((t.af[i.toNat]'aa)).kids[a])],⟨(iN t (i::r)).drop (a+1),by rw[oY,iY,append_assoc];rfl⟩,MH,lk⟩
     refine ko rfl (dw 0) ?_;refine fJ 10 rfl (dx 1 (h:=by first|exact .l (j:=a) rfl uf|exact .r (j:=a) rfl uf)) ?_;refine AI.two (i:=6) (j:=11) ay ?_ ?_
     ·refine gw.gE rfl an rfl rfl rfl call59 (jK (((t.af[i.toNat]'aa)).keys[a]) w4) ⟨ot,trivial⟩ ?_;refine AI.one (i:=11) ay ?_;refine ko rfl eP ?_;refine fJ 12 rfl (nf (pl:=[(0,_),(1,_)]) (ds:=[_,_]) rfl zeroValue97 runUnderlying97 ru ⟨rfl,ot,rfl,ot,trivial⟩ rfl rfl) ?_;refine AI.one (i:=13) ay ?_;refine gw.yield (Y:=Y) (pre:=E) (y:=(((t.af[i.toNat]'aa)).keys[a],((t.af[i.toNat]'aa)).kids[a])) (Sc:=I) (R:=[⟨b7,93,5,cP (t.af[i.toNat]'aa)⟩]) rfl an rfl rfl ot aO lk sg (perm_append_singleton _ _).symm Z sc hY O w7 (fun I MI=>?_) (fun I MI=>?_)
      ·refine AI.perm (perm_append_singleton _ _) ?_;refine fJ 14 rfl kI ?_;refine AI.wk (y:=⟨46,[(0,_),(1,_),(5,_),(7,_),(43,_)],(⟨b7,93,5,[_,_,_,_,_]⟩::I)⟩) (Wk.dL rfl rfl ff) ?_;refine AI.done ay ?_;refine fG ?_;refine cg [0,1,5,7] ?_;refine⟨((a+1),(E++[(((t.af[i.toNat]'aa)).keys[a],((t.af[i.toNat]'aa)).kids[a])]),I),_,cz,aM,sb,w4,MI,rfl⟩
      refine fJ 14 rfl kI ?_;refine AI.wk (y:=⟨46,[(0,_),(43,_)],(I)⟩) (Wk.dL rfl rfl ff) ?_;refine AI.done ay ?_;refine ez ?_;refine CD.ret ?_;refine⟨.inr rfl,⟨_,pM results58⟩,(show 0<46 by decide),I,Sublist.refl _,?_⟩;exact .inr ⟨E++[(((t.af[i.toNat]'aa)).keys[a],((t.af[i.toNat]'aa)).kids[a])],⟨(iN t (i::r)).drop (a+1),by rw[oY,iY,append_assoc];rfl⟩,MI,lk⟩
     refine ko rfl eP ?_;refine AI.one (i:=6) ay ?_;refine gw.gE rfl an rfl rfl rfl call59 (jK (((t.af[i.toNat]'aa)).keys[a]) w4) ⟨ot,trivial⟩ ?_;refine fJ 12 rfl (nf (pl:=[(0,_),(1,_)]) (ds:=[_,_]) rfl zeroValue97 runUnderlying97 ru ⟨rfl,ot,rfl,ot,trivial⟩ rfl rfl) ?_;refine AI.one (i:=13) ay ?_;refine gw.yield (Y:=Y) (pre:=E) (y:=(((t.af[i.toNat]'aa)).keys[a],((t.af[i.toNat]'aa)).kids[a])) (Sc:=I) (R:=[⟨b7,93,5,cP (t.af[i.toNat]'aa)⟩]) rfl an rfl rfl ot aO lk sg (perm_append_singleton _ _).symm Z sc hY O w7 (fun CQ MJ=>?_) (fun CQ MJ=>?_)
     ·refine AI.perm (perm_append_singleton _ _) ?_;refine fJ 14 rfl kI ?_;refine AI.wk (y:=⟨46,[(0,_),(1,_),(5,_),(7,_),(43,_)],(⟨b7,93,5,[_,_,_,_,_]⟩::CQ)⟩) (Wk.dL rfl rfl ff) ?_;refine AI.done ay ?_;refine fG ?_;refine cg [0,1,5,7] ?_;refine⟨((a+1),(E++[(((t.af[i.toNat]'aa)).keys[a],((t.af[i.toNat]'aa)).kids[a])]),CQ),_,cz,aM,sb,w4,MJ,rfl⟩
     refine fJ 14 rfl kI ?_;refine AI.wk (y:=⟨46,[(0,_),(43,_)],(CQ)⟩) (Wk.dL rfl rfl ff) ?_;refine AI.done ay ?_;refine ez ?_;refine CD.ret ?_;refine⟨.inr rfl,⟨_,pM results58⟩,(show 0<46 by decide),CQ,Sublist.refl _,?_⟩;exact .inr ⟨E++[(((t.af[i.toNat]'aa)).keys[a],((t.af[i.toNat]'aa)).kids[a])],⟨(iN t (i::r)).drop (a+1),by rw[oY,iY,append_assoc];rfl⟩,MJ,lk⟩
    refine ko rfl (dw 0) ?_;refine fJ 10 rfl (dx 1 (h:=by first|exact .l (j:=a) rfl uf|exact .r (j:=a) rfl uf)) ?_;refine AI.two (i:=5) (j:=11) ay ?_ ?_
    ·refine ko rfl eP ?_;refine AI.two (i:=6) (j:=11) ay ?_ ?_
     ·refine gw.gE rfl an rfl rfl rfl call59 (jK (((t.af[i.toNat]'aa)).keys[a]) w4) ⟨ot,trivial⟩ ?_;refine AI.one (i:=11) ay ?_;refine ko rfl eP ?_;refine fJ 12 rfl (nf (pl:=[(0,_),(1,_)]) (ds:=[_,_]) rfl zeroValue97 runUnderlying97 ru ⟨rfl,ot,rfl,ot,trivial⟩ rfl rfl) ?_;refine AI.one (i:=13) ay ?_;refine gw.yield (Y:=Y) (pre:=E) (y:=(((t.af[i.toNat]'aa)).keys[a],((t.af[i.toNat]'aa)).kids[a])) (Sc:=I) (R:=[⟨b7,93,5,cP (t.af[i.toNat]'aa)⟩]) rfl an rfl rfl ot aO lk sg (perm_append_singleton _ _).symm Z sc hY O w7 (fun CR MK=>?_) (fun CR MK=>?_)
      ·refine AI.perm (perm_append_singleton _ _) ?_;refine fJ 14 rfl kI ?_;refine AI.wk (y:=⟨46,[(0,_),(1,_),(5,_),(7,_),(43,_)],(⟨b7,93,5,[_,_,_,_,_]⟩::CR)⟩) (Wk.dL rfl rfl ff) ?_;refine AI.done ay ?_;refine fG ?_;refine cg [0,1,5,7] ?_;refine⟨((a+1),(E++[(((t.af[i.toNat]'aa)).keys[a],((t.af[i.toNat]'aa)).kids[a])]),CR),_,cz,aM,sb,w4,MK,rfl⟩
      refine fJ 14 rfl kI ?_;refine AI.wk (y:=⟨46,[(0,_),(43,_)],(CR)⟩) (Wk.dL rfl rfl ff) ?_;refine AI.done ay ?_;refine ez ?_;refine CD.ret ?_;refine⟨.inr rfl,⟨_,pM results58⟩,(show 0<46 by decide),CR,Sublist.refl _,?_⟩;exact .inr ⟨E++[(((t.af[i.toNat]'aa)).keys[a],((t.af[i.toNat]'aa)).kids[a])],⟨(iN t (i::r)).drop (a+1),by rw[oY,iY,append_assoc];rfl⟩,MK,lk⟩
     refine ko rfl eP ?_;refine AI.one (i:=6) ay ?_;refine gw.gE rfl an rfl rfl rfl call59 (jK (((t.af[i.toNat]'aa)).keys[a]) w4) ⟨ot,trivial⟩ ?_;refine fJ 12 rfl (nf (pl:=[(0,_),(1,_)]) (ds:=[_,_]) rfl zeroValue97 runUnderlying97 ru ⟨rfl,ot,rfl,ot,trivial⟩ rfl rfl) ?_;refine AI.one (i:=13) ay ?_;refine gw.yield (Y:=Y) (pre:=E) (y:=(((t.af[i.toNat]'aa)).keys[a],((t.af[i.toNat]'aa)).kids[a])) (Sc:=I) (R:=[⟨b7,93,5,cP (t.af[i.toNat]'aa)⟩]) rfl an rfl rfl ot aO lk sg (perm_append_singleton _ _).symm Z sc hY O w7 (fun CS ML=>?_) (fun CS ML=>?_)
     ·refine AI.perm (perm_append_singleton _ _) ?_;refine fJ 14 rfl kI ?_;refine AI.wk (y:=⟨46,[(0,_),(1,_),(5,_),(7,_),(43,_)],(⟨b7,93,5,[_,_,_,_,_]⟩::CS)⟩) (Wk.dL rfl rfl ff) ?_;refine AI.done ay ?_;refine fG ?_;refine cg [0,1,5,7] ?_;refine⟨((a+1),(E++[(((t.af[i.toNat]'aa)).keys[a],((t.af[i.toNat]'aa)).kids[a])]),CS),_,cz,aM,sb,w4,ML,rfl⟩
     refine fJ 14 rfl kI ?_;refine AI.wk (y:=⟨46,[(0,_),(43,_)],(CS)⟩) (Wk.dL rfl rfl ff) ?_;refine AI.done ay ?_;refine ez ?_;refine CD.ret ?_;refine⟨.inr rfl,⟨_,pM results58⟩,(show 0<46 by decide),CS,Sublist.refl _,?_⟩;exact .inr ⟨E++[(((t.af[i.toNat]'aa)).keys[a],((t.af[i.toNat]'aa)).kids[a])],⟨(iN t (i::r)).drop (a+1),by rw[oY,iY,append_assoc];rfl⟩,ML,lk⟩
    refine ko rfl eP ?_;refine AI.one (i:=5) ay ?_;refine ko rfl eP ?_;refine AI.one (i:=6) ay ?_;refine gw.gE rfl an rfl rfl rfl call59 (jK (((t.af[i.toNat]'aa)).keys[a]) w4) ⟨ot,trivial⟩ ?_;refine fJ 12 rfl (nf (pl:=[(0,_),(1,_)]) (ds:=[_,_]) rfl zeroValue97 runUnderlying97 ru ⟨rfl,ot,rfl,ot,trivial⟩ rfl rfl) ?_;refine AI.one (i:=13) ay ?_;refine gw.yield (Y:=Y) (pre:=E) (y:=(((t.af[i.toNat]'aa)).keys[a],((t.af[i.toNat]'aa)).kids[a])) (Sc:=I) (R:=[⟨b7,93,5,cP (t.af[i.toNat]'aa)⟩]) rfl an rfl rfl ot aO lk sg (perm_append_singleton _ _).symm Z sc hY O w7 (fun CT MM=>?_) (fun CT MM=>?_)
    ·refine AI.perm (perm_append_singleton _ _) ?_;refine fJ 14 rfl kI ?_;refine AI.wk (y:=⟨46,[(0,_),(1,_),(5,_),(7,_),(43,_)],(⟨b7,93,5,[_,_,_,_,_]⟩::CT)⟩) (Wk.dL rfl rfl ff) ?_;refine AI.done ay ?_;refine fG ?_;refine cg [0,1,5,7] ?_;refine⟨((a+1),(E++[(((t.af[i.toNat]'aa)).keys[a],((t.af[i.toNat]'aa)).kids[a])]),CT),_,cz,aM,sb,w4,MM,rfl⟩
    refine fJ 14 rfl kI ?_;refine AI.wk (y:=⟨46,[(0,_),(43,_)],(CT)⟩) (Wk.dL rfl rfl ff) ?_;refine AI.done ay ?_;refine ez ?_;refine CD.ret ?_;refine⟨.inr rfl,⟨_,pM results58⟩,(show 0<46 by decide),CT,Sublist.refl _,?_⟩;exact .inr ⟨E++[(((t.af[i.toNat]'aa)).keys[a],((t.af[i.toNat]'aa)).kids[a])],⟨(iN t (i::r)).drop (a+1),by rw[oY,iY,append_assoc];rfl⟩,MM,lk⟩
   refine ko rfl (dw 0) ?_;refine fJ 10 rfl (dx 1 (h:=by first|exact .l (j:=a) rfl uf|exact .r (j:=a) rfl uf)) ?_;refine AI.two (i:=2) (j:=11) ay ?_ ?_
   ·refine ko rfl (dw 0) ?_;refine fJ 4 rfl (dx 1 (h:=by first|exact .l (j:=a) rfl qZ|exact .r (j:=a) rfl qZ)) ?_;refine AI.two (i:=5) (j:=11) ay ?_ ?_
    ·refine ko rfl eP ?_;refine AI.two (i:=6) (j:=11) ay ?_ ?_
     ·refine gw.gE rfl an rfl rfl rfl call59 (jK (((t.af[i.toNat]'aa)).keys[a]) w4) ⟨ot,trivial⟩ ?_;refine AI.one (i:=11) ay ?_;refine ko rfl eP ?_;refine fJ 12 rfl (nf (pl:=[(0,_),(1,_)]) (ds:=[_,_]) rfl zeroValue97 runUnderlying97 ru ⟨rfl,ot,rfl,ot,trivial⟩ rfl rfl) ?_;refine AI.one (i:=13) ay ?_;refine gw.yield (Y:=Y) (pre:=E) (y:=(((t.af[i.toNat]'aa)).keys[a],((t.af[i.toNat]'aa)).kids[a])) (Sc:=I) (R:=[⟨b7,93,5,cP (t.af[i.toNat]'aa)⟩]) rfl an rfl rfl ot aO lk sg (perm_append_singleton _ _).symm Z sc hY O w7 (fun CU MN=>?_) (fun CU MN=>?_)
      ·refine AI.perm (perm_append_singleton _ _) ?_;refine fJ 14 rfl kI ?_;refine AI.wk (y:=⟨46,[(0,_),(1,_),(5,_),(7,_),(43,_)],(⟨b7,93,5,[_,_,_,_,_]⟩::CU)⟩) (Wk.dL rfl rfl ff) ?_;refine AI.done ay ?_;refine fG ?_;refine cg [0,1,5,7] ?_;refine⟨((a+1),(E++[(((t.af[i.toNat]'aa)).keys[a],((t.af[i.toNat]'aa)).kids[a])]),CU),_,cz,aM,sb,w4,MN,rfl⟩
      refine fJ 14 rfl kI ?_;refine AI.wk (y:=⟨46,[(0,_),(43,_)],(CU)⟩) (Wk.dL rfl rfl ff) ?_;refine AI.done ay ?_;refine ez ?_;refine CD.ret ?_;refine⟨.inr rfl,⟨_,pM results58⟩,(show 0<46 by decide),CU,Sublist.refl _,?_⟩;exact .inr ⟨E++[(((t.af[i.toNat]'aa)).keys[a],((t.af[i.toNat]'aa)).kids[a])],⟨(iN t (i::r)).drop (a+1),by rw[oY,iY,append_assoc];rfl⟩,MN,lk⟩
     refine ko rfl eP ?_;refine AI.one (i:=6) ay ?_;refine gw.gE rfl an rfl rfl rfl call59 (jK (((t.af[i.toNat]'aa)).keys[a]) w4) ⟨ot,trivial⟩ ?_;refine fJ 12 rfl (nf (pl:=[(0,_),(1,_)]) (ds:=[_,_]) rfl zeroValue97 runUnderlying97 ru ⟨rfl,ot,rfl,ot,trivial⟩ rfl rfl) ?_;refine AI.one (i:=13) ay ?_;refine gw.yield (Y:=Y) (pre:=E) (y:=(((t.af[i.toNat]'aa)).keys[a],((t.af[i.toNat]'aa)).kids[a])) (Sc:=I) (R:=[⟨b7,93,5,cP (t.af[i.toNat]'aa)⟩]) rfl an rfl rfl ot aO lk sg (perm_append_singleton _ _).symm Z sc hY O w7 (fun CV MO=>?_) (fun CV MO=>?_)
     ·refine AI.perm (perm_append_singleton _ _) ?_;refine fJ 14 rfl kI ?_;refine AI.wk (y:=⟨46,[(0,_),(1,_),(5,_),(7,_),(43,_)],(⟨b7,93,5,[_,_,_,_,_]⟩::CV)⟩) (Wk.dL rfl rfl ff) ?_;refine AI.done ay ?_;refine fG ?_;refine cg [0,1,5,7] ?_;refine⟨((a+1),(E++[(((t.af[i.toNat]'aa)).keys[a],((t.af[i.toNat]'aa)).kids[a])]),CV),_,cz,aM,sb,w4,MO,rfl⟩
     refine fJ 14 rfl kI ?_;refine AI.wk (y:=⟨46,[(0,_),(43,_)],(CV)⟩) (Wk.dL rfl rfl ff) ?_;refine AI.done ay ?_;refine ez ?_;refine CD.ret ?_;refine⟨.inr rfl,⟨_,pM results58⟩,(show 0<46 by decide),CV,Sublist.refl _,?_⟩;exact .inr ⟨E++[(((t.af[i.toNat]'aa)).keys[a],((t.af[i.toNat]'aa)).kids[a])],⟨(iN t (i::r)).drop (a+1),by rw[oY,iY,append_assoc];rfl⟩,MO,lk⟩
    refine ko rfl eP ?_;refine AI.one (i:=5) ay ?_;refine ko rfl eP ?_;refine AI.one (i:=6) ay ?_;refine gw.gE rfl an rfl rfl rfl call59 (jK (((t.af[i.toNat]'aa)).keys[a]) w4) ⟨ot,trivial⟩ ?_;refine fJ 12 rfl (nf (pl:=[(0,_),(1,_)]) (ds:=[_,_]) rfl zeroValue97 runUnderlying97 ru ⟨rfl,ot,rfl,ot,trivial⟩ rfl rfl) ?_;refine AI.one (i:=13) ay ?_;refine gw.yield (Y:=Y) (pre:=E) (y:=(((t.af[i.toNat]'aa)).keys[a],((t.af[i.toNat]'aa)).kids[a])) (Sc:=I) (R:=[⟨b7,93,5,cP (t.af[i.toNat]'aa)⟩]) rfl an rfl rfl ot aO lk sg (perm_append_singleton _ _).symm Z sc hY O w7 (fun CW MP=>?_) (fun CW MP=>?_)
    ·refine AI.perm (perm_append_singleton _ _) ?_;refine fJ 14 rfl kI ?_;refine AI.wk (y:=⟨46,[(0,_),(1,_),(5,_),(7,_),(43,_)],(⟨b7,93,5,[_,_,_,_,_]⟩::CW)⟩) (Wk.dL rfl rfl ff) ?_;refine AI.done ay ?_;refine fG ?_;refine cg [0,1,5,7] ?_;refine⟨((a+1),(E++[(((t.af[i.toNat]'aa)).keys[a],((t.af[i.toNat]'aa)).kids[a])]),CW),_,cz,aM,sb,w4,MP,rfl⟩
    refine fJ 14 rfl kI ?_;refine AI.wk (y:=⟨46,[(0,_),(43,_)],(CW)⟩) (Wk.dL rfl rfl ff) ?_;refine AI.done ay ?_;refine ez ?_;refine CD.ret ?_;refine⟨.inr rfl,⟨_,pM results58⟩,(show 0<46 by decide),CW,Sublist.refl _,?_⟩;exact .inr ⟨E++[(((t.af[i.toNat]'aa)).keys[a],((t.af[i.toNat]'aa)).kids[a])],⟨(iN t (i::r)).drop (a+1),by rw[oY,iY,append_assoc];rfl⟩,MP,lk⟩
   refine ko rfl eP ?_;refine AI.one (i:=2) ay ?_;refine ko rfl (dw 0) ?_;refine fJ 4 rfl (dx 1 (h:=by first|exact .l (j:=a) rfl qZ|exact .r (j:=a) rfl qZ)) ?_;refine AI.one (i:=5) ay ?_;refine ko rfl eP ?_;refine AI.one (i:=6) ay ?_;refine gw.gE rfl an rfl rfl rfl call59 (jK (((t.af[i.toNat]'aa)).keys[a]) w4) ⟨ot,trivial⟩ ?_;refine fJ 12 rfl (nf (pl:=[(0,_),(1,_)]) (ds:=[_,_]) rfl zeroValue97 runUnderlying97 ru ⟨rfl,ot,rfl,ot,trivial⟩ rfl rfl) ?_;refine AI.one (i:=13) ay ?_;refine gw.yield (Y:=Y) (pre:=E) (y:=(((t.af[i.toNat]'aa)).keys[a],((t.af[i.toNat]'aa)).kids[a])) (Sc:=I) (R:=[⟨b7,93,5,cP (t.af[i.toNat]'aa)⟩]) rfl an rfl rfl ot aO lk sg (perm_append_singleton _ _).symm Z sc hY O w7 (fun BI KJ=>?_) (fun BI KJ=>?_)
   ·refine AI.perm (perm_append_singleton _ _) ?_;refine fJ 14 rfl kI ?_;refine AI.wk (y:=⟨46,[(0,_),(1,_),(5,_),(7,_),(43,_)],(⟨b7,93,5,[_,_,_,_,_]⟩::BI)⟩) (Wk.dL rfl rfl ff) ?_;refine AI.done ay ?_;refine fG ?_;refine cg [0,1,5,7] ?_;refine⟨((a+1),(E++[(((t.af[i.toNat]'aa)).keys[a],((t.af[i.toNat]'aa)).kids[a])]),BI),_,cz,aM,sb,w4,KJ,rfl⟩
   refine fJ 14 rfl kI ?_;refine AI.wk (y:=⟨46,[(0,_),(43,_)],(BI)⟩) (Wk.dL rfl rfl ff) ?_;refine AI.done ay ?_;refine ez ?_;refine CD.ret ?_;refine⟨.inr rfl,⟨_,pM results58⟩,(show 0<46 by decide),BI,Sublist.refl _,?_⟩;exact .inr ⟨E++[(((t.af[i.toNat]'aa)).keys[a],((t.af[i.toNat]'aa)).kids[a])],⟨(iN t (i::r)).drop (a+1),by rw[oY,iY,append_assoc];rfl⟩,KJ,lk⟩
  have fb:a=(t.pg i).keys.length:=(by rw[gB];have:=aH;simp at this;omega)
  refine cg [0,1,4,5] ?_;refine⟨(r,0,E,I),_,(by (show length r<length (i::r);simp)),(aM (h:=by repeat (first|exact trivial|refine⟨(by (repeat (first|exact fu|(apply fN;focus (first|rfl|(simp;done)|(rw[←gB,eV.next hL.oL])))|(apply fE;focus rfl)));done),?_⟩))),hL.tail,(by rw[oY,Yy v hL fb]),(fun x hx=>Nat.zero_le _),Z,rfl⟩
 have aiv:ls=[]:=hL.head.2 wU;refine CD.exit ?_;refine⟨.inl rfl,⟨_,pM results58⟩,(show 0<46 by decide),Sc,Sublist.refl _,?_⟩;exact .inl ⟨pre,by rw[WW,aiv];simp[iN],hj,lk⟩

open Go.Lib (compareBytes)
theorem adJ(e:K×Int):(cE e).all V.one=true:=rfl
theorem aeE(k:K):fA (cK k)=true:=by simp[cK,fA,iq,yz]
theorem aeF(n:Int):fA (cI n)=true:=rfl
theorem aeG(p:cR):fA (cP p)=true:=by simp[cP,fA,iq,yz,uv aeE,uv aeF]
def TJ(t:aE)(k:K):D:=.ek (.func 58) (JP t k)
noncomputable def uJ(eA:K)(x:K×Int):Bool:=decide (0<eA.length∧bM eA x.1)
noncomputable def wg(t:aE)(h:Nat)(f eA:K):List (K×Int):=(mQ t h f).takeWhile fun x=>!uJ eA x
noncomputable def vZ(t:aE)(h:Nat)(f eA:K):List (K×Int)×Int:=if gj t=0 then (if f.length≤100∧eA.length≤100 then (wg t h f eA,0) else ([],1)) else ([],gj t)
theorem Hv{α:Type}{p:α→Bool}:∀{l:List α},(∀x∈l,p x=true)→l.takeWhile p=l
 | [],_=>rfl
 | x::l,h=>by rw[takeWhile_cons,if_pos (h x mem_cons_self),Hv fun y hy=>h y (mem_cons_of_mem _ hy)]
theorem OH{α:Type}{p:α→Bool}{y:α}{r:List α}(hy:p y=false):∀{l:List α},(∀x∈l,p x=true)→(l++y::r).takeWhile p=l
 | [],_=>by rw[nil_append,takeWhile_cons,if_neg (by rw[hy];decide)]
 | x::l,h=>by rw[cons_append,takeWhile_cons,if_pos (h x mem_cons_self),OH hy fun y hy=>h y (mem_cons_of_mem _ hy)]
def wi(b9 b5:Nat)(eA:K)(pre:List (K×Int))(Sc:List ag):Prop:=(∀x∈pre,uJ eA x=false)∧∃ad cap So,bq 97 2 (pre.flatMap cE) pre.length ad cap So∧Sc=⟨b9,54,1,[.v (.slice ad pre.length cap)]⟩::⟨b5,49,1,[.list 1 (eA.flatMap cB) eA.length]⟩::So
def Fa(b9 b5:Nat)(eA:K)(pre:List (K×Int))(Sc:List ag):Prop:=∃init y,pre=init++[y]∧uJ eA y=true∧wi b9 b5 eA init Sc
theorem wi.iq{b9 b5:Nat}{eA:K}{pre:List (K×Int)}{Sc:List ag}(h:wi b9 b5 eA pre Sc):∀B∈Sc,fA B.cs=true:=by
 obtain⟨_,ad,cap,So,ho,rfl⟩:=h;intro B E;rcases mem_cons.1 E with rfl|E
 ·rfl
 rcases mem_cons.1 E with rfl|E
 ·simp[fA,V.iq,yz]
 rcases ho with ⟨_,_,_,_,rfl⟩|⟨b,_,_,_,rfl⟩
 ·cases E
 rw[mem_singleton] at E;subst E;exact uv yA pre
theorem Fa.iq{b9 b5:Nat}{eA:K}{pre:List (K×Int)}{Sc:List ag}(h:Fa b9 b5 eA pre Sc):∀B∈Sc,fA B.cs=true:=by
 obtain⟨init,y,_,_,h⟩:=h;exact h.iq
def JQ(b9 b5:Nat)(eA:K)(pre:List (K×Int))(y:K×Int)(Sc:List ag)(z:St):Prop:=wi b9 b5 eA pre Sc∧∃kG,z=⟨43,[(5,.v (.pointer (some ⟨b5,0,none⟩))),(9,.v (.pointer (some ⟨b9,0,none⟩))),(10,.v (.pointer (some ⟨kG,0,none⟩)))],⟨kG,97,2,cE y⟩::Sc⟩
theorem JQ.iq{b9 b5:Nat}{eA:K}{pre:List (K×Int)}{y:K×Int}{Sc:List ag}{z:St}(h:JQ b9 b5 eA pre y Sc z):(z.env.all fun p=>V.iq p.2)=true∧∀B∈z.S,fA B.cs=true:=by
 obtain⟨hj,kG,rfl⟩:=h;refine⟨rfl,fun B E=>?_⟩;rcases mem_cons.1 E with rfl|E
 ·exact yA y
 exact hj.iq B E
theorem abt{b9 b5:Nat}{t:aE}{h:Nat}{f eA:K}{Sc:List ag}{c d:Code}(he:(∃xs,xs=mQ t h f∧wi b9 b5 eA xs Sc)∨(c=d∧∃pre,pre <+: mQ t h f∧Fa b9 b5 eA pre Sc)):∃I,I=wg t h f eA∧wi b9 b5 eA I Sc:=by
 rcases he with ⟨xs,rfl,hj⟩|⟨_,pre,⟨r,hr⟩,E,y,rfl,hy,hj⟩
 ·exact⟨_,(Hv fun x hx=>by rw[hj.1 x hx];rfl).symm,hj⟩
 refine⟨E,?_,hj⟩;unfold wg;rw[←hr,append_assoc,singleton_append];exact(OH (by rw[hy];rfl) fun x hx=>by rw[hj.1 x hx];rfl).symm
theorem ac0(t:aE)(k:K):VC Tryz.prog G 34 [.agg (cT t),.list 1 (k.flatMap cB) k.length] [] (fun r S=>∃b2 b3,r = .ek (.func 58) [.v (.pointer (some ⟨b2,0,none⟩)),.v (.pointer (some ⟨b3,0,none⟩))]∧S=[⟨b3,49,1,[.list 1 (k.flatMap cB) k.length]⟩,⟨b2,46,2,cT t⟩]):=by
 refine VC.body func34 rfl ntmps34 aO fun X0 w0 aZ=>?_;unfold cT;refine cj ?_;refine OD.box (ds:=[_,_]) an rfl rfl ot rfl rfl (fun b2=>?_);refine OD.box (ds:=[_]) an rfl rfl ot rfl rfl (fun b3=>?_);refine aj 6 [2,3] ?_;refine cL [4] ?_;refine aP 0 ?_ (h:=by exact(oP (ds:=[_,_]) rfl ⟨ot,ot,trivial⟩));refine bG ?_;refine aJ [_,_] ?_;exact⟨_,_,rfl,rfl⟩
theorem ac1(t:aE)(k:K):VP Tryz.prog G 34 [.agg (cT t),.list 1 (k.flatMap cB) k.length] (TJ t k):=VC.cover (ac0 t k) fun r S ⟨b2,b3,hr,hS⟩=>by
 subst hr;subst hS;exact aaF ⟨Pr (e:=46) (size:=2) (cs:=cT t) (mem_cons_of_mem _ mem_cons_self) gk.same,Pr (e:=49) (size:=1) mem_cons_self gk.same,trivial⟩
theorem X8:(Tryz.prog.info? 97).map (fun i=>(i.zero,i.size,i.bytes))=some (some (.agg #[.slice none 0 0,.int .i64 0]),2,32):=by kernel_rfl
theorem ac2(t:aE)(h:Nat)(hb:∀p∈t.af,p.keys.length≤maxLen∧p.kids.length≤maxLen)(hv:gj t=0→Valid t h)(f eA:K):VP Tryz.prog G 15 [.agg (cT t),.list 1 (f.flatMap cB) f.length,.list 1 (eA.flatMap cB) eA.length] (.dy [.list 2 ((vZ t h f eA).1.flatMap cE) (vZ t h f eA).1.length,.v (.int .i64 (vZ t h f eA).2)]):=by
 refine VC.yK func15 rfl ntmps15 aO fun X0 w0 aZ=>?_;have dr:maxLen=9223372036854775807:=rfl;have eZ:=oQ (G:=G) t hb;have U:=ac1 (G:=G) t f;unfold cT at eZ U;unfold cT;refine cj ?_;refine OD.box (ds:=[_,_]) an rfl rfl ot rfl rfl (fun b3=>?_);refine OD.box (ds:=[_]) an rfl rfl ot rfl rfl (fun b5=>?_);refine aj 43 [1,3,5] ?_;refine cM [1,3,5,8] (eZ) ?_;refine ae [1,3,5,8,14] ?_;refine aq (fun az aG=>?_) (fun az aG=>?_)
 ·have hn:¬gj t=0:=(by simpa using az)
  refine ae [6,7] ?_;refine CD.wk (Wk.ur (t:=6) (sz:=2) lk) ?_;refine aJ [] ?_;exact⟨by unfold vZ;rw[if_neg hn];rfl,rfl⟩
 have hz:gj t=0:=(by simpa using az)
 have v:=hv hz;have TI:=Qe v f;refine aC 4 ?_;refine bS 19 (fun Z O=>?_) (fun Z O=>?_)
 ·refine aY [1,3,5,23] ?_;refine ez ?_;exact z80
 refine aY [1,3,5,23] ?_;refine aq (fun aH aT=>?_) (fun aH aT=>?_)
 ·exact z80
 have amD:f.length≤100∧eA.length≤100:=(by simp_all;omega)
 have hf1:f.length≤maxLen:=(by omega)
 refine cj ?_;refine OD.alloc (ds:=[_]) an rfl rfl zeroValue54 rfl (fun b9=>?_);refine aj 43 [1,3,5,9] ?_;refine CD.agS ?_;refine dK 2 ?_;refine dS call34 (U) ?_;refine aj 43 [5,9,26] ?_;refine vm.wk (Wk.drop _ _ _ [⟨b9,54,1,[.v (.slice none 0 0)]⟩,⟨b5,49,1,[.list 1 (eA.flatMap cB) eA.length]⟩] (Sublist.cons_cons _ (Sublist.cons_cons _ (Sublist.cons _ (Sublist.refl _))))) ?_;refine vm.range ot call58 (abr t h v f hf1) (fun _=>rfl) abq (.exit 0) (.inr rfl) (wi b9 b5 eA) (Fa b9 b5 eA) (fun _ _ h=>h.iq) (fun _ _ h=>h.iq) ⟨(fun _ h=>by cases h),none,0,[],iC,rfl⟩ (JQ b9 b5 eA) (fun _ _ _ _ h=>h.iq) ?_ ?_ ?_ (fun h=>by cases h)
 ·intro X1 W1 S1 l1 pre y Sc hJ hN;refine CI.region Ll rfl ?_;refine OD.alloc (ds:=[_,_]) an rfl rfl zeroValue97 rfl (fun kG=>?_);refine aN 0 [_,_] sizeOf97 ?_;refine OD.wk (Wk.dL (n:=43) (l':=[(5,_),(9,_),(10,_)]) (S':=(⟨kG,97,2,[_,_]⟩::Sc)) rfl rfl ff) ?_;refine OD.nil ?_;exact⟨rfl,hJ,kG,rfl⟩
 ·intro X1 W1 S1 l1 pre y Sc z hJ hN hz;obtain⟨⟨aQ,ad,cap,So,ho,rfl⟩,kG,rfl⟩:=hz;unfold cE;refine CI.block ?_;refine CI.seq ?_;refine CI.seq ?_;refine CI.region Ll rfl ?_;refine bQ (dw 2) ?_;refine bQ qj ?_;refine bQ mE ?_;refine om_ ?_;refine OD.split (t:=31) lk (fun I=>?_) (fun I=>?_)
  ·have E:=I;(try simp only[V.mV,ne_eq] at E)
   refine bQ (cY 0) ?_;refine bQ (dw 0) ?_;refine bQ (dw 2) ?_;refine OD.gE gH rfl rfl rfl call35 (vO y.1 eA) ⟨ot,ot,trivial⟩ ?_;refine bQ mE ?_;refine bQ wC ?_;refine OD.wk (Wk.dL (n:=43) (l':=[(9,_),(10,_),(37,_)]) (S':=(⟨kG,97,2,[_,_]⟩::⟨b9,54,1,[_]⟩::⟨b5,49,1,[_]⟩::So)) rfl rfl ff) ?_;refine OD.nil ?_;refine CI.cond ot (fun aX=>?_) (fun aX=>?_)
   ·have bw:=aX
    (try simp only[V.mV,ne_eq] at bw)
    have fq:uJ eA y=true:=(by unfold uJ;simp_all[Sj])
    refine CI.exit ?_;exact⟨rfl,_,Sublist.cons _ (Sublist.refl _),pre,y,rfl,fq,aQ,ad,cap,So,ho,rfl⟩
   have bw:=aX
   (try simp only[V.mV,ne_eq] at bw)
   exact z31
  have E:=I;(try simp only[V.mV,ne_eq] at E)
  refine Ci ?_;refine Ci ?_;refine Ci ?_;refine Ci ?_;refine Ci ?_;refine bQ uR ?_;refine VX [9,10,37] ?_;refine CI.JD ot je ?_;exact z31
 intro W1 S1 D1 Sc fb;obtain⟨es,hes,aQ,ad,cap,So,ho,rfl⟩:=abt fb;refine ae [6,7] ?_;refine CD.gW (t:=6) (Sq:=So) lk ho (cr Sk _) (dA (A:=[_,_])) ?_;refine CD.ret ?_;refine⟨rfl,(by simp[iq,fA,uv yA,yz,yA,uv aeG,TJ,JP]),(by intro B hB;simp only[mem_cons,not_mem_nil,or_false] at hB;rcases hB with rfl|rfl<;>simp[iq,fA,yz]),_,[],nil_sublist _,Il results15 (yf aO lk) (yf aO lk),(by simp[iq,fA,uv yA]),?_⟩;rw[hes];exact⟨by unfold vZ;rw[if_pos hz,if_pos ⟨by omega,by omega⟩],rfl⟩

end Go.Proofs.YtbcmjoaggammcaaGreatDoor.Tw
namespace Go.Proofs.YtbcmjoaggammcaaGreatDoor.Tw

open List
open Go.Proofs.Tryz
open Go.RowKit V Tr Pk
variable {α:Type} {i:Nat} {t:aE} {J:List D}
theorem Rz{g:α→List D}(hg:∀a,(g a).length=1){q:List α}{cap:Nat}(hi:i<q.length)(hc:q.length≤cap):((q.flatMap g).drop (eD cap (i+1) 1 0)).take ((q.length-(i+1))*1)=(q.drop (i+1)).flatMap g:=by
 unfold eD;by_cases h:cap=i+1
 ·have e:q.length=i+1:=(by omega)
  have e2:q.drop (i+1)=[]:=drop_of_length_le w4;rw[if_pos h,show q.length-(i+1)=0 from by omega,e2];simp
 rw[if_neg h,Nat.zero_add,uu hg,take_of_length_le];rw[cr hg,length_drop];exact Nat.le_refl _
theorem SR{g:α→List D}(hg:∀a,(g a).length=1){q:List α}(hi:i<q.length):cZ (q.flatMap g) (i*1) ((q.drop (i+1)).flatMap g)=(q.eraseIdx i).flatMap g++(q.flatMap g).drop (i*1+((q.drop (i+1)).flatMap g).length):=by
 rw[vB _ _ _ (by rw[cr hg,cr hg,length_drop];omega),sY hg,eraseIdx_eq_take_drop_succ,flatMap_append]
variable {G:List (Nat×List Value)}
theorem Xj:(Tryz.prog.info? 49).map (fun i=>i.size)=some 1:=by kernel_rfl
theorem G1(q:List K)(i cap b:Nat)(hi:i<q.length)(hc:q.length≤cap)(hm:cap≤maxLen)(hs:q.length≤1000):VC Tryz.prog G 128 [.v (.slice (some ⟨b,0,none⟩) q.length cap),.v (.int .i64 (i:Nat)),.v (.int .i64 ((i+1:Nat):Int))] [⟨b,49,cap*1,q.flatMap cK⟩] (fun r S=>r = .v (.slice (some ⟨b,0,none⟩) (q.length-1) cap)∧S=[⟨b,49,cap*1,(q.eraseIdx i).flatMap cK⟩]):=by
 refine VC.body func128 rfl ntmps128 aO fun X0 w0 aZ=>?_;refine ae [0,1,2] ?_;refine cL [0,1,2] ?_;refine aP 5 ?_ (h:=by exact(Nd rfl ot ot ot ot runUnderlying90 sizeOf49 w4 w4 hc));refine jQ ?_;refine ae [0,1,2,16] ?_;refine aq (fun az aG=>?_) (fun az aG=>?_)
 ·exact absurd az tK
 refine ae [0,1,2,7] ?_;refine CD.seq ?_;refine fF 7 (ap (eraseIdx _ 0)) ?_ (fun _ h=>(Sublist.map _ (eraseIdx_sublist _ 0)).subset h);refine ax 0 rfl bg ?_;refine ax 1 rfl bg ?_;refine ax 2 rfl (dY (l:=0) (h:=i) rfl ot trivial ⟨_,ot⟩ K2) ?_;refine ax 3 rfl bg ?_;refine ax 4 rfl bg ?_;refine ax 5 rfl (dY (l:=i+1) rfl ot ⟨_,ot⟩ trivial tI) ?_;refine dh.later rfl ?_;refine AD.one (i:=6) ay ?_;refine bf.Pg (n:=i) (m:=q.length-(i+1)) (k:=0) (new:=(q.drop (i+1)).flatMap cK) (cs':=(q.eraseIdx i).flatMap cK++(q.flatMap cK).drop (i*1+((q.drop (i+1)).flatMap cK).length)) rfl an rfl rfl underlying90 Xj ot rfl rfl ot (Rz fX hi hc) (by rw[cr fX,length_drop]) (s7 oV _) w4 (by show _≤(q.flatMap cK).length;rw[cr fX];omega) (SR fX hi) ic ?_;rw[show i+(q.length-(i+1))=q.length-1 from by omega];refine ey ?_;refine aY [0,7] ?_;refine aC 4 ?_;refine bQ (dY (l:=q.length-1) (h:=q.length) rfl ot ⟨_,ot⟩ ⟨_,ot⟩ (by first|exact oh (fun h=>by cases h) runUnderlying90 sizeOf49 w4|exact yc (fun h=>by cases h) (fun h=>by cases h) runUnderlying90 sizeOf49 w4 w4|exact nG (fun h=>by cases h) (fun h=>by cases h) runUnderlying90 sizeOf49 w4 w4)) ?_;refine OD.shrink (k:=0) (cs':=(q.eraseIdx i).flatMap cK) rfl (prefix_append _ _) ?_;refine OD.clear (k:=0) (sz:=1) an rfl rfl underlying90 zeroValue49 rfl ay ot rfl rfl (fun h0=>?_) ?_
 ·have h3:eD cap (q.length-1) 1 0=(q.length-1)*1:=(by unfold eD;rw[if_neg w4];omega)
  rw[h3];refine⟨?_,?_⟩
  ·show((q.eraseIdx i).flatMap cK).length≤_;rw[cr fX,length_eraseIdx_of_lt hi];exact Nat.le_refl _
  show _≤cap*1;omega
 refine aj 33 [0] ?_;refine ae [6] ?_;refine aJ [_] ?_;exact⟨rfl,rfl⟩
theorem Xk:(Tryz.prog.info? 3).map (fun i=>i.size)=some 1:=by kernel_rfl
theorem Nw(q:List Int)(i cap b:Nat)(hi:i<q.length)(hc:q.length≤cap)(hm:cap≤maxLen)(hs:q.length≤1000):VC Tryz.prog G 129 [.v (.slice (some ⟨b,0,none⟩) q.length cap),.v (.int .i64 (i:Nat)),.v (.int .i64 ((i+1:Nat):Int))] [⟨b,3,cap*1,q.flatMap cI⟩] (fun r S=>r = .v (.slice (some ⟨b,0,none⟩) (q.length-1) cap)∧S=[⟨b,3,cap*1,(q.eraseIdx i).flatMap cI⟩]):=by
 refine VC.body func129 rfl ntmps129 aO fun X0 w0 aZ=>?_;refine ae [0,1,2] ?_;refine cL [0,1,2] ?_;refine aP 5 ?_ (h:=by exact(Nd rfl ot ot ot ot runUnderlying91 sizeOf3 w4 w4 hc));refine jQ ?_;refine ae [0,1,2,16] ?_;refine aq (fun az aG=>?_) (fun az aG=>?_)
 ·exact absurd az tK
 refine ae [0,1,2,7] ?_;refine CD.seq ?_;refine fF 7 (ap (eraseIdx _ 0)) ?_ (fun _ h=>(Sublist.map _ (eraseIdx_sublist _ 0)).subset h);refine ax 0 rfl bg ?_;refine ax 1 rfl bg ?_;refine ax 2 rfl (dY (l:=0) (h:=i) rfl ot trivial ⟨_,ot⟩ K3) ?_;refine ax 3 rfl bg ?_;refine ax 4 rfl bg ?_;refine ax 5 rfl (dY (l:=i+1) rfl ot ⟨_,ot⟩ trivial tJ) ?_;refine dh.later rfl ?_;refine AD.one (i:=6) ay ?_;refine bf.Pg (n:=i) (m:=q.length-(i+1)) (k:=0) (new:=(q.drop (i+1)).flatMap cI) (cs':=(q.eraseIdx i).flatMap cI++(q.flatMap cI).drop (i*1+((q.drop (i+1)).flatMap cI).length)) rfl an rfl rfl underlying91 Xk ot rfl rfl ot (Rz eu hi hc) (by rw[cr eu,length_drop]) (s7 ng _) w4 (by show _≤(q.flatMap cI).length;rw[cr eu];omega) (SR eu hi) ic ?_;rw[show i+(q.length-(i+1))=q.length-1 from by omega];refine ey ?_;refine aY [0,7] ?_;refine aC 4 ?_;refine bQ (dY (l:=q.length-1) (h:=q.length) rfl ot ⟨_,ot⟩ ⟨_,ot⟩ (by first|exact oh (fun h=>by cases h) runUnderlying91 sizeOf3 w4|exact yc (fun h=>by cases h) (fun h=>by cases h) runUnderlying91 sizeOf3 w4 w4|exact nG (fun h=>by cases h) (fun h=>by cases h) runUnderlying91 sizeOf3 w4 w4)) ?_;refine OD.shrink (k:=0) (cs':=(q.eraseIdx i).flatMap cI) rfl (prefix_append _ _) ?_;refine OD.clear (k:=0) (sz:=1) an rfl rfl underlying91 zeroValue3 rfl ay ot rfl rfl (fun h0=>?_) ?_
 ·have h3:eD cap (q.length-1) 1 0=(q.length-1)*1:=(by unfold eD;rw[if_neg w4];omega)
  rw[h3];refine⟨?_,?_⟩
  ·show((q.eraseIdx i).flatMap cI).length≤_;rw[cr eu,length_eraseIdx_of_lt hi];exact Nat.le_refl _
  show _≤cap*1;omega
 refine aj 33 [0] ?_;refine ae [6] ?_;refine aJ [_] ?_;exact⟨rfl,rfl⟩

theorem vz{α:Type}{g:α→List D}{sz:Nat}(hg:∀a,(g a).length=sz){a':α}{c:Nat}{d:D}(hc:c<sz):∀{L:List α} {j:Nat} (hj:j<L.length),g a'=(g L[j]).set c d→(L.flatMap g).set (j*sz+c) d=(L.set j a').flatMap g
 | a::L,0,_,h=>by
  simp only[getElem_cons_zero] at h;rw[flatMap_cons,set_cons_zero,flatMap_cons,h,set_append_left _ _ (by rw[hg];omega),Nat.zero_mul,Nat.zero_add]
 | a::L,j+1,hj,h=>by
  have E:=vz hg hc (L:=L) (j:=j) (by simpa using hj) oB;have e:(j+1)*sz+c=sz+(j*sz+c):=(by rw[Nat.succ_mul];omega)
  rw[flatMap_cons,set_cons_succ,flatMap_cons,←E,set_append_right _ _ (by rw[hg];omega),hg,e,show sz+(j*sz+c)-sz=j*sz+c from by omega]
theorem SS{L:List aA}(hL:L.map aA.p=t.af){i:Int}(hi:0≤i∧i<t.af.length)(hj:i.toNat<L.length):L[i.toNat].p=t.pg i:=by
 rw[uO hi];have h:(L.map aA.p)[i.toNat]?=some L[i.toNat].p:=(by rw[getElem?_map,getElem?_eq_getElem hj];rfl)
 rw[hL,getElem?_eq_getElem w4] at h;exact(Option.some.inj h).symm
def vq:aE:=⟨[],0⟩
def BJ(te:aE×Int)(r:D)(S:List ag):Prop:=∃r',r = .dy [r',.v (.int .i64 te.2)]∧FC te.1 r' S
theorem yo(e:Int):BJ (vq,e) (.dy [.agg [.v (.slice none 0 0),.v (.int .i64 0)],.v (.int .i64 e)]) []:=⟨_,rfl,[],none,0,[],rfl,iC,(fun o h=>by cases h),rfl,rfl⟩
theorem FC.view{r:D}{S:List ag}(h:FC t r S):View S r (.agg (cT t)):=by
 obtain⟨L,ad,cap,Sx,rfl,ho,aQ,hL,rfl⟩:=h;have:=Ji (root:=t.root) ho aQ (fun B E=>E);rw[hL] at this;exact this
theorem BJ.view{te:aE×Int}{r:D}{S:List ag}(h:BJ te r S):View S r (.dy [.agg (cT te.1),.v (.int .i64 te.2)]):=by
 obtain⟨r',rfl,h⟩:=h;exact D3 ⟨h.view,eL,trivial⟩
noncomputable def qG(t:aE)(k:K)(h:Nat):aE×Int:=if kS t k=0 then (if gU t k h=true then (gq t h k,0) else (vq,8)) else (vq,kS t k)
theorem OI{k:K}(h:kS t k=0):gj t=0∧nS k=true:=by
 have hc:gj t=0:=Classical.byContradiction fun e=>by rw[DZ e] at h;exact e h
 refine⟨hc,?_⟩;cases hq:nS k with
 | true=>rfl
 | false=>rw[DH hc hq] at h;cases h
theorem ZW(t:aE)(h:Nat)(k:K)(hb:∀p∈t.af,p.keys.length≤maxLen∧p.kids.length≤maxLen)(hv:gj t=0→Valid t h):VC Tryz.prog G 93 [.agg [.list 5 (t.af.flatMap cP) t.af.length,.v (.int .i64 t.root)],.list 1 (k.flatMap cB) k.length] [] (BJ (qG t k h)):=by
 refine VC.body func93 rfl ntmps93 aO fun X0 w0 aZ=>?_;have eZ:=G0 (G:=G) t k hb;unfold cT at eZ;have hcT:cT t=[.list 5 (t.af.flatMap cP) t.af.length,.v (.int .i64 t.root)]:=rfl;have dr:maxLen=9223372036854775807:=rfl;refine cj ?_;refine OD.box (ds:=[_,_]) an rfl rfl ot rfl rfl (fun b2=>?_);refine OD.alloc (ds:=[_,_]) an rfl rfl zeroValue46 rfl (fun b4=>?_);refine aj 58 [1,2,4] ?_;refine cM [1,2,4,6] (eZ) ?_;refine ae [1,2,4,6,16] ?_;refine aq (fun az aG=>?_) (fun az aG=>?_)
 ·have hn:¬kS t k=0:=(by simpa using az)
  refine aC 2 ?_;refine aN 0 [_,_] sizeOf46 ?_;refine aj 58 [4,5] ?_;refine aJ [] ?_;unfold qG;rw[if_neg hn];exact yo _
 have hz:kS t k=0:=(by simpa using az)
 obtain⟨hc,MQ⟩:=OI hz;have v:=hv hc;have BK:=H6 MQ;have fj:=qv (G:=G) t h v k w4 (DE v k);obtain⟨q1,E⟩:=v.leaf k;refine aC 1 ?_;refine OD.call an rfl rfl rfl call115 (EP t h v) ⟨ot,trivial⟩ (eK _) ?_;rintro _ _ ⟨L,ad,cap,Sx,rfl,ec,aQ,hL,rfl⟩;refine OD.perm (dV (A:=[_,_])) ?_;refine OD.alloc (ds:=[_,_]) an rfl rfl zeroValue46 rfl (fun b7=>?_);refine aN 0 [_,_] sizeOf46 ?_;refine aj 58 [1,4,7] ?_;refine cL [4,7,8,9,10] ?_;refine mX 2 ?_;refine y4 (fj) (ha:=by exact⟨⟨_,ot,by have:=Ji (root:=t.root) ec aQ (fun B hB=>mem_cons_of_mem ⟨b7,46,2,[.v (.slice ad L.length cap),.v (.int .i64 t.root)]⟩ (mem_cons_of_mem ⟨b4,46,2,[.v (.slice none 0 0),.v (.int .i64 0)]⟩ (mem_cons_of_mem ⟨b2,46,2,[.list 5 (t.af.flatMap cP) t.af.length,.v (.int .i64 t.root)]⟩ hB)));rw[hL] at this;exact this⟩,⟨_,ot,eL⟩,trivial⟩) (K:=?_);refine bG ?_;refine ae [4,7,8,9,29] ?_;refine aq (fun aH aT=>?_) (fun aH aT=>?_)
 ·have iI:gU t k h=false:=(by simpa using aH)
  refine aC 1 ?_;refine aN 1 [_,_] sizeOf46 ?_;refine aj 58 [4,5] ?_;refine aJ [] ?_;unfold qG;rw[if_pos hz,if_neg wT];exact yo _
 have iI:gU t k h=true:=(by simpa using aH)
 obtain⟨ha,Mn⟩:=(DD v k).1 iI;have po:=v.page _ (jq q1);have hle:=po.leaf E;have WU:=po.eI;have rh:L.length=t.af.length:=(by rw[←hL,length_map])
 have hj:(aI t k h t.root).toNat<L.length:=(by omega)
 have O:=SS hL q1 hj;obtain⟨bx,rfl,fQ,qT,rfl⟩:=ec.pos w4;have U:=aQ _ (getElem_mem hj);obtain⟨o,ho⟩:∃o,o=L[(aI t k h t.root).toNat]:=⟨_,rfl⟩
 rw[←ho] at U O;rcases o with ⟨p,ak,ck,sk,ai,ci,si⟩
 have gB:p=t.pg (aI t k h t.root):=O;obtain⟨dH,Z⟩:oq p.keys ak ck sk∧lu p.kids ai ci si:=U;rw[←gB] at ha hle WU;obtain⟨bk,rfl,dR,wW,rfl⟩:=dH.pos w4;obtain⟨bi,rfl,fi,FW,rfl⟩:=Z.pos w4;have I:(L.flatMap bO).Perm (⟨bk,49,ck*1,flatMap cK p.keys⟩::⟨bi,3,ci*1,flatMap cI p.kids⟩::((L.eraseIdx (aI t k h t.root).toNat).flatMap bO)):=(by have:=yn bO hj;rw[←ho] at this;exact this)
 refine CD.perm (Perm.cons _ (Perm.cons _ (Perm.cons _ (Perm.cons _ I)))) ?_;rw[gB] at ha;have ha:(aL (t.pg (aI t k h t.root)) k)<p.keys.length:=(by rw[gB];exact ha)
 have px:(aL (t.pg (aI t k h t.root)) k)<p.kids.length:=(by omega)
 have hid:=dR;clear dH Z;refine cL [4,7,9,11] ?_;refine aP 3 ?_ (h:=by exact(dx 5 (h:=by first|exact .l (j:=(aI t k h t.root).toNat) (Int.toNat_of_nonneg q1.1).symm hj|exact .r (j:=(aI t k h t.root).toNat) (Int.toNat_of_nonneg q1.1).symm hj)));refine bG ?_;refine CD.seq ?_;refine fF 21 (ap (take 3 _)) ?_ (fun _ h=>(Sublist.map _ (take_sublist _ _)).subset h);refine ax 0 rfl bg ?_;refine ax 1 rfl bg ?_;refine ax 2 rfl bg ?_;refine ax 3 rfl lC ?_;refine ax 4 rfl (cY 1) ?_;refine ax 6 rfl bg ?_;refine ax 7 rfl bg ?_;refine ax 8 rfl (cX (r:=.int .i64 (((aL (t.pg (aI t k h t.root)) k)+1:Nat):Int)) rfl ot bH (jZ (by rw[show(((aL (t.pg (aI t k h t.root)) k):Nat):Int)+1=(((aL (t.pg (aI t k h t.root)) k)+1:Nat):Int) from rfl];exact wrap_i64 w4 w4))) ?_;refine ax 10 rfl bg ?_;refine ax 11 rfl lC ?_;refine ax 12 rfl (cY 2) ?_;refine ax 14 rfl bg ?_;refine ax 15 rfl bg ?_;refine ax 16 rfl (cX (r:=.int .i64 (((aL (t.pg (aI t k h t.root)) k)+1:Nat):Int)) rfl ot bH (jZ (by rw[show(((aL (t.pg (aI t k h t.root)) k):Nat):Int)+1=(((aL (t.pg (aI t k h t.root)) k)+1:Nat):Int) from rfl];exact wrap_i64 w4 w4))) ?_;refine dh.later rfl ?_;refine AD.two (i:=5) (j:=13) ay ?_ ?_
 ·first|refine at_ rfl (cH (mk:=Op.load 90) rfl ot (kP (k:=3) (j:=1) (d:=.v (.slice (some ⟨bk,0,none⟩) p.keys.length ck)) (ls:=L) fW rfl rfl rfl isAgg90 hj qR)) ?_|refine at_ rfl (cH (mk:=Op.load 90) rfl ot (kP (k:=4) (j:=1) (d:=.v (.slice (some ⟨bk,0,none⟩) p.keys.length ck)) (ls:=L) fW rfl rfl rfl isAgg90 hj qR)) ?_
  refine AD.two (i:=9) (j:=13) ay ?_ ?_
  ·refine bf.call rfl an rfl rfl rfl call128 (G1 p.keys (aL (t.pg (aI t k h t.root)) k) ck bk ha dR wW w4) ⟨ot,ot,ot,trivial⟩ (jX (k:=4) rfl) ic ?_;rintro _ _ ⟨rfl,rfl⟩;refine AD.perm (perm_middle (l₁:=[_,_,_,_])).symm ?_;refine AD.one (i:=13) ay ?_;first|refine at_ rfl (cH (mk:=Op.load 91) rfl ot (kP (k:=3) (j:=2) (d:=.v (.slice (some ⟨bi,0,none⟩) p.kids.length ci)) (ls:=L) fW rfl rfl rfl isAgg91 hj qR)) ?_|refine at_ rfl (cH (mk:=Op.load 91) rfl ot (kP (k:=4) (j:=2) (d:=.v (.slice (some ⟨bi,0,none⟩) p.kids.length ci)) (ls:=L) fW rfl rfl rfl isAgg91 hj qR)) ?_
   exact z8
  first|refine at_ rfl (cH (mk:=Op.load 91) rfl ot (kP (k:=3) (j:=2) (d:=.v (.slice (some ⟨bi,0,none⟩) p.kids.length ci)) (ls:=L) fW rfl rfl rfl isAgg91 hj qR)) ?_|refine at_ rfl (cH (mk:=Op.load 91) rfl ot (kP (k:=4) (j:=2) (d:=.v (.slice (some ⟨bi,0,none⟩) p.kids.length ci)) (ls:=L) fW rfl rfl rfl isAgg91 hj qR)) ?_
  refine AD.one (i:=9) ay ?_;refine bf.call rfl an rfl rfl rfl call128 (G1 p.keys (aL (t.pg (aI t k h t.root)) k) ck bk ha dR wW w4) ⟨ot,ot,ot,trivial⟩ (jX (k:=4) rfl) ic ?_;rintro _ _ ⟨rfl,rfl⟩;refine AD.perm (perm_middle (l₁:=[_,_,_,_])).symm ?_;exact z8
 first|refine at_ rfl (cH (mk:=Op.load 91) rfl ot (kP (k:=3) (j:=2) (d:=.v (.slice (some ⟨bi,0,none⟩) p.kids.length ci)) (ls:=L) fW rfl rfl rfl isAgg91 hj qR)) ?_|refine at_ rfl (cH (mk:=Op.load 91) rfl ot (kP (k:=4) (j:=2) (d:=.v (.slice (some ⟨bi,0,none⟩) p.kids.length ci)) (ls:=L) fW rfl rfl rfl isAgg91 hj qR)) ?_
 refine AD.one (i:=5) ay ?_;first|refine at_ rfl (cH (mk:=Op.load 90) rfl ot (kP (k:=3) (j:=1) (d:=.v (.slice (some ⟨bk,0,none⟩) p.keys.length ck)) (ls:=L) fW rfl rfl rfl isAgg90 hj qR)) ?_|refine at_ rfl (cH (mk:=Op.load 90) rfl ot (kP (k:=4) (j:=1) (d:=.v (.slice (some ⟨bk,0,none⟩) p.keys.length ck)) (ls:=L) fW rfl rfl rfl isAgg90 hj qR)) ?_
 refine AD.one (i:=9) ay ?_;refine bf.call rfl an rfl rfl rfl call128 (G1 p.keys (aL (t.pg (aI t k h t.root)) k) ck bk ha dR wW w4) ⟨ot,ot,ot,trivial⟩ (jX (k:=4) rfl) ic ?_;rintro _ _ ⟨rfl,rfl⟩;refine AD.perm (perm_middle (l₁:=[_,_,_,_])).symm ?_;refine AD.one (i:=17) ay ?_;refine bf.call rfl an rfl rfl rfl call129 (Nw p.kids (aL (t.pg (aI t k h t.root)) k) ci bi px fi FW w4) ⟨ot,ot,ot,trivial⟩ (jX (k:=5) rfl) ic ?_;rintro _ _ ⟨rfl,rfl⟩;refine AD.perm (perm_middle (l₁:=[_,_,_,_,_])).symm ?_;refine cq 18 rfl lC ?_;refine cq 19 rfl (cY 1) ?_;refine AD.one (i:=20) ay ?_
 refine bf.storeAt (k:=3) (cs':=flatMap gO (L.set (aI t k h t.root).toNat (⟨{p with keys:=(p.keys.eraseIdx (aL (t.pg (aI t k h t.root)) k))},some ⟨bk,0,none⟩,ck,[⟨bk,49,ck*1,flatMap cK (p.keys.eraseIdx (aL (t.pg (aI t k h t.root)) k))⟩],some ⟨bi,0,none⟩,ci,[⟨bi,3,ci*1,flatMap cI p.kids⟩]⟩:aA))) rfl an rfl rfl ot rfl rfl ot rfl rfl sizeOf90 rfl (by show 0+(aI t k h t.root).toNat*5+1+1≤(flatMap gO L).length;rw[cr fW];omega) (by show(L.flatMap gO).set (0+(aI t k h t.root).toNat*5+1) _=_;rw[Nat.zero_add];exact vz fW w7 hj (by rw[←ho];show gO (⟨{p with keys:=(p.keys.eraseIdx (aL (t.pg (aI t k h t.root)) k))},some ⟨bk,0,none⟩,ck,[⟨bk,49,ck*1,flatMap cK (p.keys.eraseIdx (aL (t.pg (aI t k h t.root)) k))⟩],some ⟨bi,0,none⟩,ci,[⟨bi,3,ci*1,flatMap cI p.kids⟩]⟩:aA)=(gO (⟨p,some ⟨bk,0,none⟩,ck,[⟨bk,49,ck*1,flatMap cK p.keys⟩],some ⟨bi,0,none⟩,ci,[⟨bi,3,ci*1,flatMap cI p.kids⟩]⟩:aA)).set 1 _;unfold gO;rw[length_eraseIdx_of_lt ha];rfl)) ic ?_;refine ey ?_;refine aD 2 ?_
 refine OD.storeAt (k:=3) (cs':=flatMap gO (L.set (aI t k h t.root).toNat (⟨(ke p (aL (t.pg (aI t k h t.root)) k)),some ⟨bk,0,none⟩,ck,[⟨bk,49,ck*1,flatMap cK (p.keys.eraseIdx (aL (t.pg (aI t k h t.root)) k))⟩],some ⟨bi,0,none⟩,ci,[⟨bi,3,ci*1,flatMap cI (p.kids.eraseIdx (aL (t.pg (aI t k h t.root)) k))⟩]⟩:aA))) an rfl rfl ot rfl rfl ot rfl rfl sizeOf91 rfl (by show 0+(aI t k h t.root).toNat*5+2+1≤(flatMap gO (L.set (aI t k h t.root).toNat (⟨{p with keys:=(p.keys.eraseIdx (aL (t.pg (aI t k h t.root)) k))},some ⟨bk,0,none⟩,ck,[⟨bk,49,ck*1,flatMap cK (p.keys.eraseIdx (aL (t.pg (aI t k h t.root)) k))⟩],some ⟨bi,0,none⟩,ci,[⟨bi,3,ci*1,flatMap cI p.kids⟩]⟩:aA))).length;rw[cr fW,length_set];omega) (by show(flatMap gO (L.set (aI t k h t.root).toNat (⟨{p with keys:=(p.keys.eraseIdx (aL (t.pg (aI t k h t.root)) k))},some ⟨bk,0,none⟩,ck,[⟨bk,49,ck*1,flatMap cK (p.keys.eraseIdx (aL (t.pg (aI t k h t.root)) k))⟩],some ⟨bi,0,none⟩,ci,[⟨bi,3,ci*1,flatMap cI p.kids⟩]⟩:aA))).set (0+(aI t k h t.root).toNat*5+2) _=_;rw[Nat.zero_add,vz fW (a':=(⟨(ke p (aL (t.pg (aI t k h t.root)) k)),some ⟨bk,0,none⟩,ck,[⟨bk,49,ck*1,flatMap cK (p.keys.eraseIdx (aL (t.pg (aI t k h t.root)) k))⟩],some ⟨bi,0,none⟩,ci,[⟨bi,3,ci*1,flatMap cI (p.kids.eraseIdx (aL (t.pg (aI t k h t.root)) k))⟩]⟩:aA)) w7 wP (by rw[getElem_set_self];show gO (⟨(ke p (aL (t.pg (aI t k h t.root)) k)),some ⟨bk,0,none⟩,ck,[⟨bk,49,ck*1,flatMap cK (p.keys.eraseIdx (aL (t.pg (aI t k h t.root)) k))⟩],some ⟨bi,0,none⟩,ci,[⟨bi,3,ci*1,flatMap cI (p.kids.eraseIdx (aL (t.pg (aI t k h t.root)) k))⟩]⟩:aA)=(gO (⟨{p with keys:=(p.keys.eraseIdx (aL (t.pg (aI t k h t.root)) k))},some ⟨bk,0,none⟩,ck,[⟨bk,49,ck*1,flatMap cK (p.keys.eraseIdx (aL (t.pg (aI t k h t.root)) k))⟩],some ⟨bi,0,none⟩,ci,[⟨bi,3,ci*1,flatMap cI p.kids⟩]⟩:aA)).set 2 _;unfold gO ke;simp only[];rw[length_eraseIdx_of_lt px];rfl),set_set]) ?_
 have vg:(⟨bk,49,ck*1,flatMap cK (p.keys.eraseIdx (aL (t.pg (aI t k h t.root)) k))⟩::⟨bi,3,ci*1,flatMap cI (p.kids.eraseIdx (aL (t.pg (aI t k h t.root)) k))⟩::((L.eraseIdx (aI t k h t.root).toNat).flatMap bO)).Perm ((L.set (aI t k h t.root).toNat (⟨(ke p (aL (t.pg (aI t k h t.root)) k)),some ⟨bk,0,none⟩,ck,[⟨bk,49,ck*1,flatMap cK (p.keys.eraseIdx (aL (t.pg (aI t k h t.root)) k))⟩],some ⟨bi,0,none⟩,ci,[⟨bi,3,ci*1,flatMap cI (p.kids.eraseIdx (aL (t.pg (aI t k h t.root)) k))⟩]⟩:aA)).flatMap bO):=(qp bO hj (⟨(ke p (aL (t.pg (aI t k h t.root)) k)),some ⟨bk,0,none⟩,ck,[⟨bk,49,ck*1,flatMap cK (p.keys.eraseIdx (aL (t.pg (aI t k h t.root)) k))⟩],some ⟨bi,0,none⟩,ci,[⟨bi,3,ci*1,flatMap cI (p.kids.eraseIdx (aL (t.pg (aI t k h t.root)) k))⟩]⟩:aA)).symm;refine OD.perm (Perm.cons _ (Perm.cons _ (Perm.cons _ (Perm.cons _ vg)))) ?_;refine aj 58 [4,7] ?_;refine aC 1 ?_;refine aN 1 [_,_] sizeOf46 ?_;refine aj 58 [4,5] ?_
 refine aJ ([⟨bx,93,cap*5,flatMap gO (L.set (aI t k h t.root).toNat (⟨(ke p (aL (t.pg (aI t k h t.root)) k)),some ⟨bk,0,none⟩,ck,[⟨bk,49,ck*1,flatMap cK (p.keys.eraseIdx (aL (t.pg (aI t k h t.root)) k))⟩],some ⟨bi,0,none⟩,ci,[⟨bi,3,ci*1,flatMap cI (p.kids.eraseIdx (aL (t.pg (aI t k h t.root)) k))⟩]⟩:aA))⟩]++(L.set (aI t k h t.root).toNat (⟨(ke p (aL (t.pg (aI t k h t.root)) k)),some ⟨bk,0,none⟩,ck,[⟨bk,49,ck*1,flatMap cK (p.keys.eraseIdx (aL (t.pg (aI t k h t.root)) k))⟩],some ⟨bi,0,none⟩,ci,[⟨bi,3,ci*1,flatMap cI (p.kids.eraseIdx (aL (t.pg (aI t k h t.root)) k))⟩]⟩:aA)).flatMap bO) ?_;unfold qG;rw[if_pos hz,if_pos iI];refine⟨_,rfl,L.set (aI t k h t.root).toNat (⟨(ke p (aL (t.pg (aI t k h t.root)) k)),some ⟨bk,0,none⟩,ck,[⟨bk,49,ck*1,flatMap cK (p.keys.eraseIdx (aL (t.pg (aI t k h t.root)) k))⟩],some ⟨bi,0,none⟩,ci,[⟨bi,3,ci*1,flatMap cI (p.kids.eraseIdx (aL (t.pg (aI t k h t.root)) k))⟩]⟩:aA),some ⟨bx,0,none⟩,cap,_,by rw[length_set];rfl,bI qP qT,fun x hx=>?_,?_,rfl⟩
 ·rcases mem_or_eq_of_mem_set hx with hx|rfl
  ·exact aQ x hx
  exact⟨bI (by show(p.keys.eraseIdx (aL (t.pg (aI t k h t.root)) k)).length≤ck;rw[length_eraseIdx_of_lt ha];omega) wW,bI (by show(p.kids.eraseIdx (aL (t.pg (aI t k h t.root)) k)).length≤ci;rw[length_eraseIdx_of_lt px];omega) FW⟩
 rw[map_set,hL];show _=t.af.set (aI t k h t.root).toNat (ke (t.pg (aI t k h t.root)) (aL (t.pg (aI t k h t.root)) k));rw[←gB]
theorem ZX(t:aE)(h:Nat)(k:K)(hb:∀p∈t.af,p.keys.length≤maxLen∧p.kids.length≤maxLen)(E:gj t=0→Valid t h):VP Tryz.prog G 93 [.agg (cT t),.list 1 (k.flatMap cB) k.length] (.dy [.agg (cT (qG t k h).1),.v (.int .i64 (qG t k h).2)]):=(ZW t h k hb E).cover fun r S hr=>hr.view

def UL(L:List aA)(b:Nat)(root:Int)(j:Nat)(p:cR)(r:D)(S:List ag):Prop:=r = .dy [.list 1 ((iV p).flatMap cB) (iV p).length,.v (.int .i64 (L.length:Nat))]∧∃L' ad cap Sx,tE L' ad cap Sx∧(∀o∈L',qm o)∧L'.map aA.p=(L.map aA.p).set j (bn p L.length)++[bp p]∧S=⟨b,46,2,[.v (.slice ad (length L') cap),.v (.int .i64 root)]⟩::(Sx++L'.flatMap bO)
theorem xS:(Tryz.prog.info? 93).map (fun i=>(i.zero,i.size,i.bytes))=some (some (.agg #[.bool false,.slice none 0 0,.slice none 0 0,.slice none 0 0,.int .i64 0]),5,88):=by kernel_rfl
theorem abu(L:List aA)(b:Nat)(root i:Int)(ad:Option Addr)(cap:Nat)(Sx:List ag)(hi:0≤i∧i<L.length)(hn:L.length≤10000)(ec:tE L ad cap Sx)(aQ:∀o∈L,qm o)(h5:(L[i.toNat]'w4).p.keys.length=5)(dR:(L[i.toNat]'w4).p.leaf=true→(L[i.toNat]'w4).p.kids.length=5)(xJ:(L[i.toNat]'w4).p.leaf=false→(L[i.toNat]'w4).p.kids.length=6)(GA:∀k∈(L[i.toNat]'w4).p.keys,k.length≤100)(hh:(L[i.toNat]'w4).p.high.length≤100) :
 VC Tryz.prog G 118 [.v (.pointer (some ⟨b,0,none⟩)),.v (.int .i64 i)] (⟨b,46,2,[.v (.slice ad L.length cap),.v (.int .i64 root)]⟩::(Sx++L.flatMap bO)) (UL L b root i.toNat (L[i.toNat]'w4).p):=by
 refine VC.body func118 rfl ntmps118 aO fun X0 w0 aZ=>?_;have dr:maxLen=9223372036854775807:=rfl;have hj:i.toNat<L.length:=(by omega)
 obtain⟨bx,rfl,fQ,qT,rfl⟩:=ec.pos w4;have xz:=aQ _ (getElem_mem hj);obtain⟨o,ho⟩:∃o,o=L[i.toNat]:=⟨_,rfl⟩
 rw[←ho] at xz h5 dR xJ GA hh ⊢;rcases o with ⟨p,ak,ck,sk,ai,ci,si⟩
 obtain⟨dH,jU⟩:oq p.keys ak ck sk∧lu p.kids ai ci si:=xz;change p.keys.length=5 at h5;change p.leaf=true→p.kids.length=5 at dR;change p.leaf=false→p.kids.length=6 at xJ;change ∀k∈p.keys,k.length≤100 at GA;change p.high.length≤100 at hh;have JR:(L.flatMap bO).Perm (sk++(si++((L.eraseIdx i.toNat).flatMap bO))):=(by have:=yn bO hj;rw[←ho] at this;exact this.trans (by rw[show bO ⟨p,ak,ck,sk,ai,ci,si⟩=sk++si from rfl,append_assoc]))
 refine CD.perm (Perm.cons _ (Perm.cons _ JR)) ?_;have wO:iV p=p.keys[2]'w4:=yx h5;have WX:(p.keys[2]'w4).length≤100:=GA _ (getElem_mem _);refine ae [0,1] ?_;refine aC 5 ?_;refine bQ (dx 5 (h:=by first|exact .l (j:=i.toNat) (Int.toNat_of_nonneg hi.1).symm hj|exact .r (j:=i.toNat) (Int.toNat_of_nonneg hi.1).symm hj)) ?_;refine bQ (cH (mk:=Op.load 93) rfl ot (dI (k:=1) (ls:=L) (i:=i.toNat) fW rfl rfl rfl isAgg93 sizeOf93 hj)) ?_;refine OD.alloc (ds:=[_,_,_,_,_]) an rfl rfl zeroValue93 rfl (fun b6=>?_);refine aN 0 [_,_,_,_,_] sizeOf93 ?_;refine aj 98 [0,1,6] ?_;refine CD.seq ?_;refine CD.wk (Wk.cover (A:=⟨b6,93,5,gO L[i.toNat]⟩) (R:=⟨b,46,2,[.v (.slice (some ⟨bx,0,none⟩) L.length cap),.v (.int .i64 root)]⟩::⟨bx,93,cap*5,flatMap gO L⟩::((L.eraseIdx i.toNat).flatMap bO)) (Sd:=sk++si) (cs':=cP p) (Perm.cons _ (Perm.cons _ (Perm.cons _ (by rw[←append_assoc];exact perm_append_comm)))) (by show gk _ (gO L[i.toNat]) _;rw[←ho];exact⟨eL,kZ dH (cr fX _) (fun B hB=>mem_append_left _ hB),kZ jU (cr eu _) (fun B hB=>mem_append_right _ hB),eL,eL,trivial⟩)) ?_;refine dK 7 ?_;refine OD.alloc (ds:=[_,_,_,_,_]) an rfl rfl zeroValue93 rfl (fun b7=>?_);refine aN 0 [_,_,_,_,_] sizeOf93 ?_;refine aj 98 [0,1,6,7] ?_;refine cL [0,1,6,7,8] ?_
 refine aP 2 ?_ (h:=by exact(qq (mk:=Op.indexAddr 90) rfl ot bH (by first|exact rC runUnderlying90 sizeOf49 (j:=2) rfl w4|exact rF runUnderlying90 sizeOf49 (j:=2) rfl w4)));refine bG ?_;refine CD.cut (fun aK=>∃(b7:Nat),∃(da:Option Addr),∃(dc:Nat),∃(cA:List ag),∃(de:Option Addr),∃(dg:Nat),∃(cD:List ag),∃(bJ:Option Addr),∃(bK:Nat),∃(bz:List ag),(oq (bp p).keys da dc cA)∧(lu (bp p).kids de dg cD)∧(lu (bn p L.length).kids bJ bK bz)∧aK=(⟨98,[(0,.v (.pointer (some ⟨b,0,none⟩))),(1,.v (.int .i64 i)),(6,.v (.pointer (some ⟨b6,0,none⟩))),(7,.v (.pointer (some ⟨b7,0,none⟩))),(8,.list 1 ((iV p).flatMap cB) (iV p).length)],(⟨b7,93,5,[.v (.bool p.leaf),.v (.slice da (bp p).keys.length dc),.v (.slice de (bp p).kids.length dg),.list 1 (p.high.flatMap cB) p.high.length,.v (.int .i64 p.next)]⟩::⟨b6,93,5,[.v (.bool p.leaf),.list 1 (p.keys.flatMap cK) p.keys.length,.v (.slice bJ (bn p L.length).kids.length bK),.list 1 (p.high.flatMap cB) p.high.length,.v (.int .i64 p.next)]⟩::⟨b,46,2,[.v (.slice (some ⟨bx,0,none⟩) L.length cap),.v (.int .i64 root)]⟩::⟨bx,93,cap*5,flatMap gO L⟩::(bz++(cD++(cA++((L.eraseIdx i.toNat).flatMap bO)))))⟩:St)) ?_ ?_
 ·refine ae [0,1,6,7,8,28] ?_;refine aq (fun az aG=>?_) (fun az aG=>?_)
  ·have fB:p.leaf=true:=az;have dR:=dR fB;refine CD.seq ?_;refine fF 10 (ap (take 2 (drop 1 _))) ?_ (fun _ h=>(Sublist.map _ ((take_sublist _ _).trans (drop_sublist _ _))).subset h);refine ax 0 rfl (cY 1) ?_;refine ax 4 rfl (cY 2) ?_;refine dh.later rfl ?_;refine AD.two (i:=1) (j:=5) ay ?_ ?_
   ·refine at_ rfl (dw 1) ?_;refine cq 2 rfl (dY (l:=2) rfl ot ⟨_,bH⟩ trivial FQ) ?_;refine AD.two (i:=3) (j:=5) ay ?_ ?_
    ·have Bf:VC Tryz.prog G 145 [.list 1 ((p.keys.drop 2).flatMap cK) (p.keys.drop 2).length] [] (fun r S=>∃ad cap,r = .v (.slice ad (bp p).keys.length cap)∧oq (bp p).keys ad cap S):=(by rw[show(p.keys.drop 2)=(bp p).keys from u5];exact vE _ Lb)
     refine bf.call rfl an rfl rfl rfl call145 Bf ⟨ot,trivial⟩ (eK _) ic ?_;rintro _ CX ⟨CY,CZ,rfl,BL⟩;refine AD.perm (iW (A:=[_,_,_,_])) ?_;refine cq 8 rfl (cY 1) ?_;refine AD.one (i:=5) ay ?_;refine at_ rfl (dw 1) ?_;refine cq 6 rfl (dY (l:=2) rfl ot ⟨_,bH⟩ trivial zx) ?_;refine AD.one (i:=7) ay ?_;have Bg:VC Tryz.prog G 114 [.list 1 ((p.kids.drop 2).flatMap cI) (p.kids.drop 2).length] [] (fun r S=>∃ad cap,r = .v (.slice ad (bp p).kids.length cap)∧lu (bp p).kids ad cap S):=(by rw[show(p.kids.drop 2)=(bp p).kids from u4];exact nE _ K9)
     refine bf.call rfl an rfl rfl rfl call114 Bg ⟨ot,trivial⟩ (eK _) ic ?_;rintro _ C0 ⟨C1,C2,rfl,BM⟩;refine AD.perm (iW (A:=[_,_,_,_])) ?_;refine AD.one (i:=9) ay ?_;refine dL 0 [_,_,_,_,_] sizeOf90 ?_;refine ey ?_;refine aD 1 ?_;refine aN 0 [_,_,_,_,_] sizeOf91 ?_;refine aj 98 [0,1,6,7,8] ?_;refine dK 2 ?_;refine bQ (dY (l:=0) (h:=2) rfl ot trivial ⟨_,bH⟩ zy) ?_;have Bh:VC Tryz.prog G 114 [.list 1 ((p.kids.take 2).flatMap cI) (p.kids.take 2).length] [] (fun r S=>∃ad cap,r = .v (.slice ad (bn p L.length).kids.length cap)∧lu (bn p L.length).kids ad cap S):=(by rw[show(p.kids.take 2)=(bn p L.length).kids from u3];exact nE _ K7)
     refine OD.call an rfl rfl rfl call114 Bh ⟨ot,trivial⟩ (eK _) ?_;rintro _ C3 ⟨C4,C5,rfl,BN⟩;refine OD.perm (iW (A:=[_,_,_,_])) ?_;refine aD 1 ?_;refine aN 1 [_,_,_,_,_] sizeOf91 ?_;refine aj 98 [0,1,6,7,8] ?_;refine⟨_,(aM (h:=by repeat (first|exact trivial|refine⟨zm,?_⟩))),b7,CY,CZ,CX,C1,C2,C0,C4,C5,C3,BL,BM,BN,rfl⟩
    refine at_ rfl (dw 1) ?_;refine cq 6 rfl (dY (l:=2) rfl ot ⟨_,bH⟩ trivial zx) ?_;refine AD.one (i:=3) ay ?_;have Bf:VC Tryz.prog G 145 [.list 1 ((p.keys.drop 2).flatMap cK) (p.keys.drop 2).length] [] (fun r S=>∃ad cap,r = .v (.slice ad (bp p).keys.length cap)∧oq (bp p).keys ad cap S):=(by rw[show(p.keys.drop 2)=(bp p).keys from u5];exact vE _ Lb)
    refine bf.call rfl an rfl rfl rfl call145 Bf ⟨ot,trivial⟩ (eK _) ic ?_;rintro _ CX ⟨CY,CZ,rfl,BL⟩;refine AD.perm (iW (A:=[_,_,_,_])) ?_;refine cq 8 rfl (cY 1) ?_;refine AD.one (i:=7) ay ?_;have Bg:VC Tryz.prog G 114 [.list 1 ((p.kids.drop 2).flatMap cI) (p.kids.drop 2).length] [] (fun r S=>∃ad cap,r = .v (.slice ad (bp p).kids.length cap)∧lu (bp p).kids ad cap S):=(by rw[show(p.kids.drop 2)=(bp p).kids from u4];exact nE _ K9)
    refine bf.call rfl an rfl rfl rfl call114 Bg ⟨ot,trivial⟩ (eK _) ic ?_;rintro _ C0 ⟨C1,C2,rfl,BM⟩;refine AD.perm (iW (A:=[_,_,_,_])) ?_;refine AD.one (i:=9) ay ?_;refine dL 0 [_,_,_,_,_] sizeOf90 ?_;refine ey ?_;refine aD 1 ?_;refine aN 0 [_,_,_,_,_] sizeOf91 ?_;refine aj 98 [0,1,6,7,8] ?_;refine dK 2 ?_;refine bQ (dY (l:=0) (h:=2) rfl ot trivial ⟨_,bH⟩ zy) ?_;have Bh:VC Tryz.prog G 114 [.list 1 ((p.kids.take 2).flatMap cI) (p.kids.take 2).length] [] (fun r S=>∃ad cap,r = .v (.slice ad (bn p L.length).kids.length cap)∧lu (bn p L.length).kids ad cap S):=(by rw[show(p.kids.take 2)=(bn p L.length).kids from u3];exact nE _ K7)
    refine OD.call an rfl rfl rfl call114 Bh ⟨ot,trivial⟩ (eK _) ?_;rintro _ C3 ⟨C4,C5,rfl,BN⟩;refine OD.perm (iW (A:=[_,_,_,_])) ?_;refine aD 1 ?_;refine aN 1 [_,_,_,_,_] sizeOf91 ?_;refine aj 98 [0,1,6,7,8] ?_;refine⟨_,(aM (h:=by repeat (first|exact trivial|refine⟨zm,?_⟩))),b7,CY,CZ,CX,C1,C2,C0,C4,C5,C3,BL,BM,BN,rfl⟩
   refine at_ rfl (dw 1) ?_;refine cq 6 rfl (dY (l:=2) rfl ot ⟨_,bH⟩ trivial zx) ?_;refine AD.one (i:=1) ay ?_;refine at_ rfl (dw 1) ?_;refine cq 2 rfl (dY (l:=2) rfl ot ⟨_,bH⟩ trivial FQ) ?_;refine AD.one (i:=3) ay ?_;have Bf:VC Tryz.prog G 145 [.list 1 ((p.keys.drop 2).flatMap cK) (p.keys.drop 2).length] [] (fun r S=>∃ad cap,r = .v (.slice ad (bp p).keys.length cap)∧oq (bp p).keys ad cap S):=(by rw[show(p.keys.drop 2)=(bp p).keys from u5];exact vE _ Lb)
   refine bf.call rfl an rfl rfl rfl call145 Bf ⟨ot,trivial⟩ (eK _) ic ?_;rintro _ CX ⟨CY,CZ,rfl,BL⟩;refine AD.perm (iW (A:=[_,_,_,_])) ?_;refine cq 8 rfl (cY 1) ?_;refine AD.one (i:=7) ay ?_;have Bg:VC Tryz.prog G 114 [.list 1 ((p.kids.drop 2).flatMap cI) (p.kids.drop 2).length] [] (fun r S=>∃ad cap,r = .v (.slice ad (bp p).kids.length cap)∧lu (bp p).kids ad cap S):=(by rw[show(p.kids.drop 2)=(bp p).kids from u4];exact nE _ K9)
   refine bf.call rfl an rfl rfl rfl call114 Bg ⟨ot,trivial⟩ (eK _) ic ?_;rintro _ C0 ⟨C1,C2,rfl,BM⟩;refine AD.perm (iW (A:=[_,_,_,_])) ?_;refine AD.one (i:=9) ay ?_;refine dL 0 [_,_,_,_,_] sizeOf90 ?_;refine ey ?_;refine aD 1 ?_;refine aN 0 [_,_,_,_,_] sizeOf91 ?_;refine aj 98 [0,1,6,7,8] ?_;refine dK 2 ?_;refine bQ (dY (l:=0) (h:=2) rfl ot trivial ⟨_,bH⟩ zy) ?_;have Bh:VC Tryz.prog G 114 [.list 1 ((p.kids.take 2).flatMap cI) (p.kids.take 2).length] [] (fun r S=>∃ad cap,r = .v (.slice ad (bn p L.length).kids.length cap)∧lu (bn p L.length).kids ad cap S):=(by rw[show(p.kids.take 2)=(bn p L.length).kids from u3];exact nE _ K7)
   refine OD.call an rfl rfl rfl call114 Bh ⟨ot,trivial⟩ (eK _) ?_;rintro _ C3 ⟨C4,C5,rfl,BN⟩;refine OD.perm (iW (A:=[_,_,_,_])) ?_;refine aD 1 ?_;refine aN 1 [_,_,_,_,_] sizeOf91 ?_;refine aj 98 [0,1,6,7,8] ?_;refine⟨_,(aM (h:=by repeat (first|exact trivial|refine⟨zm,?_⟩))),b7,CY,CZ,CX,C1,C2,C0,C4,C5,C3,BL,BM,BN,rfl⟩
  have fB:p.leaf=false:=az;have xJ:=xJ fB;refine CD.seq ?_;refine fF 10 (ap (take 2 (drop 1 _))) ?_ (fun _ h=>(Sublist.map _ ((take_sublist _ _).trans (drop_sublist _ _))).subset h);refine ax 0 rfl (cY 1) ?_;refine ax 4 rfl (cY 2) ?_;refine dh.later rfl ?_;refine AD.two (i:=1) (j:=5) ay ?_ ?_
  ·refine at_ rfl (dw 1) ?_;refine cq 2 rfl (dY (l:=3) rfl ot ⟨_,bH⟩ trivial FQ) ?_;refine AD.two (i:=3) (j:=5) ay ?_ ?_
   ·have Bi:VC Tryz.prog G 145 [.list 1 ((p.keys.drop 3).flatMap cK) (p.keys.drop 3).length] [] (fun r S=>∃ad cap,r = .v (.slice ad (bp p).keys.length cap)∧oq (bp p).keys ad cap S):=(by rw[show(p.keys.drop 3)=(bp p).keys from u5];exact vE _ La)
    refine bf.call rfl an rfl rfl rfl call145 Bi ⟨ot,trivial⟩ (eK _) ic ?_;rintro _ C6 ⟨C7,C8,rfl,BO⟩;refine AD.perm (iW (A:=[_,_,_,_])) ?_;refine cq 8 rfl (cY 1) ?_;refine AD.one (i:=5) ay ?_;refine at_ rfl (dw 1) ?_;refine cq 6 rfl (dY (l:=3) rfl ot ⟨_,bH⟩ trivial zx) ?_;refine AD.one (i:=7) ay ?_;have Bj:VC Tryz.prog G 114 [.list 1 ((p.kids.drop 3).flatMap cI) (p.kids.drop 3).length] [] (fun r S=>∃ad cap,r = .v (.slice ad (bp p).kids.length cap)∧lu (bp p).kids ad cap S):=(by rw[show(p.kids.drop 3)=(bp p).kids from u4];exact nE _ K8)
    refine bf.call rfl an rfl rfl rfl call114 Bj ⟨ot,trivial⟩ (eK _) ic ?_;rintro _ C9 ⟨a51,Da,rfl,BQ⟩;refine AD.perm (iW (A:=[_,_,_,_])) ?_;refine AD.one (i:=9) ay ?_;refine dL 0 [_,_,_,_,_] sizeOf90 ?_;refine ey ?_;refine aD 1 ?_;refine aN 0 [_,_,_,_,_] sizeOf91 ?_;refine aj 98 [0,1,6,7,8] ?_;refine dK 2 ?_;refine bQ (dY (l:=0) (h:=3) rfl ot trivial ⟨_,bH⟩ zy) ?_;have Bk:VC Tryz.prog G 114 [.list 1 ((p.kids.take 3).flatMap cI) (p.kids.take 3).length] [] (fun r S=>∃ad cap,r = .v (.slice ad (bn p L.length).kids.length cap)∧lu (bn p L.length).kids ad cap S):=(by rw[show(p.kids.take 3)=(bn p L.length).kids from u3];exact nE _ K6)
    refine OD.call an rfl rfl rfl call114 Bk ⟨ot,trivial⟩ (eK _) ?_;rintro _ vp ⟨Db,Dc,rfl,uW⟩;refine OD.perm (iW (A:=[_,_,_,_])) ?_;refine aD 1 ?_;refine aN 1 [_,_,_,_,_] sizeOf91 ?_;refine aj 98 [0,1,6,7,8] ?_;refine⟨_,(aM (h:=by repeat (first|exact trivial|refine⟨zm,?_⟩))),b7,C7,C8,C6,a51,Da,C9,Db,Dc,vp,BO,BQ,uW,rfl⟩
   refine at_ rfl (dw 1) ?_;refine cq 6 rfl (dY (l:=3) rfl ot ⟨_,bH⟩ trivial zx) ?_;refine AD.one (i:=3) ay ?_;have Bi:VC Tryz.prog G 145 [.list 1 ((p.keys.drop 3).flatMap cK) (p.keys.drop 3).length] [] (fun r S=>∃ad cap,r = .v (.slice ad (bp p).keys.length cap)∧oq (bp p).keys ad cap S):=(by rw[show(p.keys.drop 3)=(bp p).keys from u5];exact vE _ La)
   refine bf.call rfl an rfl rfl rfl call145 Bi ⟨ot,trivial⟩ (eK _) ic ?_;rintro _ C6 ⟨C7,C8,rfl,BO⟩;refine AD.perm (iW (A:=[_,_,_,_])) ?_;refine cq 8 rfl (cY 1) ?_;refine AD.one (i:=7) ay ?_;have Bj:VC Tryz.prog G 114 [.list 1 ((p.kids.drop 3).flatMap cI) (p.kids.drop 3).length] [] (fun r S=>∃ad cap,r = .v (.slice ad (bp p).kids.length cap)∧lu (bp p).kids ad cap S):=(by rw[show(p.kids.drop 3)=(bp p).kids from u4];exact nE _ K8)
   refine bf.call rfl an rfl rfl rfl call114 Bj ⟨ot,trivial⟩ (eK _) ic ?_;rintro _ C9 ⟨a51,Da,rfl,BQ⟩;refine AD.perm (iW (A:=[_,_,_,_])) ?_;refine AD.one (i:=9) ay ?_;refine dL 0 [_,_,_,_,_] sizeOf90 ?_;refine ey ?_;refine aD 1 ?_;refine aN 0 [_,_,_,_,_] sizeOf91 ?_;refine aj 98 [0,1,6,7,8] ?_;refine dK 2 ?_;refine bQ (dY (l:=0) (h:=3) rfl ot trivial ⟨_,bH⟩ zy) ?_;have Bk:VC Tryz.prog G 114 [.list 1 ((p.kids.take 3).flatMap cI) (p.kids.take 3).length] [] (fun r S=>∃ad cap,r = .v (.slice ad (bn p L.length).kids.length cap)∧lu (bn p L.length).kids ad cap S):=(by rw[show(p.kids.take 3)=(bn p L.length).kids from u3];exact nE _ K6)
   refine OD.call an rfl rfl rfl call114 Bk ⟨ot,trivial⟩ (eK _) ?_;rintro _ vp ⟨Db,Dc,rfl,uW⟩;refine OD.perm (iW (A:=[_,_,_,_])) ?_;refine aD 1 ?_;refine aN 1 [_,_,_,_,_] sizeOf91 ?_;refine aj 98 [0,1,6,7,8] ?_;refine⟨_,(aM (h:=by repeat (first|exact trivial|refine⟨zm,?_⟩))),b7,C7,C8,C6,a51,Da,C9,Db,Dc,vp,BO,BQ,uW,rfl⟩
  refine at_ rfl (dw 1) ?_;refine cq 6 rfl (dY (l:=3) rfl ot ⟨_,bH⟩ trivial zx) ?_;refine AD.one (i:=1) ay ?_;refine at_ rfl (dw 1) ?_;refine cq 2 rfl (dY (l:=3) rfl ot ⟨_,bH⟩ trivial FQ) ?_;refine AD.one (i:=3) ay ?_;have Bi:VC Tryz.prog G 145 [.list 1 ((p.keys.drop 3).flatMap cK) (p.keys.drop 3).length] [] (fun r S=>∃ad cap,r = .v (.slice ad (bp p).keys.length cap)∧oq (bp p).keys ad cap S):=(by rw[show(p.keys.drop 3)=(bp p).keys from u5];exact vE _ La)
  refine bf.call rfl an rfl rfl rfl call145 Bi ⟨ot,trivial⟩ (eK _) ic ?_;rintro _ C6 ⟨C7,C8,rfl,BO⟩;refine AD.perm (iW (A:=[_,_,_,_])) ?_;refine cq 8 rfl (cY 1) ?_;refine AD.one (i:=7) ay ?_;have Bj:VC Tryz.prog G 114 [.list 1 ((p.kids.drop 3).flatMap cI) (p.kids.drop 3).length] [] (fun r S=>∃ad cap,r = .v (.slice ad (bp p).kids.length cap)∧lu (bp p).kids ad cap S):=(by rw[show(p.kids.drop 3)=(bp p).kids from u4];exact nE _ K8)
  refine bf.call rfl an rfl rfl rfl call114 Bj ⟨ot,trivial⟩ (eK _) ic ?_;rintro _ C9 ⟨a51,Da,rfl,BQ⟩;refine AD.perm (iW (A:=[_,_,_,_])) ?_;refine AD.one (i:=9) ay ?_;refine dL 0 [_,_,_,_,_] sizeOf90 ?_;refine ey ?_;refine aD 1 ?_;refine aN 0 [_,_,_,_,_] sizeOf91 ?_;refine aj 98 [0,1,6,7,8] ?_;refine dK 2 ?_;refine bQ (dY (l:=0) (h:=3) rfl ot trivial ⟨_,bH⟩ zy) ?_;have Bk:VC Tryz.prog G 114 [.list 1 ((p.kids.take 3).flatMap cI) (p.kids.take 3).length] [] (fun r S=>∃ad cap,r = .v (.slice ad (bn p L.length).kids.length cap)∧lu (bn p L.length).kids ad cap S):=(by rw[show(p.kids.take 3)=(bn p L.length).kids from u3];exact nE _ K6)
  refine OD.call an rfl rfl rfl call114 Bk ⟨ot,trivial⟩ (eK _) ?_;rintro _ vp ⟨Db,Dc,rfl,uW⟩;refine OD.perm (iW (A:=[_,_,_,_])) ?_;refine aD 1 ?_;refine aN 1 [_,_,_,_,_] sizeOf91 ?_;refine aj 98 [0,1,6,7,8] ?_;refine⟨_,(aM (h:=by repeat (first|exact trivial|refine⟨zm,?_⟩))),b7,C7,C8,C6,a51,Da,C9,Db,Dc,vp,BO,BQ,uW,rfl⟩
 rintro _ ⟨b7,da,dc,cA,de,dg,cD,bJ,bK,bz,pn,zf,zg,rfl⟩;refine aC 2 ?_;refine bQ (dY (l:=0) (h:=2) rfl ot trivial ⟨_,bH⟩ (by first|exact nH fX (fun h=>by cases h) runUnderlying90 sizeOf49 w4|exact nH eu (fun h=>by cases h) runUnderlying90 sizeOf49 w4|exact oh (fun h=>by cases h) runUnderlying90 sizeOf49 w4|exact nG (fun _=>rfl) (fun h=>by cases h) runUnderlying90 sizeOf49 w4 w4)) ?_;have afY:VC Tryz.prog G 145 [.list 1 ((p.keys.take 2).flatMap cK) (p.keys.take 2).length] [] (fun r S=>∃ad cap,r = .v (.slice ad (bn p L.length).keys.length cap)∧oq (bn p L.length).keys ad cap S):=(by rw[show(p.keys.take 2)=(bn p L.length).keys from rfl];exact vE _ (by rw[←show(p.keys.take 2)=(bn p L.length).keys from rfl];simp only[length_take,length_drop];omega))
 refine OD.call an rfl rfl rfl call145 afY ⟨ot,trivial⟩ (eK _) ?_;rintro _ bX ⟨cm,cn,rfl,zh⟩;refine OD.perm (iW (A:=[_,_,_,_])) ?_;refine aD 1 ?_;refine aN 1 [_,_,_,_,_] sizeOf90 ?_;refine aj 98 [0,1,6,7,8] ?_;refine CD.seq ?_;refine fF 9 (ap (take 1 (drop 0 _))) ?_ (fun _ h=>(Sublist.map _ ((take_sublist _ _).trans (drop_sublist _ _))).subset h);refine ax 0 rfl bg ?_;refine ax 2 rfl bg ?_;refine ax 3 rfl lC ?_;refine ax 4 rfl (cY 0) ?_;refine dh.later rfl ?_;refine AD.two (i:=1) (j:=5) ay ?_ ?_
 ·refine ju call59 (jK (iV p) vf) ?_;refine cq 7 rfl (cY 3) ?_;refine AD.two (i:=5) (j:=8) ay ?_ ?_
  ·refine at_ rfl (dw 2) ?_;refine cq 6 rfl qj ?_;refine AD.one (i:=8) ay ?_;refine dL 1 [_,_,_,_,_] sizeOf49 ?_;refine ey ?_;refine aD 1 ?_;refine aN 1 [_,_,_,_,_] sizeOf3 ?_;refine aj 98 [0,1,6,7,8] ?_;refine CD.seq ?_;refine lX 6 [0,7,8,76,77,78] ?_;refine bG ?_;refine bQ (dx 5 (h:=by first|exact .l (j:=i.toNat) (Int.toNat_of_nonneg hi.1).symm hj|exact .r (j:=i.toNat) (Int.toNat_of_nonneg hi.1).symm hj)) ?_;refine OD.storeAt (k:=3) (cs':=flatMap gO (L.set i.toNat (⟨bn p L.length,cm,cn,bX,bJ,bK,bz⟩:aA))) an rfl rfl ot rfl rfl ot rfl rfl sizeOf93 rfl Ld KZ ?_;refine aj 98 [0,7,8] ?_;refine CD.seq ?_;refine fF 8 (ap (take 2 _)) ?_ (fun _ h=>(Sublist.map _ (take_sublist _ _)).subset h);refine ax 0 rfl bg ?_;refine ax 1 rfl bg ?_;refine ax 2 rfl lC ?_;refine ax 3 rfl (cY 0) ?_;refine ax 5 rfl (Br 0 [_,_,_,_,_]) ?_;refine dh.later rfl ?_;refine AD.two (i:=4) (j:=6) ay ?_ ?_
   ·refine at_ rfl (cH (mk:=Op.load 44) rfl ot (rE (k:=2) (d:=.v (.slice (some ⟨bx,0,none⟩) (L.set i.toNat (⟨bn p L.length,cm,cn,bX,bJ,bK,bz⟩:aA)).length cap)) rfl rfl isAgg44 zA)) ?_;refine AD.one (i:=6) ay ?_;refine jf (cc 0 [_]) [.bool false,.slice none 0 0,.slice none 0 0,.slice none 0 0,.int .i64 0] [_,_,_,_,_] zeroValue93 runUnderlying44 sizeOf93 (fun De=>?_);refine jg 0 86 5 1 ?_;refine AD.one (i:=7) ay ?_;refine bf.ee (ls:=(L.set i.toNat (⟨bn p L.length,cm,cn,bX,bJ,bK,bz⟩:aA))) (new:=[(⟨bp p,da,dc,cA,de,dg,cD⟩:aA)]) (Sq:=[⟨bx,93,cap*5,flatMap gO (L.set i.toNat (⟨bn p L.length,cm,cn,bX,bJ,bK,bz⟩:aA))⟩]) fW uz rfl an rfl rfl underlying44 xS rfl w7 ot (bI qP qT) (jX (k:=3) rfl) ot bu zu zv (hT:=by intro x0 O;have O:x0∈[b7,b6]:=O;show x0∈(b7::b6::_:List Nat);simp only[mem_cons,not_mem_nil,or_false] at O ⊢;omega) (fun I E U Z=>?_);refine ey ?_;refine aD 2 ?_;refine aN 3 [_,_] sizeOf44 ?_;refine aj 98 [0,8] ?_;refine CD.seq ?_;refine fF 9 (ap _) ?_ (fun _ h=>h);refine ax 0 rfl bg ?_;refine ax 2 rfl bg ?_;refine ax 3 rfl lC ?_;refine ax 4 rfl (cY 0) ?_;refine ax 5 rfl (dw 3) ?_;refine ax 6 rfl qj ?_;refine ax 7 rfl (cX (r:=.int .i64 (L.length:Nat)) rfl ot bH (fV zw)) ?_;refine dh.later rfl ?_;refine AD.one (i:=1) ay ?_;refine ju call59 (jK (iV p) vf) ?_
    have ox:(bX++(bz++(cD++(cA++((L.eraseIdx i.toNat).flatMap bO))))).Perm (((L.set i.toNat (⟨bn p L.length,cm,cn,bX,bJ,bK,bz⟩:aA))++[(⟨bp p,da,dc,cA,de,dg,cD⟩:aA)]).flatMap bO):=iu fun iS=>by have hq:=xY (qp bO hj (⟨bn p L.length,cm,cn,bX,bJ,bK,bz⟩:aA)) iS;rw[flatMap_append,show[(⟨bp p,da,dc,cA,de,dg,cD⟩:aA)].flatMap bO=cA++(cD++[]) from by simp[bO]];simp only[show bO (⟨bn p L.length,cm,cn,bX,bJ,bK,bz⟩:aA)=bX++bz from rfl,map_append,map_cons,map_nil,sum_append,sum_cons,sum_nil] at *;omega
    refine AD.perm (S':=⟨b7,93,5,gO (⟨bp p,da,dc,cA,de,dg,cD⟩:aA)⟩::⟨b6,93,5,gO (⟨bn p L.length,cm,cn,bX,bJ,bK,bz⟩:aA)⟩::⟨b,46,2,[.v (.slice (some ⟨I,0,none⟩) ((L.set i.toNat (⟨bn p L.length,cm,cn,bX,bJ,bK,bz⟩:aA))++[(⟨bp p,da,dc,cA,de,dg,cD⟩:aA)]).length E),.v (.int .i64 root)]⟩::(([⟨I,93,E*5,flatMap gO ((L.set i.toNat (⟨bn p L.length,cm,cn,bX,bJ,bK,bz⟩:aA))++[(⟨bp p,da,dc,cA,de,dg,cD⟩:aA)])⟩]:List ag)++((L.set i.toNat (⟨bn p L.length,cm,cn,bX,bJ,bK,bz⟩:aA))++[(⟨bp p,da,dc,cA,de,dg,cD⟩:aA)]).flatMap bO)) zn ?_;refine cq 8 rfl bg ?_;refine ey ?_;refine aY [4,5] ?_;refine aJ (⟨b,46,2,[.v (.slice (some ⟨I,0,none⟩) ((L.set i.toNat (⟨bn p L.length,cm,cn,bX,bJ,bK,bz⟩:aA))++[(⟨bp p,da,dc,cA,de,dg,cD⟩:aA)]).length E),.v (.int .i64 root)]⟩::([⟨I,93,E*5,flatMap gO ((L.set i.toNat (⟨bn p L.length,cm,cn,bX,bJ,bK,bz⟩:aA))++[(⟨bp p,da,dc,cA,de,dg,cD⟩:aA)])⟩]++((L.set i.toNat (⟨bn p L.length,cm,cn,bX,bJ,bK,bz⟩:aA))++[(⟨bp p,da,dc,cA,de,dg,cD⟩:aA)]).flatMap bO)) ?_;refine⟨rfl,((L.set i.toNat (⟨bn p L.length,cm,cn,bX,bJ,bK,bz⟩:aA))++[(⟨bp p,da,dc,cA,de,dg,cD⟩:aA)]),some ⟨I,0,none⟩,E,[⟨I,93,E*5,flatMap gO ((L.set i.toNat (⟨bn p L.length,cm,cn,bX,bJ,bK,bz⟩:aA))++[(⟨bp p,da,dc,cA,de,dg,cD⟩:aA)])⟩],bI U Z,fun x hx=>?_,?_,rfl⟩
    ·rcases mem_append.1 hx with hx|hx
     ·rcases mem_or_eq_of_mem_set hx with hx|rfl
      ·exact aQ x hx
      exact⟨zh,zg⟩
     rw[mem_singleton] at hx;subst hx;exact⟨pn,zf⟩
    rw[map_append,map_set];rfl
   refine jf (cc 0 [_]) [.bool false,.slice none 0 0,.slice none 0 0,.slice none 0 0,.int .i64 0] [_,_,_,_,_] zeroValue93 runUnderlying44 sizeOf93 (fun De=>?_);refine jg 0 86 5 1 ?_;refine AD.one (i:=4) ay ?_;refine at_ rfl (cH (mk:=Op.load 44) rfl ot (rE (k:=2) (d:=.v (.slice (some ⟨bx,0,none⟩) (L.set i.toNat (⟨bn p L.length,cm,cn,bX,bJ,bK,bz⟩:aA)).length cap)) rfl rfl isAgg44 zA)) ?_;refine AD.one (i:=7) ay ?_;refine bf.ee (ls:=(L.set i.toNat (⟨bn p L.length,cm,cn,bX,bJ,bK,bz⟩:aA))) (new:=[(⟨bp p,da,dc,cA,de,dg,cD⟩:aA)]) (Sq:=[⟨bx,93,cap*5,flatMap gO (L.set i.toNat (⟨bn p L.length,cm,cn,bX,bJ,bK,bz⟩:aA))⟩]) fW uz rfl an rfl rfl underlying44 xS rfl w7 ot (bI qP qT) (jX (k:=3) rfl) ot bu zu zv (hT:=by intro x0 O;have O:x0∈[b7,b6]:=O;show x0∈(b7::b6::_:List Nat);simp only[mem_cons,not_mem_nil,or_false] at O ⊢;omega) (fun I E U Z=>?_);refine ey ?_;refine aD 2 ?_;refine aN 3 [_,_] sizeOf44 ?_;refine aj 98 [0,8] ?_;refine CD.seq ?_;refine fF 9 (ap _) ?_ (fun _ h=>h);refine ax 0 rfl bg ?_;refine ax 2 rfl bg ?_;refine ax 3 rfl lC ?_;refine ax 4 rfl (cY 0) ?_;refine ax 5 rfl (dw 3) ?_;refine ax 6 rfl qj ?_;refine ax 7 rfl (cX (r:=.int .i64 (L.length:Nat)) rfl ot bH (fV zw)) ?_;refine dh.later rfl ?_;refine AD.one (i:=1) ay ?_;refine ju call59 (jK (iV p) vf) ?_
   have ox:(bX++(bz++(cD++(cA++((L.eraseIdx i.toNat).flatMap bO))))).Perm (((L.set i.toNat (⟨bn p L.length,cm,cn,bX,bJ,bK,bz⟩:aA))++[(⟨bp p,da,dc,cA,de,dg,cD⟩:aA)]).flatMap bO):=iu fun iS=>by have hq:=xY (qp bO hj (⟨bn p L.length,cm,cn,bX,bJ,bK,bz⟩:aA)) iS;rw[flatMap_append,show[(⟨bp p,da,dc,cA,de,dg,cD⟩:aA)].flatMap bO=cA++(cD++[]) from by simp[bO]];simp only[show bO (⟨bn p L.length,cm,cn,bX,bJ,bK,bz⟩:aA)=bX++bz from rfl,map_append,map_cons,map_nil,sum_append,sum_cons,sum_nil] at *;omega
   refine AD.perm (S':=⟨b7,93,5,gO (⟨bp p,da,dc,cA,de,dg,cD⟩:aA)⟩::⟨b6,93,5,gO (⟨bn p L.length,cm,cn,bX,bJ,bK,bz⟩:aA)⟩::⟨b,46,2,[.v (.slice (some ⟨I,0,none⟩) ((L.set i.toNat (⟨bn p L.length,cm,cn,bX,bJ,bK,bz⟩:aA))++[(⟨bp p,da,dc,cA,de,dg,cD⟩:aA)]).length E),.v (.int .i64 root)]⟩::(([⟨I,93,E*5,flatMap gO ((L.set i.toNat (⟨bn p L.length,cm,cn,bX,bJ,bK,bz⟩:aA))++[(⟨bp p,da,dc,cA,de,dg,cD⟩:aA)])⟩]:List ag)++((L.set i.toNat (⟨bn p L.length,cm,cn,bX,bJ,bK,bz⟩:aA))++[(⟨bp p,da,dc,cA,de,dg,cD⟩:aA)]).flatMap bO)) zn ?_;refine cq 8 rfl bg ?_;refine ey ?_;refine aY [4,5] ?_;refine aJ (⟨b,46,2,[.v (.slice (some ⟨I,0,none⟩) ((L.set i.toNat (⟨bn p L.length,cm,cn,bX,bJ,bK,bz⟩:aA))++[(⟨bp p,da,dc,cA,de,dg,cD⟩:aA)]).length E),.v (.int .i64 root)]⟩::([⟨I,93,E*5,flatMap gO ((L.set i.toNat (⟨bn p L.length,cm,cn,bX,bJ,bK,bz⟩:aA))++[(⟨bp p,da,dc,cA,de,dg,cD⟩:aA)])⟩]++((L.set i.toNat (⟨bn p L.length,cm,cn,bX,bJ,bK,bz⟩:aA))++[(⟨bp p,da,dc,cA,de,dg,cD⟩:aA)]).flatMap bO)) ?_;refine⟨rfl,((L.set i.toNat (⟨bn p L.length,cm,cn,bX,bJ,bK,bz⟩:aA))++[(⟨bp p,da,dc,cA,de,dg,cD⟩:aA)]),some ⟨I,0,none⟩,E,[⟨I,93,E*5,flatMap gO ((L.set i.toNat (⟨bn p L.length,cm,cn,bX,bJ,bK,bz⟩:aA))++[(⟨bp p,da,dc,cA,de,dg,cD⟩:aA)])⟩],bI U Z,fun x hx=>?_,?_,rfl⟩
   ·rcases mem_append.1 hx with hx|hx
    ·rcases mem_or_eq_of_mem_set hx with hx|rfl
     ·exact aQ x hx
     exact⟨zh,zg⟩
    rw[mem_singleton] at hx;subst hx;exact⟨pn,zf⟩
   rw[map_append,map_set];rfl
  refine dL 1 [_,_,_,_,_] sizeOf49 ?_;refine AD.one (i:=5) ay ?_;refine at_ rfl (dw 2) ?_;refine cq 6 rfl qj ?_;refine ey ?_;refine aD 1 ?_;refine aN 1 [_,_,_,_,_] sizeOf3 ?_;refine aj 98 [0,1,6,7,8] ?_;refine CD.seq ?_;refine lX 6 [0,7,8,76,77,78] ?_;refine bG ?_;refine bQ (dx 5 (h:=by first|exact .l (j:=i.toNat) (Int.toNat_of_nonneg hi.1).symm hj|exact .r (j:=i.toNat) (Int.toNat_of_nonneg hi.1).symm hj)) ?_;refine OD.storeAt (k:=3) (cs':=flatMap gO (L.set i.toNat (⟨bn p L.length,cm,cn,bX,bJ,bK,bz⟩:aA))) an rfl rfl ot rfl rfl ot rfl rfl sizeOf93 rfl Ld KZ ?_;refine aj 98 [0,7,8] ?_;refine CD.seq ?_;refine fF 8 (ap (take 2 _)) ?_ (fun _ h=>(Sublist.map _ (take_sublist _ _)).subset h);refine ax 0 rfl bg ?_;refine ax 1 rfl bg ?_;refine ax 2 rfl lC ?_;refine ax 3 rfl (cY 0) ?_;refine ax 5 rfl (Br 0 [_,_,_,_,_]) ?_;refine dh.later rfl ?_;refine AD.two (i:=4) (j:=6) ay ?_ ?_
  ·refine at_ rfl (cH (mk:=Op.load 44) rfl ot (rE (k:=2) (d:=.v (.slice (some ⟨bx,0,none⟩) (L.set i.toNat (⟨bn p L.length,cm,cn,bX,bJ,bK,bz⟩:aA)).length cap)) rfl rfl isAgg44 zA)) ?_;refine AD.one (i:=6) ay ?_;refine jf (cc 0 [_]) [.bool false,.slice none 0 0,.slice none 0 0,.slice none 0 0,.int .i64 0] [_,_,_,_,_] zeroValue93 runUnderlying44 sizeOf93 (fun De=>?_);refine jg 0 86 5 1 ?_;refine AD.one (i:=7) ay ?_;refine bf.ee (ls:=(L.set i.toNat (⟨bn p L.length,cm,cn,bX,bJ,bK,bz⟩:aA))) (new:=[(⟨bp p,da,dc,cA,de,dg,cD⟩:aA)]) (Sq:=[⟨bx,93,cap*5,flatMap gO (L.set i.toNat (⟨bn p L.length,cm,cn,bX,bJ,bK,bz⟩:aA))⟩]) fW uz rfl an rfl rfl underlying44 xS rfl w7 ot (bI qP qT) (jX (k:=3) rfl) ot bu zu zv (hT:=by intro x0 O;have O:x0∈[b7,b6]:=O;show x0∈(b7::b6::_:List Nat);simp only[mem_cons,not_mem_nil,or_false] at O ⊢;omega) (fun I E U Z=>?_);refine ey ?_;refine aD 2 ?_;refine aN 3 [_,_] sizeOf44 ?_;refine aj 98 [0,8] ?_;refine CD.seq ?_;refine fF 9 (ap _) ?_ (fun _ h=>h);refine ax 0 rfl bg ?_;refine ax 2 rfl bg ?_;refine ax 3 rfl lC ?_;refine ax 4 rfl (cY 0) ?_;refine ax 5 rfl (dw 3) ?_;refine ax 6 rfl qj ?_;refine ax 7 rfl (cX (r:=.int .i64 (L.length:Nat)) rfl ot bH (fV zw)) ?_;refine dh.later rfl ?_;refine AD.one (i:=1) ay ?_;refine ju call59 (jK (iV p) vf) ?_
   have ox:(bX++(bz++(cD++(cA++((L.eraseIdx i.toNat).flatMap bO))))).Perm (((L.set i.toNat (⟨bn p L.length,cm,cn,bX,bJ,bK,bz⟩:aA))++[(⟨bp p,da,dc,cA,de,dg,cD⟩:aA)]).flatMap bO):=iu fun iS=>by have hq:=xY (qp bO hj (⟨bn p L.length,cm,cn,bX,bJ,bK,bz⟩:aA)) iS;rw[flatMap_append,show[(⟨bp p,da,dc,cA,de,dg,cD⟩:aA)].flatMap bO=cA++(cD++[]) from by simp[bO]];simp only[show bO (⟨bn p L.length,cm,cn,bX,bJ,bK,bz⟩:aA)=bX++bz from rfl,map_append,map_cons,map_nil,sum_append,sum_cons,sum_nil] at *;omega
   refine AD.perm (S':=⟨b7,93,5,gO (⟨bp p,da,dc,cA,de,dg,cD⟩:aA)⟩::⟨b6,93,5,gO (⟨bn p L.length,cm,cn,bX,bJ,bK,bz⟩:aA)⟩::⟨b,46,2,[.v (.slice (some ⟨I,0,none⟩) ((L.set i.toNat (⟨bn p L.length,cm,cn,bX,bJ,bK,bz⟩:aA))++[(⟨bp p,da,dc,cA,de,dg,cD⟩:aA)]).length E),.v (.int .i64 root)]⟩::(([⟨I,93,E*5,flatMap gO ((L.set i.toNat (⟨bn p L.length,cm,cn,bX,bJ,bK,bz⟩:aA))++[(⟨bp p,da,dc,cA,de,dg,cD⟩:aA)])⟩]:List ag)++((L.set i.toNat (⟨bn p L.length,cm,cn,bX,bJ,bK,bz⟩:aA))++[(⟨bp p,da,dc,cA,de,dg,cD⟩:aA)]).flatMap bO)) zn ?_;refine cq 8 rfl bg ?_;refine ey ?_;refine aY [4,5] ?_;refine aJ (⟨b,46,2,[.v (.slice (some ⟨I,0,none⟩) ((L.set i.toNat (⟨bn p L.length,cm,cn,bX,bJ,bK,bz⟩:aA))++[(⟨bp p,da,dc,cA,de,dg,cD⟩:aA)]).length E),.v (.int .i64 root)]⟩::([⟨I,93,E*5,flatMap gO ((L.set i.toNat (⟨bn p L.length,cm,cn,bX,bJ,bK,bz⟩:aA))++[(⟨bp p,da,dc,cA,de,dg,cD⟩:aA)])⟩]++((L.set i.toNat (⟨bn p L.length,cm,cn,bX,bJ,bK,bz⟩:aA))++[(⟨bp p,da,dc,cA,de,dg,cD⟩:aA)]).flatMap bO)) ?_;refine⟨rfl,((L.set i.toNat (⟨bn p L.length,cm,cn,bX,bJ,bK,bz⟩:aA))++[(⟨bp p,da,dc,cA,de,dg,cD⟩:aA)]),some ⟨I,0,none⟩,E,[⟨I,93,E*5,flatMap gO ((L.set i.toNat (⟨bn p L.length,cm,cn,bX,bJ,bK,bz⟩:aA))++[(⟨bp p,da,dc,cA,de,dg,cD⟩:aA)])⟩],bI U Z,fun x hx=>?_,?_,rfl⟩
   ·rcases mem_append.1 hx with hx|hx
    ·rcases mem_or_eq_of_mem_set hx with hx|rfl
     ·exact aQ x hx
     exact⟨zh,zg⟩
    rw[mem_singleton] at hx;subst hx;exact⟨pn,zf⟩
   rw[map_append,map_set];rfl
  refine jf (cc 0 [_]) [.bool false,.slice none 0 0,.slice none 0 0,.slice none 0 0,.int .i64 0] [_,_,_,_,_] zeroValue93 runUnderlying44 sizeOf93 (fun De=>?_);refine jg 0 86 5 1 ?_;refine AD.one (i:=4) ay ?_;refine at_ rfl (cH (mk:=Op.load 44) rfl ot (rE (k:=2) (d:=.v (.slice (some ⟨bx,0,none⟩) (L.set i.toNat (⟨bn p L.length,cm,cn,bX,bJ,bK,bz⟩:aA)).length cap)) rfl rfl isAgg44 zA)) ?_;refine AD.one (i:=7) ay ?_;refine bf.ee (ls:=(L.set i.toNat (⟨bn p L.length,cm,cn,bX,bJ,bK,bz⟩:aA))) (new:=[(⟨bp p,da,dc,cA,de,dg,cD⟩:aA)]) (Sq:=[⟨bx,93,cap*5,flatMap gO (L.set i.toNat (⟨bn p L.length,cm,cn,bX,bJ,bK,bz⟩:aA))⟩]) fW uz rfl an rfl rfl underlying44 xS rfl w7 ot (bI qP qT) (jX (k:=3) rfl) ot bu zu zv (hT:=by intro x0 O;have O:x0∈[b7,b6]:=O;show x0∈(b7::b6::_:List Nat);simp only[mem_cons,not_mem_nil,or_false] at O ⊢;omega) (fun I E U Z=>?_);refine ey ?_;refine aD 2 ?_;refine aN 3 [_,_] sizeOf44 ?_;refine aj 98 [0,8] ?_;refine CD.seq ?_;refine fF 9 (ap _) ?_ (fun _ h=>h);refine ax 0 rfl bg ?_;refine ax 2 rfl bg ?_;refine ax 3 rfl lC ?_;refine ax 4 rfl (cY 0) ?_;refine ax 5 rfl (dw 3) ?_;refine ax 6 rfl qj ?_;refine ax 7 rfl (cX (r:=.int .i64 (L.length:Nat)) rfl ot bH (fV zw)) ?_;refine dh.later rfl ?_;refine AD.one (i:=1) ay ?_;refine ju call59 (jK (iV p) vf) ?_
  have ox:(bX++(bz++(cD++(cA++((L.eraseIdx i.toNat).flatMap bO))))).Perm (((L.set i.toNat (⟨bn p L.length,cm,cn,bX,bJ,bK,bz⟩:aA))++[(⟨bp p,da,dc,cA,de,dg,cD⟩:aA)]).flatMap bO):=iu fun iS=>by have hq:=xY (qp bO hj (⟨bn p L.length,cm,cn,bX,bJ,bK,bz⟩:aA)) iS;rw[flatMap_append,show[(⟨bp p,da,dc,cA,de,dg,cD⟩:aA)].flatMap bO=cA++(cD++[]) from by simp[bO]];simp only[show bO (⟨bn p L.length,cm,cn,bX,bJ,bK,bz⟩:aA)=bX++bz from rfl,map_append,map_cons,map_nil,sum_append,sum_cons,sum_nil] at *;omega
  refine AD.perm (S':=⟨b7,93,5,gO (⟨bp p,da,dc,cA,de,dg,cD⟩:aA)⟩::⟨b6,93,5,gO (⟨bn p L.length,cm,cn,bX,bJ,bK,bz⟩:aA)⟩::⟨b,46,2,[.v (.slice (some ⟨I,0,none⟩) ((L.set i.toNat (⟨bn p L.length,cm,cn,bX,bJ,bK,bz⟩:aA))++[(⟨bp p,da,dc,cA,de,dg,cD⟩:aA)]).length E),.v (.int .i64 root)]⟩::(([⟨I,93,E*5,flatMap gO ((L.set i.toNat (⟨bn p L.length,cm,cn,bX,bJ,bK,bz⟩:aA))++[(⟨bp p,da,dc,cA,de,dg,cD⟩:aA)])⟩]:List ag)++((L.set i.toNat (⟨bn p L.length,cm,cn,bX,bJ,bK,bz⟩:aA))++[(⟨bp p,da,dc,cA,de,dg,cD⟩:aA)]).flatMap bO)) zn ?_;refine cq 8 rfl bg ?_;refine ey ?_;refine aY [4,5] ?_;refine aJ (⟨b,46,2,[.v (.slice (some ⟨I,0,none⟩) ((L.set i.toNat (⟨bn p L.length,cm,cn,bX,bJ,bK,bz⟩:aA))++[(⟨bp p,da,dc,cA,de,dg,cD⟩:aA)]).length E),.v (.int .i64 root)]⟩::([⟨I,93,E*5,flatMap gO ((L.set i.toNat (⟨bn p L.length,cm,cn,bX,bJ,bK,bz⟩:aA))++[(⟨bp p,da,dc,cA,de,dg,cD⟩:aA)])⟩]++((L.set i.toNat (⟨bn p L.length,cm,cn,bX,bJ,bK,bz⟩:aA))++[(⟨bp p,da,dc,cA,de,dg,cD⟩:aA)]).flatMap bO)) ?_;refine⟨rfl,((L.set i.toNat (⟨bn p L.length,cm,cn,bX,bJ,bK,bz⟩:aA))++[(⟨bp p,da,dc,cA,de,dg,cD⟩:aA)]),some ⟨I,0,none⟩,E,[⟨I,93,E*5,flatMap gO ((L.set i.toNat (⟨bn p L.length,cm,cn,bX,bJ,bK,bz⟩:aA))++[(⟨bp p,da,dc,cA,de,dg,cD⟩:aA)])⟩],bI U Z,fun x hx=>?_,?_,rfl⟩
  ·rcases mem_append.1 hx with hx|hx
   ·rcases mem_or_eq_of_mem_set hx with hx|rfl
    ·exact aQ x hx
    exact⟨zh,zg⟩
   rw[mem_singleton] at hx;subst hx;exact⟨pn,zf⟩
  rw[map_append,map_set];rfl
 refine at_ rfl (dw 2) ?_;refine cq 6 rfl qj ?_;refine AD.one (i:=1) ay ?_;refine ju call59 (jK (iV p) vf) ?_;refine cq 7 rfl (cY 3) ?_;refine AD.one (i:=8) ay ?_;refine dL 1 [_,_,_,_,_] sizeOf49 ?_;refine ey ?_;refine aD 1 ?_;refine aN 1 [_,_,_,_,_] sizeOf3 ?_;refine aj 98 [0,1,6,7,8] ?_;refine CD.seq ?_;refine lX 6 [0,7,8,76,77,78] ?_;refine bG ?_;refine bQ (dx 5 (h:=by first|exact .l (j:=i.toNat) (Int.toNat_of_nonneg hi.1).symm hj|exact .r (j:=i.toNat) (Int.toNat_of_nonneg hi.1).symm hj)) ?_;refine OD.storeAt (k:=3) (cs':=flatMap gO (L.set i.toNat (⟨bn p L.length,cm,cn,bX,bJ,bK,bz⟩:aA))) an rfl rfl ot rfl rfl ot rfl rfl sizeOf93 rfl Ld KZ ?_;refine aj 98 [0,7,8] ?_;refine CD.seq ?_;refine fF 8 (ap (take 2 _)) ?_ (fun _ h=>(Sublist.map _ (take_sublist _ _)).subset h);refine ax 0 rfl bg ?_;refine ax 1 rfl bg ?_;refine ax 2 rfl lC ?_;refine ax 3 rfl (cY 0) ?_;refine ax 5 rfl (Br 0 [_,_,_,_,_]) ?_;refine dh.later rfl ?_;refine AD.two (i:=4) (j:=6) ay ?_ ?_
 ·refine at_ rfl (cH (mk:=Op.load 44) rfl ot (rE (k:=2) (d:=.v (.slice (some ⟨bx,0,none⟩) (L.set i.toNat (⟨bn p L.length,cm,cn,bX,bJ,bK,bz⟩:aA)).length cap)) rfl rfl isAgg44 zA)) ?_;refine AD.one (i:=6) ay ?_;refine jf (cc 0 [_]) [.bool false,.slice none 0 0,.slice none 0 0,.slice none 0 0,.int .i64 0] [_,_,_,_,_] zeroValue93 runUnderlying44 sizeOf93 (fun De=>?_);refine jg 0 86 5 1 ?_;refine AD.one (i:=7) ay ?_;refine bf.ee (ls:=(L.set i.toNat (⟨bn p L.length,cm,cn,bX,bJ,bK,bz⟩:aA))) (new:=[(⟨bp p,da,dc,cA,de,dg,cD⟩:aA)]) (Sq:=[⟨bx,93,cap*5,flatMap gO (L.set i.toNat (⟨bn p L.length,cm,cn,bX,bJ,bK,bz⟩:aA))⟩]) fW uz rfl an rfl rfl underlying44 xS rfl w7 ot (bI qP qT) (jX (k:=3) rfl) ot bu zu zv (hT:=by intro x0 O;have O:x0∈[b7,b6]:=O;show x0∈(b7::b6::_:List Nat);simp only[mem_cons,not_mem_nil,or_false] at O ⊢;omega) (fun I E U Z=>?_);refine ey ?_;refine aD 2 ?_;refine aN 3 [_,_] sizeOf44 ?_;refine aj 98 [0,8] ?_;refine CD.seq ?_;refine fF 9 (ap _) ?_ (fun _ h=>h);refine ax 0 rfl bg ?_;refine ax 2 rfl bg ?_;refine ax 3 rfl lC ?_;refine ax 4 rfl (cY 0) ?_;refine ax 5 rfl (dw 3) ?_;refine ax 6 rfl qj ?_;refine ax 7 rfl (cX (r:=.int .i64 (L.length:Nat)) rfl ot bH (fV zw)) ?_;refine dh.later rfl ?_;refine AD.one (i:=1) ay ?_;refine ju call59 (jK (iV p) vf) ?_
  have ox:(bX++(bz++(cD++(cA++((L.eraseIdx i.toNat).flatMap bO))))).Perm (((L.set i.toNat (⟨bn p L.length,cm,cn,bX,bJ,bK,bz⟩:aA))++[(⟨bp p,da,dc,cA,de,dg,cD⟩:aA)]).flatMap bO):=iu fun iS=>by have hq:=xY (qp bO hj (⟨bn p L.length,cm,cn,bX,bJ,bK,bz⟩:aA)) iS;rw[flatMap_append,show[(⟨bp p,da,dc,cA,de,dg,cD⟩:aA)].flatMap bO=cA++(cD++[]) from by simp[bO]];simp only[show bO (⟨bn p L.length,cm,cn,bX,bJ,bK,bz⟩:aA)=bX++bz from rfl,map_append,map_cons,map_nil,sum_append,sum_cons,sum_nil] at *;omega
  refine AD.perm (S':=⟨b7,93,5,gO (⟨bp p,da,dc,cA,de,dg,cD⟩:aA)⟩::⟨b6,93,5,gO (⟨bn p L.length,cm,cn,bX,bJ,bK,bz⟩:aA)⟩::⟨b,46,2,[.v (.slice (some ⟨I,0,none⟩) ((L.set i.toNat (⟨bn p L.length,cm,cn,bX,bJ,bK,bz⟩:aA))++[(⟨bp p,da,dc,cA,de,dg,cD⟩:aA)]).length E),.v (.int .i64 root)]⟩::(([⟨I,93,E*5,flatMap gO ((L.set i.toNat (⟨bn p L.length,cm,cn,bX,bJ,bK,bz⟩:aA))++[(⟨bp p,da,dc,cA,de,dg,cD⟩:aA)])⟩]:List ag)++((L.set i.toNat (⟨bn p L.length,cm,cn,bX,bJ,bK,bz⟩:aA))++[(⟨bp p,da,dc,cA,de,dg,cD⟩:aA)]).flatMap bO)) zn ?_;refine cq 8 rfl bg ?_;refine ey ?_;refine aY [4,5] ?_;refine aJ (⟨b,46,2,[.v (.slice (some ⟨I,0,none⟩) ((L.set i.toNat (⟨bn p L.length,cm,cn,bX,bJ,bK,bz⟩:aA))++[(⟨bp p,da,dc,cA,de,dg,cD⟩:aA)]).length E),.v (.int .i64 root)]⟩::([⟨I,93,E*5,flatMap gO ((L.set i.toNat (⟨bn p L.length,cm,cn,bX,bJ,bK,bz⟩:aA))++[(⟨bp p,da,dc,cA,de,dg,cD⟩:aA)])⟩]++((L.set i.toNat (⟨bn p L.length,cm,cn,bX,bJ,bK,bz⟩:aA))++[(⟨bp p,da,dc,cA,de,dg,cD⟩:aA)]).flatMap bO)) ?_;refine⟨rfl,((L.set i.toNat (⟨bn p L.length,cm,cn,bX,bJ,bK,bz⟩:aA))++[(⟨bp p,da,dc,cA,de,dg,cD⟩:aA)]),some ⟨I,0,none⟩,E,[⟨I,93,E*5,flatMap gO ((L.set i.toNat (⟨bn p L.length,cm,cn,bX,bJ,bK,bz⟩:aA))++[(⟨bp p,da,dc,cA,de,dg,cD⟩:aA)])⟩],bI U Z,fun x hx=>?_,?_,rfl⟩
  ·rcases mem_append.1 hx with hx|hx
   ·rcases mem_or_eq_of_mem_set hx with hx|rfl
    ·exact aQ x hx
    exact⟨zh,zg⟩
   rw[mem_singleton] at hx;subst hx;exact⟨pn,zf⟩
  rw[map_append,map_set];rfl
 refine jf (cc 0 [_]) [.bool false,.slice none 0 0,.slice none 0 0,.slice none 0 0,.int .i64 0] [_,_,_,_,_] zeroValue93 runUnderlying44 sizeOf93 (fun De=>?_);refine jg 0 86 5 1 ?_;refine AD.one (i:=4) ay ?_;refine at_ rfl (cH (mk:=Op.load 44) rfl ot (rE (k:=2) (d:=.v (.slice (some ⟨bx,0,none⟩) (L.set i.toNat (⟨bn p L.length,cm,cn,bX,bJ,bK,bz⟩:aA)).length cap)) rfl rfl isAgg44 zA)) ?_;refine AD.one (i:=7) ay ?_;refine bf.ee (ls:=(L.set i.toNat (⟨bn p L.length,cm,cn,bX,bJ,bK,bz⟩:aA))) (new:=[(⟨bp p,da,dc,cA,de,dg,cD⟩:aA)]) (Sq:=[⟨bx,93,cap*5,flatMap gO (L.set i.toNat (⟨bn p L.length,cm,cn,bX,bJ,bK,bz⟩:aA))⟩]) fW uz rfl an rfl rfl underlying44 xS rfl w7 ot (bI qP qT) (jX (k:=3) rfl) ot bu zu zv (hT:=by intro x0 O;have O:x0∈[b7,b6]:=O;show x0∈(b7::b6::_:List Nat);simp only[mem_cons,not_mem_nil,or_false] at O ⊢;omega) (fun I E U Z=>?_);refine ey ?_;refine aD 2 ?_;refine aN 3 [_,_] sizeOf44 ?_;refine aj 98 [0,8] ?_;refine CD.seq ?_;refine fF 9 (ap _) ?_ (fun _ h=>h);refine ax 0 rfl bg ?_;refine ax 2 rfl bg ?_;refine ax 3 rfl lC ?_;refine ax 4 rfl (cY 0) ?_;refine ax 5 rfl (dw 3) ?_;refine ax 6 rfl qj ?_;refine ax 7 rfl (cX (r:=.int .i64 (L.length:Nat)) rfl ot bH (fV zw)) ?_;refine dh.later rfl ?_;refine AD.one (i:=1) ay ?_;refine ju call59 (jK (iV p) vf) ?_
 have ox:(bX++(bz++(cD++(cA++((L.eraseIdx i.toNat).flatMap bO))))).Perm (((L.set i.toNat (⟨bn p L.length,cm,cn,bX,bJ,bK,bz⟩:aA))++[(⟨bp p,da,dc,cA,de,dg,cD⟩:aA)]).flatMap bO):=iu fun iS=>by have hq:=xY (qp bO hj (⟨bn p L.length,cm,cn,bX,bJ,bK,bz⟩:aA)) iS;rw[flatMap_append,show[(⟨bp p,da,dc,cA,de,dg,cD⟩:aA)].flatMap bO=cA++(cD++[]) from by simp[bO]];simp only[show bO (⟨bn p L.length,cm,cn,bX,bJ,bK,bz⟩:aA)=bX++bz from rfl,map_append,map_cons,map_nil,sum_append,sum_cons,sum_nil] at *;omega
 refine AD.perm (S':=⟨b7,93,5,gO (⟨bp p,da,dc,cA,de,dg,cD⟩:aA)⟩::⟨b6,93,5,gO (⟨bn p L.length,cm,cn,bX,bJ,bK,bz⟩:aA)⟩::⟨b,46,2,[.v (.slice (some ⟨I,0,none⟩) ((L.set i.toNat (⟨bn p L.length,cm,cn,bX,bJ,bK,bz⟩:aA))++[(⟨bp p,da,dc,cA,de,dg,cD⟩:aA)]).length E),.v (.int .i64 root)]⟩::(([⟨I,93,E*5,flatMap gO ((L.set i.toNat (⟨bn p L.length,cm,cn,bX,bJ,bK,bz⟩:aA))++[(⟨bp p,da,dc,cA,de,dg,cD⟩:aA)])⟩]:List ag)++((L.set i.toNat (⟨bn p L.length,cm,cn,bX,bJ,bK,bz⟩:aA))++[(⟨bp p,da,dc,cA,de,dg,cD⟩:aA)]).flatMap bO)) zn ?_;refine cq 8 rfl bg ?_;refine ey ?_;refine aY [4,5] ?_;refine aJ (⟨b,46,2,[.v (.slice (some ⟨I,0,none⟩) ((L.set i.toNat (⟨bn p L.length,cm,cn,bX,bJ,bK,bz⟩:aA))++[(⟨bp p,da,dc,cA,de,dg,cD⟩:aA)]).length E),.v (.int .i64 root)]⟩::([⟨I,93,E*5,flatMap gO ((L.set i.toNat (⟨bn p L.length,cm,cn,bX,bJ,bK,bz⟩:aA))++[(⟨bp p,da,dc,cA,de,dg,cD⟩:aA)])⟩]++((L.set i.toNat (⟨bn p L.length,cm,cn,bX,bJ,bK,bz⟩:aA))++[(⟨bp p,da,dc,cA,de,dg,cD⟩:aA)]).flatMap bO)) ?_;refine⟨rfl,((L.set i.toNat (⟨bn p L.length,cm,cn,bX,bJ,bK,bz⟩:aA))++[(⟨bp p,da,dc,cA,de,dg,cD⟩:aA)]),some ⟨I,0,none⟩,E,[⟨I,93,E*5,flatMap gO ((L.set i.toNat (⟨bn p L.length,cm,cn,bX,bJ,bK,bz⟩:aA))++[(⟨bp p,da,dc,cA,de,dg,cD⟩:aA)])⟩],bI U Z,fun x hx=>?_,?_,rfl⟩
 ·rcases mem_append.1 hx with hx|hx
  ·rcases mem_or_eq_of_mem_set hx with hx|rfl
   ·exact aQ x hx
   exact⟨zh,zg⟩
  rw[mem_singleton] at hx;subst hx;exact⟨pn,zf⟩
 rw[map_append,map_set];rfl

def gM(q:List α)(i:Nat)(a:α):List α:=q.take i++a::q.drop i
theorem x8{q:List α}{a:α}(hi:i≤q.length):(gM q i a).length=q.length+1:=by unfold gM;rw[length_append,length_take,length_cons,length_drop];omega
theorem Qf{q:List α}{a:α}:gM q q.length a=q++[a]:=by unfold gM;rw[take_length,drop_length]
theorem DT{g:α→List D}(hg:∀a,(g a).length=1){q:List α}{a:α}:(gM q i a).flatMap g=(q.flatMap g).take i++(g a++(q.flatMap g).drop i):=by
 have h1:=sY hg q i;have h2:=uu hg q i;rw[Nat.mul_one] at h1 h2;unfold gM;rw[flatMap_append,flatMap_cons,h1,h2]
theorem DF{A ds:List D}{off:Nat}(hA:A.length=off)(hl:ds.length≤J.length):cZ (A++J) off ds=A++(ds++J.drop ds.length):=by
 rw[vB _ _ _ u6,take_left' hA,append_assoc,←drop_drop,drop_left' hA]
theorem Qg{T R c:List D}(hT:T.length=i)(hc:c.length=1)(E:R.length+1≤J.length):T++(c++R) <+: cZ (cZ (T++J) i c) (i+1) R:=by
 rw[DF hT w4,show T++(c++J.drop c.length)=(T++c)++J.drop c.length from(append_assoc _ _ _).symm,DF (A:=T++c) u6 (by rw[length_drop];omega)];exact⟨_,by simp only[append_assoc];rfl⟩
theorem RA{T R c:List D}(hT:T.length=i)(hc:c.length=1)(O:1≤J.length):T++(c++R) <+: cZ (cZ ((T++R)++J) (i+1) R) i c:=by
 obtain⟨E,I,hX,h1⟩:∃E I,R++J=E++I∧E.length=1:=⟨(R++J).take 1,(R++J).drop 1,(take_append_drop 1 _).symm,by rw[length_take,length_append];omega⟩
 have h2:R.length≤I.length:=(by have:=congrArg length hX;rw[length_append,length_append] at this;omega)
 have e1:(T++R)++J=(T++E)++I:=(by rw[append_assoc,hX,←append_assoc])
 have e2:(T++E)++(R++I.drop R.length)=T++(E++(R++I.drop R.length)):=append_assoc _ _ _;rw[e1,DF (A:=T++E) u6 h2,e2,DF hT u6,drop_left' w4];exact⟨I.drop R.length,by simp only[append_assoc]⟩
theorem pO(n:Nat)(x:α):(replicate n x).length=n:=length_replicate
theorem Ds:(Tryz.prog.info? 49).map (fun i=>i.size)=some 1:=by kernel_rfl
theorem G2:(Tryz.prog.info? 49).map (fun i=>(i.zero,i.size,i.bytes))=some (some (.slice none 0 0),1,24):=by kernel_rfl
theorem Yz(q:List K)(i:Nat)(a:K)(cap b bv:Nat)(hi:i≤q.length)(hc:q.length≤cap)(hm:cap≤maxLen)(hs:q.length≤1000):VC Tryz.prog G 116 [.v (.slice (some ⟨b,0,none⟩) q.length cap),.v (.int .i64 (i:Nat)),.v (.slice (some ⟨bv,0,none⟩) 1 1)] [⟨bv,49,1*1,cK a⟩,⟨b,49,cap*1,q.flatMap cK⟩] (fun r S=>∃ad kg,r = .v (.slice ad (q.length+1) kg)∧bq 49 1 ((gM q i a).flatMap cK) (gM q i a).length ad kg S):=by
 refine VC.body func116 rfl ntmps116 aO fun X0 w0 aZ=>?_;refine ae [0,1,2] ?_;refine aC 2 ?_;refine bQ (dY (l:=i) rfl ot ⟨_,ot⟩ trivial tI) ?_;refine aj 95 [0,1,2] ?_;refine ae [0,1,2,7] ?_;refine ae [0,1,2,7,16] ?_;refine aq (fun az aG=>?_) (fun az aG=>?_)
 ·exact absurd az (by simp at *)
 refine ae [0,1,2,7,8] ?_;refine ae [0,1,2,7,8,22] ?_;refine aq (fun aH aT=>?_) (fun aH aT=>?_)
 ·obtain rfl:i=q.length:=(by simp at *;omega)
  refine aC 2 ?_;refine fH 0 24 1 1 ?_;refine OD.ee (ls:=q) (new:=[a]) (Sq:=[⟨b,49,cap*1,q.flatMap cK⟩]) fX oV an rfl rfl underlying90 G2 rfl w7 ot (bI hc hm) (dA (A:=[])) ot bu vc gN (fun xD BR KK KL=>?_);refine OD.perm (dV (S1:=[⟨xD,49,BR*1,flatMap cK (q++[a])⟩]) (A:=[])) ?_;refine aj 95 [6] ?_;refine aJ [⟨xD,49,BR*1,flatMap cK (q++[a])⟩] ?_;exact⟨_,_,by rw[length_append];rfl,by rw[Qf];exact bI KK KL⟩
 have aa:i<q.length:=(by omega)
 have hQ:(q.flatMap cK).length=q.length:=(by rw[cr fX];omega)
 have Z:((q.flatMap cK).take i).length=i:=(by rw[length_take];omega)
 have U:((q.flatMap cK).drop i).length=q.length-i:=(by rw[length_drop];omega)
 have jx:∀d∈(q.flatMap cK),V.one d=true:=s7 oV _;refine cL [0,1,2,7,8,31] ?_;refine aP 4 ?_ (h:=by exact(DL rfl rfl ot runUnderlying90));refine bG ?_;refine aq (fun aX bw=>?_) (fun aX bw=>?_)
 ·have I:eD cap (i) 1 0=i:=(by unfold eD;rw[if_neg w4];omega)
  have ri:Nat.min (q.length-i) (q.length+1-(i+1))=q.length-i:=Nat.min_eq_left w4;refine aC 2 ?_;refine bQ (dY (l:=0) (h:=i) rfl ot trivial ⟨_,ot⟩ K2) ?_;refine aD 5 ?_;refine OD.Q1 (n:=i) (m:=q.length+1-i) (k:=1) an rfl rfl underlying90 underlying3 G2 rfl ot rfl rfl (by show i≤(q.flatMap cK).length;omega) (Eq.trans ot (congrArg (fun z=>D.v (.int .i64 z)) (show((q.length:Int)+(1:Nat)-(i:Int))=((q.length+1-i:Nat):Int) by omega))) w4 w4 Ff w4 (fun F0 E BS KM=>?_);have jP:i+(q.length+1-i)=q.length+1:=(by omega)
  rw[jP] at BS ⊢;refine aj 95 [0,1,2,7,9] ?_;refine aC 2 ?_;refine bQ (dY (l:=i) (h:=q.length+1) rfl ot ⟨_,ot⟩ trivial tI) ?_;have vn:eD E (i) 1 0=i:=(by unfold eD;rw[if_neg w4];omega)
  rw[vn];refine aD 1 ?_;have O:eD E (i+1) 1 0=i+1:=(by unfold eD;rw[if_neg w4];omega)
  refine OD.wk (Wk.toEnd (k:=0) rfl) ?_;refine OD.copy (k:=0) (k2:=1) (od:=i) (new:=cK a) (cs':=cZ ((q.flatMap cK).take i++replicate (E*1-((q.flatMap cK).take i).length) D.bU) i (cK a)) an rfl rfl underlying90 Ds ot rfl rfl ot rfl rfl (by show take (Nat.min 1 (q.length+1-i)) (cK a)=_;rw[show Nat.min 1 (q.length+1-i)=1 from Nat.min_eq_left w4];rfl) (Nat.min_eq_left (by omega:1≤q.length+1-i)).symm (fun d hd=>all_eq_true.1 (oV a) d hd) (by show i+1≤((q.flatMap cK).take i++replicate (E*1-((q.flatMap cK).take i).length) D.bU).length;rw[length_append,pO,Z];omega) rfl ?_;refine aj 95 [0,1,7,9] ?_;refine CD.seq ?_;refine lX 8 [9,50,53] ?_;refine aP 4 ?_ (h:=by exact(dY (l:=i+1) (h:=q.length+1) rfl ot ⟨_,ot⟩ trivial tI));refine aP 2 ?_ (h:=by exact(dY (l:=i) (h:=q.length) rfl ot ⟨_,ot⟩ trivial tI));refine jQ ?_
  refine OD.copy (k:=0) (k2:=2) (od:=eD E (i+1) 1 0) (oy:=eD cap i 1 0) (new:=(q.flatMap cK).drop i) (cs':=cZ (cZ ((q.flatMap cK).take i++replicate (E*1-((q.flatMap cK).take i).length) D.bU) i (cK a)) (i+1) ((q.flatMap cK).drop i)) an rfl rfl underlying90 Ds ot rfl rfl ot rfl rfl (by show take (Nat.min (q.length-i) (q.length+1-(i+1))) (drop (eD cap i 1 0) (q.flatMap cK))=_;rw[I,ri,take_of_length_le w4]) (by show _=Nat.min (q.length-i) (q.length+1-(i+1));rw[ri,U]) (fun d hd=>jx d (mem_of_mem_drop hd)) (by show eD E (i+1) 1 0+_≤(cZ ((q.flatMap cK).take i++replicate (E*1-((q.flatMap cK).take i).length) D.bU) i (cK a)).length;rw[O,U,xP,length_append,pO,Z];omega) (by show cZ (cZ ((q.flatMap cK).take i++replicate (E*1-((q.flatMap cK).take i).length) D.bU) i (cK a)) (eD E (i+1) 1 0) _=_;rw[O]) ?_;refine aj 95 [9] ?_;refine aC 1 ?_;refine OD.shrink (k:=0) (cs':=(gM q i a).flatMap cK) rfl (by rw[DT fX];exact Qg Z rfl (by rw[pO,U,Z];omega)) ?_;refine aj 95 [6] ?_;refine aJ [⟨F0,49,E*1,(gM q i a).flatMap cK⟩] ?_;exact⟨_,_,rfl,bI (by rw[x8 hi];exact BS) KM⟩
 have I:eD cap (i) 1 0=i:=(by unfold eD;rw[if_neg w4];omega)
 have O:eD cap (i+1) 1 0=i+1:=(by unfold eD;rw[if_neg w4];omega)
 have ri:Nat.min (q.length+1-i) (q.length+1-(i+1))=q.length-i:=(by rw[show q.length+1-(i+1)=q.length-i from by omega];exact Nat.min_eq_right w4)
 refine cL [0,1,2,7,8] ?_;refine aP 4 ?_ (h:=by exact(dY (l:=0) (h:=q.length+1) rfl ot trivial ⟨_,ot⟩ K2));refine bG ?_;refine aC 5 ?_;refine bQ (dY (l:=i+1) (h:=q.length+1) rfl ot ⟨_,ot⟩ trivial tI) ?_;refine OD.wk (Wk.toEnd (k:=1) rfl) ?_;refine OD.overlaps (r:=4) (k:=0) (k2:=1) an rfl rfl func141 ay ay ay ay underlying90 sizeOf49 ot rfl rfl ot rfl rfl w7 (by show cap*1≠0;omega) ?_;refine aj 95 [0,1,2,7,8,68] ?_;refine aq (fun bC bW=>?_) (fun bC bW=>?_)
 ·refine CD.seq ?_;refine lX 8 [0,1,2,73,76] ?_;refine aP 4 ?_ (h:=by exact(dY (l:=i+1) (h:=q.length+1) rfl ot ⟨_,ot⟩ trivial tI));refine aP 2 ?_ (h:=by exact(dY (l:=i) (h:=q.length+1) rfl ot ⟨_,ot⟩ trivial tI));refine jQ ?_;refine OD.copy (k:=1) (k2:=1) (od:=eD cap (i+1) 1 0) (oy:=eD cap i 1 0) (new:=(q.flatMap cK).drop i) (cs':=cZ ((q.flatMap cK)++replicate (cap*1-(q.flatMap cK).length) D.bU) (i+1) ((q.flatMap cK).drop i)) an rfl rfl underlying90 Ds ot rfl rfl ot rfl rfl (by show take (Nat.min (q.length+1-i) (q.length+1-(i+1))) (drop (eD cap i 1 0) ((q.flatMap cK)++replicate (cap*1-(q.flatMap cK).length) D.bU))=_;rw[I,ri,drop_append_of_le_length w4,take_left' U]) (by show _=Nat.min (q.length+1-i) (q.length+1-(i+1));rw[ri,U]) (fun d hd=>jx d (mem_of_mem_drop hd)) (by show eD cap (i+1) 1 0+_≤((q.flatMap cK)++replicate (cap*1-(q.flatMap cK).length) D.bU).length;rw[O,U,length_append,pO,hQ];omega) (by show cZ ((q.flatMap cK)++replicate (cap*1-(q.flatMap cK).length) D.bU) (eD cap (i+1) 1 0) _=_;rw[O]) ?_;refine aj 95 [0,1,2] ?_;refine aC 2 ?_;refine bQ (dY (l:=i) (h:=q.length+1) rfl ot ⟨_,ot⟩ trivial tI) ?_;refine aD 1 ?_
  refine OD.copy (k:=1) (k2:=0) (od:=eD cap i 1 0) (new:=cK a) (cs':=cZ (cZ ((q.flatMap cK)++replicate (cap*1-(q.flatMap cK).length) D.bU) (i+1) ((q.flatMap cK).drop i)) i (cK a)) an rfl rfl underlying90 Ds ot rfl rfl ot rfl rfl (by show take (Nat.min 1 (q.length+1-i)) (cK a)=_;rw[show Nat.min 1 (q.length+1-i)=1 from Nat.min_eq_left w4];rfl) (Nat.min_eq_left (by omega:1≤q.length+1-i)).symm (fun d hd=>all_eq_true.1 (oV a) d hd) (by show eD cap i 1 0+1≤(cZ ((q.flatMap cK)++replicate (cap*1-(q.flatMap cK).length) D.bU) (i+1) ((q.flatMap cK).drop i)).length;rw[I,xP,length_append,pO,hQ];omega) (by show cZ (cZ ((q.flatMap cK)++replicate (cap*1-(q.flatMap cK).length) D.bU) (i+1) ((q.flatMap cK).drop i)) (eD cap i 1 0) _=_;rw[I]) ?_;refine aj 95 [0] ?_;refine aC 1 ?_;refine OD.shrink (k:=1) (cs':=(gM q i a).flatMap cK) rfl (by rw[DT fX];show _ <+: cZ (cZ ((q.flatMap cK)++_) (i+1) ((q.flatMap cK).drop i)) i (cK a);rw[show(q.flatMap cK)++replicate (cap*1-(q.flatMap cK).length) D.bU=((q.flatMap cK).take i++(q.flatMap cK).drop i)++replicate (cap*1-(q.flatMap cK).length) D.bU from by rw[take_append_drop]];exact RA Z rfl (by rw[pO,hQ];omega)) ?_;refine aj 95 [6] ?_;refine aJ [⟨b,49,cap*1,(gM q i a).flatMap cK⟩] ?_;exact⟨_,_,rfl,bI (by rw[x8 hi];omega) hm⟩
 exact absurd bC (by simp at *)
theorem Dt:(Tryz.prog.info? 3).map (fun i=>i.size)=some 1:=by kernel_rfl
theorem Hw:(Tryz.prog.info? 3).map (fun i=>(i.zero,i.size,i.bytes))=some (some (.int .i64 0),1,8):=by kernel_rfl
theorem YA(q:List Int)(i:Nat)(a:Int)(cap b bv:Nat)(hi:i≤q.length)(hc:q.length≤cap)(hm:cap≤maxLen)(hs:q.length≤1000):VC Tryz.prog G 117 [.v (.slice (some ⟨b,0,none⟩) q.length cap),.v (.int .i64 (i:Nat)),.v (.slice (some ⟨bv,0,none⟩) 1 1)] [⟨bv,3,1*1,cI a⟩,⟨b,3,cap*1,q.flatMap cI⟩] (fun r S=>∃ad kg,r = .v (.slice ad (q.length+1) kg)∧bq 3 1 ((gM q i a).flatMap cI) (gM q i a).length ad kg S):=by
 refine VC.body func117 rfl ntmps117 aO fun X0 w0 aZ=>?_;refine ae [0,1,2] ?_;refine aC 2 ?_;refine bQ (dY (l:=i) rfl ot ⟨_,ot⟩ trivial tJ) ?_;refine aj 95 [0,1,2] ?_;refine ae [0,1,2,7] ?_;refine ae [0,1,2,7,16] ?_;refine aq (fun az aG=>?_) (fun az aG=>?_)
 ·exact absurd az (by simp at *)
 refine ae [0,1,2,7,8] ?_;refine ae [0,1,2,7,8,22] ?_;refine aq (fun aH aT=>?_) (fun aH aT=>?_)
 ·obtain rfl:i=q.length:=(by simp at *;omega)
  refine aC 2 ?_;refine fH 0 24 1 1 ?_;refine OD.ee (ls:=q) (new:=[a]) (Sq:=[⟨b,3,cap*1,q.flatMap cI⟩]) eu ng an rfl rfl underlying91 Hw rfl w7 ot (bI hc hm) (dA (A:=[])) ot bu vc gN (fun xD BR KK KL=>?_);refine OD.perm (dV (S1:=[⟨xD,3,BR*1,flatMap cI (q++[a])⟩]) (A:=[])) ?_;refine aj 95 [6] ?_;refine aJ [⟨xD,3,BR*1,flatMap cI (q++[a])⟩] ?_;exact⟨_,_,by rw[length_append];rfl,by rw[Qf];exact bI KK KL⟩
 have aa:i<q.length:=(by omega)
 have hQ:(q.flatMap cI).length=q.length:=(by rw[cr eu];omega)
 have Z:((q.flatMap cI).take i).length=i:=(by rw[length_take];omega)
 have U:((q.flatMap cI).drop i).length=q.length-i:=(by rw[length_drop];omega)
 have jx:∀d∈(q.flatMap cI),V.one d=true:=s7 ng _;refine cL [0,1,2,7,8,31] ?_;refine aP 4 ?_ (h:=by exact(DL rfl rfl ot runUnderlying91));refine bG ?_;refine aq (fun aX bw=>?_) (fun aX bw=>?_)
 ·have I:eD cap (i) 1 0=i:=(by unfold eD;rw[if_neg w4];omega)
  have ri:Nat.min (q.length-i) (q.length+1-(i+1))=q.length-i:=Nat.min_eq_left w4;refine aC 2 ?_;refine bQ (dY (l:=0) (h:=i) rfl ot trivial ⟨_,ot⟩ K3) ?_;refine aD 5 ?_;refine OD.Q1 (n:=i) (m:=q.length+1-i) (k:=1) an rfl rfl underlying91 underlying3 Hw rfl ot rfl rfl (by show i≤(q.flatMap cI).length;omega) (Eq.trans ot (congrArg (fun z=>D.v (.int .i64 z)) (show((q.length:Int)+(1:Nat)-(i:Int))=((q.length+1-i:Nat):Int) by omega))) w4 w4 Ff w4 (fun F0 E BS KM=>?_);have jP:i+(q.length+1-i)=q.length+1:=(by omega)
  rw[jP] at BS ⊢;refine aj 95 [0,1,2,7,9] ?_;refine aC 2 ?_;refine bQ (dY (l:=i) (h:=q.length+1) rfl ot ⟨_,ot⟩ trivial tJ) ?_;have vn:eD E (i) 1 0=i:=(by unfold eD;rw[if_neg w4];omega)
  rw[vn];refine aD 1 ?_;have O:eD E (i+1) 1 0=i+1:=(by unfold eD;rw[if_neg w4];omega)
  refine OD.wk (Wk.toEnd (k:=0) rfl) ?_;refine OD.copy (k:=0) (k2:=1) (od:=i) (new:=cI a) (cs':=cZ ((q.flatMap cI).take i++replicate (E*1-((q.flatMap cI).take i).length) D.bU) i (cI a)) an rfl rfl underlying91 Dt ot rfl rfl ot rfl rfl (by show take (Nat.min 1 (q.length+1-i)) (cI a)=_;rw[show Nat.min 1 (q.length+1-i)=1 from Nat.min_eq_left w4];rfl) (Nat.min_eq_left (by omega:1≤q.length+1-i)).symm (fun d hd=>all_eq_true.1 (ng a) d hd) (by show i+1≤((q.flatMap cI).take i++replicate (E*1-((q.flatMap cI).take i).length) D.bU).length;rw[length_append,pO,Z];omega) rfl ?_;refine aj 95 [0,1,7,9] ?_;refine CD.seq ?_;refine lX 8 [9,50,53] ?_;refine aP 4 ?_ (h:=by exact(dY (l:=i+1) (h:=q.length+1) rfl ot ⟨_,ot⟩ trivial tJ));refine aP 2 ?_ (h:=by exact(dY (l:=i) (h:=q.length) rfl ot ⟨_,ot⟩ trivial tJ));refine jQ ?_
  refine OD.copy (k:=0) (k2:=2) (od:=eD E (i+1) 1 0) (oy:=eD cap i 1 0) (new:=(q.flatMap cI).drop i) (cs':=cZ (cZ ((q.flatMap cI).take i++replicate (E*1-((q.flatMap cI).take i).length) D.bU) i (cI a)) (i+1) ((q.flatMap cI).drop i)) an rfl rfl underlying91 Dt ot rfl rfl ot rfl rfl (by show take (Nat.min (q.length-i) (q.length+1-(i+1))) (drop (eD cap i 1 0) (q.flatMap cI))=_;rw[I,ri,take_of_length_le w4]) (by show _=Nat.min (q.length-i) (q.length+1-(i+1));rw[ri,U]) (fun d hd=>jx d (mem_of_mem_drop hd)) (by show eD E (i+1) 1 0+_≤(cZ ((q.flatMap cI).take i++replicate (E*1-((q.flatMap cI).take i).length) D.bU) i (cI a)).length;rw[O,U,xP,length_append,pO,Z];omega) (by show cZ (cZ ((q.flatMap cI).take i++replicate (E*1-((q.flatMap cI).take i).length) D.bU) i (cI a)) (eD E (i+1) 1 0) _=_;rw[O]) ?_;refine aj 95 [9] ?_;refine aC 1 ?_;refine OD.shrink (k:=0) (cs':=(gM q i a).flatMap cI) rfl (by rw[DT eu];exact Qg Z rfl (by rw[pO,U,Z];omega)) ?_;refine aj 95 [6] ?_;refine aJ [⟨F0,3,E*1,(gM q i a).flatMap cI⟩] ?_;exact⟨_,_,rfl,bI (by rw[x8 hi];exact BS) KM⟩
 have I:eD cap (i) 1 0=i:=(by unfold eD;rw[if_neg w4];omega)
 have O:eD cap (i+1) 1 0=i+1:=(by unfold eD;rw[if_neg w4];omega)
 have ri:Nat.min (q.length+1-i) (q.length+1-(i+1))=q.length-i:=(by rw[show q.length+1-(i+1)=q.length-i from by omega];exact Nat.min_eq_right w4)
 refine cL [0,1,2,7,8] ?_;refine aP 4 ?_ (h:=by exact(dY (l:=0) (h:=q.length+1) rfl ot trivial ⟨_,ot⟩ K3));refine bG ?_;refine aC 5 ?_;refine bQ (dY (l:=i+1) (h:=q.length+1) rfl ot ⟨_,ot⟩ trivial tJ) ?_;refine OD.wk (Wk.toEnd (k:=1) rfl) ?_;refine OD.overlaps (r:=4) (k:=0) (k2:=1) an rfl rfl func143 ay ay ay ay underlying91 sizeOf3 ot rfl rfl ot rfl rfl w7 (by show cap*1≠0;omega) ?_;refine aj 95 [0,1,2,7,8,68] ?_;refine aq (fun bC bW=>?_) (fun bC bW=>?_)
 ·refine CD.seq ?_;refine lX 8 [0,1,2,73,76] ?_;refine aP 4 ?_ (h:=by exact(dY (l:=i+1) (h:=q.length+1) rfl ot ⟨_,ot⟩ trivial tJ));refine aP 2 ?_ (h:=by exact(dY (l:=i) (h:=q.length+1) rfl ot ⟨_,ot⟩ trivial tJ));refine jQ ?_;refine OD.copy (k:=1) (k2:=1) (od:=eD cap (i+1) 1 0) (oy:=eD cap i 1 0) (new:=(q.flatMap cI).drop i) (cs':=cZ ((q.flatMap cI)++replicate (cap*1-(q.flatMap cI).length) D.bU) (i+1) ((q.flatMap cI).drop i)) an rfl rfl underlying91 Dt ot rfl rfl ot rfl rfl (by show take (Nat.min (q.length+1-i) (q.length+1-(i+1))) (drop (eD cap i 1 0) ((q.flatMap cI)++replicate (cap*1-(q.flatMap cI).length) D.bU))=_;rw[I,ri,drop_append_of_le_length w4,take_left' U]) (by show _=Nat.min (q.length+1-i) (q.length+1-(i+1));rw[ri,U]) (fun d hd=>jx d (mem_of_mem_drop hd)) (by show eD cap (i+1) 1 0+_≤((q.flatMap cI)++replicate (cap*1-(q.flatMap cI).length) D.bU).length;rw[O,U,length_append,pO,hQ];omega) (by show cZ ((q.flatMap cI)++replicate (cap*1-(q.flatMap cI).length) D.bU) (eD cap (i+1) 1 0) _=_;rw[O]) ?_;refine aj 95 [0,1,2] ?_;refine aC 2 ?_;refine bQ (dY (l:=i) (h:=q.length+1) rfl ot ⟨_,ot⟩ trivial tJ) ?_;refine aD 1 ?_
  refine OD.copy (k:=1) (k2:=0) (od:=eD cap i 1 0) (new:=cI a) (cs':=cZ (cZ ((q.flatMap cI)++replicate (cap*1-(q.flatMap cI).length) D.bU) (i+1) ((q.flatMap cI).drop i)) i (cI a)) an rfl rfl underlying91 Dt ot rfl rfl ot rfl rfl (by show take (Nat.min 1 (q.length+1-i)) (cI a)=_;rw[show Nat.min 1 (q.length+1-i)=1 from Nat.min_eq_left w4];rfl) (Nat.min_eq_left (by omega:1≤q.length+1-i)).symm (fun d hd=>all_eq_true.1 (ng a) d hd) (by show eD cap i 1 0+1≤(cZ ((q.flatMap cI)++replicate (cap*1-(q.flatMap cI).length) D.bU) (i+1) ((q.flatMap cI).drop i)).length;rw[I,xP,length_append,pO,hQ];omega) (by show cZ (cZ ((q.flatMap cI)++replicate (cap*1-(q.flatMap cI).length) D.bU) (i+1) ((q.flatMap cI).drop i)) (eD cap i 1 0) _=_;rw[I]) ?_;refine aj 95 [0] ?_;refine aC 1 ?_;refine OD.shrink (k:=1) (cs':=(gM q i a).flatMap cI) rfl (by rw[DT eu];show _ <+: cZ (cZ ((q.flatMap cI)++_) (i+1) ((q.flatMap cI).drop i)) i (cI a);rw[show(q.flatMap cI)++replicate (cap*1-(q.flatMap cI).length) D.bU=((q.flatMap cI).take i++(q.flatMap cI).drop i)++replicate (cap*1-(q.flatMap cI).length) D.bU from by rw[take_append_drop]];exact RA Z rfl (by rw[pO,hQ];omega)) ?_;refine aj 95 [6] ?_;refine aJ [⟨b,3,cap*1,(gM q i a).flatMap cI⟩] ?_;exact⟨_,_,rfl,bI (by rw[x8 hi];omega) hm⟩
 exact absurd bC (by simp at *)
theorem ZY(a:K)(bv:Nat):VC Tryz.prog G 116 [.v (.slice none 0 0),.v (.int .i64 (0:Nat)),.v (.slice (some ⟨bv,0,none⟩) 1 1)] [⟨bv,49,1*1,cK a⟩] (fun r S=>∃ad E,r = .v (.slice ad 1 E)∧bq 49 1 ((gM ([]:List K) 0 a).flatMap cK) (gM ([]:List K) 0 a).length ad E S):=by
 refine VC.body func116 rfl ntmps116 aO fun X0 w0 aZ=>?_;refine ae [0,1,2] ?_;refine aC 2 ?_;refine bQ (Dv rfl ot ⟨_,_,ot,rfl⟩ rfl runUnderlying90 sizeOf49) ?_;refine aj 95 [0,1,2] ?_;refine ae [0,1,2,7] ?_;refine ae [0,1,2,7,16] ?_;refine aq (fun az aG=>?_) (fun az aG=>?_)
 ·exact absurd az (by simp at *)
 refine ae [0,1,2,7,8] ?_;refine ae [0,1,2,7,8,22] ?_;refine aq (fun aH aT=>?_) (fun aH aT=>?_)
 ·refine aC 2 ?_;refine fH 0 24 1 1 ?_;refine OD.ee (ls:=([]:List K)) (new:=[a]) (Sq:=[]) fX oV an rfl rfl underlying90 G2 rfl w7 ot iC (dA (A:=[])) ot bu (by simp[maxLen]) bu (fun O I U Z=>?_);refine OD.perm (dV (S1:=[⟨O,49,I*1,flatMap cK (([]:List K)++[a])⟩]) (A:=[])) ?_;refine aj 95 [6] ?_;refine aJ [⟨O,49,I*1,flatMap cK (([]:List K)++[a])⟩] ?_;exact⟨_,_,rfl,bI U Z⟩
 exact absurd aH (by simp at *)
theorem YB(q:List K)(i:Nat)(a:K)(ad:Option Addr)(cap:Nat)(Sq:List ag)(I:Nat)(hi:i≤q.length)(hs:q.length≤1000)(ho:bq 49 1 (q.flatMap cK) q.length ad cap Sq):VC Tryz.prog G 116 [.v (.slice ad q.length cap),.v (.int .i64 (i:Nat)),.v (.slice (some ⟨I,0,none⟩) 1 1)] (⟨I,49,1*1,cK a⟩::Sq) (fun r S=>∃ad E,r = .v (.slice ad (q.length+1) E)∧bq 49 1 ((gM q i a).flatMap cK) (gM q i a).length ad E S):=by
 rcases ho with ⟨h1,h2,rfl,rfl,rfl⟩|⟨b,rfl,h1,h2,rfl⟩
 ·obtain rfl:=length_eq_zero_iff.1 h1;obtain rfl:i=0:=Nat.le_zero.1 hi;exact ZY a I
 exact Yz q i a cap b I hi h1 h2 hs
theorem ZZ(a:Int)(bv:Nat):VC Tryz.prog G 117 [.v (.slice none 0 0),.v (.int .i64 (0:Nat)),.v (.slice (some ⟨bv,0,none⟩) 1 1)] [⟨bv,3,1*1,cI a⟩] (fun r S=>∃ad E,r = .v (.slice ad 1 E)∧bq 3 1 ((gM ([]:List Int) 0 a).flatMap cI) (gM ([]:List Int) 0 a).length ad E S):=by
 refine VC.body func117 rfl ntmps117 aO fun X0 w0 aZ=>?_;refine ae [0,1,2] ?_;refine aC 2 ?_;refine bQ (Dv rfl ot ⟨_,_,ot,rfl⟩ rfl runUnderlying91 sizeOf3) ?_;refine aj 95 [0,1,2] ?_;refine ae [0,1,2,7] ?_;refine ae [0,1,2,7,16] ?_;refine aq (fun az aG=>?_) (fun az aG=>?_)
 ·exact absurd az (by simp at *)
 refine ae [0,1,2,7,8] ?_;refine ae [0,1,2,7,8,22] ?_;refine aq (fun aH aT=>?_) (fun aH aT=>?_)
 ·refine aC 2 ?_;refine fH 0 24 1 1 ?_;refine OD.ee (ls:=([]:List Int)) (new:=[a]) (Sq:=[]) eu ng an rfl rfl underlying91 Hw rfl w7 ot iC (dA (A:=[])) ot bu (by simp[maxLen]) bu (fun O I U Z=>?_);refine OD.perm (dV (S1:=[⟨O,3,I*1,flatMap cI (([]:List Int)++[a])⟩]) (A:=[])) ?_;refine aj 95 [6] ?_;refine aJ [⟨O,3,I*1,flatMap cI (([]:List Int)++[a])⟩] ?_;exact⟨_,_,rfl,bI U Z⟩
 exact absurd aH (by simp at *)
theorem YC(q:List Int)(i:Nat)(a:Int)(ad:Option Addr)(cap:Nat)(Sq:List ag)(I:Nat)(hi:i≤q.length)(hs:q.length≤1000)(ho:bq 3 1 (q.flatMap cI) q.length ad cap Sq):VC Tryz.prog G 117 [.v (.slice ad q.length cap),.v (.int .i64 (i:Nat)),.v (.slice (some ⟨I,0,none⟩) 1 1)] (⟨I,3,1*1,cI a⟩::Sq) (fun r S=>∃ad E,r = .v (.slice ad (q.length+1) E)∧bq 3 1 ((gM q i a).flatMap cI) (gM q i a).length ad E S):=by
 rcases ho with ⟨h1,h2,rfl,rfl,rfl⟩|⟨b,rfl,h1,h2,rfl⟩
 ·obtain rfl:=length_eq_zero_iff.1 h1;obtain rfl:i=0:=Nat.le_zero.1 hi;exact ZZ a I
 exact YA q i a cap b I hi h1 h2 hs

end Go.Proofs.YtbcmjoaggammcaaGreatDoor.Tw
