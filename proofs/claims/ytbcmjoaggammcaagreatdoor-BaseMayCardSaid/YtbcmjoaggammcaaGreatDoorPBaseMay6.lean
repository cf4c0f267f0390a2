/-
  What the proof of BaseMay leans on, part 6 of 8: walks of the program's functions at the level of values, and plain facts of what they compute.
-/
import Derived.Test.YtbcmjoaggammcaaGreatDoorPBaseMay5
set_option linter.unusedVariables false
set_option linter.unusedSimpArgs false
set_option maxRecDepth 100000
set_option maxHeartbeats 4000000
namespace Go.Proofs.YtbcmjoaggammcaaGreatDoor.Tw
open List
open Go.Proofs.Tryz
open Go.RowKit V Tr Pk
structure aA where
 p:cR
 ak:Option Addr
 ck:Nat
 sk:List ag
 ai:Option Addr
 ci:Nat
 si:List ag
def gO(o:aA):List D:=[.v (.bool o.p.leaf),.v (.slice o.ak o.p.keys.length o.ck),.v (.slice o.ai o.p.kids.length o.ci),.list 1 (o.p.high.flatMap cB) o.p.high.length,.v (.int .i64 o.p.next)]
theorem ga(o:aA):(gO o).length=5:=rfl
theorem uK(o:aA):(gO o).all V.one=true:=rfl
def bO(o:aA):List ag:=o.sk++o.si
def qz(o:aA):Prop:=oD o.p.keys o.ak o.ck o.sk∧lD o.p.kids o.ai o.ci o.si
theorem R5{S:List ag}:∀{L:List aA},(∀o∈L,qz o)→(∀B∈L.flatMap bO,B∈S)→gv S (L.flatMap gO) ((L.map aA.p).flatMap cP)
 | [],_,_=>trivial
 | o::L,h,hs=>by
  rw[map_cons,flatMap_cons,flatMap_cons];obtain⟨h1,h2⟩:=h o mem_cons_self;refine gv.append ⟨eP,lj h1 (cq gb _) (fun B E=>hs B ?_),lj h2 (cq ey _) (fun B E=>hs B ?_),eP,eP,trivial⟩ (R5 (fun o ho=>h o (mem_cons_of_mem _ ho)) fun B E=>hs B ?_)
  ·rw[flatMap_cons];exact mem_append_left _ (mem_append_left _ E)
  ·rw[flatMap_cons];exact mem_append_left _ (mem_append_right _ E)
  rw[flatMap_cons];exact mem_append_right _ E
abbrev tU(L:List aA)(ad:Option Addr)(cap:Nat)(S:List ag):Prop:=bw 93 5 (L.flatMap gO) L.length ad cap S
theorem JG{S Sx:List ag}{L:List aA}{ad:Option Addr}{cap:Nat}{root:Int}(ho:tU L ad cap Sx)(h:∀o∈L,qz o)(hs:∀B∈Sx++L.flatMap bO,B∈S) :
  View S (.agg [.v (.slice ad L.length cap),.v (.int .i64 root)]) (.agg (cT ⟨L.map aA.p,root⟩)):=by
 refine uD ⟨?_,eP,trivial⟩;have:=Ay ho (R5 h fun B E=>hs B (mem_append_right _ E)) (cq E1 _ |>.trans bq) (fun B E=>hs B (mem_append_left _ E));rw[length_map];exact this
def FQ(t:aE)(r:D)(S:List ag):Prop:=∃L ad cap Sx,r = .agg [.v (.slice ad (length L) cap),.v (.int .i64 t.root)]∧tU L ad cap Sx∧(∀o∈L,qz o)∧L.map aA.p=t.af∧S=Sx++L.flatMap bO
theorem Q5(L:List aA)(o:aA):(L++[o]).flatMap bO=L.flatMap bO++bO o:=by simp
variable {G:List (Nat×List Value)}
theorem oU{α:Type}{l:List α}{j:Nat}(h:j<l.length):take j l++[l[j]]=take (j+1) l:=(take_succ_eq_append_getElem h).symm
theorem YZ:(Tryz.prog.info? 49).map (fun i=>(i.zero,i.size,i.bytes))=some (some (.slice none 0 0),1,24):=by kernel_rfl
theorem YD:(Tryz.prog.info? 93).map (fun i=>(i.zero,i.size,i.bytes))=some (some (.agg #[.bool false,.slice none 0 0,.slice none 0 0,.slice none 0 0,.int .i64 0]),5,88):=by kernel_rfl
theorem NI : ∀ w, ((#[{ name := "Leaf", type := 4, offset := 0, embedded := false, tag := "", pkgPath := "", byteOffset := 0 }, { name := "Keys", type := 90, offset := 1, embedded := false, tag := "", pkgPath := "", byteOffset := 8 }, { name := "Kids", type := 91, offset := 2, embedded := false, tag := "", pkgPath := "", byteOffset := 32 }, { name := "High", type := 49, offset := 3, embedded := false, tag := "", pkgPath := "", byteOffset := 56 }, { name := "Next", type := 3, offset := 4, embedded := false, tag := "", pkgPath := "", byteOffset := 80 }] : Array Field).mapM fun f => do pure (f.offset, ← sizeOf f.type) : Sem (Array (Nat × Nat))).run Tryz.prog w = .ok #[(0, 1), (1, 1), (2, 1), (3, 1), (4, 1)] w := fun w => by simp [sizeOf3, sizeOf4, sizeOf49, sizeOf90, sizeOf91]
theorem E2(t:aE)(h:Nat)(v:Valid t h):VC Tryz.prog G 115 [.agg (cT t)] [] (FQ t):=by
 refine VC.body func115 rfl ntmps115 aO fun X0 w0 aZ=>?_;unfold cT;have dy:maxLen=9223372036854775807:=rfl;have hval:=v;have M5:=v.mY;refine bX ?_;refine OD.box (ds:=[_,_]) an rfl rfl ot rfl rfl (fun b1=>?_);refine OD.alloc (ds:=[_,_]) an rfl rfl zeroValue46 rfl (fun b2=>?_);refine aj 51 [1,2] ?_;refine aC 3 ?_;refine OD.alloc (ds:=[_,_]) an rfl rfl zeroValue46 rfl (fun b3=>?_);refine aN 0 [_,_] sizeOf46 ?_;refine aj 51 [1,2,3] ?_;refine ae [2,3,13,14,15] ?_;refine eB [2,3,13,14] (fun aW _ (E:Nat×List aA×Option Addr×Nat×List ag) aK=>match E with|(i,L,dK,cY,Sx)=>(i≤t.af.length)∧(L.map aA.p=t.af.take i)∧(∀o∈L,qz o)∧(tU L dK cY Sx)∧aK=(⟨51,(15,.v (.int .i64 (i:Nat)))::aW,(⟨b3,46,2,[.v (.slice dK L.length cY),.v (.int .i64 t.root)]⟩::⟨b2,46,2,[.v (.slice none 0 0),.v (.int .i64 0)]⟩::(Sx++L.flatMap bO))⟩:St)) (fun (E:Nat×List aA×Option Addr×Nat×List ag)=>match E with|(i,L,dK,cY,Sx)=>t.af.length-i) (0,([]:List aA),none,0,[]) ⟨(Nat.zero_le _),rfl,(fun o h=>by cases h),iw,rfl⟩ ?_;rintro⟨i,L,dK,cY,Sx⟩ _ ⟨hi,hL,aS,dU,rfl⟩;refine ae [2,3,13,14,15,16] ?_;refine aq (fun az aH=>?_) (fun az aH=>?_)
 ·have aa:i<t.af.length:=(by omega)
  have po:=v.page _ (getElem_mem aa);have rA:L.length=i:=(by have:=congrArg length hL;rw[length_map,length_take] at this;omega)
  have mB:=po.eK;have Xp:=po.hlen;have Fq:(t.af[i]'aa).kids.length≤5:=by
      exact Wp
  refine aC 2 ?_;refine OD.alloc (ds:=[_,_,_,_,_]) an rfl rfl zeroValue93 rfl (fun b5=>?_);refine aN 0 [_,_,_,_,_] sizeOf93 ?_;refine aj 51 [2,3,5,13,14,15] ?_;refine bX ?_;refine bf [2,3,5,6,13,14,15] ?_;refine ae [2,3,5,6,13,14,15,20,21,22] ?_;refine CD.block ?_;refine mJ (fun (E:Nat×Option Addr×Nat×List ag) aK=>match E with|(j,ij,ik,Sy)=>(j≤(t.af[i]'aa).keys.length)∧(oD (take j (t.af[i]'aa).keys) ij ik Sy)∧aK=(⟨51,[(2,.v (.pointer (some ⟨b2,0,none⟩))),(3,.v (.pointer (some ⟨b3,0,none⟩))),(5,.v (.pointer (some ⟨b5,0,none⟩))),(6,.v (.slice ij (take j (t.af[i]'aa).keys).length ik)),(13,.list 5 (t.af.flatMap cP) t.af.length),(14,.v (.int .i64 (t.af.length:Nat))),(15,.v (.int .i64 (i:Nat))),(20,.list 1 ((t.af[i]'aa).keys.flatMap cK) (t.af[i]'aa).keys.length),(21,.v (.int .i64 ((t.af[i]'aa).keys.length:Nat))),(22,.v (.int .i64 (j:Nat)))],(⟨b5,93,5,cP (t.af[i]'aa)⟩::⟨b3,46,2,[.v (.slice dK L.length cY),.v (.int .i64 t.root)]⟩::⟨b2,46,2,[.v (.slice none 0 0),.v (.int .i64 0)]⟩::(Sy++(Sx++L.flatMap bO)))⟩:St)) (fun (E:Nat×Option Addr×Nat×List ag)=>match E with|(j,ij,ik,Sy)=>(t.af[i]'aa).keys.length-j) (0,none,0,[]) ⟨(Nat.zero_le _),iw,rfl⟩ (aM (h:=by repeat (first|exact trivial|refine⟨(by (repeat (first|exact fw|(apply fP;focus (first|rfl|(simp;done)|(congr 2;omega)|(apply eE;exact oU O)))|(apply fA;focus rfl)));done),?_⟩))) ?_
  rintro⟨j,ij,ik,Sy⟩ _ ⟨hj,U,rfl⟩;refine ae [2,3,5,6,13,14,15,20,21,22,23] ?_;refine aq (fun aG aV=>?_) (fun aG aV=>?_)
  ·have O:j<(t.af[i]'aa).keys.length:=(by omega)
   have K3:=(po.kW _ (getElem_mem O)).2;refine ae [2,3,5,6,8,13,14,15,20,21,22] ?_;refine dL 2 ?_;refine dR call59 (jL (t.af[i]'aa).keys[j] w4) ?_;refine ee (bZ 0 [_]) [.slice none 0 0] [_] zeroValue49 runUnderlying90 sizeOf49 (fun ur=>?_);refine fG 0 29 1 1 ?_;refine OD.dZ (ls:=(take j (t.af[i]'aa).keys)) (new:=[(t.af[i]'aa).keys[j]]) (Sq:=Sy) gb pc an rfl rfl underlying90 YZ rfl w7 ot U (H8 (A:=[_,_,_])) ot bq vp gU (fun Z I KY KZ=>?_);refine OD.perm (PR (S1:=[⟨Z,49,I*1,flatMap cK ((take j (t.af[i]'aa).keys)++[(t.af[i]'aa).keys[j]])⟩]) (A:=[_,_,_])) ?_;refine aj 51 [2,3,5,6,13,14,15,20,21,22] ?_;refine cj [2,3,5,6,13,14,15,20,21,22] ?_;refine⟨((j+1),(some ⟨Z,0,none⟩),I,[⟨Z,49,I*1,flatMap cK ((take j (t.af[i]'aa).keys)++[(t.af[i]'aa).keys[j]])⟩]),_,cx,(aM (h:=by repeat (first|exact trivial|refine⟨(by (repeat (first|exact fw|(apply fP;focus (first|rfl|(simp;done)|(congr 2;omega)|(apply eE;exact oU O)))|(apply fA;focus rfl)));done),?_⟩))),w4,(bw.cast (bI KY KZ) (oU O)),rfl⟩
  have hjt:take j (t.af[i]'aa).keys=(t.af[i]'aa).keys:=take_of_length_le w4;rw[hjt] at U ⊢;refine CD.exit ?_;refine fK 16 (ap (take 1 _)) ?_ (fun _ h=>(Sublist.map _ (take_sublist _ _)).subset h);refine ax 0 rfl (c8 0) ?_;refine ax 2 rfl (c8 0) ?_;refine ax 3 rfl (dB 0) ?_;refine ax 4 rfl bj ?_;refine ax 5 rfl (c8 2) ?_;refine ax 6 rfl (dB 0) ?_;refine ax 8 rfl (c8 3) ?_;refine ax 9 rfl (dB 0) ?_;refine ax 11 rfl (c8 4) ?_;refine ax 12 rfl (dB 0) ?_;refine dm.later rfl ?_;refine AD.two (i:=1) (j:=7) ay ?_ ?_
  ·refine at_ rfl (dB 1) ?_;refine AD.one (i:=7) ay ?_;refine bg.call rfl an rfl rfl rfl call114 (nJ (t.af[i]'aa).kids w4) ⟨ot,trivial⟩ (eN _) (fun b hb=>by simp[ap,St.put] at hb ⊢;try simp[hb]) ?_;rintro _ Sz ⟨lH,lI,rfl,xX⟩;refine AD.perm (iY (A:=[_,_,_])) ?_;have vu:(L++[(⟨(t.af[i]'aa),ij,ik,Sy,lH,lI,Sz⟩:aA)]).map aA.p=t.af.take (i+1):=(by rw[map_append,hL];exact oU aa)
   have jE:∀o∈L++[(⟨(t.af[i]'aa),ij,ik,Sy,lH,lI,Sz⟩:aA)],qz o:=fun o ho=>by rcases mem_append.1 ho with ho|ho;exact aS o ho;rw[mem_singleton] at ho;subst ho;exact⟨U,xX⟩
   exact z117
  refine bg.call rfl an rfl rfl rfl call114 (nJ (t.af[i]'aa).kids w4) ⟨ot,trivial⟩ (eN _) (fun b hb=>by simp[ap,St.put] at hb ⊢;try simp[hb]) ?_;rintro _ Sz ⟨lH,lI,rfl,xX⟩;refine AD.perm (iY (A:=[_,_,_])) ?_;have vu:(L++[(⟨(t.af[i]'aa),ij,ik,Sy,lH,lI,Sz⟩:aA)]).map aA.p=t.af.take (i+1):=(by rw[map_append,hL];exact oU aa)
  have jE:∀o∈L++[(⟨(t.af[i]'aa),ij,ik,Sy,lH,lI,Sz⟩:aA)],qz o:=fun o ho=>by rcases mem_append.1 ho with ho|ho;exact aS o ho;rw[mem_singleton] at ho;subst ho;exact⟨U,xX⟩
  refine AD.two (i:=1) (j:=10) ay ?_ ?_
  ·refine at_ rfl (dB 1) ?_;exact z117
  refine jv call59 (jL (t.af[i]'aa).high w4) ?_;refine cr 13 rfl (nq (pl:=[(0,_),(1,_),(2,_),(3,_),(4,_)]) (ds:=[_,_,_,_,_]) rfl zeroValue93 runUnderlying93 NI ⟨rfl,ot,rfl,ot,rfl,ot,rfl,ot,rfl,ot,trivial⟩ rfl rfl) ?_;refine AD.two (i:=1) (j:=14) ay ?_ ?_
  ·refine at_ rfl (dB 1) ?_;refine AD.one (i:=14) ay ?_;refine jj (bZ 0 [_]) [.bool false,.slice none 0 0,.slice none 0 0,.slice none 0 0,.int .i64 0] [_,_,_,_,_] zeroValue93 runUnderlying44 sizeOf93 (fun zZ=>?_);refine jk 0 46 5 1 ?_;exact LZ
  refine jj (bZ 0 [_]) [.bool false,.slice none 0 0,.slice none 0 0,.slice none 0 0,.int .i64 0] [_,_,_,_,_] zeroValue93 runUnderlying44 sizeOf93 (fun zZ=>?_);refine jk 0 46 5 1 ?_;refine AD.one (i:=1) ay ?_;refine at_ rfl (dB 1) ?_;exact LZ
 refine aC 1 ?_;refine aN 1 [_,_] sizeOf46 ?_;refine aj 51 [2] ?_;refine aJ (Sx++L.flatMap bO) ?_;exact⟨L,dK,cY,Sx,rfl,dU,aS,by rw[hL,take_of_length_le w4],rfl⟩

end Go.Proofs.YtbcmjoaggammcaaGreatDoor.Tw

namespace Go.Proofs.YtbcmjoaggammcaaGreatDoor.Tw
open List
open Go.Proofs.Tryz
open Go.RowKit V Go.Proofs.YtbcmjoaggammcaaGreatDoor.Tr Pk
open Go.Lib (compareBytes)
variable {t:aE} {lv:List (List Int)} {level:Nat} {i:Int}
structure nv (t:aE) (s:jq):Prop where
 nd:s.1.Nodup
 rg:∀x∈s.1,0≤x∧x<t.af.length
 eK:s.2.length≤s.1.length
 each:∀l∈s.2,l.length≤s.1.length
 el:∀l∈s.2,∀x∈l,0≤x∧x<t.af.length
theorem abO{n:Nat}{l:List Int}(h:l.Nodup)(hr:∀x∈l,0≤x∧x<n):l.length≤n:=by
 induction n generalizing l with
 | zero =>
  cases l with
  | nil=>simp
  | cons a l=>have:=hr a mem_cons_self;omega
 | succ n ih =>
  have h1:=ih (l:=l.erase (n:Int)) (h.erase _) fun x hx=>by
   have h2:=(h.mem_erase_iff).1 hx;have h3:=hr x h2.2;have:=h2.1;omega
  rw[length_erase] at h1;split at h1<;>omega
theorem nv.mY{s:jq}(h:nv t s):s.1.length≤t.af.length:=abO h.nd h.rg
theorem aaj{n:Nat}(h:∀l∈lv,l.length≤n):∀l∈kp lv level i,l.length≤n+1:=fun l hl=>by
 obtain⟨j,hj,rfl⟩:=mem_iff_getElem.1 hl;have e:(kp lv level i)[j]=(kp lv level i).getD j []:=(by rw[getD_eq_getElem?_getD,getElem?_eq_getElem hj];rfl)
 rw[e,EL,length_append];have h1:(lv.getD j []).length≤n:=by
  rw[getD_eq_getElem?_getD];rcases Nat.lt_or_ge j lv.length with q|q
  ·rw[getElem?_eq_getElem q];exact h _ (getElem_mem q)
  rw[getElem?_eq_none q];simp
 split
 ·simp only[length_cons,length_nil];omega
 simp only[length_nil];omega
theorem adA{Q:Int→Prop}(h:∀l∈lv,∀x∈l,Q x)(hi:Q i):∀l∈kp lv level i,∀x∈l,Q x:=fun l hl x hx=>by
 obtain⟨j,hj,rfl⟩:=mem_iff_getElem.1 hl;have e:(kp lv level i)[j]=(kp lv level i).getD j []:=(by rw[getD_eq_getElem?_getD,getElem?_eq_getElem hj];rfl)
 rw[e,EL,mem_append] at hx;rcases hx with hx|hx
 ·rw[getD_eq_getElem?_getD] at hx;rcases Nat.lt_or_ge j lv.length with q|q
  ·rw[getElem?_eq_getElem q] at hx;exact h _ (getElem_mem q) x hx
  rw[getElem?_eq_none q] at hx;cases hx
 split at hx
 ·rw[mem_singleton] at hx;subst hx;exact hi
 cases hx
theorem nv.add{s:jq}(h:nv t s)(hi:0≤i∧i<t.af.length)(hn:i∉s.1)(hl:level≤s.1.length):nv t (s.1++[i],kp s.2 level i):=by
 refine⟨?_,fun x hx=>?_,?_,?_,adA h.el hi⟩
 ·exact nodup_append.2 ⟨h.nd,by simp,fun a ha b hb e=>by rw[mem_singleton] at hb;subst hb;subst e;exact hn ha⟩
 ·rcases mem_append.1 hx with hx|hx
  ·exact h.rg x hx
  rw[mem_singleton] at hx;subst hx;exact hi
 ·show(kp s.2 level i).length≤(s.1++[i]).length;rw[Io,length_append];have:=h.eK;simp;omega
 show ∀l∈kp s.2 level i,l.length≤(s.1++[i]).length;rw[length_append];exact aaj h.each
theorem QB{t:aE}{go:Int→K→K→jq→Option (Nat×jq)}{low:K}{p:cR}{n:Nat}(E:∀(c:Int) lo hi s d s',(0≤c∧c<t.af.length)→nv t s→n≤s.1.length→go c lo hi s=some (d,s')→nv t s'∧s.1.length≤s'.1.length) :
  ∀(cs:List Int) (k:Nat) (deep:Option Nat) (s:jq) (d:Nat) (s':jq),(∀c∈cs,0≤c∧c<t.af.length)→nv t s→n≤s.1.length→lA go low p cs k deep s=some (d,s')→nv t s'∧s.1.length≤s'.1.length
 | [],k,deep,s,d,s',_,hs,_,h=>by
  rw[lA] at h;cases deep with
  | none=>cases h
  | some e=>simp at h;rw[←h.2];exact⟨hs,Nat.le_refl _⟩
 | c::cs,k,deep,s,d,s',hc,hs,hn,h=>by
  rw[lA] at h;cases hg:go c (gY low p k) (gH p k) s with
  | none=>rw[hg] at h;cases h
  | some q =>
   obtain⟨d1,s1⟩:=q;rw[hg] at h;obtain⟨h1,h2⟩:=E _ _ _ _ _ _ (hc c mem_cons_self) hs hn hg;change (if deep=none∨deep=some d1 then lA go low p cs (k+1) (some d1) s1 else none)=_ at h;split at h
   ·obtain⟨h3,h4⟩:=QB E cs _ _ _ _ _ (fun c uq=>hc c (mem_cons_of_mem _ uq)) h1 w4 h;exact⟨h3,by omega⟩
   cases h
theorem OZ{p:cR}(hp:ez p t.af.length)(hl:p.leaf=false):∀c∈p.kids,0≤c∧c<t.af.length:=fun c hc=>⟨hp.aB c hc,hp.vc hl c hc⟩
theorem I8{t:aE}(hp:uI t):∀(f:Nat) (i:Int) (lo hi:K) (level:Nat) (s:jq) (d:Nat) (s':jq),(0≤i∧i<t.af.length)→nv t s→level≤s.1.length→jh t f i lo hi level s=some (d,s')→nv t s'∧s.1.length≤s'.1.length
 | 0,i,lo,hi,level,s,d,s',_,_,_,h=>by rw[jh] at h;cases h
 | f+1,i,lo,hi,level,s,d,s',hr,hs,hl,h=>by
  rw[jh] at h;split at h
  ·cases h
  rename_i hn;split at h
  ·cases h
  have ha:=hs.add hr hn hl;have hlen:s.1.length+1=(s.1++[i]).length:=(by simp)
  split at h
  ·simp at h;rw[←h.2];exact⟨ha,by show s.1.length≤(s.1++[i]).length;omega⟩
  rename_i fF;have fF:(t.pg i).leaf=false:=(by simpa using fF)
  obtain⟨h1,h2⟩:=QB (n:=level+1) (fun c lo hi s d s' hc hs hn h=>I8 hp f c lo hi (level+1) s d s' hc hs hn h) _ _ _ _ _ _ (OZ (hp _ (jr hr)) fF) ha (by show level+1≤(s.1++[i]).length;omega) h;have h3:(s.1++[i]).length≤s'.1.length:=h2;exact⟨h1,by omega⟩
structure dA where
 l:List Int
 ad:Option Addr
 cp:Nat
 s:List ag
variable {L:List dA}
def gV(o:dA):List D:=[.v (.slice o.ad o.l.length o.cp)]
theorem wq(o:dA):(gV o).length=1:=rfl
theorem ae3(o:dA):(gV o).all V.one=true:=rfl
def mK(o:dA):Prop:=lD o.l o.ad o.cp o.s
def qU:dA:=⟨[],none,0,[]⟩
theorem adB:mK qU:=.inl ⟨rfl,rfl,rfl,rfl,rfl⟩
abbrev zu(L:List dA)(ad:Option Addr)(cap:Nat)(S:List ag):Prop:=bw 91 1 (L.flatMap gV) L.length ad cap S
def Va(t:aE)(b bm:Nat)(n:Nat)(ad:Option Addr)(cap:Nat):ag:=⟨b,104,4,[.list 5 (t.af.flatMap cP) t.af.length,.v (.int .i64 t.root),.v (.map (some bm)),.v (.slice ad n cap)]⟩
def SW(t:aE)(b bm:Nat)(m:List Int)(L:List dA)(ad:Option Addr)(cap:Nat)(Sx:List ag):List ag:=Va t b bm L.length ad cap::kG bm m::(Sx++L.flatMap dA.s)
def Vb(t:aE)(b bm:Nat):Option (Nat×jq)→D→List ag→Prop
 | none,r,S=>r = .v (.int .i64 (-1))∧S=[]
 | some (d,s),r,S=>r = .v (.int .i64 (d:Nat))∧∃L ad cap Sx,zu L ad cap Sx∧(∀o∈L,mK o)∧L.map dA.l=s.2∧S=SW t b bm s.1 L ad cap Sx
theorem yF{α:Type}(g:α→List ag):∀{L:List α} {j:Nat} (h:j<L.length),(L.flatMap g).Perm (g L[j]++(L.eraseIdx j).flatMap g)
 | a::L,0,_=>by simp
 | a::L,j+1,h=>by
  have E:=yF g (L:=L) (j:=j) oJ;simp only[flatMap_cons,getElem_cons_succ,eraseIdx_cons_succ];refine(E.append_left (g a)).trans ?_;rw[←append_assoc,←append_assoc];exact List.perm_append_comm.append_right _
theorem qC{α:Type}(g:α→List ag){L:List α}{j:Nat}(h:j<L.length)(a:α):((L.set j a).flatMap g).Perm (g a++(L.eraseIdx j).flatMap g):=by
 have:=yF g (L:=L.set j a) (j:=j) (by rw[length_set];exact h);rw[getElem_set_self,eraseIdx_set_eq] at this;exact this
def rU:Option Nat→Int
 | none=>-2
 | some d=>d
variable {G:List (Nat×List Value)}

theorem ae4{f:Nat}{low high:K}{s:jq}(h:i∈s.1):jh t (f+1) i low high level s=none:=by rw[jh,if_pos h]
theorem R6{f:Nat}{low high:K}{s:jq}(h:((t.pg i).high≠high∨∃k,(t.pg i).keys.head?=some k∧bF k low)):jh t (f+1) i low high level s=none:=by
 rw[jh];by_cases hi:i∈s.1
 ·rw[if_pos hi]
 rw[if_neg hi,if_pos h]
theorem abP{f:Nat}{low high:K}{s:jq}(h:i∉s.1)(h2:¬((t.pg i).high≠high∨∃k,(t.pg i).keys.head?=some k∧bF k low))(h3:(t.pg i).leaf=true):jh t (f+1) i low high level s=some (level,(s.1++[i],kp s.2 level i)):=by rw[jh,if_neg h,if_neg h2,if_pos h3]
theorem abQ{f:Nat}{low high:K}{s:jq}(h:i∉s.1)(h2:¬((t.pg i).high≠high∨∃k,(t.pg i).keys.head?=some k∧bF k low))(h3:(t.pg i).leaf=false):jh t (f+1) i low high level s=lA (fun c lo hi s=>jh t f c lo hi (level+1) s) low (t.pg i) (t.pg i).kids 0 none (s.1++[i],kp s.2 level i):=by rw[jh,if_neg h,if_neg h2,if_neg (by rw[h3];decide)]
section
variable {go:Int→K→K→jq→Option (Nat×jq)} {low:K} {p:cR} {k:Nat} {deep:Option Nat} {s s':jq} {d:Nat}
theorem aak(hk:k<p.kids.length)(h:go p.kids[k] (gY low p k) (gH p k) s=none):lA go low p (p.kids.drop k) k deep s=none:=by rw[drop_eq_getElem_cons hk,lA,h]
theorem O0(hk:k<p.kids.length)(h:go p.kids[k] (gY low p k) (gH p k) s=some (d,s'))(hd:deep=none∨deep=some d):lA go low p (p.kids.drop k) k deep s=lA go low p (p.kids.drop (k+1)) (k+1) (some d) s':=by
 rw[drop_eq_getElem_cons hk,lA,h];show(if deep=none∨deep=some d then _ else _)=_;rw[if_pos hd]
theorem abR(hk:k<p.kids.length)(h:go p.kids[k] (gY low p k) (gH p k) s=some (d,s'))(hd:¬(deep=none∨deep=some d)):lA go low p (p.kids.drop k) k deep s=none:=by
 rw[drop_eq_getElem_cons hk,lA,h];show(if deep=none∨deep=some d then _ else _)=_;rw[if_neg hd]
theorem abS(hk:p.kids.length≤k):lA go low p (p.kids.drop k) k deep s=deep.map fun d=>(d,s):=by rw[drop_of_length_le hk,lA]
end
theorem aal:(L++[qU]).flatMap dA.s=L.flatMap dA.s:=by simp[qU]
theorem adC{E:List dA}(h:E.map dA.l=L.map dA.l++replicate (E.length-L.length) [])(h1:L.length≤E.length)(h2:E.length≤max L.length (level+1))(h3:level<E.length):E.map dA.l=sg (L.map dA.l) (level+1):=by
 rw[h];unfold sg;rw[length_map,show E.length-L.length=level+1-L.length from by omega]
theorem I9{E:List dA}{o:dA}(h:E.map dA.l=sg (L.map dA.l) (level+1))(h3:level<E.length)(ho:o.l=E[level].l++[i]):(E.set level o).map dA.l=kp (L.map dA.l) level i:=by
 rw[map_set,ho];unfold kp;rw[←h,getD_eq_getElem?_getD,getElem?_eq_getElem (by rw[length_map];exact h3),getElem_map];rfl
theorem R7{j:Nat}{o:dA}(h:∀o∈L,mK o)(ho:mK o):∀x∈L.set j o,mK x:=fun x hx=>by
 rcases mem_or_eq_of_mem_set hx with hx|rfl
 ·exact h x hx
 exact ho
theorem QC{deep:Option Nat}{d:Nat}(h:rU deep≠-2)(h2:(d:Int)=rU deep):deep=some d:=by
 cases deep with
 | none=>exact absurd rfl h
 | some e=>unfold rU at h2;simp only at h2;rw[show d=e from by omega]
theorem abT{deep:Option Nat}{d:Nat}(h:rU deep≠-2)(h2:¬(d:Int)=rU deep):¬(deep=none∨deep=some d):=by
 rintro(rfl|rfl)
 ·exact h rfl
 exact h2 rfl
theorem O1{deep:Option Nat}(h:rU deep = -2):deep=none:=by
 cases deep with
 | none=>rfl
 | some e=>unfold rU at h;simp only at h;omega
def Uc(G:List (Nat×List Value))(t:aE)(b bm f:Nat):Prop:=∀(i:Int) (low high:K) (level:Nat) (m:List Int) (L:List dA) (ad:Option Addr) (cap:Nat) (Sx:List ag),(0≤i∧i<t.af.length)→nv t (m,(L.map dA.l))→level≤m.length→t.af.length+1≤f+m.length→high.length≤100→zu L ad cap Sx→(∀o∈L,mK o) →
 VC Tryz.prog G 37 [.v (.pointer (some ⟨b,0,none⟩)),.v (.int .i64 i),.list 1 (low.flatMap cB) low.length,.list 1 (high.flatMap cB) high.length,.v (.int .i64 (level:Nat))] (SW t b bm m L ad cap Sx) (Vb t b bm (jh t f i low high level (m,(L.map dA.l))))

theorem O2:(Tryz.prog.info? 3).map (fun i=>(i.zero,i.size,i.bytes))=some (some (.int .i64 0),1,8):=by kernel_rfl

theorem Y0:(Tryz.prog.info? 91).map (fun i=>(i.zero,i.size,i.bytes))=some (some (.slice none 0 0),1,24):=by kernel_rfl

theorem aam(t:aE)(hp:uI t)(qV:t.af.length≤4000)(b bm f:Nat)(ih:Uc G t b bm f)(i:Int)(low high:K)(level:Nat)(m:List Int)(L:List dA)(ad:Option Addr)(cap:Nat)(Sx:List ag)(hr:0≤i∧i<t.af.length)(FR:nv t (m,(L.map dA.l)))(hlm:level≤m.length)(hfu:t.af.length+1≤(f+1)+m.length)(Xq:high.length≤100)(mG:zu L ad cap Sx)(aS:∀o∈L,mK o) :
 VC Tryz.prog G 37 [.v (.pointer (some ⟨b,0,none⟩)),.v (.int .i64 i),.list 1 (low.flatMap cB) low.length,.list 1 (high.flatMap cB) high.length,.v (.int .i64 (level:Nat))] (SW t b bm m L ad cap Sx) (Vb t b bm (jh t (f+1) i low high level (m,(L.map dA.l)))):=by
 refine VC.body func37 rfl ntmps37 aO fun X0 w0 aZ=>?_;unfold SW Va;have dy:maxLen=9223372036854775807:=rfl;have aa:i.toNat<t.af.length:=(by omega)
 have pN:t.pg i=(t.af[i.toNat]'aa):=u0 hr;have po:ez (t.af[i.toNat]'aa) t.af.length:=hp _ (getElem_mem aa);have Xp:=po.hlen;have Mk:=FR.mY;have CU:m.length≤t.af.length:=Mk;refine ae [0,1,2,3,4] ?_;refine aC 5 ?_;refine bN (ZG (i:=1) rfl ot ot rfl underlying101 underlying3 zeroValue130) ?_;refine aD 3 ?_;refine OD.alloc (ds:=[]) an rfl rfl zeroValue130 rfl (fun kK=>?_);refine aN 0 [] sizeOf130 ?_;refine aj 148 [0,1,2,3,4,12] ?_;refine ae [0,1,2,3,4,29] ?_;refine aq (fun az aH=>?_) (fun az aH=>?_)
 ·have jV:i∈m:=(by simpa using az)
  refine ae [10] ?_;refine aJ [] ?_;rw[ae4 (by exact jV)];exact⟨rfl,rfl⟩
 have pJ:i∉m:=(by simpa using az)
 refine aC 6 ?_;refine OD.addKey (i:=2) an rfl rfl ot ot ot rfl pJ underlying101 underlying3 ?_;refine aj 148 [0,1,2,3,4] ?_;refine aC 6 ?_;refine bN (c9 5 (h:=by first|exact .l (j:=i.toNat) (Int.toNat_of_nonneg hr.1).symm aa|exact .r (j:=i.toNat) (Int.toNat_of_nonneg hr.1).symm aa)) ?_;refine aD 1 ?_;refine OD.alloc (ds:=[_,_,_,_,_]) an rfl rfl zeroValue93 rfl (fun mh=>?_);refine aN 0 [_,_,_,_,_] sizeOf93 ?_;refine aj 148 [0,1,2,3,4,13] ?_;refine jJ [0,1,2,3,4] (fun aW _ aK=>∃(mh:Nat),(¬((t.pg i).high≠high∨∃k,(t.pg i).keys.head?=some k∧bF k low))∧aK=(⟨148,(13,.v (.pointer (some ⟨mh,0,none⟩)))::aW,(⟨mh,93,5,cP (t.af[i.toNat]'aa)⟩::⟨b,104,4,[.list 5 (t.af.flatMap cP) t.af.length,.v (.int .i64 t.root),.v (.map (some bm)),.v (.slice ad L.length cap)]⟩::kG bm (m++[i])::(Sx++L.flatMap dA.s))⟩:St)) ?_ ?_
 ·refine aC 3 ?_;refine dR call57 (T9 (t.af[i.toNat]'aa).high high w4 w4) ?_;refine aD 2 ?_;refine bS 49 (fun BV Ka=>?_) (fun BV Ka=>?_)
  ·refine aj 148 [0,1,2,3,4,13,63] ?_;refine eC ?_;have nU:((t.pg i).high≠high∨∃k,(t.pg i).keys.head?=some k∧bF k low):=(by rw[pN];first|exact .inl (by simpa using BV)|exact .inr ⟨_,head?_eq_getElem? .. ▸ getElem?_eq_getElem w4,of_decide_eq_true aG⟩)
   refine ae [10] ?_;refine aJ [] ?_;rw[R6 nU];exact⟨rfl,rfl⟩
  refine aD 5 ?_;refine bS 54 (fun rX uW=>?_) (fun rX uW=>?_)
  ·refine aD 2 ?_;refine OD.still gL rfl (pV (mk:=Op.indexAddr 90) rfl ot bJ (by first|exact s8 (j:=0) runUnderlying90 sizeOf49 rfl (by first|omega|decide)|exact tv (j:=0) runUnderlying90 sizeOf49 rfl (by first|omega|decide))) ?_;refine aD 2 ?_;refine OD.gI gL rfl rfl rfl call35 (we ((t.af[i.toNat]'aa).keys[0]'w4) low) ⟨ot,ot,trivial⟩ ?_;refine aj 148 [0,1,2,3,4,13,63] ?_;refine aq (fun aG aV=>?_) (fun aG aV=>?_)
   ·have nU:((t.pg i).high≠high∨∃k,(t.pg i).keys.head?=some k∧bF k low):=(by rw[pN];first|exact .inl (by simpa using BV)|exact .inr ⟨_,head?_eq_getElem? .. ▸ getElem?_eq_getElem w4,of_decide_eq_true aG⟩)
    refine ae [10] ?_;refine aJ [] ?_;rw[R6 nU];exact⟨rfl,rfl⟩
   have nQ:¬((t.pg i).high≠high∨∃k,(t.pg i).keys.head?=some k∧bF k low):=(by rw[pN];rintro(h|⟨k,hk,u6⟩);exact h (by simpa using BV);first|(rw[head?_eq_getElem?,getElem?_eq_none w4] at hk;cases hk;done)|(rw[head?_eq_getElem?,getElem?_eq_getElem w4] at hk;cases hk;exact of_decide_eq_false aG u6))
   refine CD.skip ?_;refine⟨_,aM,mh,nQ,rfl⟩
  refine aj 148 [0,1,2,3,4,13,63] ?_;refine fL ?_;have nQ:¬((t.pg i).high≠high∨∃k,(t.pg i).keys.head?=some k∧bF k low):=(by rw[pN];rintro(h|⟨k,hk,u6⟩);exact h (by simpa using BV);first|(rw[head?_eq_getElem?,getElem?_eq_none w4] at hk;cases hk;done)|(rw[head?_eq_getElem?,getElem?_eq_getElem w4] at hk;cases hk;exact of_decide_eq_false aG u6))
  refine CD.skip ?_;refine⟨_,aM,mh,nQ,rfl⟩
 rintro _ ⟨mh,nQ,rfl⟩;refine eB [0,1,2,3,4,13] (fun aW _ (l6:List dA×Option Addr×Nat×List ag) aK=>match l6 with|(I,GL,Z,CY)=>(zu I GL Z CY)∧(∀o∈I,mK o)∧(I.map dA.l=L.map dA.l++replicate (I.length-L.length) [])∧(L.length≤I.length)∧(I.length≤max L.length (level+1))∧aK=(⟨148,aW,(⟨mh,93,5,cP (t.af[i.toNat]'aa)⟩::⟨b,104,4,[.list 5 (t.af.flatMap cP) t.af.length,.v (.int .i64 t.root),.v (.map (some bm)),.v (.slice GL I.length Z)]⟩::kG bm (m++[i])::(CY++I.flatMap dA.s))⟩:St)) (fun (l6:List dA×Option Addr×Nat×List ag)=>match l6 with|(I,GL,Z,CY)=>level+1-I.length) (L,ad,cap,Sx) ⟨mG,aS,bq,(Nat.le_refl _),w4,rfl⟩ ?_;rintro⟨I,GL,Z,CY⟩ _ ⟨Vc,pD,Vd,aiT,aiU,rfl⟩;refine ae [0,1,2,3,4,13,70] ?_;refine aq (fun aY bz=>?_) (fun aY bz=>?_)
 ·have mB:=FR.eK;have mB:L.length≤m.length:=(by simpa using mB)
  have E:I.length≤level:=(by omega)
  refine dL 5 ?_;refine ee (bZ 0 [_]) [.slice none 0 0] [_] zeroValue91 runUnderlying102 sizeOf91 (fun b76=>?_);refine fG 0 76 1 1 ?_;refine OD.dZ (ls:=I) (new:=[qU]) (Sq:=CY) wq ae3 an rfl rfl underlying102 Y0 rfl w7 ot Vc (ou (A:=[_,_,_])) ot bq F3 F3 (fun M7 K4 aiV aiW=>?_);refine OD.perm (iY (S1:=[⟨M7,91,K4*1,flatMap gV (I++[qU])⟩]) (A:=[_,_,_])) ?_;rw[←aal (L:=I)];refine aD 2 ?_;refine aN 1 [_,_,_,_] sizeOf102 ?_;refine aj 148 [0,1,2,3,4,13] ?_;refine⟨((I++[qU]),(some ⟨M7,0,none⟩),K4,[⟨M7,91,K4*1,flatMap gV (I++[qU])⟩]),_,(by (show level+1-(I++[qU]).length<level+1-I.length;rw[length_append,show[qU].length=1 from rfl];omega)),aM,(bI aiV aiW),(fun o ho=>by rcases mem_append.1 ho with ho|ho;exact pD o ho;rw[mem_singleton] at ho;subst ho;exact adB),(by rw[map_append,Vd,append_assoc,length_append,show[qU].length=1 from rfl,show I.length+1-L.length=I.length-L.length+1 from by omega,replicate_succ'];rfl),vm,(by rw[length_append,show[qU].length=1 from rfl];omega),rfl⟩
 have E:level<I.length:=(by omega)
 have zv:=adC Vd aiT aiU E;obtain⟨bv,rfl,BU,Bo,rfl⟩:=Vc.pos w4;have dU:mK (I[level]'E):=pD _ (getElem_mem E);have lP:(I[level]'E).l.length≤m.length:=by
    have hz:(I[level]'E).l=(sg (L.map dA.l) (level+1)).getD level []:=(by rw[←zv,getD_eq_getElem?_getD,getElem?_eq_getElem (by rw[length_map];exact E),getElem_map];rfl)
    rw[hz,I7,getD_eq_getElem?_getD];rcases Nat.lt_or_ge level (L.map dA.l).length with q|q
    ·rw[getElem?_eq_getElem q];exact FR.each _ (getElem_mem q)
    rw[getElem?_eq_none q];simp
 refine CD.perm (Perm.cons _ (Perm.cons _ (Perm.cons _ ((yF dA.s E).append_left _)))) ?_;refine CD.exit ?_;refine CD.seq ?_;refine CD.mono (Q:=fun aW aK=>aW=Exit.normal∧∃(o2:dA),(mK o2)∧(o2.l=(I[level]'E).l++[i])∧Wk aK (⟨148,[(0,.v (.pointer (some ⟨b,0,none⟩))),(2,.list 1 (low.flatMap cB) low.length),(3,.list 1 (high.flatMap cB) high.length),(4,.v (.int .i64 (level:Nat))),(13,.v (.pointer (some ⟨mh,0,none⟩)))],(⟨mh,93,5,cP (t.af[i.toNat]'aa)⟩::⟨b,104,4,[.list 5 (t.af.flatMap cP) t.af.length,.v (.int .i64 t.root),.v (.map (some bm)),.v (.slice (some ⟨bv,0,none⟩) (I.set level o2).length Z)]⟩::kG bm (m++[i])::([⟨bv,91,Z*1,flatMap gV (I.set level o2)⟩]++(I.set level o2).flatMap dA.s))⟩:St)) ?_ ?_
 ·refine CD.draw (ap (take 3 _)) ay (fun _ h=>(Sublist.map _ (take_sublist _ _)).subset h) ?_;refine ax 0 rfl bj ?_;refine ax 1 rfl lG ?_;refine ax 2 rfl (c8 3) ?_;refine ax 3 rfl (dB 1) ?_;refine ax 4 rfl bj ?_;refine ax 5 rfl bj ?_;refine ax 6 rfl lG ?_;refine ax 7 rfl (c8 3) ?_;refine ax 8 rfl (dB 1) ?_;refine ax 9 rfl bj ?_;refine ax 10 rfl (c9 1) ?_;refine ax 12 rfl bj ?_;refine dm.later rfl ?_;refine AD.two (i:=11) (j:=13) ay ?_ ?_
  ·refine at_ rfl (cJ (mk:=Op.load 91) rfl ot (iO (k:=3) (d:=.v (.slice (I[level]'E).ad (I[level]'E).l.length (I[level]'E).cp)) (i:=level) wq rfl rfl rfl isAgg91 E rfl)) ?_;refine AD.one (i:=13) ay ?_;refine jj (bZ 0 [_]) [.int .i64 0] [_] zeroValue3 runUnderlying91 sizeOf3 (fun Xe=>?_);refine jk 0 93 1 1 ?_;refine AD.one (i:=14) ay ?_;refine bg.dZ (ls:=(I[level]'E).l) (new:=[i]) (Sq:=(I[level]'E).s) ey nr rfl an rfl rfl underlying91 O2 rfl w7 ot dU (sX (A:=[_,_,_]) (S1:=[⟨bv,91,Z*1,flatMap gV I⟩])) ot bq mZ nc (fun U O K5 K6=>?_);refine AD.perm (vT (S2:=[⟨U,3,O*1,flatMap cI ((I[level]'E).l++[i])⟩]) (A:=[_,_,_])) ?_;refine cr 15 rfl (c9 1) ?_;refine AD.one (i:=16) ay ?_;refine bg.storeAt (k:=3) (cs':=flatMap gV (I.set level (⟨(I[level]'E).l++[i],some ⟨U,0,none⟩,O,[⟨U,3,O*1,flatMap cI ((I[level]'E).l++[i])⟩]⟩:dA))) rfl an rfl rfl ot rfl rfl ot rfl rfl sizeOf91 rfl (by show 0+level*1+1≤(flatMap gV I).length;rw[cq wq];omega) (by rw[Nat.zero_add];exact ox wq I (⟨(I[level]'E).l++[i],some ⟨U,0,none⟩,O,[⟨U,3,O*1,flatMap cI ((I[level]'E).l++[i])⟩]⟩:dA) E) ig ?_
   refine AD.wk (y:=⟨148,[(0,_),(2,_),(3,_),(4,_),(13,_)],(⟨mh,93,5,[_,_,_,_,_]⟩::⟨b,104,4,[_,_,_,_]⟩::_::([⟨bv,91,Z*1,flatMap gV (I.set level (⟨(I[level]'E).l++[i],some ⟨U,0,none⟩,O,[⟨U,3,O*1,flatMap cI ((I[level]'E).l++[i])⟩]⟩:dA))⟩]++([⟨U,3,O*1,flatMap cI ((I[level]'E).l++[i])⟩]++((I.eraseIdx level).flatMap dA.s))))⟩) (Wk.dN rfl rfl fg) rfl ?_;refine AD.done ay ?_;exact⟨rfl,(⟨(I[level]'E).l++[i],some ⟨U,0,none⟩,O,[⟨U,3,O*1,flatMap cI ((I[level]'E).l++[i])⟩]⟩:dA),bI K5 K6,rfl,by rw[length_set];exact Wk.perm (Perm.cons _ (Perm.cons _ (Perm.cons _ ((qC dA.s E (⟨(I[level]'E).l++[i],some ⟨U,0,none⟩,O,[⟨U,3,O*1,flatMap cI ((I[level]'E).l++[i])⟩]⟩:dA)).symm.append_left _))))⟩
  refine jj (bZ 0 [_]) [.int .i64 0] [_] zeroValue3 runUnderlying91 sizeOf3 (fun Xe=>?_);refine jk 0 93 1 1 ?_;refine AD.one (i:=11) ay ?_;refine at_ rfl (cJ (mk:=Op.load 91) rfl ot (iO (k:=3) (d:=.v (.slice (I[level]'E).ad (I[level]'E).l.length (I[level]'E).cp)) (i:=level) wq rfl rfl rfl isAgg91 E rfl)) ?_;refine AD.one (i:=14) ay ?_;refine bg.dZ (ls:=(I[level]'E).l) (new:=[i]) (Sq:=(I[level]'E).s) ey nr rfl an rfl rfl underlying91 O2 rfl w7 ot dU (sX (A:=[_,_,_]) (S1:=[⟨bv,91,Z*1,flatMap gV I⟩])) ot bq mZ nc (fun U O K5 K6=>?_);refine AD.perm (vT (S2:=[⟨U,3,O*1,flatMap cI ((I[level]'E).l++[i])⟩]) (A:=[_,_,_])) ?_;refine cr 15 rfl (c9 1) ?_;refine AD.one (i:=16) ay ?_;refine bg.storeAt (k:=3) (cs':=flatMap gV (I.set level (⟨(I[level]'E).l++[i],some ⟨U,0,none⟩,O,[⟨U,3,O*1,flatMap cI ((I[level]'E).l++[i])⟩]⟩:dA))) rfl an rfl rfl ot rfl rfl ot rfl rfl sizeOf91 rfl (by show 0+level*1+1≤(flatMap gV I).length;rw[cq wq];omega) (by rw[Nat.zero_add];exact ox wq I (⟨(I[level]'E).l++[i],some ⟨U,0,none⟩,O,[⟨U,3,O*1,flatMap cI ((I[level]'E).l++[i])⟩]⟩:dA) E) ig ?_
  refine AD.wk (y:=⟨148,[(0,_),(2,_),(3,_),(4,_),(13,_)],(⟨mh,93,5,[_,_,_,_,_]⟩::⟨b,104,4,[_,_,_,_]⟩::_::([⟨bv,91,Z*1,flatMap gV (I.set level (⟨(I[level]'E).l++[i],some ⟨U,0,none⟩,O,[⟨U,3,O*1,flatMap cI ((I[level]'E).l++[i])⟩]⟩:dA))⟩]++([⟨U,3,O*1,flatMap cI ((I[level]'E).l++[i])⟩]++((I.eraseIdx level).flatMap dA.s))))⟩) (Wk.dN rfl rfl fg) rfl ?_;refine AD.done ay ?_;exact⟨rfl,(⟨(I[level]'E).l++[i],some ⟨U,0,none⟩,O,[⟨U,3,O*1,flatMap cI ((I[level]'E).l++[i])⟩]⟩:dA),bI K5 K6,rfl,by rw[length_set];exact Wk.perm (Perm.cons _ (Perm.cons _ (Perm.cons _ ((qC dA.s E (⟨(I[level]'E).l++[i],some ⟨U,0,none⟩,O,[⟨U,3,O*1,flatMap cI ((I[level]'E).l++[i])⟩]⟩:dA)).symm.append_left _))))⟩
 rintro _ _ ⟨rfl,o2,oT,FO,Kb⟩;refine CD.wk Kb ?_;refine ae [0,2,3,4,13,97] ?_;refine aq (fun bC bY=>?_) (fun bC bY=>?_)
 ·refine ae [10] ?_;refine aJ (SW t b bm (m++[i]) (I.set level o2) (some ⟨bv,0,none⟩) Z _) ?_;rw[abP pJ nQ (by rw[pN];exact bC)];exact⟨rfl,_,_,_,_,bI (by rw[length_set];exact BU) Bo,R7 pD oT,I9 zv E FO,rfl⟩
 have fF:(t.pg i).leaf=false:=(by rw[pN];exact bC)
 have Fs:nv t (m++[i],(I.set level o2).map dA.l):=(by rw[I9 zv E FO];exact FR.add hr pJ hlm)
 have aiX:=OZ po (by rw[←pN];exact fF);have anG:=(po.node (by rw[←pN];exact fF)).1;have anH:=po.eK;have Bp:(t.af[i.toNat]'aa).high=high:=(by rw[←pN];exact Classical.byContradiction fun h=>nQ (.inl h))
 refine ae [0,2,3,4,13,14] ?_;refine ae [0,2,3,4,13,14,100,101,102] ?_;refine eB [0,2,3,4,13,100,101] (fun aW _ (l6:Nat×Option Nat×List Int×List dA×Option Addr×Nat×List ag) aK=>match l6 with|(k,deep,m2,L2,uv,tV,uw)=>(k≤(t.af[i.toNat]'aa).kids.length)∧(lA (fun c lo hi s=>jh t f c lo hi (level+1) s) low (t.af[i.toNat]'aa) ((t.af[i.toNat]'aa).kids.drop k) k deep (m2,(L2.map dA.l))=(jh t (f+1) i low high level (m,(L.map dA.l))))∧(zu L2 uv tV uw)∧(∀o∈L2,mK o)∧(nv t (m2,(L2.map dA.l)))∧(level+1≤m2.length)∧(t.af.length+1≤f+m2.length)∧((k=0∨deep≠none))∧aK=(⟨148,(14,.v (.int .i64 (rU deep)))::(102,.v (.int .i64 (k:Nat)))::aW,(⟨mh,93,5,cP (t.af[i.toNat]'aa)⟩::⟨b,104,4,[.list 5 (t.af.flatMap cP) t.af.length,.v (.int .i64 t.root),.v (.map (some bm)),.v (.slice uv L2.length tV)]⟩::kG bm m2::(uw++L2.flatMap dA.s))⟩:St)) (fun (l6:Nat×Option Nat×List Int×List dA×Option Addr×Nat×List ag)=>match l6 with|(k,deep,m2,L2,uv,tV,uw)=>(t.af[i.toNat]'aa).kids.length-k) (0,none,(m++[i]),(I.set level o2),(some ⟨bv,0,none⟩),Z,[⟨bv,91,Z*1,flatMap gV (I.set level o2)⟩]) ⟨(Nat.zero_le _),(by rw[abQ pJ nQ fF,I9 zv E FO,pN];rfl),(bI (by rw[length_set];exact BU) Bo),(R7 pD oT),Fs,F8,F8,(.inl rfl),rfl⟩ ?_;rintro⟨k,deep,m2,L2,uv,tV,uw⟩ _ ⟨hk,CZ,Ve,jE,Fs,Vf,aiY,hdp,rfl⟩;refine ae [0,2,3,4,13,14,100,101,102,103] ?_
 refine aq (fun cy de=>?_) (fun cy de=>?_)
 ·have dS:k<(t.af[i.toNat]'aa).kids.length:=(by omega)
  have Xt:=aiX _ (getElem_mem dS);have hhk:(gH (t.af[i.toNat]'aa) k).length≤100:=(by unfold gH;rw[getD_eq_getElem?_getD];rcases Nat.lt_or_ge k (t.af[i.toNat]'aa).keys.length with q|q;(rw[getElem?_eq_getElem q];exact(po.kW _ (getElem_mem q)).2);(rw[getElem?_eq_none q];exact po.hlen))
  refine ae [0,2,3,4,13,14,15,16,100,101,102] ?_;refine ae [0,2,3,4,13,14,15,16,17,18,100,101,102] ?_;refine CD.cut (fun aK=>aK=(⟨148,[(0,.v (.pointer (some ⟨b,0,none⟩))),(2,.list 1 (low.flatMap cB) low.length),(3,.list 1 (high.flatMap cB) high.length),(4,.v (.int .i64 (level:Nat))),(13,.v (.pointer (some ⟨mh,0,none⟩))),(14,.v (.int .i64 (rU deep))),(15,.v (.int .i64 (k:Nat))),(16,.v (.int .i64 ((t.af[i.toNat]'aa).kids[k]'dS))),(17,.list 1 ((gY low (t.af[i.toNat]'aa) k).flatMap cB) (gY low (t.af[i.toNat]'aa) k).length),(18,.list 1 (high.flatMap cB) high.length),(100,.list 1 ((t.af[i.toNat]'aa).kids.flatMap cI) (t.af[i.toNat]'aa).kids.length),(101,.v (.int .i64 ((t.af[i.toNat]'aa).kids.length:Nat))),(102,.v (.int .i64 (k:Nat)))],(⟨mh,93,5,cP (t.af[i.toNat]'aa)⟩::⟨b,104,4,[.list 5 (t.af.flatMap cP) t.af.length,.v (.int .i64 t.root),.v (.map (some bm)),.v (.slice uv L2.length tV)]⟩::kG bm m2::(uw++L2.flatMap dA.s))⟩:St)) ?_ ?_
  ·refine ae [0,2,3,4,13,14,15,16,17,18,100,101,102,110] ?_;refine aq (fun dO eo=>?_) (fun dO eo=>?_)
   ·have eT:gY low (t.af[i.toNat]'aa) k=(t.af[i.toNat]'aa).keys[k-1]'w4:=(by unfold gY;rw[if_neg w4,getD_eq_getElem?_getD,getElem?_eq_getElem w4];rfl)
    refine gW [0,2,3,4,13,14,15,16,17,18,100,101,102] ?_;refine aQ 4 ?_ (h:=by exact(c9 1 (h:=by first|exact .l (j:=k-1) w4 w4|exact .r (j:=k-1) w4 w4)));refine bH ?_;refine⟨_,(aM (h:=by repeat (first|exact trivial|refine⟨(by (repeat (first|exact fw|(apply fP;focus (first|rfl|(rw[eT];done)|(simp;done)))|(apply fA;focus rfl)));done),?_⟩))),rfl⟩
   have eT:gY low (t.af[i.toNat]'aa) k=low:=(by unfold gY;rw[if_pos w4])
   refine CD.skip ?_;refine⟨_,(aM (h:=by repeat (first|exact trivial|refine⟨(by (repeat (first|exact fw|(apply fP;focus (first|rfl|(rw[eT];done)|(simp;done)))|(apply fA;focus rfl)));done),?_⟩))),rfl⟩
  rintro _ ⟨rfl⟩;refine CD.cut (fun aK=>aK=(⟨148,[(0,.v (.pointer (some ⟨b,0,none⟩))),(2,.list 1 (low.flatMap cB) low.length),(3,.list 1 (high.flatMap cB) high.length),(4,.v (.int .i64 (level:Nat))),(13,.v (.pointer (some ⟨mh,0,none⟩))),(14,.v (.int .i64 (rU deep))),(16,.v (.int .i64 ((t.af[i.toNat]'aa).kids[k]'dS))),(17,.list 1 ((gY low (t.af[i.toNat]'aa) k).flatMap cB) (gY low (t.af[i.toNat]'aa) k).length),(18,.list 1 ((gH (t.af[i.toNat]'aa) k).flatMap cB) (gH (t.af[i.toNat]'aa) k).length),(100,.list 1 ((t.af[i.toNat]'aa).kids.flatMap cI) (t.af[i.toNat]'aa).kids.length),(101,.v (.int .i64 ((t.af[i.toNat]'aa).kids.length:Nat))),(102,.v (.int .i64 (k:Nat)))],(⟨mh,93,5,cP (t.af[i.toNat]'aa)⟩::⟨b,104,4,[.list 5 (t.af.flatMap cP) t.af.length,.v (.int .i64 t.root),.v (.map (some bm)),.v (.slice uv L2.length tV)]⟩::kG bm m2::(uw++L2.flatMap dA.s))⟩:St)) ?_ ?_
  ·refine ae [0,2,3,4,13,14,15,16,17,18,100,101,102,121] ?_;refine aq (fun eS fW=>?_) (fun eS fW=>?_)
   ·have eu:gH (t.af[i.toNat]'aa) k=(t.af[i.toNat]'aa).keys[k]'w4:=(by unfold gH;rw[getD_eq_getElem?_getD,getElem?_eq_getElem w4];rfl)
    refine cj [0,2,3,4,13,14,16,17,18,100,101,102] ?_;refine⟨_,(aM (h:=by repeat (first|exact trivial|refine⟨(by (repeat (first|exact fw|(apply fP;focus (first|rfl|(rw[eu];done)|(simp;done)))|(apply fA;focus rfl)));done),?_⟩))),rfl⟩
   have eu:gH (t.af[i.toNat]'aa) k=high:=(by unfold gH;rw[getD_eq_getElem?_getD,getElem?_eq_none w4];exact Bp)
   refine CD.skip ?_;refine⟨_,(aM (h:=by repeat (first|exact trivial|refine⟨(by (repeat (first|exact fw|(apply fP;focus (first|rfl|(rw[eu];done)|(simp;done)))|(apply fA;focus rfl)));done),?_⟩))),rfl⟩
  rintro _ ⟨rfl⟩;refine aC 5 ?_;refine bN (cZ (r:=.int .i64 ((level+1:Nat):Int)) rfl ot bJ (j3 (by rw[show((level:Nat):Int)+1=((level+1:Nat):Int) from rfl];exact wrap_i64 w4 w4))) ?_;refine OD.call an rfl rfl rfl call37 (ih ((t.af[i.toNat]'aa).kids[k]'dS) (gY low (t.af[i.toNat]'aa) k) (gH (t.af[i.toNat]'aa) k) (level+1) m2 L2 uv tV uw Xt Fs Vf aiY hhk Ve jE) ⟨ot,ot,ot,ot,ot,trivial⟩ (perm_append_singleton _ _).symm ?_;rintro r19 S19 mz;rcases jx:jh t f ((t.af[i.toNat]'aa).kids[k]'dS) (gY low (t.af[i.toNat]'aa) k) (gH (t.af[i.toNat]'aa) k) (level+1) (m2,(L2.map dA.l)) with _|⟨d,m3,lv3⟩
  ·rw[jx] at mz;obtain⟨rfl,rfl⟩:=mz;have agv:=CZ.symm.trans (aak dS jx);refine aj 148 [0,2,3,4,13,14,19,100,101,102] ?_;refine aC 3 ?_;refine bS 136 (fun Bq JH=>?_) (fun Bq JH=>?_)
   ·refine bf [0,2,3,4,13,19,100,101,102,144] ?_;refine eC ?_;refine ae [10] ?_;refine aJ [] ?_;rw[agv];exact⟨rfl,rfl⟩
   exact absurd Bq w7
  rw[jx] at mz;obtain⟨rfl,L3,GM,FT,GN,Vg,xj,rfl,rfl⟩:=mz;obtain⟨Ud,Fg⟩:=I8 hp _ _ _ _ _ _ _ _ Xt Fs Vf jx;have Fg:m2.length≤m3.length:=Fg;refine OD.perm (perm_append_singleton _ _) ?_;refine aj 148 [0,2,3,4,13,14,19,100,101,102] ?_;refine aC 3 ?_;refine bS 136 (fun Bq JH=>?_) (fun Bq JH=>?_)
  ·exact absurd Bq (by intro e;have e:=of_decide_eq_true e;omega)
  refine aD 3 ?_;refine bS 139 (fun y7 ae5=>?_) (fun y7 ae5=>?_)
  ·refine bf [0,2,3,4,13,19,100,101,102,144] ?_;refine aq (fun eL gg=>?_) (fun eL gg=>?_)
   ·refine ae [10] ?_;refine aJ [] ?_;rw[CZ.symm.trans (abR dS jx (abT (by simpa using y7) (by simpa using eL)))];exact⟨rfl,rfl⟩
   refine cj [0,2,3,4,13,14,100,101,102] ?_;refine cj [0,2,3,4,13,14,100,101,102] ?_;refine⟨((k+1),(some d),m3,L3,GM,FT,GN),_,cx,aM,w4,((O0 dS jx (by first|exact .inl (O1 (by simpa using y7))|exact .inr (QC (by simpa using y7) (by simpa using eL)))).symm.trans CZ),Vg,xj,Ud,w4,w4,(.inr (fun e=>by cases e)),rfl⟩
  refine bf [0,2,3,4,13,19,100,101,102,144] ?_;refine fL ?_;refine cj [0,2,3,4,13,14,100,101,102] ?_;refine cj [0,2,3,4,13,14,100,101,102] ?_;refine⟨((k+1),(some d),m3,L3,GM,FT,GN),_,cx,aM,w4,((O0 dS jx (by first|exact .inl (O1 (by simpa using y7))|exact .inr (QC (by simpa using y7) (by simpa using eL)))).symm.trans CZ),Vg,xj,Ud,w4,w4,(.inr (fun e=>by cases e)),rfl⟩
 obtain rfl:k=(t.af[i.toNat]'aa).kids.length:=(by omega)
 obtain⟨d,rfl⟩:∃d,deep=some d:=(by rcases hdp with h|h;omega;exact Option.ne_none_iff_exists'.1 h)
 refine ae [10] ?_;refine aJ (SW t b bm m2 L2 uv tV uw) ?_;rw[←CZ,abS (Nat.le_refl _)];exact⟨rfl,L2,uv,tV,uw,Ve,jE,rfl,rfl⟩

end Go.Proofs.YtbcmjoaggammcaaGreatDoor.Tw

namespace Go.Proofs.YtbcmjoaggammcaaGreatDoor.Tw
open List
open Go.Proofs.Tryz
open Go.RowKit V Go.Proofs.YtbcmjoaggammcaaGreatDoor.Tr Pk
theorem Ja{G:List (Nat×List Value)}(t:aE)(hp:uI t)(I:t.af.length≤4000)(b Z:Nat):∀f,Uc G t b Z f
 | 0=>fun i low high level m L ad cap Sx hr E O U _ _ _=>by have h:m.length≤t.af.length:=E.mY;exfalso;omega
 | f+1=>fun i low high level m L ad cap Sx hr E O U Xq mG aS=>aam t hp I b Z f (Ja t hp I b Z f) i low high level m L ad cap Sx hr E O U Xq mG aS
theorem Jb(t:aE):nv t ([],[]):=⟨nodup_nil,(fun x h=>by cases h),Nat.le_refl _,(fun l h=>by cases h),(fun l h=>by cases h)⟩
theorem Jc{t:aE}{e:Int}:∀{l:List Int},eZ t l e↔∀k (h:k<l.length),(t.pg l[k]).next=l.getD (k+1) e
  | []=>⟨(fun _ k h=>by cases h),fun _=>trivial⟩
  | [i] => ⟨fun h k hk => by obtain rfl : k=0 := by (simp at hk; exact hk)
                             exact h,fun h=>h 0 bq⟩
  | i::j::r=>by
    show(t.pg i).next=j∧eZ t (j::r) e↔_;rw[Jc (l:=j::r)];constructor
    · rintro⟨h1,h2⟩ k hk;cases k with
      | zero=>exact h1
      | succ k=>exact h2 k (by simpa using hk)
    intro h;exact⟨h 0 bq,fun k hk=>h (k+1) (by simpa using hk)⟩
theorem O3{p:cR}{n:Int}:Bm p n=true↔ez p n:=by unfold Bm;simp
section
variable {t:aE}
theorem NN(h:t.af.length<1∨t.af.length>4000∨t.root<0∨t.root≥t.af.length):gq t=11:=by unfold gq;rw[if_pos h]
theorem Y1(h:¬uI t):gq t=11:=by
 unfold gq;split
 ·rfl
 first|rfl|rw[if_pos h]
variable {d:Nat} {m:List Int} {lv:List (List Int)}
theorem Y2(hw:jh t (t.af.length+1) t.root [] [] 0 ([],[])=none):gq t=11:=by
 unfold gq;split
 ·rfl
 split
 ·rfl
 rw[hw]
theorem aan(hw:jh t (t.af.length+1) t.root [] [] 0 ([],[])=some (d,m,lv))(h:m.length≠t.af.length):gq t=11:=by
 unfold gq;split
 ·rfl
 split
 ·rfl
 rw[hw];exact if_pos h
open Classical in
theorem aao(hw:jh t (t.af.length+1) t.root [] [] 0 ([],[])=some (d,m,lv))(h:¬∀l∈lv,eZ t l (-1)):gq t=11:=by
 unfold gq;split
 ·rfl
 split
 ·rfl
 rw[hw];show(if m.length≠t.af.length then (11:Int) else if ∀l∈lv,eZ t l (-1) then 0 else 11)=11;split
 ·rfl
 first|rfl|rw[if_neg h]
open Classical in
theorem aap(h1:¬(t.af.length<1∨t.af.length>4000∨t.root<0∨t.root≥t.af.length))(h2:uI t)(hw:jh t (t.af.length+1) t.root [] [] 0 ([],[])=some (d,m,lv))(h3:m.length=t.af.length)(h:∀l∈lv,eZ t l (-1)):gq t=0:=by
 unfold gq;rw[if_neg h1,if_neg (fun hn=>hn h2),hw];show(if m.length≠t.af.length then (11:Int) else if ∀l∈lv,eZ t l (-1) then 0 else 11)=0;rw[if_neg (fun hn=>hn h3),if_pos h]
end
def xY(l:List Int):List D:=[.list 1 (l.flatMap cI) l.length]
theorem adD(l:List Int):(xY l).length=1:=rfl
theorem R8{S:List ag}:∀{L:List dA},(∀o∈L,mK o)→(∀B∈L.flatMap dA.s,B∈S)→gv S (L.flatMap gV) ((L.map dA.l).flatMap xY)
 | [],_,_=>trivial
 | o::L,h,hs=>by
  rw[map_cons,flatMap_cons,flatMap_cons];refine gv.append ⟨lj (h o mem_cons_self) (cq ey _) (fun B E=>hs B ?_),trivial⟩ (R8 (fun o ho=>h o (mem_cons_of_mem _ ho)) fun B E=>hs B ?_)
  ·rw[flatMap_cons];exact mem_append_left _ E
  rw[flatMap_cons];exact mem_append_right _ E
theorem ae6{Sx:List ag}{L:List dA}{ad:Option Addr}{cap:Nat}{lv:List (List Int)}(ho:zu L ad cap Sx)(h:∀o∈L,mK o)(hm:L.map dA.l=lv):View (Sx++L.flatMap dA.s) (.v (.slice ad L.length cap)) (.list 1 (lv.flatMap xY) lv.length):=by
 subst hm;have:=Ay ho (R8 (S:=Sx++L.flatMap dA.s) h fun B E=>mem_append_right _ E) (cq adD _ |>.trans bq) (fun B E=>mem_append_left _ E);rw[length_map];exact this
variable {G:List (Nat×List Value)}

theorem oX(t:aE)(hb:∀p∈t.af,p.keys.length≤maxLen∧p.kids.length≤maxLen):VP Tryz.prog G 16 [.agg (cT t)] (.v (.int .i64 (gq t))):=by
 refine VC.body func16 rfl ntmps16 aO fun X0 w0 aZ=>?_;unfold cT;have dy:maxLen=9223372036854775807:=rfl;refine bX ?_;refine OD.box (ds:=[_,_]) an rfl rfl ot rfl rfl (fun b1=>?_);refine aj 104 [1] ?_;refine aC 5 ?_;refine bS 15 (fun BE agw=>?_) (fun BE agw=>?_)
 ·exact z75
 refine aD 6 ?_;refine bS 21 (fun qj agx=>?_) (fun qj agx=>?_)
 ·exact z75
 refine aD 5 ?_;refine bS 26 (fun aiZ Kc=>?_) (fun aiZ Kc=>?_)
 ·exact z75
 refine bf [1,33] ?_;refine aq (fun az aH=>?_) (fun az aH=>?_)
 ·refine ae [2] ?_;refine eJ ?_;exact⟨vi (NN w4).symm,rfl⟩
 refine ae [1,35,36,37] ?_;refine eB [1,35,36] (fun aW _ (i:Nat) aK=>(i≤t.af.length)∧(∀j (h:j<t.af.length),j<i→ez t.af[j] t.af.length)∧aK=(⟨104,(37,.v (.int .i64 (i:Nat)))::aW,[⟨b1,46,2,[.list 5 (t.af.flatMap cP) t.af.length,.v (.int .i64 t.root)]⟩]⟩:St)) (fun (i:Nat)=>t.af.length-i) 0 ⟨(Nat.zero_le _),(fun j h h0=>by omega),rfl⟩ ?_;rintro i _ ⟨hi,pN,rfl⟩;refine ae [1,35,36,37,38] ?_;refine aq (fun aG aV=>?_) (fun aG aV=>?_)
 ·have aa:i<t.af.length:=(by omega)
  obtain⟨dS,fp⟩:=hb (t.af[i]'aa) (getElem_mem aa);refine aC 2 ?_;refine OD.alloc (ds:=[_,_,_,_,_]) an rfl rfl zeroValue93 rfl (fun b4=>?_);refine aN 0 [_,_,_,_,_] sizeOf93 ?_;refine aj 104 [1,4,35,36,37] ?_;refine cL [1,35,36,37,46] (adt (t.af[i]'aa) (t.af.length:Nat) dS fp) ?_;refine aq (fun aY bz=>?_) (fun aY bz=>?_)
  ·have nU:¬uI t:=fun h=>by have:=O3.2 (h (t.af[i]'aa) (getElem_mem aa));rw[this] at aY;cases aY
   refine ae [2] ?_;refine aJ [] ?_;exact⟨vi (Y1 nU).symm,rfl⟩
  have ai0:ez (t.af[i]'aa) t.af.length:=O3.1 (by simpa using aY);refine cj [1,35,36,37] ?_;refine⟨(i+1),_,cx,aM,w4,(fun j h h0=>by rcases Nat.lt_or_ge j i with q|q;exact pN j h q;obtain rfl:j=i:=w4;exact ai0),rfl⟩
 have fa:uI t:=fun p h=>by obtain⟨j,hj,rfl⟩:=mem_iff_getElem.1 h;exact pN j hj w4
 have h4:t.af.length≤4000:=(by omega)
 have E:0≤t.root∧t.root<t.af.length:=(by omega)
 refine aC 1 ?_;refine OD.acJ an rfl rfl (fun O=>?_);refine aD 1 ?_;refine OD.box (ds:=[_,_,_,_]) an rfl rfl ot rfl rfl (fun U=>?_);refine aj 104 [1,5] ?_;refine CD.seq ?_;refine CD.seq ?_;rcases jx:jh t (t.af.length+1) t.root [] [] 0 ([],[]) with _|⟨d,m,lv⟩
 ·refine fK 14 (ap (drop 2 _)) ?_ (fun _ h=>(Sublist.map _ (drop_sublist _ _)).subset h);refine ax 0 rfl bj ?_;refine ax 1 rfl (c8 1) ?_;refine ax 2 rfl (dB 2) ?_;refine dm.later rfl ?_;refine AD.one (i:=3) ay ?_;refine bg.call rfl an rfl rfl rfl call37 (VC.eD (args':=[.v (.pointer (some ⟨U,0,none⟩)),.v (.int .i64 t.root),.v (.slice none 0 0),.v (.slice none 0 0),.v (.int .i64 0)]) (Ja t fa h4 U O (t.af.length+1) t.root [] [] 0 [] [] none 0 [] E (Jb t) (Nat.le_refl _) (Nat.le_refl _) w7 iw (fun o h=>by cases h)) ⟨.inl rfl,.inl rfl,.inr ⟨1,rfl,rfl⟩,.inr ⟨1,rfl,rfl⟩,.inl rfl,trivial⟩) ⟨ot,ot,bJ,bJ,bJ,trivial⟩ (Perm.refl _) ig ?_;rintro r55 L5 mz;rw[show map dA.l []=[] from rfl,jx] at mz;obtain⟨rfl,rfl⟩:=mz;refine cr 4 rfl mH ?_;refine cr 5 rfl bj ?_;refine AD.split (t:=57) lk (fun tQ=>?_) (fun tQ=>?_)
  ·have Bh:=tQ;(try simp only[V.ng,ne_eq] at Bh)
   refine pG 6 rfl ?_;refine pG 7 rfl ?_;refine pG 11 rfl ?_;refine pG 12 rfl ?_;refine pG 13 rfl ?_;refine AD.one (i:=8) ay ?_;refine bg.skip rfl (mj rfl rfl rfl lk ji) rfl ?_;refine AD.one (i:=9) ay ?_;refine bg.skip rfl (mj rfl rfl rfl lk ji) rfl ?_;refine AD.one (i:=10) ay ?_;refine bg.skip rfl (mj rfl rfl rfl lk ji) rfl ?_;refine eA ?_;refine bf [1,5,67] ?_;refine eC ?_;try have I:m.length≠t.af.length:=by intro e;rw[e] at bC;simp at bC
   refine ae [2] ?_;refine eJ ?_;exact⟨vi (Y2 jx).symm,rfl⟩
  exact absurd tQ w7
 refine fK 14 (ap (drop 2 _)) ?_ (fun _ h=>(Sublist.map _ (drop_sublist _ _)).subset h);refine ax 0 rfl bj ?_;refine ax 1 rfl (c8 1) ?_;refine ax 2 rfl (dB 2) ?_;refine dm.later rfl ?_;refine AD.one (i:=3) ay ?_;refine bg.call rfl an rfl rfl rfl call37 (VC.eD (args':=[.v (.pointer (some ⟨U,0,none⟩)),.v (.int .i64 t.root),.v (.slice none 0 0),.v (.slice none 0 0),.v (.int .i64 0)]) (Ja t fa h4 U O (t.af.length+1) t.root [] [] 0 [] [] none 0 [] E (Jb t) (Nat.le_refl _) (Nat.le_refl _) w7 iw (fun o h=>by cases h)) ⟨.inl rfl,.inl rfl,.inr ⟨1,rfl,rfl⟩,.inr ⟨1,rfl,rfl⟩,.inl rfl,trivial⟩) ⟨ot,ot,bJ,bJ,bJ,trivial⟩ (Perm.refl _) ig ?_;rintro r55 L5 mz;rw[show map dA.l []=[] from rfl,jx] at mz;obtain⟨rfl,L,ad,cap,Sx,mG,aS,zv,rfl⟩:=mz;refine AD.perm (Perm.cons _ (Perm.cons _ (perm_append_singleton _ _))) ?_;refine cr 4 rfl mH ?_;refine cr 5 rfl bj ?_;refine AD.split (t:=57) lk (fun tQ=>?_) (fun tQ=>?_)
 ·exact absurd tQ (by intro e;have e:=of_decide_eq_true e;omega)
 have Bh:=tQ;(try simp only[V.ng,ne_eq] at Bh)
 refine cr 6 rfl bj ?_;refine cr 7 rfl lG ?_;refine cr 11 rfl (c8 0) ?_;refine cr 12 rfl (dB 2) ?_;refine cr 13 rfl qv ?_;refine AD.one (i:=8) ay ?_;refine at_ rfl (c8 2) ?_;refine AD.one (i:=9) ay ?_;refine at_ rfl (dB 0) ?_;refine AD.one (i:=10) ay ?_;refine at_ rfl (YM (i:=1) rfl rfl ot rfl underlying101) ?_;refine eA ?_;refine bf [1,5,67] ?_;refine aq (fun bC bY=>?_) (fun bC bY=>?_)
 ·try have I:m.length≠t.af.length:=by intro e;rw[e] at bC;simp at bC
  refine ae [2] ?_;refine eJ ?_;exact⟨vi (aan jx I).symm,rfl⟩
 have I:m.length=t.af.length:=(by have:=bC;simp at this;omega)
 refine CD.wk (Wk.cover (A:=⟨U,104,4,[.list 5 (t.af.flatMap cP) t.af.length,.v (.int .i64 t.root),.v (.map (some O)),.v (.slice ad L.length cap)]⟩) (R:=[kG O m,⟨b1,46,2,[.list 5 (t.af.flatMap cP) t.af.length,.v (.int .i64 t.root)]⟩]) (Sd:=Sx++L.flatMap dA.s) (cs':=[.list 5 (t.af.flatMap cP) t.af.length,.v (.int .i64 t.root),.v (.map (some O)),.list 1 (lv.flatMap xY) lv.length]) (Perm.refl _) ⟨eP,eP,eP,ae6 mG aS zv,trivial⟩) ?_;obtain⟨Z,_⟩:=I8 fa _ _ _ _ _ _ _ _ E (Jb t) (Nat.le_refl _) jx;refine ae [1,71,72,73] ?_;refine WO (fun (i:Nat) aK=>(i≤lv.length)∧(∀j (_:j<i) (h:j<lv.length),eZ t lv[j] (-1))∧aK=(⟨104,[(1,.v (.pointer (some ⟨b1,0,none⟩))),(71,.list 1 (lv.flatMap xY) lv.length),(72,.v (.int .i64 (lv.length:Nat))),(73,.v (.int .i64 (i:Nat)))],[⟨b1,46,2,[.list 5 (t.af.flatMap cP) t.af.length,.v (.int .i64 t.root)]⟩]⟩:St)) (fun (i:Nat)=>lv.length-i) 0 ⟨(Nat.zero_le _),(fun j h _=>by omega),rfl⟩ ?_;rintro i _ ⟨jU,GO,rfl⟩;refine ae [1,71,72,73,74] ?_;refine aq (fun cy de=>?_) (fun cy de=>?_)
 ·have fp:i<lv.length:=(by omega)
  have CJ:∀x∈(lv[i]'fp),0≤x∧x<t.af.length:=Z.el _ (getElem_mem fp);have lP:(lv[i]'fp).length≤m.length:=Z.each _ (getElem_mem fp);have Xu:lv.length≤m.length:=Z.eK;refine ae [1,7,71,72,73] ?_;refine ae [1,7,71,72,73,77,78,79] ?_;refine WO (fun (k:Nat) aK=>(k≤(lv[i]'fp).length)∧(∀j (_:j<k) (h:j<(lv[i]'fp).length),(t.pg (lv[i]'fp)[j]).next=(lv[i]'fp).getD (j+1) (-1))∧aK=(⟨104,[(1,.v (.pointer (some ⟨b1,0,none⟩))),(7,.list 1 ((lv[i]'fp).flatMap cI) (lv[i]'fp).length),(71,.list 1 (lv.flatMap xY) lv.length),(72,.v (.int .i64 (lv.length:Nat))),(73,.v (.int .i64 (i:Nat))),(77,.list 1 ((lv[i]'fp).flatMap cI) (lv[i]'fp).length),(78,.v (.int .i64 ((lv[i]'fp).length:Nat))),(79,.v (.int .i64 (k:Nat)))],[⟨b1,46,2,[.list 5 (t.af.flatMap cP) t.af.length,.v (.int .i64 t.root)]⟩]⟩:St)) (fun (k:Nat)=>(lv[i]'fp).length-k) 0 ⟨(Nat.zero_le _),(fun j h _=>by omega),rfl⟩ ?_;rintro k _ ⟨hk,hn,rfl⟩;refine ae [1,7,71,72,73,77,78,79,80] ?_;refine aq (fun dO eo=>?_) (fun dO eo=>?_)
  ·have dS:k<(lv[i]'fp).length:=(by omega)
   have M8:=CJ _ (getElem_mem dS);have fT:((lv[i]'fp)[k]'dS).toNat<t.af.length:=(by omega)
   have Xv:t.pg ((lv[i]'fp)[k]'dS)=t.af[((lv[i]'fp)[k]'dS).toNat]'fT:=u0 M8;refine ae [1,7,8,9,71,72,73,77,78,79] ?_;refine ae [1,7,8,9,10,71,72,73,77,78,79] ?_;refine CD.cut (fun aK=>aK=(⟨104,[(1,.v (.pointer (some ⟨b1,0,none⟩))),(7,.list 1 ((lv[i]'fp).flatMap cI) (lv[i]'fp).length),(9,.v (.int .i64 ((lv[i]'fp)[k]'dS))),(10,.v (.int .i64 ((lv[i]'fp).getD (k+1) (-1)))),(71,.list 1 (lv.flatMap xY) lv.length),(72,.v (.int .i64 (lv.length:Nat))),(73,.v (.int .i64 (i:Nat))),(77,.list 1 ((lv[i]'fp).flatMap cI) (lv[i]'fp).length),(78,.v (.int .i64 ((lv[i]'fp).length:Nat))),(79,.v (.int .i64 (k:Nat)))],[⟨b1,46,2,[.list 5 (t.af.flatMap cP) t.af.length,.v (.int .i64 t.root)]⟩]⟩:St)) ?_ ?_
   ·refine ae [1,7,8,9,10,71,72,73,77,78,79,88] ?_;refine aq (fun eS fW=>?_) (fun eS fW=>?_)
    ·have kM:(lv[i]'fp).getD (k+1) (-1)=(lv[i]'fp)[k+1]'w4:=(by rw[getD_eq_getElem?_getD,getElem?_eq_getElem w4];rfl)
     refine gW [1,7,9,10,71,72,73,77,78,79] ?_;refine aQ 3 ?_ (h:=by exact(c9 1 (h:=by first|exact .l (j:=k+1) w4 w4|exact .r (j:=k+1) w4 w4)));refine bH ?_;exact z87
    have kM:(lv[i]'fp).getD (k+1) (-1) = -1:=(by rw[getD_eq_getElem?_getD,getElem?_eq_none w4];rfl)
    refine CD.skip ?_;exact z87
   rintro _ ⟨rfl⟩;refine cN [1,7,71,72,73,77,78,79,101] ?_;refine aQ 3 ?_ (h:=by exact(c9 5 (h:=by first|exact .l (j:=((lv[i]'fp)[k]'dS).toNat) (Int.toNat_of_nonneg M8.1).symm fT|exact .r (j:=((lv[i]'fp)[k]'dS).toNat) (Int.toNat_of_nonneg M8.1).symm fT)));refine bH ?_;refine aq (fun eL gg=>?_) (fun eL gg=>?_)
   ·have nU:¬∀l∈lv,eZ t l (-1):=fun h=>by have:=Jc.1 (h (lv[i]'fp) (getElem_mem fp)) k dS;rw[Xv] at this;simp[this] at eL
    refine ae [2] ?_;refine aJ [] ?_;exact⟨vi (aao jx nU).symm,rfl⟩
   have nE:(t.pg ((lv[i]'fp)[k]'dS)).next=(lv[i]'fp).getD (k+1) (-1):=(by rw[Xv];simpa using eL)
   refine cj [1,7,71,72,73,77,78,79] ?_;refine⟨(k+1),_,cx,aM,w4,(fun j h0 h=>by rcases Nat.lt_or_ge j k with q|q;exact hn j q h;obtain rfl:j=k:=w4;exact nE),rfl⟩
  have ai3:eZ t (lv[i]'fp) (-1):=Jc.2 fun j hj=>hn j w4 hj;refine cj [1,71,72,73] ?_;refine⟨(i+1),_,cx,aM,w4,(fun j h0 h=>by rcases Nat.lt_or_ge j i with q|q;exact GO j q h;obtain rfl:j=i:=w4;exact ai3),rfl⟩
 have mW:i=lv.length:=(by omega)
 refine ae [2] ?_;refine aJ [] ?_;exact⟨vi (aap w4 fa jx I fun l hl=>by obtain⟨j,hj,rfl⟩:=mem_iff_getElem.1 hl;exact GO j w4 hj).symm,rfl⟩

end Go.Proofs.YtbcmjoaggammcaaGreatDoor.Tw

namespace Go.Proofs.YtbcmjoaggammcaaGreatDoor.Tw
open List
open Go.Proofs.Tryz
open Go.RowKit V Tr Pk
variable {t:aE} {k:K}
noncomputable def kX(t:aE)(k:K):Int:=if gq t=0 then (if nX k=true then 0 else 1) else gq t
theorem Ec(h:¬gq t=0):kX t k=gq t:=by unfold kX;rw[if_neg h]
theorem DS(h:gq t=0)(hk:nX k=false):kX t k=1:=by unfold kX;rw[if_pos h,hk];rfl
theorem IE(h:gq t=0)(hk:nX k=true):kX t k=0:=by unfold kX;rw[if_pos h,hk];rfl
def dW(t:aE)(k:K)(h:Nat):Int:=(t.pg (aI t k h t.root)).kids.getD (aL (t.pg (aI t k h t.root)) k) 0
noncomputable def findF(t:aE)(k:K)(h:Nat):Int×Int:=if kX t k=0 then (if gZ t k h=true then (dW t k h,0) else (0,8)) else (0,kX t k)
theorem abU{h:Nat}(v:Valid t h):∀p∈t.af,p.keys.length≤maxLen∧p.kids.length≤maxLen:=fun p hp=>by
 have po:=v.page p hp;have dy:maxLen=9223372036854775807:=rfl;have h1:=po.eK;cases hl:p.leaf with
 | true=>have:=po.leaf hl;omega
 | false=>have:=(po.node hl).1;omega
theorem DP{h:Nat}(v:Valid t h)(k:K):(iS t k h t.root).length≤1000000:=by
 rw[Em];have:=v.high;have:=v.mY;omega
theorem Ir(h:nX k=true):0<k.length∧k.length≤100:=of_decide_eq_true h
variable {G:List (Nat×List Value)}
theorem Hj(t:aE)(k:K)(hb:∀p∈t.af,p.keys.length≤maxLen∧p.kids.length≤maxLen):VP Tryz.prog G 32 [.agg (cT t),.list 1 (k.flatMap cB) k.length] (.v (.int .i64 (kX t k))):=by
 refine VC.body func32 rfl ntmps32 aO fun X0 w0 aZ=>?_;have eY:=oX (G:=G) t hb;unfold cT at eY;unfold cT;refine bX ?_;refine OD.box (ds:=[_,_]) an rfl rfl ot rfl rfl (fun b2=>?_);refine aj 14 [1,2] ?_;refine cL [1,5] (eY) ?_;refine ae [1,5,9] ?_;refine aq (fun az aH=>?_) (fun az aH=>?_)
 ·have hn:¬gq t=0:=(by simpa using az)
  exact Wm
 have hz:gq t=0:=(by simpa using az)
 refine cL [13] (yN k) ?_;refine aq (fun aG aV=>?_) (fun aG aV=>?_)
 ·exact Wm
 refine ae [4] ?_;refine aJ [] ?_;first|exact⟨vi (Ec hn).symm,rfl⟩|exact⟨vi (DS hz vq).symm,rfl⟩|exact⟨vi (IE hz vq).symm,rfl⟩
theorem ae7(t:aE)(h:Nat)(k:K)(hb:∀p∈t.af,p.keys.length≤maxLen∧p.kids.length≤maxLen)(hv:gq t=0→Valid t h):VP Tryz.prog G 14 [.agg (cT t),.list 1 (k.flatMap cB) k.length] (.dz [.v (.int .i64 (findF t k h).1),.v (.int .i64 (findF t k h).2)]):=by
 refine VC.body func14 rfl ntmps14 aO fun X0 w0 aZ=>?_;have eY:=Hj (G:=G) t k hb;unfold cT at eY;unfold cT;have dy:maxLen=9223372036854775807:=rfl;refine bX ?_;refine OD.box (ds:=[_,_]) an rfl rfl ot rfl rfl (fun b2=>?_);refine aj 34 [1,2] ?_;refine cL [1,2,6] (eY) ?_;refine ae [1,2,6,14] ?_;refine aq (fun az aH=>?_) (fun az aH=>?_)
 ·have hn:¬kX t k=0:=(by simpa using az)
  refine ae [4,5] ?_;refine aJ [] ?_;exact⟨by unfold findF;rw[if_neg hn],rfl⟩
 have hz:kX t k=0:=(by simpa using az)
 have hc:gq t=0:=Classical.byContradiction fun e=>by rw[Ec e] at hz;exact e hz
 have U:nX k=true:=(by cases hq:nX k with|true=>rfl|false=>rw[DS hc hq] at hz;cases hz)
 have v:=hv hc;have dS:=Ir U;have fI:=pY (G:=G) t h v k w4 (DP v k);unfold cT at fI;obtain⟨q1,E⟩:=v.leaf k;have aa:(aI t k h t.root).toNat<t.af.length:=(by omega)
 have I:t.pg (aI t k h t.root)=(t.af[(aI t k h t.root).toNat]'aa):=u0 q1;refine cL [2,7,8,9] (fI) ?_;refine ae [2,7,8,24] ?_;refine aq (fun aG aV=>?_) (fun aG aV=>?_)
 ·have iJ:gZ t k h=false:=(by simpa using aG)
  refine ae [4,5] ?_;refine aJ [] ?_;exact⟨by unfold findF;rw[if_pos hz,if_neg xw],rfl⟩
 have iJ:gZ t k h=true:=(by simpa using aG)
 obtain⟨ha,MP⟩:=(DO v k).1 iJ;have po:=v.page _ (jr q1);have hle:=po.leaf E;have O:aL (t.pg (aI t k h t.root)) k<(t.pg (aI t k h t.root)).kids.length:=(by omega)
 have Z:aL (t.af[(aI t k h t.root).toNat]'aa) k<(t.af[(aI t k h t.root).toNat]'aa).kids.length:=(by rw[←I];exact O)
 rw[I];refine cN [4,5] ?_;refine aQ 3 ?_ (h:=by exact(c9 5 (h:=by first|exact .l (j:=(aI t k h t.root).toNat) (Int.toNat_of_nonneg q1.1).symm aa|exact .r (j:=(aI t k h t.root).toNat) (Int.toNat_of_nonneg q1.1).symm aa)));refine bH ?_;refine aJ [] ?_;exact⟨by unfold findF dW;rw[if_pos hz,if_pos iJ,I,s6 Z],rfl⟩
theorem aaq{S:List ag}:gv S [.v (.bool true),.v (.slice none 0 0),.v (.slice none 0 0),.v (.slice none 0 0),.v (.int .i64 (-1))] (cP (⟨true,[],[],[],-1⟩:cR)):=⟨eP,yh,yh,yh,eP,trivial⟩
theorem ae8(E:True):VC Tryz.prog G 84 [] [] (fun r S=>∃b,r = .agg [.v (.slice (some ⟨b,0,none⟩) 1 1),.v (.int .i64 0)]∧S=[⟨b,93,5,[.v (.bool true),.v (.slice none 0 0),.v (.slice none 0 0),.v (.slice none 0 0),.v (.int .i64 (-1))]⟩]):=by
 refine VC.body func84 rfl ntmps84 aO fun X0 w0 aZ=>?_;refine bX ?_;refine OD.alloc (ds:=[_,_]) an rfl rfl zeroValue46 rfl (fun b0=>?_);refine aj 4 [0] ?_;refine aC 1 ?_;refine ee (bZ 0 [_]) [.bool false,.slice none 0 0,.slice none 0 0,.slice none 0 0,.int .i64 0] [_,_,_,_,_] zeroValue93 runUnderlying44 sizeOf93 (fun b2=>?_);refine aD 1 ?_;refine aN 1 [_,_] sizeOf46 ?_;refine aj 4 [0] ?_;refine aJ [_] ?_;exact⟨_,rfl,rfl⟩
theorem ae9:VP Tryz.prog G 84 [] (.agg (cT pC)):=VC.cover (ae8 trivial) fun r S ⟨b,hr,hS⟩=>by
 subst hr;subst hS;exact uD ⟨Ow (cs:=[.v (.bool true),.v (.slice none 0 0),.v (.slice none 0 0),.v (.slice none 0 0),.v (.int .i64 (-1))]) (e:=93) (size:=5) mem_cons_self aaq rfl (Nat.le_refl _) w7,eP,trivial⟩

end Go.Proofs.YtbcmjoaggammcaaGreatDoor.Tw
namespace Go.Proofs.YtbcmjoaggammcaaGreatDoor.Tr
open List
open Go.Proofs.Tryz
open Go.Lib (compareBytes)
variable {t:aE} {k:K} {row:Int}
variable {h m:Nat} {u:aE} {up:K}
def dc(t:aE)(k:K):Nat→Int→Nat→Int
 | 0,i,_=>i
 | h+1,i,m=>if m=h+1 then i else dc t k h ((t.pg i).kids.getD (aL (t.pg i) k) 0) m
theorem HJ:∀(h:Nat) (i:Int),dc t k h i h=i
 | 0,_=>rfl
 | h+1,i=>by rw[dc,if_pos rfl]
theorem Aw:∀{h:Nat} {i:Int} {m:Nat},m<h→dc t k h i m=(t.pg (dc t k h i (m+1))).kids.getD (aL (t.pg (dc t k h i (m+1))) k) 0
 | 0,_,_,hm=>by omega
 | h+1,i,m,hm=>by
  rw[dc,if_neg w4,dc];by_cases e:m=h
  ·subst e;rw[HJ,if_pos rfl]
  rw[if_neg w4];exact Aw w4
theorem O4:∀{h:Nat} {i:Int} {m:Nat},m≤h→(iS t k h i)[h-m]?=some (dc t k h i m)
 | 0,i,m,_=>by
  obtain rfl:m=0:=(by omega)
  rfl
 | h+1,i,m,hm=>by
  rw[iS,dc];by_cases e:m=h+1
  ·subst e;rw[if_pos rfl,Nat.sub_self];rfl
  rw[if_neg e,show h+1-m=(h-m)+1 from by omega,getElem?_cons_succ];exact O4 w4
theorem En{n:Int}(hp:∀p∈t.af,ez p n):∀{h:Nat} {i:Int} {low high:K},dQ t h i low high→(ids t h i).Nodup→lg low high k→(∀x∈dY t h i,x.1≠k)→∀m,m≤h →
  ∃lo hi,dQ t m (dc t k h i m) lo hi∧(ids t m (dc t k h i m)).Nodup∧lg lo hi k∧∀x∈dY t m (dc t k h i m),x.1≠k
 | 0,i,low,high,ok,nd,hk,hn,m,hm=>by
  obtain rfl:m=0:=(by omega)
  exact⟨low,high,ok,nd,hk,hn⟩
 | h+1,i,low,high,ok,nd,hk,hn,m,hm=>by
  by_cases e:m=h+1
  ·subst e;rw[HJ];exact⟨low,high,ok,nd,hk,hn⟩
  obtain⟨q1,q2,E,O,I⟩:=id ok;have po:=hp _ (jr q1);obtain⟨d1,d2⟩:=down po q2 E hk;have:=En hp (I _ d1) (vO d1 nd).1 d2 (fun x hx=>hn x LO) m w4;rw[←s6 d1] at this;rw[dc,if_neg e];exact this
structure afa (u:aE) (i:Int) (up:K) (aB:Int):Prop where
 page:∀p∈u.af,ez p u.af.length
 rg:0≤i∧i<u.af.length
 out:up∉(u.pg i).keys
 len:1≤up.length∧up.length≤100
 high:(u.pg i).high≠[]→bF up (u.pg i).high
 nn:0≤aB
 nnl:(u.pg i).leaf=false→aB<u.af.length
def j8(t:aE)(k:K)(row:Int)(h m:Nat):aE×Option (K×Int):=if m=0 then (t,some (k,row)) else gm t k row (m-1) (dc t k h t.root (m-1))
theorem QD(h:Nat):j8 t k row h (h+1)=gm t k row h t.root:=by unfold j8;rw[if_neg w4,Nat.add_sub_cancel,HJ]
theorem O5(hm:m≤h){aB:Int}(e:j8 t k row h m=(u,some (up,aB))):j8 t k row h (m+1)=qT u (dc t k h t.root m) up aB:=by
 unfold j8 at e ⊢;rw[if_neg w4,Nat.add_sub_cancel];cases m with
 | zero=>rw[if_pos rfl] at e;injection e with e1 e2;injection e2 with e2;injection e2 with e2 E;subst e1 e2 E;rw[gm]
 | succ m=>rw[if_neg w4,Nat.add_sub_cancel,Aw w4] at e;rw[gm,e]
theorem aar(h0:0<m)(hm:m≤h)(e:j8 t k row h m=(u,none)):j8 t k row h (m+1)=(u,none):=by
 unfold j8 at e ⊢;rw[if_neg w4,Nat.add_sub_cancel];cases m with
 | zero=>omega
 | succ m=>rw[if_neg w4,Nat.add_sub_cancel,Aw w4] at e;rw[gm,e]
theorem O6{h:Nat}{u:aE}:∀(d m:Nat),m+d=h+1→0<m→j8 t k row h m=(u,none)→gm t k row h t.root=(u,none)
 | 0,m,hm,_,e=>by
  obtain rfl:m=h+1:=(by omega)
  rw[←QD];exact e
 | d+1,m,hm,h0,e=>O6 d (m+1) w4 w4 (aar h0 w4 e)
theorem QE(v:Valid t h)(hn:∀x∈kI t h,x.1≠k)(hl:1≤k.length∧k.length≤100)(hr:0≤row)(hm:m≤h):∃lo hi,dQ t m (dc t k h t.root m) lo hi∧lg lo hi k∧og t (gm t k row m (dc t k h t.root m)).1 m (dc t k h t.root m) lo hi k row (gm t k row m (dc t k h t.root m)).2:=by
 obtain⟨lo,hi,ok,nd,hk,hne⟩:=En v.page v.ok v.zq (tr k) hn m hm;exact⟨lo,hi,ok,hk,E0 v.page ok nd hk hne hl hr⟩
theorem HK(v:Valid t h)(hn:∀x∈kI t h,x.1≠k)(hl:1≤k.length∧k.length≤100)(hr:0≤row)(hm:m≤h+1){r:Option (K×Int)}(e:j8 t k row h m=(u,r)):u.root=t.root∧u.af.length≤t.af.length+m∧t.af.length≤u.af.length∧∀p∈u.af,ez p u.af.length:=by
 unfold j8 at e;cases m with
 | zero=>rw[if_pos rfl] at e;injection e with e1 e2;subst e1;exact⟨rfl,Nat.le_refl _,Nat.le_refl _,v.page⟩
 | succ m =>
  rw[if_neg w4,Nat.add_sub_cancel] at e;obtain⟨lo,hi,_,_,I⟩:=QE v hn hl hr (m:=m) w4;rw[e] at I;exact⟨I.root,I.more,I.le,I.page⟩
theorem adE(v:Valid t h)(hn:∀x∈kI t h,x.1≠k)(hl:1≤k.length∧k.length≤100)(hr:0≤row)(hm:m≤h+1){aB:Int}(e:j8 t k row h m=(u,some (up,aB))):up.length≤100:=by
 unfold j8 at e;cases m with
 | zero=>rw[if_pos rfl] at e;injection e with e1 e2;injection e2 with e2;injection e2 with e2 E;subst e2;exact hl.2
 | succ m =>
  rw[if_neg w4,Nat.add_sub_cancel] at e;obtain⟨lo,hi,_,_,I⟩:=QE v hn hl hr (m:=m) w4;rw[e] at I;exact I.ok.1.2
theorem adF(v:Valid t h)(hn:∀x∈kI t h,x.1≠k)(hl:1≤k.length∧k.length≤100)(hr:0≤row)(hm:m≤h){aB:Int}(e:j8 t k row h m=(u,some (up,aB))):afa u (dc t k h t.root m) up aB:=by
 cases m with
 | zero =>
  unfold j8 at e;rw[if_pos rfl] at e;injection e with e1 e2;injection e2 with e2;injection e2 with e2 e3;subst e1 e2 e3
  obtain⟨lo,hi,⟨q1,q2,O,q4⟩,nd,hk,hne⟩:=En v.page v.ok v.zq (tr k) hn 0 hm;refine⟨v.page,q1,fun hm=>?_,hl,fun E=>?_,hr,fun h=>by rw[q2] at h;cases h⟩
  ·have po:=v.page _ (jr q1);have hlen:=po.leaf q2;obtain⟨a,ha,he⟩:=mem_iff_getElem.1 hm;exact hne (k,(t.pg (dc t k h t.root 0)).kids[a]'w4) ((AE hlen).2 ⟨a,ha,by rw[he]⟩) rfl
  rw[O] at E ⊢;exact hk.2 E
 | succ m =>
  obtain⟨s1,s2,s3,s4⟩:=HK v hn hl hr w4 e;unfold j8 at e;rw[if_neg w4,Nat.add_sub_cancel] at e;obtain⟨lo,hi,ok,nd,hk,hne⟩:=En v.page v.ok v.zq (tr k) hn (m+1) hm;obtain⟨q1,q2,O,q4,q5⟩:=id ok;have po:=v.page _ (jr q1);obtain⟨d1,d2⟩:=down po q2 O hk;have U:=E0 (row:=row) v.page (q5 _ d1) (vO d1 nd).1 d2 (fun x hx=>hne x LO) hl hr;rw[←s6 d1,←Aw w4,e,Aw w4] at U;have M:jo t u m (dc t k h t.root (m+1)) lo hi (aL (t.pg (dc t k h t.root (m+1))) k) k row (some (up,aB)):=⟨v.page,ok,nd,d1,d2,U⟩
  obtain⟨m1,m2,m3,m4⟩:=M.place;have Z:=M.same;obtain⟨o1,o2,o3,o4,o5⟩:(1≤up.length∧up.length≤100)∧_∧_∧_∧dQ u m aB up _:=U.ok;have I:=o5.idx;refine⟨s4,⟨q1.1,by omega⟩,by rw[Z];exact m2,o1,fun E=>?_,I.1,fun _=>I.2⟩;rw[Z,O] at E ⊢;exact m3.2 E

end Go.Proofs.YtbcmjoaggammcaaGreatDoor.Tr
namespace Go.Proofs.YtbcmjoaggammcaaGreatDoor.Tr
open List
open Go.Proofs.Tryz
open Go.Lib (compareBytes)
variable {t:aE} {h:Nat} {k:K}
variable {i:Int}
noncomputable def mT(t:aE)(h:Nat)(k:K):List (K×Int):=(kI t h).filter fun x=>decide (¬bF x.1 k)
def iQ(t:aE)(ls:List Int):List (K×Int):=ls.flatMap fun l=>eX (t.pg l)
theorem eZ.tail{r:List Int}{e:Int}(h:eZ t (i::r) e):eZ t r e:=by
 cases r with
 | nil=>trivial
 | cons j r=>exact h.2
theorem eZ.next{i:Int}{r:List Int}{e:Int}(h:eZ t (i::r) e):(t.pg i).next=r.headD e:=by
 cases r with
 | nil=>exact h
 | cons j r=>exact h.1
theorem eZ.drop{e:Int}:∀{a b:List Int},eZ t (a++b) e→eZ t b e
 | [],_,h=>h
 | i::a,b,h=>eZ.drop (a:=a) (eZ.tail h)
theorem QF:∀{h:Nat} {i:Int} {low high:K},dQ t h i low high→∀l∈cz t h i,(0≤l∧l<t.af.length)∧(t.pg l).leaf=true
 | 0,i,low,high,ok,l,hl=>by
  rw[cz,mem_singleton] at hl;subst hl;exact⟨ok.1,ok.2.1⟩
 | h+1,i,low,high,ok,l,hl=>by
  obtain⟨q1,q2,I,O,E⟩:=ok;rw[cz] at hl;obtain⟨c,hc,hl⟩:=mem_flatMap.1 hl;obtain⟨j,hj,rfl⟩:=mem_iff_getElem.1 hc;exact QF (E j hj) l hl
structure qN (t:aE) (ls:List Int):Prop where
 oS:eZ t ls (-1)
 at_:∀l∈ls,(0≤l∧l<t.af.length)∧(t.pg l).leaf=true
theorem qN.tail{i:Int}{r:List Int}(h:qN t (i::r)):qN t r:=⟨eZ.tail h.oS,fun l hl=>h.at_ l (mem_cons_of_mem _ hl)⟩
theorem qN.head{ls:List Int}(h:qN t ls):(0≤ls.headD (-1)→∃r,ls=ls.headD (-1)::r)∧(ls.headD (-1)<0→ls=[]):=by
 cases ls with
 | nil=>exact⟨fun h=>by simp at h,fun _=>rfl⟩
 | cons i r=>exact⟨fun _=>⟨r,rfl⟩,fun h0=>by have:=(h.at_ i mem_cons_self).1;simp at h0;omega⟩
theorem Of(v:Valid t h):qN t (cz t h t.root):=⟨v.oS h (Nat.le_refl _),QF v.ok⟩
theorem D3(v:Valid t h){l:Int}(hl:(0≤l∧l<t.af.length)∧(t.pg l).leaf=true):(eX (t.pg l)).length=(t.pg l).keys.length:=by
 have:=(v.page _ (jr hl.1)).leaf hl.2;unfold eX;rw[length_zip];omega
theorem Y3(v:Valid t h)(k:K):∃r,qN t (aI t k h t.root::r)∧mT t h k=(iQ t (aI t k h t.root::r)).drop (aL (t.pg (aI t k h t.root)) k)∧aL (t.pg (aI t k h t.root)) k≤(t.pg (aI t k h t.root)).keys.length:=by
 obtain⟨pre,post,e,he⟩:=Z5 v.page v.ok (tr k);have hL:=Of v;have hl:=v.leaf k;have fH:aL (t.pg (aI t k h t.root)) k≤(t.pg (aI t k h t.root)).keys.length:=by
  unfold aL;split
  ·exact yp _ _
  exact AO _ _
 rw[e] at hL;refine⟨post,⟨eZ.drop hL.oS,fun l hl=>hL.at_ l (mem_append_right _ hl)⟩,?_,fH⟩;unfold mT kI;rw[he];unfold iQ;rw[flatMap_cons,drop_append_of_le_length (by rw[D3 v hl];exact fH)]
theorem aas(v:Valid t h){r:List Int}(hL:qN t (i::r)){a:Nat}(ha:a<(t.pg i).keys.length)(hk:a<(t.pg i).kids.length) :
  (iQ t (i::r)).drop a=((t.pg i).keys[a],(t.pg i).kids[a])::(iQ t (i::r)).drop (a+1):=by
 have hi:=hL.at_ i mem_cons_self;have hlen:=D3 v hi;have h1:a<(iQ t (i::r)).length:=(by unfold iQ;rw[flatMap_cons,length_append];omega)
 rw[drop_eq_getElem_cons h1];congr 1;unfold iQ;simp only[flatMap_cons];rw[getElem_append_left w4];unfold eX;rw[getElem_zip]
theorem Y4(v:Valid t h){r:List Int}(hL:qN t (i::r)){a:Nat}(ha:a=(t.pg i).keys.length):(iQ t (i::r)).drop a=(iQ t r).drop 0:=by
 have hi:=hL.at_ i mem_cons_self;have hlen:=D3 v hi;unfold iQ;rw[flatMap_cons,drop_zero,drop_append_of_le_length w4,drop_eq_nil_of_le w4];rfl
theorem abV(v:Valid t h):kI t h=iQ t (cz t h t.root):=vX t h t.root
theorem D4(v:Valid t h):(kI t h).Pairwise fun x y=>bF x.1 y.1:=(I4 v.page v.ok).1
theorem aat(v:Valid t h)(k:K):(mT t h k).Pairwise fun x y=>bF x.1 y.1:=(D4 v).filter _
theorem abW(t:aE)(h:Nat):mT t h []=kI t h:=by
 unfold mT;rw[filter_eq_self.2];intro x _;simpa using JD x.1
theorem abX(v:Valid t h):(kI t h).length≤4*t.af.length:=by
 have key:∀(ls:List Int),(∀l∈ls,(0≤l∧l<t.af.length)∧(t.pg l).leaf=true)→(iQ t ls).length≤4*ls.length:=by
  intro ls;induction ls with
  | nil=>intro _;simp[iQ]
  | cons i r ih =>
   intro hl;have h1:=D3 v (hl i mem_cons_self);have h2:=(v.page _ (jr (hl i mem_cons_self).1)).eK;have h3:=ih fun l E=>hl l (mem_cons_of_mem _ E);unfold iQ at h3 ⊢;rw[flatMap_cons,length_append,length_cons];omega
 have I:(cz t h t.root).length≤(ids t h t.root).length:=by
  have:∀(h:Nat) (i:Int),(cz t h i).length≤(ids t h i).length:=by
   intro h;induction h with
   | zero=>intro i;simp[cz,ids]
   | succ h ih =>
    intro i;rw[cz,ids,length_cons,length_flatMap,length_flatMap];have:∀(l:List Int),(l.map fun a=>(cz t h a).length).sum≤(l.map fun a=>(ids t h a).length).sum:=by
     intro l;induction l with
     | nil=>simp
     | cons a l O=>simp only[map_cons,sum_cons];have:=ih a;omega
    have:=this (t.pg i).kids;omega
  exact this h t.root
 rw[abV v];have:=key _ (Of v).at_;rw[v.all] at I;omega
theorem QG(v:Valid t h)(k:K):(mT t h k).length≤16000:=by
 have:=abX v;have h1:=v.mY;have:(mT t h k).length≤(kI t h).length:=(filter_sublist).length_le;omega

end Go.Proofs.YtbcmjoaggammcaaGreatDoor.Tr
namespace Go.Proofs.YtbcmjoaggammcaaGreatDoor.Tw
open List
open Go.Proofs.Tryz
open Go.RowKit V Tr Pk
def cE(e:K×Int):List D:=[.list 1 (e.1.flatMap cB) e.1.length,.v (.int .i64 e.2)]
theorem Ta(e:K×Int):(cE e).length=2:=rfl
def FU(e:K×Int):List D:=[.agg (cE e)]
theorem afb(b:UInt8):fE (cB b)=true:=rfl
theorem yO(k:K):fE (k.flatMap cB)=true:=uH afb k
theorem yP(e:K×Int):fE (cE e)=true:=by simp[cE,fE,iu,yO]
theorem abY(e:K×Int):fE (FU e)=true:=by simp[FU,fE,iu,yP]
def Ke(t:aE)(k:K):List D:=[.fx [.list 5 (t.af.flatMap cP) t.af.length,.v (.int .i64 t.root)] 0,.fx [.list 1 (k.flatMap cB) k.length] 0]
variable {G:List (Nat×List Value)}
theorem rF : ∀ w, ((#[{ name := "Key", type := 49, offset := 0, embedded := false, tag := "", pkgPath := "", byteOffset := 0 }, { name := "Row", type := 3, offset := 1, embedded := false, tag := "", pkgPath := "", byteOffset := 24 }] : Array Field).mapM fun f => do pure (f.offset, ← sizeOf f.type) : Sem (Array (Nat × Nat))).run Tryz.prog w = .ok #[(0, 1), (1, 1)] w := fun w => by simp [sizeOf3, sizeOf49]
theorem abZ(t:aE)(h:Nat)(v:Valid t h)(k:K)(dS:k.length≤maxLen):VI Tryz.prog G 58 (Ke t k) FU (fun xs=>xs=mT t h k) (fun pre=>pre <+: mT t h k) (mT t h k).length:=by
 refine VI.body func58 rfl ntmps58 aO fun Y X0 w0 aZ Sc0 hYe hYN O hY hJ0=>?_;have dy:maxLen=9223372036854775807:=rfl;have fI:=pY (G:=G) t h v k w4 (DP v k);unfold cT at fI;obtain⟨r0,hL0,ai4,U9⟩:=Y3 v k;obtain⟨y1,y2,y3⟩:=(by exact⟨hYe,hYN,O⟩:Y.enc=FU∧Y.N=(mT t h k).length∧w0.heap.size≤Y.l)
 refine cL [0,1,4,5] (fI) ?_;refine CD.block ?_;refine mJ (fun (U:List Int×Nat×List (K×Int)×List ag) aK=>match U with|(ls,a,pre,Sc)=>(qN t ls)∧(mT t h k=pre++(iQ t ls).drop a)∧((∀x∈head? ls,a≤(t.pg x).keys.length))∧(Y.J pre Sc)∧aK=(⟨46,[(0,.jT Y.l Y.os),(1,.fx [.list 5 (t.af.flatMap cP) t.af.length,.v (.int .i64 t.root)] 0),(4,.v (.int .i64 (headD ls (-1)))),(5,.v (.int .i64 (a:Nat)))],Sc⟩:St)) (fun (U:List Int×Nat×List (K×Int)×List ag)=>match U with|(ls,a,pre,Sc)=>length ls) ((aI t k h t.root::r0),(aL (t.pg (aI t k h t.root)) k),[],Sc0) ⟨hL0,(by rw[nil_append];exact ai4),(fun x hx=>by simp at hx;subst hx;exact U9),hJ0,rfl⟩ (aM (h:=by repeat (first|exact trivial|refine⟨(by (repeat (first|exact fw|(apply fP;focus (first|rfl|(simp;done)|(rw[←gG,eZ.next hL.oS])))|(apply fA;focus rfl)));done),?_⟩))) ?_;rintro⟨ls,a,pre,Sc⟩ _ ⟨hL,M9,fH,hj,rfl⟩;refine ae [0,1,4,5,16] ?_;refine aq (fun az aH=>?_) (fun az aH=>?_)
 ·have M1:0≤headD ls (-1):=(by simpa using az)
  obtain⟨r,hr⟩:=(qN.head hL).1 M1;obtain⟨i,hi⟩:∃i,i=headD ls (-1):=⟨_,rfl⟩
  rw[←hi] at hr M1;subst hr;obtain⟨Ak,J9⟩:=hL.at_ i mem_cons_self;have aa:i.toNat<t.af.length:=(by omega)
  have gG:t.pg i=t.af[i.toNat]:=u0 Ak;have po:=v.page _ (jr Ak);have K3:=po.leaf J9;have mB:=po.eK;have Vh:=fH i rfl;have Ue:=v.mY;rw[gG] at po K3 mB Vh;refine aC 3 ?_;refine bN (c9 5 (h:=by first|exact .l (j:=i.toNat) (by show headD (i::r) (-1)=_;simp;omega) aa|exact .r (j:=i.toNat) (by show headD (i::r) (-1)=_;simp;omega) aa)) ?_;refine bN (cJ (mk:=Op.load 93) rfl ot (by exact jN (i:=i.toNat) E1 isAgg93 sizeOf93 aa)) ?_;refine OD.alloc (ds:=[_,_,_,_,_]) an rfl rfl zeroValue93 rfl (fun b7=>?_);refine aN 0 [_,_,_,_,_] sizeOf93 ?_;refine aj 46 [0,1,5,7] ?_;refine eB [0,1,7] (fun aW _ (U:Nat×List (K×Int)×List ag) aK=>match U with|(a,E,I)=>(mT t h k=E++(iQ t (i::r)).drop a)∧(a≤((t.af[i.toNat]'aa)).keys.length)∧(Y.J E I)∧aK=(⟨46,(5,.v (.int .i64 (a:Nat)))::aW,(⟨b7,93,5,cP (t.af[i.toNat]'aa)⟩::I)⟩:St)) (fun (U:Nat×List (K×Int)×List ag)=>match U with|(a,E,I)=>((t.af[i.toNat]'aa)).keys.length-a) (a,pre,Sc) ⟨M9,Vh,hj,rfl⟩ ?_;rintro⟨a,E,I⟩ _ ⟨pp,aoD,Z,rfl⟩;refine ae [0,1,5,7,26] ?_;refine aq (fun aG aV=>?_) (fun aG aV=>?_)
  ·have qw:a<((t.af[i.toNat]'aa)).keys.length:=(by have:=aG;simp at this;omega)
   have ux:a<((t.af[i.toNat]'aa)).kids.length:=(by omega)
   have jb:(iQ t (i::r)).drop a=(((t.af[i.toNat]'aa)).keys[a],((t.af[i.toNat]'aa)).kids[a])::(iQ t (i::r)).drop (a+1):=(by have:=aas v hL (a:=a) (by rw[gG];exact qw) (by rw[gG];exact ux);simp only[gG] at this;exact this)
   have kP:((t.af[i.toNat]'aa)).keys[a].length≤100:=(by have:=(po.kW _ (getElem_mem qw)).2;omega)
   refine CD.skip ?_;refine CD.seq ?_;refine CD.block ?_;refine CD.seq ?_;refine CD.acK ay ?_;refine fN 0 rfl bj ?_;refine fN 1 rfl (c8 1) ?_;refine fN 3 rfl bj ?_;refine fN 7 rfl (c8 2) ?_;refine fN 9 rfl bj ?_;refine AI.two (i:=2) (j:=8) ay ?_ ?_
   ·refine kr rfl (dB 0) ?_;refine fN 4 rfl (c9 1 (h:=by first|exact .l (j:=a) rfl qw|exact .r (j:=a) rfl qw)) ?_;refine AI.two (i:=5) (j:=8) ay ?_ ?_
    ·refine kr rfl eU ?_;refine AI.two (i:=6) (j:=8) ay ?_ ?_
     ·refine gD.gI rfl an rfl rfl rfl call59 (jL (((t.af[i.toNat]'aa)).keys[a]) w4) ⟨ot,trivial⟩ ?_;refine AI.one (i:=8) ay ?_;refine kr rfl (dB 0) ?_;refine fN 10 rfl (c9 1 (h:=by first|exact .l (j:=a) rfl ux|exact .r (j:=a) rfl ux)) ?_;refine AI.one (i:=11) ay ?_;refine kr rfl eU ?_;refine fN 12 rfl (nq (pl:=[(0,_),(1,_)]) (ds:=[_,_]) rfl zeroValue97 runUnderlying97 rF ⟨rfl,ot,rfl,ot,trivial⟩ rfl rfl) ?_;refine AI.one (i:=13) ay ?_;refine gD.yield (Y:=Y) (pre:=E) (y:=(((t.af[i.toNat]'aa)).keys[a],((t.af[i.toNat]'aa)).kids[a])) (Sc:=I) (R:=[⟨b7,93,5,cP (t.af[i.toNat]'aa)⟩]) rfl an rfl rfl ot aO lk sD (perm_append_singleton _ _).symm Z sB hY O w7 (fun C0 Na=>?_) (fun C0 Na=>?_)
      ·refine AI.perm (perm_append_singleton _ _) ?_;refine fN 14 rfl kO ?_;refine AI.wk (y:=⟨46,[(0,_),(1,_),(5,_),(7,_),(43,_)],(⟨b7,93,5,[_,_,_,_,_]⟩::C0)⟩) (Wk.dN rfl rfl fg) ?_;refine AI.done ay ?_;refine fL ?_;refine cj [0,1,5,7] ?_;refine⟨((a+1),(E++[(((t.af[i.toNat]'aa)).keys[a],((t.af[i.toNat]'aa)).kids[a])]),C0),_,cx,aM,sA,w4,Na,rfl⟩
      refine fN 14 rfl kO ?_;refine AI.wk (y:=⟨46,[(0,_),(43,_)],(C0)⟩) (Wk.dN rfl rfl fg) ?_;refine AI.done ay ?_;refine eC ?_;refine CD.ret ?_;refine⟨.inr rfl,⟨_,pT results58⟩,(show 0<46 by decide),C0,Sublist.refl _,?_⟩;exact .inr ⟨E++[(((t.af[i.toNat]'aa)).keys[a],((t.af[i.toNat]'aa)).kids[a])],⟨(iQ t (i::r)).drop (a+1),by rw[pp,jb,append_assoc];rfl⟩,Na,lk⟩
     refine kr rfl (dB 0) ?_;refine fN 10 rfl (c9 1 (h:=by first|exact .l (j:=a) rfl ux|exact .r (j:=a) rfl ux)) ?_;refine AI.two (i:=6) (j:=11) ay ?_ ?_
     ·refine gD.gI rfl an rfl rfl rfl call59 (jL (((t.af[i.toNat]'aa)).keys[a]) w4) ⟨ot,trivial⟩ ?_;refine AI.one (i:=11) ay ?_;refine kr rfl eU ?_;refine fN 12 rfl (nq (pl:=[(0,_),(1,_)]) (ds:=[_,_]) rfl zeroValue97 runUnderlying97 rF ⟨rfl,ot,rfl,ot,trivial⟩ rfl rfl) ?_;refine AI.one (i:=13) ay ?_;refine gD.yield (Y:=Y) (pre:=E) (y:=(((t.af[i.toNat]'aa)).keys[a],((t.af[i.toNat]'aa)).kids[a])) (Sc:=I) (R:=[⟨b7,93,5,cP (t.af[i.toNat]'aa)⟩]) rfl an rfl rfl ot aO lk sD (perm_append_singleton _ _).symm Z sB hY O w7 (fun I Nb=>?_) (fun I Nb=>?_)
      ·refine AI.perm (perm_append_singleton _ _) ?_;refine fN 14 rfl kO ?_;refine AI.wk (y:=⟨46,[(0,_),(1,_),(5,_),(7,_),(43,_)],(⟨b7,93,5,[_,_,_,_,_]⟩::I)⟩) (Wk.dN rfl rfl fg) ?_;refine AI.done ay ?_;refine fL ?_;refine cj [0,1,5,7] ?_;refine⟨((a+1),(E++[(((t.af[i.toNat]'aa)).keys[a],((t.af[i.toNat]'aa)).kids[a])]),I),_,cx,aM,sA,w4,Nb,rfl⟩
      refine fN 14 rfl kO ?_;refine AI.wk (y:=⟨46,[(0,_),(43,_)],(I)⟩) (Wk.dN rfl rfl fg) ?_;refine AI.done ay ?_;refine eC ?_;refine CD.ret ?_;refine⟨.inr rfl,⟨_,pT results58⟩,(show 0<46 by decide),I,Sublist.refl _,?_⟩;exact .inr ⟨E++[(((t.af[i.toNat]'aa)).keys[a],((t.af[i.toNat]'aa)).kids[a])],⟨(iQ t (i::r)).drop (a+1),by rw[pp,jb,append_assoc];rfl⟩,Nb,lk⟩
     refine kr rfl eU ?_;refine AI.one (i:=6) ay ?_;refine gD.gI rfl an rfl rfl rfl call59 (jL (((t.af[i.toNat]'aa)).keys[a]) w4) ⟨ot,trivial⟩ ?_;refine fN 12 rfl (nq (pl:=[(0,_),(1,_)]) (ds:=[_,_]) rfl zeroValue97 runUnderlying97 rF ⟨rfl,ot,rfl,ot,trivial⟩ rfl rfl) ?_;refine AI.one (i:=13) ay ?_;refine gD.yield (Y:=Y) (pre:=E) (y:=(((t.af[i.toNat]'aa)).keys[a],((t.af[i.toNat]'aa)).kids[a])) (Sc:=I) (R:=[⟨b7,93,5,cP (t.af[i.toNat]'aa)⟩]) rfl an rfl rfl ot aO lk sD (perm_append_singleton _ _).symm Z sB hY O w7 (fun C1 Nc=>?_) (fun C1 Nc=>?_)
     ·refine AI.perm (perm_append_singleton _ _) ?_;refine fN 14 rfl kO ?_;refine AI.wk (y:=⟨46,[(0,_),(1,_),(5,_),(7,_),(43,_)],(⟨b7,93,5,[_,_,_,_,_]⟩::C1)⟩) (Wk.dN rfl rfl fg) ?_;refine AI.done ay ?_;refine fL ?_;refine cj [0,1,5,7] ?_;refine⟨((a+1),(E++[(((t.af[i.toNat]'aa)).keys[a],((t.af[i.toNat]'aa)).kids[a])]),C1),_,cx,aM,sA,w4,Nc,rfl⟩
     refine fN 14 rfl kO ?_;refine AI.wk (y:=⟨46,[(0,_),(43,_)],(C1)⟩) (Wk.dN rfl rfl fg) ?_;refine AI.done ay ?_;refine eC ?_;refine CD.ret ?_;refine⟨.inr rfl,⟨_,pT results58⟩,(show 0<46 by decide),C1,Sublist.refl _,?_⟩;exact .inr ⟨E++[(((t.af[i.toNat]'aa)).keys[a],((t.af[i.toNat]'aa)).kids[a])],⟨(iQ t (i::r)).drop (a+1),by rw[pp,jb,append_assoc];rfl⟩,Nc,lk⟩
    refine kr rfl (dB 0) ?_;refine fN 10 rfl (c9 1 (h:=by first|exact .l (j:=a) rfl ux|exact .r (j:=a) rfl ux)) ?_;refine AI.two (i:=5) (j:=11) ay ?_ ?_
    ·refine kr rfl eU ?_;refine AI.two (i:=6) (j:=11) ay ?_ ?_
     ·refine gD.gI rfl an rfl rfl rfl call59 (jL (((t.af[i.toNat]'aa)).keys[a]) w4) ⟨ot,trivial⟩ ?_;refine AI.one (i:=11) ay ?_;refine kr rfl eU ?_;refine fN 12 rfl (nq (pl:=[(0,_),(1,_)]) (ds:=[_,_]) rfl zeroValue97 runUnderlying97 rF ⟨rfl,ot,rfl,ot,trivial⟩ rfl rfl) ?_;refine AI.one (i:=13) ay ?_;refine gD.yield (Y:=Y) (pre:=E) (y:=(((t.af[i.toNat]'aa)).keys[a],((t.af[i.toNat]'aa)).kids[a])) (Sc:=I) (R:=[⟨b7,93,5,cP (t.af[i.toNat]'aa)⟩]) rfl an rfl rfl ot aO lk sD (perm_append_singleton _ _).symm Z sB hY O w7 (fun C2 Nd=>?_) (fun C2 Nd=>?_)
      ·refine AI.perm (perm_append_singleton _ _) ?_;refine fN 14 rfl kO ?_;refine AI.wk (y:=⟨46,[(0,_),(1,_),(5,_),(7,_),(43,_)],(⟨b7,93,5,[_,_,_,_,_]⟩::C2)⟩) (Wk.dN rfl rfl fg) ?_;refine AI.done ay ?_;refine fL ?_;refine cj [0,1,5,7] ?_;refine⟨((a+1),(E++[(((t.af[i.toNat]'aa)).keys[a],((t.af[i.toNat]'aa)).kids[a])]),C2),_,cx,aM,sA,w4,Nd,rfl⟩
      refine fN 14 rfl kO ?_;refine AI.wk (y:=⟨46,[(0,_),(43,_)],(C2)⟩) (Wk.dN rfl rfl fg) ?_;refine AI.done ay ?_;refine eC ?_;refine CD.ret ?_;refine⟨.inr rfl,⟨_,pT results58⟩,(show 0<46 by decide),C2,Sublist.refl _,?_⟩;exact .inr ⟨E++[(((t.af[i.toNat]'aa)).keys[a],((t.af[i.toNat]'aa)).kids[a])],⟨(iQ t (i::r)).drop (a+1),by rw[pp,jb,append_assoc];rfl⟩,Nd,lk⟩
     refine kr rfl eU ?_;refine AI.one (i:=6) ay ?_;refine gD.gI rfl an rfl rfl rfl call59 (jL (((t.af[i.toNat]'aa)).keys[a]) w4) ⟨ot,trivial⟩ ?_;refine fN 12 rfl (nq (pl:=[(0,_),(1,_)]) (ds:=[_,_]) rfl zeroValue97 runUnderlying97 rF ⟨rfl,ot,rfl,ot,trivial⟩ rfl rfl) ?_;refine AI.one (i:=13) ay ?_;refine gD.yield (Y:=Y) (pre:=E) (y:=(((t.af[i.toNat]'aa)).keys[a],((t.af[i.toNat]'aa)).kids[a])) (Sc:=I) (R:=[⟨b7,93,5,cP (t.af[i.toNat]'aa)⟩]) rfl an rfl rfl ot aO lk sD (perm_append_singleton _ _).symm Z sB hY O w7 (fun C3 Nf=>?_) (fun C3 Nf=>?_)
     ·refine AI.perm (perm_append_singleton _ _) ?_;refine fN 14 rfl kO ?_;refine AI.wk (y:=⟨46,[(0,_),(1,_),(5,_),(7,_),(43,_)],(⟨b7,93,5,[_,_,_,_,_]⟩::C3)⟩) (Wk.dN rfl rfl fg) ?_;refine AI.done ay ?_;refine fL ?_;refine cj [0,1,5,7] ?_;refine⟨((a+1),(E++[(((t.af[i.toNat]'aa)).keys[a],((t.af[i.toNat]'aa)).kids[a])]),C3),_,cx,aM,sA,w4,Nf,rfl⟩
     refine fN 14 rfl kO ?_;refine AI.wk (y:=⟨46,[(0,_),(43,_)],(C3)⟩) (Wk.dN rfl rfl fg) ?_;refine AI.done ay ?_;refine eC ?_;refine CD.ret ?_;refine⟨.inr rfl,⟨_,pT results58⟩,(show 0<46 by decide),C3,Sublist.refl _,?_⟩;exact .inr ⟨E++[(((t.af[i.toNat]'aa)).keys[a],((t.af[i.toNat]'aa)).kids[a])],⟨(iQ t (i::r)).drop (a+1),by rw[pp,jb,append_assoc];rfl⟩,Nf,lk⟩
    refine kr rfl eU ?_;refine AI.one (i:=5) ay ?_;refine kr rfl eU ?_;refine AI.one (i:=6) ay ?_;refine gD.gI rfl an rfl rfl rfl call59 (jL (((t.af[i.toNat]'aa)).keys[a]) w4) ⟨ot,trivial⟩ ?_;refine fN 12 rfl (nq (pl:=[(0,_),(1,_)]) (ds:=[_,_]) rfl zeroValue97 runUnderlying97 rF ⟨rfl,ot,rfl,ot,trivial⟩ rfl rfl) ?_;refine AI.one (i:=13) ay ?_;refine gD.yield (Y:=Y) (pre:=E) (y:=(((t.af[i.toNat]'aa)).keys[a],((t.af[i.toNat]'aa)).kids[a])) (Sc:=I) (R:=[⟨b7,93,5,cP (t.af[i.toNat]'aa)⟩]) rfl an rfl rfl ot aO lk sD (perm_append_singleton _ _).symm Z sB hY O w7 (fun C4 Ng=>?_) (fun C4 Ng=>?_)
    ·refine AI.perm (perm_append_singleton _ _) ?_;refine fN 14 rfl kO ?_;refine AI.wk (y:=⟨46,[(0,_),(1,_),(5,_),(7,_),(43,_)],(⟨b7,93,5,[_,_,_,_,_]⟩::C4)⟩) (Wk.dN rfl rfl fg) ?_;refine AI.done ay ?_;refine fL ?_;refine cj [0,1,5,7] ?_;refine⟨((a+1),(E++[(((t.af[i.toNat]'aa)).keys[a],((t.af[i.toNat]'aa)).kids[a])]),C4),_,cx,aM,sA,w4,Ng,rfl⟩
    refine fN 14 rfl kO ?_;refine AI.wk (y:=⟨46,[(0,_),(43,_)],(C4)⟩) (Wk.dN rfl rfl fg) ?_;refine AI.done ay ?_;refine eC ?_;refine CD.ret ?_;refine⟨.inr rfl,⟨_,pT results58⟩,(show 0<46 by decide),C4,Sublist.refl _,?_⟩;exact .inr ⟨E++[(((t.af[i.toNat]'aa)).keys[a],((t.af[i.toNat]'aa)).kids[a])],⟨(iQ t (i::r)).drop (a+1),by rw[pp,jb,append_assoc];rfl⟩,Ng,lk⟩
   refine kr rfl (dB 0) ?_;refine fN 10 rfl (c9 1 (h:=by first|exact .l (j:=a) rfl ux|exact .r (j:=a) rfl ux)) ?_;refine AI.two (i:=2) (j:=11) ay ?_ ?_
   ·refine kr rfl (dB 0) ?_;refine fN 4 rfl (c9 1 (h:=by first|exact .l (j:=a) rfl qw|exact .r (j:=a) rfl qw)) ?_;refine AI.two (i:=5) (j:=11) ay ?_ ?_
    ·refine kr rfl eU ?_;refine AI.two (i:=6) (j:=11) ay ?_ ?_
     ·refine gD.gI rfl an rfl rfl rfl call59 (jL (((t.af[i.toNat]'aa)).keys[a]) w4) ⟨ot,trivial⟩ ?_;refine AI.one (i:=11) ay ?_;refine kr rfl eU ?_;refine fN 12 rfl (nq (pl:=[(0,_),(1,_)]) (ds:=[_,_]) rfl zeroValue97 runUnderlying97 rF ⟨rfl,ot,rfl,ot,trivial⟩ rfl rfl) ?_;refine AI.one (i:=13) ay ?_;refine gD.yield (Y:=Y) (pre:=E) (y:=(((t.af[i.toNat]'aa)).keys[a],((t.af[i.toNat]'aa)).kids[a])) (Sc:=I) (R:=[⟨b7,93,5,cP (t.af[i.toNat]'aa)⟩]) rfl an rfl rfl ot aO lk sD (perm_append_singleton _ _).symm Z sB hY O w7 (fun C5 Nh=>?_) (fun C5 Nh=>?_)
      ·refine AI.perm (perm_append_singleton _ _) ?_;refine fN 14 rfl kO ?_;refine AI.wk (y:=⟨46,[(0,_),(1,_),(5,_),(7,_),(43,_)],(⟨b7,93,5,[_,_,_,_,_]⟩::C5)⟩) (Wk.dN rfl rfl fg) ?_;refine AI.done ay ?_;refine fL ?_;refine cj [0,1,5,7] ?_;refine⟨((a+1),(E++[(((t.af[i.toNat]'aa)).keys[a],((t.af[i.toNat]'aa)).kids[a])]),C5),_,cx,aM,sA,w4,Nh,rfl⟩
      refine fN 14 rfl kO ?_;refine AI.wk (y:=⟨46,[(0,_),(43,_)],(C5)⟩) (Wk.dN rfl rfl fg) ?_;refine AI.done ay ?_;refine eC ?_;refine CD.ret ?_;refine⟨.inr rfl,⟨_,pT results58⟩,(show 0<46 by decide),C5,Sublist.refl _,?_⟩;exact .inr ⟨E++[(((t.af[i.toNat]'aa)).keys[a],((t.af[i.toNat]'aa)).kids[a])],⟨(iQ t (i::r)).drop (a+1),by rw[pp,jb,append_assoc];rfl⟩,Nh,lk⟩
     refine kr rfl eU ?_;refine AI.one (i:=6) ay ?_;refine gD.gI rfl an rfl rfl rfl call59 (jL (((t.af[i.toNat]'aa)).keys[a]) w4) ⟨ot,trivial⟩ ?_;refine fN 12 rfl (nq (pl:=[(0,_),(1,_)]) (ds:=[_,_]) rfl zeroValue97 runUnderlying97 rF ⟨rfl,ot,rfl,ot,trivial⟩ rfl rfl) ?_;refine AI.one (i:=13) ay ?_;refine gD.yield (Y:=Y) (pre:=E) (y:=(((t.af[i.toNat]'aa)).keys[a],((t.af[i.toNat]'aa)).kids[a])) (Sc:=I) (R:=[⟨b7,93,5,cP (t.af[i.toNat]'aa)⟩]) rfl an rfl rfl ot aO lk sD (perm_append_singleton _ _).symm Z sB hY O w7 (fun C6 Ni=>?_) (fun C6 Ni=>?_)
     ·refine AI.perm (perm_append_singleton _ _) ?_;refine fN 14 rfl kO ?_;refine AI.wk (y:=⟨46,[(0,_),(1,_),(5,_),(7,_),(43,_)],(⟨b7,93,5,[_,_,_,_,_]⟩::C6)⟩) (Wk.dN rfl rfl fg) ?_;refine AI.done ay ?_;refine fL ?_;refine cj [0,1,5,7] ?_;refine⟨((a+1),(E++[(((t.af[i.toNat]'aa)).keys[a],((t.af[i.toNat]'aa)).kids[a])]),C6),_,cx,aM,sA,w4,Ni,rfl⟩
     refine fN 14 rfl kO ?_;refine AI.wk (y:=⟨46,[(0,_),(43,_)],(C6)⟩) (Wk.dN rfl rfl fg) ?_;refine AI.done ay ?_;refine eC ?_;refine CD.ret ?_;refine⟨.inr rfl,⟨_,pT results58⟩,(show 0<46 by decide),C6,Sublist.refl _,?_⟩;exact .inr ⟨E++[(((t.af[i.toNat]'aa)).keys[a],((t.af[i.toNat]'aa)).kids[a])],⟨(iQ t (i::r)).drop (a+1),by rw[pp,jb,append_assoc];rfl⟩,Ni,lk⟩
    refine kr rfl eU ?_;refine AI.one (i:=5) ay ?_;refine kr rfl eU ?_;refine AI.one (i:=6) ay ?_;refine gD.gI rfl an rfl rfl rfl call59 (jL (((t.af[i.toNat]'aa)).keys[a]) w4) ⟨ot,trivial⟩ ?_;refine fN 12 rfl (nq (pl:=[(0,_),(1,_)]) (ds:=[_,_]) rfl zeroValue97 runUnderlying97 rF ⟨rfl,ot,rfl,ot,trivial⟩ rfl rfl) ?_;refine AI.one (i:=13) ay ?_;refine gD.yield (Y:=Y) (pre:=E) (y:=(((t.af[i.toNat]'aa)).keys[a],((t.af[i.toNat]'aa)).kids[a])) (Sc:=I) (R:=[⟨b7,93,5,cP (t.af[i.toNat]'aa)⟩]) rfl an rfl rfl ot aO lk sD (perm_append_singleton _ _).symm Z sB hY O w7 (fun C7 Nj=>?_) (fun C7 Nj=>?_)
    ·refine AI.perm (perm_append_singleton _ _) ?_;refine fN 14 rfl kO ?_;refine AI.wk (y:=⟨46,[(0,_),(1,_),(5,_),(7,_),(43,_)],(⟨b7,93,5,[_,_,_,_,_]⟩::C7)⟩) (Wk.dN rfl rfl fg) ?_;refine AI.done ay ?_;refine fL ?_;refine cj [0,1,5,7] ?_;refine⟨((a+1),(E++[(((t.af[i.toNat]'aa)).keys[a],((t.af[i.toNat]'aa)).kids[a])]),C7),_,cx,aM,sA,w4,Nj,rfl⟩
    refine fN 14 rfl kO ?_;refine AI.wk (y:=⟨46,[(0,_),(43,_)],(C7)⟩) (Wk.dN rfl rfl fg) ?_;refine AI.done ay ?_;refine eC ?_;refine CD.ret ?_;refine⟨.inr rfl,⟨_,pT results58⟩,(show 0<46 by decide),C7,Sublist.refl _,?_⟩;exact .inr ⟨E++[(((t.af[i.toNat]'aa)).keys[a],((t.af[i.toNat]'aa)).kids[a])],⟨(iQ t (i::r)).drop (a+1),by rw[pp,jb,append_assoc];rfl⟩,Nj,lk⟩
   refine kr rfl eU ?_;refine AI.one (i:=2) ay ?_;refine kr rfl (dB 0) ?_;refine fN 4 rfl (c9 1 (h:=by first|exact .l (j:=a) rfl qw|exact .r (j:=a) rfl qw)) ?_;refine AI.one (i:=5) ay ?_;refine kr rfl eU ?_;refine AI.one (i:=6) ay ?_;refine gD.gI rfl an rfl rfl rfl call59 (jL (((t.af[i.toNat]'aa)).keys[a]) w4) ⟨ot,trivial⟩ ?_;refine fN 12 rfl (nq (pl:=[(0,_),(1,_)]) (ds:=[_,_]) rfl zeroValue97 runUnderlying97 rF ⟨rfl,ot,rfl,ot,trivial⟩ rfl rfl) ?_;refine AI.one (i:=13) ay ?_;refine gD.yield (Y:=Y) (pre:=E) (y:=(((t.af[i.toNat]'aa)).keys[a],((t.af[i.toNat]'aa)).kids[a])) (Sc:=I) (R:=[⟨b7,93,5,cP (t.af[i.toNat]'aa)⟩]) rfl an rfl rfl ot aO lk sD (perm_append_singleton _ _).symm Z sB hY O w7 (fun BW K7=>?_) (fun BW K7=>?_)
   ·refine AI.perm (perm_append_singleton _ _) ?_;refine fN 14 rfl kO ?_;refine AI.wk (y:=⟨46,[(0,_),(1,_),(5,_),(7,_),(43,_)],(⟨b7,93,5,[_,_,_,_,_]⟩::BW)⟩) (Wk.dN rfl rfl fg) ?_;refine AI.done ay ?_;refine fL ?_;refine cj [0,1,5,7] ?_;refine⟨((a+1),(E++[(((t.af[i.toNat]'aa)).keys[a],((t.af[i.toNat]'aa)).kids[a])]),BW),_,cx,aM,sA,w4,K7,rfl⟩
   refine fN 14 rfl kO ?_;refine AI.wk (y:=⟨46,[(0,_),(43,_)],(BW)⟩) (Wk.dN rfl rfl fg) ?_;refine AI.done ay ?_;refine eC ?_;refine CD.ret ?_;refine⟨.inr rfl,⟨_,pT results58⟩,(show 0<46 by decide),BW,Sublist.refl _,?_⟩;exact .inr ⟨E++[(((t.af[i.toNat]'aa)).keys[a],((t.af[i.toNat]'aa)).kids[a])],⟨(iQ t (i::r)).drop (a+1),by rw[pp,jb,append_assoc];rfl⟩,K7,lk⟩
  have ff:a=(t.pg i).keys.length:=(by rw[gG];have:=aG;simp at this;omega)
  refine cj [0,1,4,5] ?_;refine⟨(r,0,E,I),_,(by (show length r<length (i::r);simp)),(aM (h:=by repeat (first|exact trivial|refine⟨(by (repeat (first|exact fw|(apply fP;focus (first|rfl|(simp;done)|(rw[←gG,eZ.next hL.oS])))|(apply fA;focus rfl)));done),?_⟩))),hL.tail,(by rw[pp,Y4 v hL ff]),(fun x hx=>Nat.zero_le _),Z,rfl⟩
 have ai5:ls=[]:=hL.head.2 xx;refine CD.exit ?_;refine⟨.inl rfl,⟨_,pT results58⟩,(show 0<46 by decide),Sc,Sublist.refl _,?_⟩;exact .inl ⟨pre,by rw[M9,ai5];simp[iQ],hj,lk⟩

open Go.Lib (compareBytes)
theorem aem(e:K×Int):(cE e).all V.one=true:=rfl
theorem afc(k:K):fE (cK k)=true:=by simp[cK,fE,iu,yO]
theorem afd(n:Int):fE (cI n)=true:=rfl
theorem afe(p:cR):fE (cP p)=true:=by simp[cP,fE,iu,yO,uH afc,uH afd]
def Uf(t:aE)(k:K):D:=.ek (.func 58) (Ke t k)
noncomputable def uV(eD:K)(x:K×Int):Bool:=decide (0<eD.length∧bF eD x.1)
noncomputable def wH(t:aE)(h:Nat)(f eD:K):List (K×Int):=(mT t h f).takeWhile fun x=>!uV eD x
noncomputable def wB(t:aE)(h:Nat)(f eD:K):List (K×Int)×Int:=if gq t=0 then (if f.length≤100∧eD.length≤100 then (wH t h f eD,0) else ([],1)) else ([],gq t)
theorem HL{α:Type}{p:α→Bool}:∀{l:List α},(∀x∈l,p x=true)→l.takeWhile p=l
 | [],_=>rfl
 | x::l,h=>by rw[takeWhile_cons,if_pos (h x mem_cons_self),HL fun y hy=>h y (mem_cons_of_mem _ hy)]
theorem O7{α:Type}{p:α→Bool}{y:α}{r:List α}(hy:p y=false):∀{l:List α},(∀x∈l,p x=true)→(l++y::r).takeWhile p=l
 | [],_=>by rw[nil_append,takeWhile_cons,if_neg (by rw[hy];decide)]
 | x::l,h=>by rw[cons_append,takeWhile_cons,if_pos (h x mem_cons_self),O7 hy fun y hy=>h y (mem_cons_of_mem _ hy)]
def wI(b9 b5:Nat)(eD:K)(pre:List (K×Int))(Sc:List ag):Prop:=(∀x∈pre,uV eD x=false)∧∃ad cap So,bw 97 2 (pre.flatMap cE) pre.length ad cap So∧Sc=⟨b9,54,1,[.v (.slice ad pre.length cap)]⟩::⟨b5,49,1,[.list 1 (eD.flatMap cB) eD.length]⟩::So
def Ft(b9 b5:Nat)(eD:K)(pre:List (K×Int))(Sc:List ag):Prop:=∃init y,pre=init++[y]∧uV eD y=true∧wI b9 b5 eD init Sc
theorem wI.iu{b9 b5:Nat}{eD:K}{pre:List (K×Int)}{Sc:List ag}(h:wI b9 b5 eD pre Sc):∀B∈Sc,fE B.cs=true:=by
 obtain⟨_,ad,cap,So,ho,rfl⟩:=h;intro B E;rcases mem_cons.1 E with rfl|E
 ·rfl
 rcases mem_cons.1 E with rfl|E
 ·simp[fE,V.iu,yO]
 rcases ho with ⟨_,_,_,_,rfl⟩|⟨b,_,_,_,rfl⟩
 ·cases E
 rw[mem_singleton] at E;subst E;exact uH yP pre
theorem Ft.iu{b9 b5:Nat}{eD:K}{pre:List (K×Int)}{Sc:List ag}(h:Ft b9 b5 eD pre Sc):∀B∈Sc,fE B.cs=true:=by
 obtain⟨init,y,_,_,h⟩:=h;exact h.iu
def Kf(b9 b5:Nat)(eD:K)(pre:List (K×Int))(y:K×Int)(Sc:List ag)(z:St):Prop:=wI b9 b5 eD pre Sc∧∃kL,z=⟨43,[(5,.v (.pointer (some ⟨b5,0,none⟩))),(9,.v (.pointer (some ⟨b9,0,none⟩))),(10,.v (.pointer (some ⟨kL,0,none⟩)))],⟨kL,97,2,cE y⟩::Sc⟩
theorem Kf.iu{b9 b5:Nat}{eD:K}{pre:List (K×Int)}{y:K×Int}{Sc:List ag}{z:St}(h:Kf b9 b5 eD pre y Sc z):(z.env.all fun p=>V.iu p.2)=true∧∀B∈z.S,fE B.cs=true:=by
 obtain⟨hj,kL,rfl⟩:=h;refine⟨rfl,fun B E=>?_⟩;rcases mem_cons.1 E with rfl|E
 ·exact yP y
 exact hj.iu B E
theorem ab0{b9 b5:Nat}{t:aE}{h:Nat}{f eD:K}{Sc:List ag}{c d:Code}(he:(∃xs,xs=mT t h f∧wI b9 b5 eD xs Sc)∨(c=d∧∃pre,pre <+: mT t h f∧Ft b9 b5 eD pre Sc)):∃I,I=wH t h f eD∧wI b9 b5 eD I Sc:=by
 rcases he with ⟨xs,rfl,hj⟩|⟨_,pre,⟨r,hr⟩,E,y,rfl,hy,hj⟩
 ·exact⟨_,(HL fun x hx=>by rw[hj.1 x hx];rfl).symm,hj⟩
 refine⟨E,?_,hj⟩;unfold wH;rw[←hr,append_assoc,singleton_append];exact(O7 (by rw[hy];rfl) fun x hx=>by rw[hj.1 x hx];rfl).symm
theorem adG(t:aE)(k:K):VC Tryz.prog G 34 [.agg (cT t),.list 1 (k.flatMap cB) k.length] [] (fun r S=>∃b2 b3,r = .ek (.func 58) [.v (.pointer (some ⟨b2,0,none⟩)),.v (.pointer (some ⟨b3,0,none⟩))]∧S=[⟨b3,49,1,[.list 1 (k.flatMap cB) k.length]⟩,⟨b2,46,2,cT t⟩]):=by
 refine VC.body func34 rfl ntmps34 aO fun X0 w0 aZ=>?_;unfold cT;refine bX ?_;refine OD.box (ds:=[_,_]) an rfl rfl ot rfl rfl (fun b2=>?_);refine OD.box (ds:=[_]) an rfl rfl ot rfl rfl (fun b3=>?_);refine aj 6 [2,3] ?_;refine cN [4] ?_;refine aQ 0 ?_ (h:=by exact(oW (ds:=[_,_]) rfl ⟨ot,ot,trivial⟩));refine bH ?_;refine aJ [_,_] ?_;exact⟨_,_,rfl,rfl⟩
theorem adH(t:aE)(k:K):VP Tryz.prog G 34 [.agg (cT t),.list 1 (k.flatMap cB) k.length] (Uf t k):=VC.cover (adG t k) fun r S ⟨b2,b3,hr,hS⟩=>by
 subst hr;subst hS;exact abc ⟨PX (e:=46) (size:=2) (cs:=cT t) (mem_cons_of_mem _ mem_cons_self) gv.same,PX (e:=49) (size:=1) mem_cons_self gv.same,trivial⟩
theorem YE:(Tryz.prog.info? 97).map (fun i=>(i.zero,i.size,i.bytes))=some (some (.agg #[.slice none 0 0,.int .i64 0]),2,32):=by kernel_rfl
theorem adI(t:aE)(h:Nat)(hb:∀p∈t.af,p.keys.length≤maxLen∧p.kids.length≤maxLen)(hv:gq t=0→Valid t h)(f eD:K):VP Tryz.prog G 15 [.agg (cT t),.list 1 (f.flatMap cB) f.length,.list 1 (eD.flatMap cB) eD.length] (.dz [.list 2 ((wB t h f eD).1.flatMap cE) (wB t h f eD).1.length,.v (.int .i64 (wB t h f eD).2)]):=by
 refine VC.yY func15 rfl ntmps15 aO fun X0 w0 aZ=>?_;have dy:maxLen=9223372036854775807:=rfl;have eY:=oX (G:=G) t hb;have U:=adH (G:=G) t f;unfold cT at eY U;unfold cT;refine bX ?_;refine OD.box (ds:=[_,_]) an rfl rfl ot rfl rfl (fun b3=>?_);refine OD.box (ds:=[_]) an rfl rfl ot rfl rfl (fun b5=>?_);refine aj 43 [1,3,5] ?_;refine cL [1,3,5,8] (eY) ?_;refine ae [1,3,5,8,14] ?_;refine aq (fun az aH=>?_) (fun az aH=>?_)
 ·have hn:¬gq t=0:=(by simpa using az)
  refine ae [6,7] ?_;refine CD.wk (Wk.tg (t:=6) (sz:=2) lk) ?_;refine aJ [] ?_;exact⟨by unfold wB;rw[if_neg hn];rfl,rfl⟩
 have hz:gq t=0:=(by simpa using az)
 have v:=hv hz;have Ue:=QG v f;refine aC 4 ?_;refine bS 19 (fun Z O=>?_) (fun Z O=>?_)
 ·refine bf [1,3,5,23] ?_;refine eC ?_;exact z80
 refine bf [1,3,5,23] ?_;refine aq (fun aG aV=>?_) (fun aG aV=>?_)
 ·exact z80
 have anf:f.length≤100∧eD.length≤100:=(by simp_all;omega)
 have hf1:f.length≤maxLen:=(by omega)
 refine bX ?_;refine OD.alloc (ds:=[_]) an rfl rfl zeroValue54 rfl (fun b9=>?_);refine aj 43 [1,3,5,9] ?_;refine CD.ahq ?_;refine dL 2 ?_;refine dR call34 (U) ?_;refine aj 43 [5,9,26] ?_;refine vz.wk (Wk.drop _ _ _ [⟨b9,54,1,[.v (.slice none 0 0)]⟩,⟨b5,49,1,[.list 1 (eD.flatMap cB) eD.length]⟩] (Sublist.cons_cons _ (Sublist.cons_cons _ (Sublist.cons _ (Sublist.refl _))))) ?_;refine vz.range ot call58 (abZ t h v f hf1) (fun _=>rfl) abY (.exit 0) (.inr rfl) (wI b9 b5 eD) (Ft b9 b5 eD) (fun _ _ h=>h.iu) (fun _ _ h=>h.iu) ⟨(fun _ h=>by cases h),none,0,[],iw,rfl⟩ (Kf b9 b5 eD) (fun _ _ _ _ h=>h.iu) ?_ ?_ ?_ (fun h=>by cases h)
 ·intro X1 W1 S1 l1 pre y Sc hJ hN;refine CI.region LP rfl ?_;refine OD.alloc (ds:=[_,_]) an rfl rfl zeroValue97 rfl (fun kL=>?_);refine aN 0 [_,_] sizeOf97 ?_;refine OD.wk (Wk.dN (n:=43) (l':=[(5,_),(9,_),(10,_)]) (S':=(⟨kL,97,2,[_,_]⟩::Sc)) rfl rfl fg) ?_;refine OD.nil ?_;exact⟨rfl,hJ,kL,rfl⟩
 ·intro X1 W1 S1 l1 pre y Sc z hJ hN hz;obtain⟨⟨aS,ad,cap,So,ho,rfl⟩,kL,rfl⟩:=hz;unfold cE;refine CI.block ?_;refine CI.seq ?_;refine CI.seq ?_;refine CI.region LP rfl ?_;refine bN (dB 2) ?_;refine bN qv ?_;refine bN mH ?_;refine om_ ?_;refine OD.split (t:=31) lk (fun I=>?_) (fun I=>?_)
  ·have E:=I;(try simp only[V.ng,ne_eq] at E)
   refine bN (c8 0) ?_;refine bN (dB 0) ?_;refine bN (dB 2) ?_;refine OD.gI gL rfl rfl rfl call35 (we y.1 eD) ⟨ot,ot,trivial⟩ ?_;refine bN mH ?_;refine bN wR ?_;refine OD.wk (Wk.dN (n:=43) (l':=[(9,_),(10,_),(37,_)]) (S':=(⟨kL,97,2,[_,_]⟩::⟨b9,54,1,[_]⟩::⟨b5,49,1,[_]⟩::So)) rfl rfl fg) ?_;refine OD.nil ?_;refine CI.cond ot (fun aY=>?_) (fun aY=>?_)
   ·have bz:=aY
    (try simp only[V.ng,ne_eq] at bz)
    have fy:uV eD y=true:=(by unfold uV;simp_all[S8])
    refine CI.exit ?_;exact⟨rfl,_,Sublist.cons _ (Sublist.refl _),pre,y,rfl,fy,aS,ad,cap,So,ho,rfl⟩
   have bz:=aY
   (try simp only[V.ng,ne_eq] at bz)
   exact z31
  have E:=I;(try simp only[V.ng,ne_eq] at E)
  refine Cu ?_;refine Cu ?_;refine Cu ?_;refine Cu ?_;refine Cu ?_;refine bN u4 ?_;refine Wu [9,10,37] ?_;refine CI.J1 ot ji ?_;exact z31
 intro W1 S1 D1 Sc ff;obtain⟨es,hes,aS,ad,cap,So,ho,rfl⟩:=ab0 ff;refine ae [6,7] ?_;refine CD.gP (t:=6) (Sq:=So) lk ho (cq Ta _) (dx (A:=[_,_])) ?_;refine CD.ret ?_;refine⟨rfl,(by simp[iu,fE,uH yP,yO,yP,uH afe,Uf,Ke]),(by intro B hB;simp only[mem_cons,not_mem_nil,or_false] at hB;rcases hB with rfl|rfl<;>simp[iu,fE,yO]),_,[],nil_sublist _,IG results15 (yz aO lk) (yz aO lk),(by simp[iu,fE,uH yP]),?_⟩;rw[hes];exact⟨by unfold wB;rw[if_pos hz,if_pos ⟨by omega,by omega⟩],rfl⟩

end Go.Proofs.YtbcmjoaggammcaaGreatDoor.Tw
namespace Go.Proofs.YtbcmjoaggammcaaGreatDoor.Tw

open List
open Go.Proofs.Tryz
open Go.RowKit V Tr Pk
variable {α:Type} {i:Nat} {t:aE} {J:List D}
theorem R9{g:α→List D}(hg:∀a,(g a).length=1){q:List α}{cap:Nat}(hi:i<q.length)(hc:q.length≤cap):((q.flatMap g).drop (eH cap (i+1) 1 0)).take ((q.length-(i+1))*1)=(q.drop (i+1)).flatMap g:=by
 unfold eH;by_cases h:cap=i+1
 ·have e:q.length=i+1:=(by omega)
  have e2:q.drop (i+1)=[]:=drop_of_length_le w4;rw[if_pos h,show q.length-(i+1)=0 from by omega,e2];simp
 rw[if_neg h,Nat.zero_add,uG hg,take_of_length_le];rw[cq hg,length_drop];exact Nat.le_refl _
theorem TE{g:α→List D}(hg:∀a,(g a).length=1){q:List α}(hi:i<q.length):da (q.flatMap g) (i*1) ((q.drop (i+1)).flatMap g)=(q.eraseIdx i).flatMap g++(q.flatMap g).drop (i*1+((q.drop (i+1)).flatMap g).length):=by
 rw[vM _ _ _ (by rw[cq hg,cq hg,length_drop];omega),tq hg,eraseIdx_eq_take_drop_succ,flatMap_append]
variable {G:List (Nat×List Value)}
theorem XR:(Tryz.prog.info? 49).map (fun i=>i.size)=some 1:=by kernel_rfl
theorem Hl(q:List K)(i cap b:Nat)(hi:i<q.length)(hc:q.length≤cap)(hm:cap≤maxLen)(hs:q.length≤1000):VC Tryz.prog G 128 [.v (.slice (some ⟨b,0,none⟩) q.length cap),.v (.int .i64 (i:Nat)),.v (.int .i64 ((i+1:Nat):Int))] [⟨b,49,cap*1,q.flatMap cK⟩] (fun r S=>r = .v (.slice (some ⟨b,0,none⟩) (q.length-1) cap)∧S=[⟨b,49,cap*1,(q.eraseIdx i).flatMap cK⟩]):=by
 refine VC.body func128 rfl ntmps128 aO fun X0 w0 aZ=>?_;refine ae [0,1,2] ?_;refine cN [0,1,2] ?_;refine aQ 5 ?_ (h:=by exact(NE rfl ot ot ot ot runUnderlying90 sizeOf49 w4 w4 hc));refine jR ?_;refine ae [0,1,2,16] ?_;refine aq (fun az aH=>?_) (fun az aH=>?_)
 ·exact absurd az ua
 refine ae [0,1,2,7] ?_;refine CD.seq ?_;refine fK 7 (ap (eraseIdx _ 0)) ?_ (fun _ h=>(Sublist.map _ (eraseIdx_sublist _ 0)).subset h);refine ax 0 rfl bj ?_;refine ax 1 rfl bj ?_;refine ax 2 rfl (ei (l:=0) (h:=i) rfl ot trivial ⟨_,ot⟩ Lu) ?_;refine ax 3 rfl bj ?_;refine ax 4 rfl bj ?_;refine ax 5 rfl (ei (l:=i+1) rfl ot ⟨_,ot⟩ trivial tY) ?_;refine dm.later rfl ?_;refine AD.one (i:=6) ay ?_;refine bg.PP (n:=i) (m:=q.length-(i+1)) (k:=0) (new:=(q.drop (i+1)).flatMap cK) (cs':=(q.eraseIdx i).flatMap cK++(q.flatMap cK).drop (i*1+((q.drop (i+1)).flatMap cK).length)) rfl an rfl rfl underlying90 XR ot rfl rfl ot (R9 gb hi hc) (by rw[cq gb,length_drop]) (tE pc _) w4 (by show _≤(q.flatMap cK).length;rw[cq gb];omega) (TE gb hi) ig ?_;rw[show i+(q.length-(i+1))=q.length-1 from by omega];refine eA ?_;refine bf [0,7] ?_;refine aC 4 ?_;refine bN (ei (l:=q.length-1) (h:=q.length) rfl ot ⟨_,ot⟩ ⟨_,ot⟩ (by first|exact oA (fun h=>by cases h) runUnderlying90 sizeOf49 w4|exact yw (fun h=>by cases h) (fun h=>by cases h) runUnderlying90 sizeOf49 w4 w4|exact nL (fun h=>by cases h) (fun h=>by cases h) runUnderlying90 sizeOf49 w4 w4)) ?_;refine OD.shrink (k:=0) (cs':=(q.eraseIdx i).flatMap cK) rfl (prefix_append _ _) ?_;refine OD.clear (k:=0) (sz:=1) an rfl rfl underlying90 zeroValue49 rfl ay ot rfl rfl (fun h0=>?_) ?_
 ·have h3:eH cap (q.length-1) 1 0=(q.length-1)*1:=(by unfold eH;rw[if_neg w4];omega)
  rw[h3];refine⟨?_,?_⟩
  ·show((q.eraseIdx i).flatMap cK).length≤_;rw[cq gb,length_eraseIdx_of_lt hi];exact Nat.le_refl _
  show _≤cap*1;omega
 refine aj 33 [0] ?_;refine ae [6] ?_;refine aJ [_] ?_;exact⟨rfl,rfl⟩
theorem XS:(Tryz.prog.info? 3).map (fun i=>i.size)=some 1:=by kernel_rfl
theorem NY(q:List Int)(i cap b:Nat)(hi:i<q.length)(hc:q.length≤cap)(hm:cap≤maxLen)(hs:q.length≤1000):VC Tryz.prog G 129 [.v (.slice (some ⟨b,0,none⟩) q.length cap),.v (.int .i64 (i:Nat)),.v (.int .i64 ((i+1:Nat):Int))] [⟨b,3,cap*1,q.flatMap cI⟩] (fun r S=>r = .v (.slice (some ⟨b,0,none⟩) (q.length-1) cap)∧S=[⟨b,3,cap*1,(q.eraseIdx i).flatMap cI⟩]):=by
 refine VC.body func129 rfl ntmps129 aO fun X0 w0 aZ=>?_;refine ae [0,1,2] ?_;refine cN [0,1,2] ?_;refine aQ 5 ?_ (h:=by exact(NE rfl ot ot ot ot runUnderlying91 sizeOf3 w4 w4 hc));refine jR ?_;refine ae [0,1,2,16] ?_;refine aq (fun az aH=>?_) (fun az aH=>?_)
 ·exact absurd az ua
 refine ae [0,1,2,7] ?_;refine CD.seq ?_;refine fK 7 (ap (eraseIdx _ 0)) ?_ (fun _ h=>(Sublist.map _ (eraseIdx_sublist _ 0)).subset h);refine ax 0 rfl bj ?_;refine ax 1 rfl bj ?_;refine ax 2 rfl (ei (l:=0) (h:=i) rfl ot trivial ⟨_,ot⟩ Lv) ?_;refine ax 3 rfl bj ?_;refine ax 4 rfl bj ?_;refine ax 5 rfl (ei (l:=i+1) rfl ot ⟨_,ot⟩ trivial tZ) ?_;refine dm.later rfl ?_;refine AD.one (i:=6) ay ?_;refine bg.PP (n:=i) (m:=q.length-(i+1)) (k:=0) (new:=(q.drop (i+1)).flatMap cI) (cs':=(q.eraseIdx i).flatMap cI++(q.flatMap cI).drop (i*1+((q.drop (i+1)).flatMap cI).length)) rfl an rfl rfl underlying91 XS ot rfl rfl ot (R9 ey hi hc) (by rw[cq ey,length_drop]) (tE nr _) w4 (by show _≤(q.flatMap cI).length;rw[cq ey];omega) (TE ey hi) ig ?_;rw[show i+(q.length-(i+1))=q.length-1 from by omega];refine eA ?_;refine bf [0,7] ?_;refine aC 4 ?_;refine bN (ei (l:=q.length-1) (h:=q.length) rfl ot ⟨_,ot⟩ ⟨_,ot⟩ (by first|exact oA (fun h=>by cases h) runUnderlying91 sizeOf3 w4|exact yw (fun h=>by cases h) (fun h=>by cases h) runUnderlying91 sizeOf3 w4 w4|exact nL (fun h=>by cases h) (fun h=>by cases h) runUnderlying91 sizeOf3 w4 w4)) ?_;refine OD.shrink (k:=0) (cs':=(q.eraseIdx i).flatMap cI) rfl (prefix_append _ _) ?_;refine OD.clear (k:=0) (sz:=1) an rfl rfl underlying91 zeroValue3 rfl ay ot rfl rfl (fun h0=>?_) ?_
 ·have h3:eH cap (q.length-1) 1 0=(q.length-1)*1:=(by unfold eH;rw[if_neg w4];omega)
  rw[h3];refine⟨?_,?_⟩
  ·show((q.eraseIdx i).flatMap cI).length≤_;rw[cq ey,length_eraseIdx_of_lt hi];exact Nat.le_refl _
  show _≤cap*1;omega
 refine aj 33 [0] ?_;refine ae [6] ?_;refine aJ [_] ?_;exact⟨rfl,rfl⟩

theorem vL{α:Type}{g:α→List D}{sz:Nat}(hg:∀a,(g a).length=sz){a':α}{c:Nat}{d:D}(hc:c<sz):∀{L:List α} {j:Nat} (hj:j<L.length),g a'=(g L[j]).set c d→(L.flatMap g).set (j*sz+c) d=(L.set j a').flatMap g
 | a::L,0,_,h=>by
  simp only[getElem_cons_zero] at h;rw[flatMap_cons,set_cons_zero,flatMap_cons,h,set_append_left _ _ (by rw[hg];omega),Nat.zero_mul,Nat.zero_add]
 | a::L,j+1,hj,h=>by
  have E:=vL hg hc (L:=L) (j:=j) (by simpa using hj) oJ;have e:(j+1)*sz+c=sz+(j*sz+c):=(by rw[Nat.succ_mul];omega)
  rw[flatMap_cons,set_cons_succ,flatMap_cons,←E,set_append_right _ _ (by rw[hg];omega),hg,e,show sz+(j*sz+c)-sz=j*sz+c from by omega]
theorem TF{L:List aA}(hL:L.map aA.p=t.af){i:Int}(hi:0≤i∧i<t.af.length)(hj:i.toNat<L.length):L[i.toNat].p=t.pg i:=by
 rw[u0 hi];have h:(L.map aA.p)[i.toNat]?=some L[i.toNat].p:=(by rw[getElem?_map,getElem?_eq_getElem hj];rfl)
 rw[hL,getElem?_eq_getElem w4] at h;exact(Option.some.inj h).symm
def vD:aE:=⟨[],0⟩
def BX(te:aE×Int)(r:D)(S:List ag):Prop:=∃r',r = .dz [r',.v (.int .i64 te.2)]∧FQ te.1 r' S
theorem yG(e:Int):BX (vD,e) (.dz [.agg [.v (.slice none 0 0),.v (.int .i64 0)],.v (.int .i64 e)]) []:=⟨_,rfl,[],none,0,[],rfl,iw,(fun o h=>by cases h),rfl,rfl⟩
theorem FQ.view{r:D}{S:List ag}(h:FQ t r S):View S r (.agg (cT t)):=by
 obtain⟨L,ad,cap,Sx,rfl,ho,aS,hL,rfl⟩:=h;have:=JG (root:=t.root) ho aS (fun B E=>E);rw[hL] at this;exact this
theorem BX.view{te:aE×Int}{r:D}{S:List ag}(h:BX te r S):View S r (.dz [.agg (cT te.1),.v (.int .i64 te.2)]):=by
 obtain⟨r',rfl,h⟩:=h;exact Ef ⟨h.view,eP,trivial⟩
noncomputable def qP(t:aE)(k:K)(h:Nat):aE×Int:=if kX t k=0 then (if gZ t k h=true then (gA t h k,0) else (vD,8)) else (vD,kX t k)
theorem O8{k:K}(h:kX t k=0):gq t=0∧nX k=true:=by
 have hc:gq t=0:=Classical.byContradiction fun e=>by rw[Ec e] at h;exact e h
 refine⟨hc,?_⟩;cases hq:nX k with
 | true=>rfl
 | false=>rw[DS hc hq] at h;cases h
theorem aau(t:aE)(h:Nat)(k:K)(hb:∀p∈t.af,p.keys.length≤maxLen∧p.kids.length≤maxLen)(hv:gq t=0→Valid t h):VC Tryz.prog G 93 [.agg [.list 5 (t.af.flatMap cP) t.af.length,.v (.int .i64 t.root)],.list 1 (k.flatMap cB) k.length] [] (BX (qP t k h)):=by
 refine VC.body func93 rfl ntmps93 aO fun X0 w0 aZ=>?_;have eY:=Hj (G:=G) t k hb;unfold cT at eY;have hcT:cT t=[.list 5 (t.af.flatMap cP) t.af.length,.v (.int .i64 t.root)]:=rfl;have dy:maxLen=9223372036854775807:=rfl;refine bX ?_;refine OD.box (ds:=[_,_]) an rfl rfl ot rfl rfl (fun b2=>?_);refine OD.alloc (ds:=[_,_]) an rfl rfl zeroValue46 rfl (fun b4=>?_);refine aj 58 [1,2,4] ?_;refine cL [1,2,4,6] (eY) ?_;refine ae [1,2,4,6,16] ?_;refine aq (fun az aH=>?_) (fun az aH=>?_)
 ·have hn:¬kX t k=0:=(by simpa using az)
  refine aC 2 ?_;refine aN 0 [_,_] sizeOf46 ?_;refine aj 58 [4,5] ?_;refine aJ [] ?_;unfold qP;rw[if_neg hn];exact yG _
 have hz:kX t k=0:=(by simpa using az)
 obtain⟨hc,Nk⟩:=O8 hz;have v:=hv hc;have BY:=Ir Nk;have fI:=pY (G:=G) t h v k w4 (DP v k);obtain⟨q1,E⟩:=v.leaf k;refine aC 1 ?_;refine OD.call an rfl rfl rfl call115 (E2 t h v) ⟨ot,trivial⟩ (eN _) ?_;rintro _ _ ⟨L,ad,cap,Sx,rfl,dU,aS,hL,rfl⟩;refine OD.perm (dV (A:=[_,_])) ?_;refine OD.alloc (ds:=[_,_]) an rfl rfl zeroValue46 rfl (fun b7=>?_);refine aN 0 [_,_] sizeOf46 ?_;refine aj 58 [1,4,7] ?_;refine cN [4,7,8,9,10] ?_;refine ni 2 ?_;refine zj (fI) (ha:=by exact⟨⟨_,ot,by have:=JG (root:=t.root) dU aS (fun B hB=>mem_cons_of_mem ⟨b7,46,2,[.v (.slice ad L.length cap),.v (.int .i64 t.root)]⟩ (mem_cons_of_mem ⟨b4,46,2,[.v (.slice none 0 0),.v (.int .i64 0)]⟩ (mem_cons_of_mem ⟨b2,46,2,[.list 5 (t.af.flatMap cP) t.af.length,.v (.int .i64 t.root)]⟩ hB)));rw[hL] at this;exact this⟩,⟨_,ot,eP⟩,trivial⟩) (K:=?_);refine bH ?_;refine ae [4,7,8,9,29] ?_;refine aq (fun aG aV=>?_) (fun aG aV=>?_)
 ·have iJ:gZ t k h=false:=(by simpa using aG)
  refine aC 1 ?_;refine aN 1 [_,_] sizeOf46 ?_;refine aj 58 [4,5] ?_;refine aJ [] ?_;unfold qP;rw[if_pos hz,if_neg xw];exact yG _
 have iJ:gZ t k h=true:=(by simpa using aG)
 obtain⟨ha,MP⟩:=(DO v k).1 iJ;have po:=v.page _ (jr q1);have hle:=po.leaf E;have Xu:=po.eK;have rA:L.length=t.af.length:=(by rw[←hL,length_map])
 have hj:(aI t k h t.root).toNat<L.length:=(by omega)
 have O:=TF hL q1 hj;obtain⟨bx,rfl,fT,rf,rfl⟩:=dU.pos w4;have U:=aS _ (getElem_mem hj);obtain⟨o,ho⟩:∃o,o=L[(aI t k h t.root).toNat]:=⟨_,rfl⟩
 rw[←ho] at U O;rcases o with ⟨p,ak,ck,sk,ai,ci,si⟩
 have gG:p=t.pg (aI t k h t.root):=O;obtain⟨dI,Z⟩:oD p.keys ak ck sk∧lD p.kids ai ci si:=U;rw[←gG] at ha hle Xu;obtain⟨bk,rfl,dS,xz,rfl⟩:=dI.pos w4;obtain⟨bi,rfl,fp,Ga,rfl⟩:=Z.pos w4;have I:(L.flatMap bO).Perm (⟨bk,49,ck*1,flatMap cK p.keys⟩::⟨bi,3,ci*1,flatMap cI p.kids⟩::((L.eraseIdx (aI t k h t.root).toNat).flatMap bO)):=(by have:=yF bO hj;rw[←ho] at this;exact this)
 refine CD.perm (Perm.cons _ (Perm.cons _ (Perm.cons _ (Perm.cons _ I)))) ?_;rw[gG] at ha;have ha:(aL (t.pg (aI t k h t.root)) k)<p.keys.length:=(by rw[gG];exact ha)
 have pF:(aL (t.pg (aI t k h t.root)) k)<p.kids.length:=(by omega)
 have hid:=dS;clear dI Z;refine cN [4,7,9,11] ?_;refine aQ 3 ?_ (h:=by exact(c9 5 (h:=by first|exact .l (j:=(aI t k h t.root).toNat) (Int.toNat_of_nonneg q1.1).symm hj|exact .r (j:=(aI t k h t.root).toNat) (Int.toNat_of_nonneg q1.1).symm hj)));refine bH ?_;refine CD.seq ?_;refine fK 21 (ap (take 3 _)) ?_ (fun _ h=>(Sublist.map _ (take_sublist _ _)).subset h);refine ax 0 rfl bj ?_;refine ax 1 rfl bj ?_;refine ax 2 rfl bj ?_;refine ax 3 rfl lG ?_;refine ax 4 rfl (c8 1) ?_;refine ax 6 rfl bj ?_;refine ax 7 rfl bj ?_;refine ax 8 rfl (cZ (r:=.int .i64 (((aL (t.pg (aI t k h t.root)) k)+1:Nat):Int)) rfl ot bJ (j3 (by rw[show(((aL (t.pg (aI t k h t.root)) k):Nat):Int)+1=(((aL (t.pg (aI t k h t.root)) k)+1:Nat):Int) from rfl];exact wrap_i64 w4 w4))) ?_;refine ax 10 rfl bj ?_;refine ax 11 rfl lG ?_;refine ax 12 rfl (c8 2) ?_;refine ax 14 rfl bj ?_;refine ax 15 rfl bj ?_;refine ax 16 rfl (cZ (r:=.int .i64 (((aL (t.pg (aI t k h t.root)) k)+1:Nat):Int)) rfl ot bJ (j3 (by rw[show(((aL (t.pg (aI t k h t.root)) k):Nat):Int)+1=(((aL (t.pg (aI t k h t.root)) k)+1:Nat):Int) from rfl];exact wrap_i64 w4 w4))) ?_;refine dm.later rfl ?_;refine AD.two (i:=5) (j:=13) ay ?_ ?_
 ·first|refine at_ rfl (cJ (mk:=Op.load 90) rfl ot (kU (k:=3) (j:=1) (d:=.v (.slice (some ⟨bk,0,none⟩) p.keys.length ck)) (ls:=L) ga rfl rfl rfl isAgg90 hj q8)) ?_|refine at_ rfl (cJ (mk:=Op.load 90) rfl ot (kU (k:=4) (j:=1) (d:=.v (.slice (some ⟨bk,0,none⟩) p.keys.length ck)) (ls:=L) ga rfl rfl rfl isAgg90 hj q8)) ?_
  refine AD.two (i:=9) (j:=13) ay ?_ ?_
  ·refine bg.call rfl an rfl rfl rfl call128 (Hl p.keys (aL (t.pg (aI t k h t.root)) k) ck bk ha dS xz w4) ⟨ot,ot,ot,trivial⟩ (jX (k:=4) rfl) ig ?_;rintro _ _ ⟨rfl,rfl⟩;refine AD.perm (perm_middle (l₁:=[_,_,_,_])).symm ?_;refine AD.one (i:=13) ay ?_;first|refine at_ rfl (cJ (mk:=Op.load 91) rfl ot (kU (k:=3) (j:=2) (d:=.v (.slice (some ⟨bi,0,none⟩) p.kids.length ci)) (ls:=L) ga rfl rfl rfl isAgg91 hj q8)) ?_|refine at_ rfl (cJ (mk:=Op.load 91) rfl ot (kU (k:=4) (j:=2) (d:=.v (.slice (some ⟨bi,0,none⟩) p.kids.length ci)) (ls:=L) ga rfl rfl rfl isAgg91 hj q8)) ?_
   exact z8
  first|refine at_ rfl (cJ (mk:=Op.load 91) rfl ot (kU (k:=3) (j:=2) (d:=.v (.slice (some ⟨bi,0,none⟩) p.kids.length ci)) (ls:=L) ga rfl rfl rfl isAgg91 hj q8)) ?_|refine at_ rfl (cJ (mk:=Op.load 91) rfl ot (kU (k:=4) (j:=2) (d:=.v (.slice (some ⟨bi,0,none⟩) p.kids.length ci)) (ls:=L) ga rfl rfl rfl isAgg91 hj q8)) ?_
  refine AD.one (i:=9) ay ?_;refine bg.call rfl an rfl rfl rfl call128 (Hl p.keys (aL (t.pg (aI t k h t.root)) k) ck bk ha dS xz w4) ⟨ot,ot,ot,trivial⟩ (jX (k:=4) rfl) ig ?_;rintro _ _ ⟨rfl,rfl⟩;refine AD.perm (perm_middle (l₁:=[_,_,_,_])).symm ?_;exact z8
 first|refine at_ rfl (cJ (mk:=Op.load 91) rfl ot (kU (k:=3) (j:=2) (d:=.v (.slice (some ⟨bi,0,none⟩) p.kids.length ci)) (ls:=L) ga rfl rfl rfl isAgg91 hj q8)) ?_|refine at_ rfl (cJ (mk:=Op.load 91) rfl ot (kU (k:=4) (j:=2) (d:=.v (.slice (some ⟨bi,0,none⟩) p.kids.length ci)) (ls:=L) ga rfl rfl rfl isAgg91 hj q8)) ?_
 refine AD.one (i:=5) ay ?_;first|refine at_ rfl (cJ (mk:=Op.load 90) rfl ot (kU (k:=3) (j:=1) (d:=.v (.slice (some ⟨bk,0,none⟩) p.keys.length ck)) (ls:=L) ga rfl rfl rfl isAgg90 hj q8)) ?_|refine at_ rfl (cJ (mk:=Op.load 90) rfl ot (kU (k:=4) (j:=1) (d:=.v (.slice (some ⟨bk,0,none⟩) p.keys.length ck)) (ls:=L) ga rfl rfl rfl isAgg90 hj q8)) ?_
 refine AD.one (i:=9) ay ?_;refine bg.call rfl an rfl rfl rfl call128 (Hl p.keys (aL (t.pg (aI t k h t.root)) k) ck bk ha dS xz w4) ⟨ot,ot,ot,trivial⟩ (jX (k:=4) rfl) ig ?_;rintro _ _ ⟨rfl,rfl⟩;refine AD.perm (perm_middle (l₁:=[_,_,_,_])).symm ?_;refine AD.one (i:=17) ay ?_;refine bg.call rfl an rfl rfl rfl call129 (NY p.kids (aL (t.pg (aI t k h t.root)) k) ci bi pF fp Ga w4) ⟨ot,ot,ot,trivial⟩ (jX (k:=5) rfl) ig ?_;rintro _ _ ⟨rfl,rfl⟩;refine AD.perm (perm_middle (l₁:=[_,_,_,_,_])).symm ?_;refine cr 18 rfl lG ?_;refine cr 19 rfl (c8 1) ?_;refine AD.one (i:=20) ay ?_
 refine bg.storeAt (k:=3) (cs':=flatMap gO (L.set (aI t k h t.root).toNat (⟨{p with keys:=(p.keys.eraseIdx (aL (t.pg (aI t k h t.root)) k))},some ⟨bk,0,none⟩,ck,[⟨bk,49,ck*1,flatMap cK (p.keys.eraseIdx (aL (t.pg (aI t k h t.root)) k))⟩],some ⟨bi,0,none⟩,ci,[⟨bi,3,ci*1,flatMap cI p.kids⟩]⟩:aA))) rfl an rfl rfl ot rfl rfl ot rfl rfl sizeOf90 rfl (by show 0+(aI t k h t.root).toNat*5+1+1≤(flatMap gO L).length;rw[cq ga];omega) (by show(L.flatMap gO).set (0+(aI t k h t.root).toNat*5+1) _=_;rw[Nat.zero_add];exact vL ga w7 hj (by rw[←ho];show gO (⟨{p with keys:=(p.keys.eraseIdx (aL (t.pg (aI t k h t.root)) k))},some ⟨bk,0,none⟩,ck,[⟨bk,49,ck*1,flatMap cK (p.keys.eraseIdx (aL (t.pg (aI t k h t.root)) k))⟩],some ⟨bi,0,none⟩,ci,[⟨bi,3,ci*1,flatMap cI p.kids⟩]⟩:aA)=(gO (⟨p,some ⟨bk,0,none⟩,ck,[⟨bk,49,ck*1,flatMap cK p.keys⟩],some ⟨bi,0,none⟩,ci,[⟨bi,3,ci*1,flatMap cI p.kids⟩]⟩:aA)).set 1 _;unfold gO;rw[length_eraseIdx_of_lt ha];rfl)) ig ?_;refine eA ?_;refine aD 2 ?_
 refine OD.storeAt (k:=3) (cs':=flatMap gO (L.set (aI t k h t.root).toNat (⟨(ke p (aL (t.pg (aI t k h t.root)) k)),some ⟨bk,0,none⟩,ck,[⟨bk,49,ck*1,flatMap cK (p.keys.eraseIdx (aL (t.pg (aI t k h t.root)) k))⟩],some ⟨bi,0,none⟩,ci,[⟨bi,3,ci*1,flatMap cI (p.kids.eraseIdx (aL (t.pg (aI t k h t.root)) k))⟩]⟩:aA))) an rfl rfl ot rfl rfl ot rfl rfl sizeOf91 rfl (by show 0+(aI t k h t.root).toNat*5+2+1≤(flatMap gO (L.set (aI t k h t.root).toNat (⟨{p with keys:=(p.keys.eraseIdx (aL (t.pg (aI t k h t.root)) k))},some ⟨bk,0,none⟩,ck,[⟨bk,49,ck*1,flatMap cK (p.keys.eraseIdx (aL (t.pg (aI t k h t.root)) k))⟩],some ⟨bi,0,none⟩,ci,[⟨bi,3,ci*1,flatMap cI p.kids⟩]⟩:aA))).length;rw[cq ga,length_set];omega) (by show(flatMap gO (L.set (aI t k h t.root).toNat (⟨{p with keys:=(p.keys.eraseIdx (aL (t.pg (aI t k h t.root)) k))},some ⟨bk,0,none⟩,ck,[⟨bk,49,ck*1,flatMap cK (p.keys.eraseIdx (aL (t.pg (aI t k h t.root)) k))⟩],some ⟨bi,0,none⟩,ci,[⟨bi,3,ci*1,flatMap cI p.kids⟩]⟩:aA))).set (0+(aI t k h t.root).toNat*5+2) _=_;rw[Nat.zero_add,vL ga (a':=(⟨(ke p (aL (t.pg (aI t k h t.root)) k)),some ⟨bk,0,none⟩,ck,[⟨bk,49,ck*1,flatMap cK (p.keys.eraseIdx (aL (t.pg (aI t k h t.root)) k))⟩],some ⟨bi,0,none⟩,ci,[⟨bi,3,ci*1,flatMap cI (p.kids.eraseIdx (aL (t.pg (aI t k h t.root)) k))⟩]⟩:aA)) w7 xo (by rw[getElem_set_self];show gO (⟨(ke p (aL (t.pg (aI t k h t.root)) k)),some ⟨bk,0,none⟩,ck,[⟨bk,49,ck*1,flatMap cK (p.keys.eraseIdx (aL (t.pg (aI t k h t.root)) k))⟩],some ⟨bi,0,none⟩,ci,[⟨bi,3,ci*1,flatMap cI (p.kids.eraseIdx (aL (t.pg (aI t k h t.root)) k))⟩]⟩:aA)=(gO (⟨{p with keys:=(p.keys.eraseIdx (aL (t.pg (aI t k h t.root)) k))},some ⟨bk,0,none⟩,ck,[⟨bk,49,ck*1,flatMap cK (p.keys.eraseIdx (aL (t.pg (aI t k h t.root)) k))⟩],some ⟨bi,0,none⟩,ci,[⟨bi,3,ci*1,flatMap cI p.kids⟩]⟩:aA)).set 2 _;unfold gO ke;simp only[];rw[length_eraseIdx_of_lt pF];rfl),set_set]) ?_
 have vt:(⟨bk,49,ck*1,flatMap cK (p.keys.eraseIdx (aL (t.pg (aI t k h t.root)) k))⟩::⟨bi,3,ci*1,flatMap cI (p.kids.eraseIdx (aL (t.pg (aI t k h t.root)) k))⟩::((L.eraseIdx (aI t k h t.root).toNat).flatMap bO)).Perm ((L.set (aI t k h t.root).toNat (⟨(ke p (aL (t.pg (aI t k h t.root)) k)),some ⟨bk,0,none⟩,ck,[⟨bk,49,ck*1,flatMap cK (p.keys.eraseIdx (aL (t.pg (aI t k h t.root)) k))⟩],some ⟨bi,0,none⟩,ci,[⟨bi,3,ci*1,flatMap cI (p.kids.eraseIdx (aL (t.pg (aI t k h t.root)) k))⟩]⟩:aA)).flatMap bO):=(qC bO hj (⟨(ke p (aL (t.pg (aI t k h t.root)) k)),some ⟨bk,0,none⟩,ck,[⟨bk,49,ck*1,flatMap cK (p.keys.eraseIdx (aL (t.pg (aI t k h t.root)) k))⟩],some ⟨bi,0,none⟩,ci,[⟨bi,3,ci*1,flatMap cI (p.kids.eraseIdx (aL (t.pg (aI t k h t.root)) k))⟩]⟩:aA)).symm;refine OD.perm (Perm.cons _ (Perm.cons _ (Perm.cons _ (Perm.cons _ vt)))) ?_;refine aj 58 [4,7] ?_;refine aC 1 ?_;refine aN 1 [_,_] sizeOf46 ?_;refine aj 58 [4,5] ?_
 refine aJ ([⟨bx,93,cap*5,flatMap gO (L.set (aI t k h t.root).toNat (⟨(ke p (aL (t.pg (aI t k h t.root)) k)),some ⟨bk,0,none⟩,ck,[⟨bk,49,ck*1,flatMap cK (p.keys.eraseIdx (aL (t.pg (aI t k h t.root)) k))⟩],some ⟨bi,0,none⟩,ci,[⟨bi,3,ci*1,flatMap cI (p.kids.eraseIdx (aL (t.pg (aI t k h t.root)) k))⟩]⟩:aA))⟩]++(L.set (aI t k h t.root).toNat (⟨(ke p (aL (t.pg (aI t k h t.root)) k)),some ⟨bk,0,none⟩,ck,[⟨bk,49,ck*1,flatMap cK (p.keys.eraseIdx (aL (t.pg (aI t k h t.root)) k))⟩],some ⟨bi,0,none⟩,ci,[⟨bi,3,ci*1,flatMap cI (p.kids.eraseIdx (aL (t.pg (aI t k h t.root)) k))⟩]⟩:aA)).flatMap bO) ?_;unfold qP;rw[if_pos hz,if_pos iJ];refine⟨_,rfl,L.set (aI t k h t.root).toNat (⟨(ke p (aL (t.pg (aI t k h t.root)) k)),some ⟨bk,0,none⟩,ck,[⟨bk,49,ck*1,flatMap cK (p.keys.eraseIdx (aL (t.pg (aI t k h t.root)) k))⟩],some ⟨bi,0,none⟩,ci,[⟨bi,3,ci*1,flatMap cI (p.kids.eraseIdx (aL (t.pg (aI t k h t.root)) k))⟩]⟩:aA),some ⟨bx,0,none⟩,cap,_,by rw[length_set];rfl,bI qZ rf,fun x hx=>?_,?_,rfl⟩
 ·rcases mem_or_eq_of_mem_set hx with hx|rfl
  ·exact aS x hx
  exact⟨bI (by show(p.keys.eraseIdx (aL (t.pg (aI t k h t.root)) k)).length≤ck;rw[length_eraseIdx_of_lt ha];omega) xz,bI (by show(p.kids.eraseIdx (aL (t.pg (aI t k h t.root)) k)).length≤ci;rw[length_eraseIdx_of_lt pF];omega) Ga⟩
 rw[map_set,hL];show _=t.af.set (aI t k h t.root).toNat (ke (t.pg (aI t k h t.root)) (aL (t.pg (aI t k h t.root)) k));rw[←gG]
theorem aav(t:aE)(h:Nat)(k:K)(hb:∀p∈t.af,p.keys.length≤maxLen∧p.kids.length≤maxLen)(E:gq t=0→Valid t h):VP Tryz.prog G 93 [.agg (cT t),.list 1 (k.flatMap cB) k.length] (.dz [.agg (cT (qP t k h).1),.v (.int .i64 (qP t k h).2)]):=(aau t h k hb E).cover fun r S hr=>hr.view

def Vi(L:List aA)(b:Nat)(root:Int)(j:Nat)(p:cR)(r:D)(S:List ag):Prop:=r = .dz [.list 1 ((iX p).flatMap cB) (iX p).length,.v (.int .i64 (L.length:Nat))]∧∃L' ad cap Sx,tU L' ad cap Sx∧(∀o∈L',qz o)∧L'.map aA.p=(L.map aA.p).set j (bp p L.length)++[bu p]∧S=⟨b,46,2,[.v (.slice ad (length L') cap),.v (.int .i64 root)]⟩::(Sx++L'.flatMap bO)
theorem yd:(Tryz.prog.info? 93).map (fun i=>(i.zero,i.size,i.bytes))=some (some (.agg #[.bool false,.slice none 0 0,.slice none 0 0,.slice none 0 0,.int .i64 0]),5,88):=by kernel_rfl
theorem ab1(L:List aA)(b:Nat)(root i:Int)(ad:Option Addr)(cap:Nat)(Sx:List ag)(hi:0≤i∧i<L.length)(hn:L.length≤10000)(dU:tU L ad cap Sx)(aS:∀o∈L,qz o)(h5:(L[i.toNat]'w4).p.keys.length=5)(dS:(L[i.toNat]'w4).p.leaf=true→(L[i.toNat]'w4).p.kids.length=5)(xZ:(L[i.toNat]'w4).p.leaf=false→(L[i.toNat]'w4).p.kids.length=6)(GP:∀k∈(L[i.toNat]'w4).p.keys,k.length≤100)(hh:(L[i.toNat]'w4).p.high.length≤100) :
 VC Tryz.prog G 118 [.v (.pointer (some ⟨b,0,none⟩)),.v (.int .i64 i)] (⟨b,46,2,[.v (.slice ad L.length cap),.v (.int .i64 root)]⟩::(Sx++L.flatMap bO)) (Vi L b root i.toNat (L[i.toNat]'w4).p):=by
 refine VC.body func118 rfl ntmps118 aO fun X0 w0 aZ=>?_;have dy:maxLen=9223372036854775807:=rfl;have hj:i.toNat<L.length:=(by omega)
 obtain⟨bx,rfl,fT,rf,rfl⟩:=dU.pos w4;have xO:=aS _ (getElem_mem hj);obtain⟨o,ho⟩:∃o,o=L[i.toNat]:=⟨_,rfl⟩
 rw[←ho] at xO h5 dS xZ GP hh ⊢;rcases o with ⟨p,ak,ck,sk,ai,ci,si⟩
 obtain⟨dI,jU⟩:oD p.keys ak ck sk∧lD p.kids ai ci si:=xO;change p.keys.length=5 at h5;change p.leaf=true→p.kids.length=5 at dS;change p.leaf=false→p.kids.length=6 at xZ;change ∀k∈p.keys,k.length≤100 at GP;change p.high.length≤100 at hh;have Kg:(L.flatMap bO).Perm (sk++(si++((L.eraseIdx i.toNat).flatMap bO))):=(by have:=yF bO hj;rw[←ho] at this;exact this.trans (by rw[show bO ⟨p,ak,ck,sk,ai,ci,si⟩=sk++si from rfl,append_assoc]))
 refine CD.perm (Perm.cons _ (Perm.cons _ Kg)) ?_;have xn:iX p=p.keys[2]'w4:=yM h5;have Xw:(p.keys[2]'w4).length≤100:=GP _ (getElem_mem _);refine ae [0,1] ?_;refine aC 5 ?_;refine bN (c9 5 (h:=by first|exact .l (j:=i.toNat) (Int.toNat_of_nonneg hi.1).symm hj|exact .r (j:=i.toNat) (Int.toNat_of_nonneg hi.1).symm hj)) ?_;refine bN (cJ (mk:=Op.load 93) rfl ot (dJ (k:=1) (ls:=L) (i:=i.toNat) ga rfl rfl rfl isAgg93 sizeOf93 hj)) ?_;refine OD.alloc (ds:=[_,_,_,_,_]) an rfl rfl zeroValue93 rfl (fun b6=>?_);refine aN 0 [_,_,_,_,_] sizeOf93 ?_;refine aj 98 [0,1,6] ?_;refine CD.seq ?_;refine CD.wk (Wk.cover (A:=⟨b6,93,5,gO L[i.toNat]⟩) (R:=⟨b,46,2,[.v (.slice (some ⟨bx,0,none⟩) L.length cap),.v (.int .i64 root)]⟩::⟨bx,93,cap*5,flatMap gO L⟩::((L.eraseIdx i.toNat).flatMap bO)) (Sd:=sk++si) (cs':=cP p) (Perm.cons _ (Perm.cons _ (Perm.cons _ (by rw[←append_assoc];exact perm_append_comm)))) (by show gv _ (gO L[i.toNat]) _;rw[←ho];exact⟨eP,lj dI (cq gb _) (fun B hB=>mem_append_left _ hB),lj jU (cq ey _) (fun B hB=>mem_append_right _ hB),eP,eP,trivial⟩)) ?_;refine dL 7 ?_;refine OD.alloc (ds:=[_,_,_,_,_]) an rfl rfl zeroValue93 rfl (fun b7=>?_);refine aN 0 [_,_,_,_,_] sizeOf93 ?_;refine aj 98 [0,1,6,7] ?_;refine cN [0,1,6,7,8] ?_
 refine aQ 2 ?_ (h:=by exact(pV (mk:=Op.indexAddr 90) rfl ot bJ (by first|exact s8 runUnderlying90 sizeOf49 (j:=2) rfl w4|exact tv runUnderlying90 sizeOf49 (j:=2) rfl w4)));refine bH ?_;refine CD.cut (fun aK=>∃(b7:Nat),∃(dg:Option Addr),∃(dh:Nat),∃(cD:List ag),∃(di:Option Addr),∃(dj:Nat),∃(cG:List ag),∃(bK:Option Addr),∃(bL:Nat),∃(bA:List ag),(oD (bu p).keys dg dh cD)∧(lD (bu p).kids di dj cG)∧(lD (bp p L.length).kids bK bL bA)∧aK=(⟨98,[(0,.v (.pointer (some ⟨b,0,none⟩))),(1,.v (.int .i64 i)),(6,.v (.pointer (some ⟨b6,0,none⟩))),(7,.v (.pointer (some ⟨b7,0,none⟩))),(8,.list 1 ((iX p).flatMap cB) (iX p).length)],(⟨b7,93,5,[.v (.bool p.leaf),.v (.slice dg (bu p).keys.length dh),.v (.slice di (bu p).kids.length dj),.list 1 (p.high.flatMap cB) p.high.length,.v (.int .i64 p.next)]⟩::⟨b6,93,5,[.v (.bool p.leaf),.list 1 (p.keys.flatMap cK) p.keys.length,.v (.slice bK (bp p L.length).kids.length bL),.list 1 (p.high.flatMap cB) p.high.length,.v (.int .i64 p.next)]⟩::⟨b,46,2,[.v (.slice (some ⟨bx,0,none⟩) L.length cap),.v (.int .i64 root)]⟩::⟨bx,93,cap*5,flatMap gO L⟩::(bA++(cG++(cD++((L.eraseIdx i.toNat).flatMap bO)))))⟩:St)) ?_ ?_
 ·refine ae [0,1,6,7,8,28] ?_;refine aq (fun az aH=>?_) (fun az aH=>?_)
  ·have fF:p.leaf=true:=az;have dS:=dS fF;refine CD.seq ?_;refine fK 10 (ap (take 2 (drop 1 _))) ?_ (fun _ h=>(Sublist.map _ ((take_sublist _ _).trans (drop_sublist _ _))).subset h);refine ax 0 rfl (c8 1) ?_;refine ax 4 rfl (c8 2) ?_;refine dm.later rfl ?_;refine AD.two (i:=1) (j:=5) ay ?_ ?_
   ·refine at_ rfl (dB 1) ?_;refine cr 2 rfl (ei (l:=2) rfl ot ⟨_,bJ⟩ trivial F5) ?_;refine AD.two (i:=3) (j:=5) ay ?_ ?_
    ·have Br:VC Tryz.prog G 145 [.list 1 ((p.keys.drop 2).flatMap cK) (p.keys.drop 2).length] [] (fun r S=>∃ad cap,r = .v (.slice ad (bu p).keys.length cap)∧oD (bu p).keys ad cap S):=(by rw[show(p.keys.drop 2)=(bu p).keys from vl];exact vP _ LG)
     refine bg.call rfl an rfl rfl rfl call145 Br ⟨ot,trivial⟩ (eN _) ig ?_;rintro _ C8 ⟨C9,Da,rfl,BZ⟩;refine AD.perm (iY (A:=[_,_,_,_])) ?_;refine cr 8 rfl (c8 1) ?_;refine AD.one (i:=5) ay ?_;refine at_ rfl (dB 1) ?_;refine cr 6 rfl (ei (l:=2) rfl ot ⟨_,bJ⟩ trivial zK) ?_;refine AD.one (i:=7) ay ?_;have Bs:VC Tryz.prog G 114 [.list 1 ((p.kids.drop 2).flatMap cI) (p.kids.drop 2).length] [] (fun r S=>∃ad cap,r = .v (.slice ad (bu p).kids.length cap)∧lD (bu p).kids ad cap S):=(by rw[show(p.kids.drop 2)=(bu p).kids from vk];exact nJ _ LC)
     refine bg.call rfl an rfl rfl rfl call114 Bs ⟨ot,trivial⟩ (eN _) ig ?_;rintro _ Db ⟨Dc,De,rfl,B0⟩;refine AD.perm (iY (A:=[_,_,_,_])) ?_;refine AD.one (i:=9) ay ?_;refine dN 0 [_,_,_,_,_] sizeOf90 ?_;refine eA ?_;refine aD 1 ?_;refine aN 0 [_,_,_,_,_] sizeOf91 ?_;refine aj 98 [0,1,6,7,8] ?_;refine dL 2 ?_;refine bN (ei (l:=0) (h:=2) rfl ot trivial ⟨_,bJ⟩ zL) ?_;have Bt:VC Tryz.prog G 114 [.list 1 ((p.kids.take 2).flatMap cI) (p.kids.take 2).length] [] (fun r S=>∃ad cap,r = .v (.slice ad (bp p L.length).kids.length cap)∧lD (bp p L.length).kids ad cap S):=(by rw[show(p.kids.take 2)=(bp p L.length).kids from vj];exact nJ _ Lz)
     refine OD.call an rfl rfl rfl call114 Bt ⟨ot,trivial⟩ (eN _) ?_;rintro _ Df ⟨Dg,Dh,rfl,B3⟩;refine OD.perm (iY (A:=[_,_,_,_])) ?_;refine aD 1 ?_;refine aN 1 [_,_,_,_,_] sizeOf91 ?_;refine aj 98 [0,1,6,7,8] ?_;refine⟨_,(aM (h:=by repeat (first|exact trivial|refine⟨zD,?_⟩))),b7,C9,Da,C8,Dc,De,Db,Dg,Dh,Df,BZ,B0,B3,rfl⟩
    refine at_ rfl (dB 1) ?_;refine cr 6 rfl (ei (l:=2) rfl ot ⟨_,bJ⟩ trivial zK) ?_;refine AD.one (i:=3) ay ?_;have Br:VC Tryz.prog G 145 [.list 1 ((p.keys.drop 2).flatMap cK) (p.keys.drop 2).length] [] (fun r S=>∃ad cap,r = .v (.slice ad (bu p).keys.length cap)∧oD (bu p).keys ad cap S):=(by rw[show(p.keys.drop 2)=(bu p).keys from vl];exact vP _ LG)
    refine bg.call rfl an rfl rfl rfl call145 Br ⟨ot,trivial⟩ (eN _) ig ?_;rintro _ C8 ⟨C9,Da,rfl,BZ⟩;refine AD.perm (iY (A:=[_,_,_,_])) ?_;refine cr 8 rfl (c8 1) ?_;refine AD.one (i:=7) ay ?_;have Bs:VC Tryz.prog G 114 [.list 1 ((p.kids.drop 2).flatMap cI) (p.kids.drop 2).length] [] (fun r S=>∃ad cap,r = .v (.slice ad (bu p).kids.length cap)∧lD (bu p).kids ad cap S):=(by rw[show(p.kids.drop 2)=(bu p).kids from vk];exact nJ _ LC)
    refine bg.call rfl an rfl rfl rfl call114 Bs ⟨ot,trivial⟩ (eN _) ig ?_;rintro _ Db ⟨Dc,De,rfl,B0⟩;refine AD.perm (iY (A:=[_,_,_,_])) ?_;refine AD.one (i:=9) ay ?_;refine dN 0 [_,_,_,_,_] sizeOf90 ?_;refine eA ?_;refine aD 1 ?_;refine aN 0 [_,_,_,_,_] sizeOf91 ?_;refine aj 98 [0,1,6,7,8] ?_;refine dL 2 ?_;refine bN (ei (l:=0) (h:=2) rfl ot trivial ⟨_,bJ⟩ zL) ?_;have Bt:VC Tryz.prog G 114 [.list 1 ((p.kids.take 2).flatMap cI) (p.kids.take 2).length] [] (fun r S=>∃ad cap,r = .v (.slice ad (bp p L.length).kids.length cap)∧lD (bp p L.length).kids ad cap S):=(by rw[show(p.kids.take 2)=(bp p L.length).kids from vj];exact nJ _ Lz)
    refine OD.call an rfl rfl rfl call114 Bt ⟨ot,trivial⟩ (eN _) ?_;rintro _ Df ⟨Dg,Dh,rfl,B3⟩;refine OD.perm (iY (A:=[_,_,_,_])) ?_;refine aD 1 ?_;refine aN 1 [_,_,_,_,_] sizeOf91 ?_;refine aj 98 [0,1,6,7,8] ?_;refine⟨_,(aM (h:=by repeat (first|exact trivial|refine⟨zD,?_⟩))),b7,C9,Da,C8,Dc,De,Db,Dg,Dh,Df,BZ,B0,B3,rfl⟩
   refine at_ rfl (dB 1) ?_;refine cr 6 rfl (ei (l:=2) rfl ot ⟨_,bJ⟩ trivial zK) ?_;refine AD.one (i:=1) ay ?_;refine at_ rfl (dB 1) ?_;refine cr 2 rfl (ei (l:=2) rfl ot ⟨_,bJ⟩ trivial F5) ?_;refine AD.one (i:=3) ay ?_;have Br:VC Tryz.prog G 145 [.list 1 ((p.keys.drop 2).flatMap cK) (p.keys.drop 2).length] [] (fun r S=>∃ad cap,r = .v (.slice ad (bu p).keys.length cap)∧oD (bu p).keys ad cap S):=(by rw[show(p.keys.drop 2)=(bu p).keys from vl];exact vP _ LG)
   refine bg.call rfl an rfl rfl rfl call145 Br ⟨ot,trivial⟩ (eN _) ig ?_;rintro _ C8 ⟨C9,Da,rfl,BZ⟩;refine AD.perm (iY (A:=[_,_,_,_])) ?_;refine cr 8 rfl (c8 1) ?_;refine AD.one (i:=7) ay ?_;have Bs:VC Tryz.prog G 114 [.list 1 ((p.kids.drop 2).flatMap cI) (p.kids.drop 2).length] [] (fun r S=>∃ad cap,r = .v (.slice ad (bu p).kids.length cap)∧lD (bu p).kids ad cap S):=(by rw[show(p.kids.drop 2)=(bu p).kids from vk];exact nJ _ LC)
   refine bg.call rfl an rfl rfl rfl call114 Bs ⟨ot,trivial⟩ (eN _) ig ?_;rintro _ Db ⟨Dc,De,rfl,B0⟩;refine AD.perm (iY (A:=[_,_,_,_])) ?_;refine AD.one (i:=9) ay ?_;refine dN 0 [_,_,_,_,_] sizeOf90 ?_;refine eA ?_;refine aD 1 ?_;refine aN 0 [_,_,_,_,_] sizeOf91 ?_;refine aj 98 [0,1,6,7,8] ?_;refine dL 2 ?_;refine bN (ei (l:=0) (h:=2) rfl ot trivial ⟨_,bJ⟩ zL) ?_;have Bt:VC Tryz.prog G 114 [.list 1 ((p.kids.take 2).flatMap cI) (p.kids.take 2).length] [] (fun r S=>∃ad cap,r = .v (.slice ad (bp p L.length).kids.length cap)∧lD (bp p L.length).kids ad cap S):=(by rw[show(p.kids.take 2)=(bp p L.length).kids from vj];exact nJ _ Lz)
   refine OD.call an rfl rfl rfl call114 Bt ⟨ot,trivial⟩ (eN _) ?_;rintro _ Df ⟨Dg,Dh,rfl,B3⟩;refine OD.perm (iY (A:=[_,_,_,_])) ?_;refine aD 1 ?_;refine aN 1 [_,_,_,_,_] sizeOf91 ?_;refine aj 98 [0,1,6,7,8] ?_;refine⟨_,(aM (h:=by repeat (first|exact trivial|refine⟨zD,?_⟩))),b7,C9,Da,C8,Dc,De,Db,Dg,Dh,Df,BZ,B0,B3,rfl⟩
  have fF:p.leaf=false:=az;have xZ:=xZ fF;refine CD.seq ?_;refine fK 10 (ap (take 2 (drop 1 _))) ?_ (fun _ h=>(Sublist.map _ ((take_sublist _ _).trans (drop_sublist _ _))).subset h);refine ax 0 rfl (c8 1) ?_;refine ax 4 rfl (c8 2) ?_;refine dm.later rfl ?_;refine AD.two (i:=1) (j:=5) ay ?_ ?_
  ·refine at_ rfl (dB 1) ?_;refine cr 2 rfl (ei (l:=3) rfl ot ⟨_,bJ⟩ trivial F5) ?_;refine AD.two (i:=3) (j:=5) ay ?_ ?_
   ·have Bu:VC Tryz.prog G 145 [.list 1 ((p.keys.drop 3).flatMap cK) (p.keys.drop 3).length] [] (fun r S=>∃ad cap,r = .v (.slice ad (bu p).keys.length cap)∧oD (bu p).keys ad cap S):=(by rw[show(p.keys.drop 3)=(bu p).keys from vl];exact vP _ LF)
    refine bg.call rfl an rfl rfl rfl call145 Bu ⟨ot,trivial⟩ (eN _) ig ?_;rintro _ Di ⟨Dj,Dk,rfl,B4⟩;refine AD.perm (iY (A:=[_,_,_,_])) ?_;refine cr 8 rfl (c8 1) ?_;refine AD.one (i:=5) ay ?_;refine at_ rfl (dB 1) ?_;refine cr 6 rfl (ei (l:=3) rfl ot ⟨_,bJ⟩ trivial zK) ?_;refine AD.one (i:=7) ay ?_;have Bv:VC Tryz.prog G 114 [.list 1 ((p.kids.drop 3).flatMap cI) (p.kids.drop 3).length] [] (fun r S=>∃ad cap,r = .v (.slice ad (bu p).kids.length cap)∧lD (bu p).kids ad cap S):=(by rw[show(p.kids.drop 3)=(bu p).kids from vk];exact nJ _ LA)
    refine bg.call rfl an rfl rfl rfl call114 Bv ⟨ot,trivial⟩ (eN _) ig ?_;rintro _ Dl ⟨a51,Dm,rfl,B5⟩;refine AD.perm (iY (A:=[_,_,_,_])) ?_;refine AD.one (i:=9) ay ?_;refine dN 0 [_,_,_,_,_] sizeOf90 ?_;refine eA ?_;refine aD 1 ?_;refine aN 0 [_,_,_,_,_] sizeOf91 ?_;refine aj 98 [0,1,6,7,8] ?_;refine dL 2 ?_;refine bN (ei (l:=0) (h:=3) rfl ot trivial ⟨_,bJ⟩ zL) ?_;have Bw:VC Tryz.prog G 114 [.list 1 ((p.kids.take 3).flatMap cI) (p.kids.take 3).length] [] (fun r S=>∃ad cap,r = .v (.slice ad (bp p L.length).kids.length cap)∧lD (bp p L.length).kids ad cap S):=(by rw[show(p.kids.take 3)=(bp p L.length).kids from vj];exact nJ _ Ly)
    refine OD.call an rfl rfl rfl call114 Bw ⟨ot,trivial⟩ (eN _) ?_;rintro _ vC ⟨Dn,Dp,rfl,va⟩;refine OD.perm (iY (A:=[_,_,_,_])) ?_;refine aD 1 ?_;refine aN 1 [_,_,_,_,_] sizeOf91 ?_;refine aj 98 [0,1,6,7,8] ?_;refine⟨_,(aM (h:=by repeat (first|exact trivial|refine⟨zD,?_⟩))),b7,Dj,Dk,Di,a51,Dm,Dl,Dn,Dp,vC,B4,B5,va,rfl⟩
   refine at_ rfl (dB 1) ?_;refine cr 6 rfl (ei (l:=3) rfl ot ⟨_,bJ⟩ trivial zK) ?_;refine AD.one (i:=3) ay ?_;have Bu:VC Tryz.prog G 145 [.list 1 ((p.keys.drop 3).flatMap cK) (p.keys.drop 3).length] [] (fun r S=>∃ad cap,r = .v (.slice ad (bu p).keys.length cap)∧oD (bu p).keys ad cap S):=(by rw[show(p.keys.drop 3)=(bu p).keys from vl];exact vP _ LF)
   refine bg.call rfl an rfl rfl rfl call145 Bu ⟨ot,trivial⟩ (eN _) ig ?_;rintro _ Di ⟨Dj,Dk,rfl,B4⟩;refine AD.perm (iY (A:=[_,_,_,_])) ?_;refine cr 8 rfl (c8 1) ?_;refine AD.one (i:=7) ay ?_;have Bv:VC Tryz.prog G 114 [.list 1 ((p.kids.drop 3).flatMap cI) (p.kids.drop 3).length] [] (fun r S=>∃ad cap,r = .v (.slice ad (bu p).kids.length cap)∧lD (bu p).kids ad cap S):=(by rw[show(p.kids.drop 3)=(bu p).kids from vk];exact nJ _ LA)
   refine bg.call rfl an rfl rfl rfl call114 Bv ⟨ot,trivial⟩ (eN _) ig ?_;rintro _ Dl ⟨a51,Dm,rfl,B5⟩;refine AD.perm (iY (A:=[_,_,_,_])) ?_;refine AD.one (i:=9) ay ?_;refine dN 0 [_,_,_,_,_] sizeOf90 ?_;refine eA ?_;refine aD 1 ?_;refine aN 0 [_,_,_,_,_] sizeOf91 ?_;refine aj 98 [0,1,6,7,8] ?_;refine dL 2 ?_;refine bN (ei (l:=0) (h:=3) rfl ot trivial ⟨_,bJ⟩ zL) ?_;have Bw:VC Tryz.prog G 114 [.list 1 ((p.kids.take 3).flatMap cI) (p.kids.take 3).length] [] (fun r S=>∃ad cap,r = .v (.slice ad (bp p L.length).kids.length cap)∧lD (bp p L.length).kids ad cap S):=(by rw[show(p.kids.take 3)=(bp p L.length).kids from vj];exact nJ _ Ly)
   refine OD.call an rfl rfl rfl call114 Bw ⟨ot,trivial⟩ (eN _) ?_;rintro _ vC ⟨Dn,Dp,rfl,va⟩;refine OD.perm (iY (A:=[_,_,_,_])) ?_;refine aD 1 ?_;refine aN 1 [_,_,_,_,_] sizeOf91 ?_;refine aj 98 [0,1,6,7,8] ?_;refine⟨_,(aM (h:=by repeat (first|exact trivial|refine⟨zD,?_⟩))),b7,Dj,Dk,Di,a51,Dm,Dl,Dn,Dp,vC,B4,B5,va,rfl⟩
  refine at_ rfl (dB 1) ?_;refine cr 6 rfl (ei (l:=3) rfl ot ⟨_,bJ⟩ trivial zK) ?_;refine AD.one (i:=1) ay ?_;refine at_ rfl (dB 1) ?_;refine cr 2 rfl (ei (l:=3) rfl ot ⟨_,bJ⟩ trivial F5) ?_;refine AD.one (i:=3) ay ?_;have Bu:VC Tryz.prog G 145 [.list 1 ((p.keys.drop 3).flatMap cK) (p.keys.drop 3).length] [] (fun r S=>∃ad cap,r = .v (.slice ad (bu p).keys.length cap)∧oD (bu p).keys ad cap S):=(by rw[show(p.keys.drop 3)=(bu p).keys from vl];exact vP _ LF)
  refine bg.call rfl an rfl rfl rfl call145 Bu ⟨ot,trivial⟩ (eN _) ig ?_;rintro _ Di ⟨Dj,Dk,rfl,B4⟩;refine AD.perm (iY (A:=[_,_,_,_])) ?_;refine cr 8 rfl (c8 1) ?_;refine AD.one (i:=7) ay ?_;have Bv:VC Tryz.prog G 114 [.list 1 ((p.kids.drop 3).flatMap cI) (p.kids.drop 3).length] [] (fun r S=>∃ad cap,r = .v (.slice ad (bu p).kids.length cap)∧lD (bu p).kids ad cap S):=(by rw[show(p.kids.drop 3)=(bu p).kids from vk];exact nJ _ LA)
  refine bg.call rfl an rfl rfl rfl call114 Bv ⟨ot,trivial⟩ (eN _) ig ?_;rintro _ Dl ⟨a51,Dm,rfl,B5⟩;refine AD.perm (iY (A:=[_,_,_,_])) ?_;refine AD.one (i:=9) ay ?_;refine dN 0 [_,_,_,_,_] sizeOf90 ?_;refine eA ?_;refine aD 1 ?_;refine aN 0 [_,_,_,_,_] sizeOf91 ?_;refine aj 98 [0,1,6,7,8] ?_;refine dL 2 ?_;refine bN (ei (l:=0) (h:=3) rfl ot trivial ⟨_,bJ⟩ zL) ?_;have Bw:VC Tryz.prog G 114 [.list 1 ((p.kids.take 3).flatMap cI) (p.kids.take 3).length] [] (fun r S=>∃ad cap,r = .v (.slice ad (bp p L.length).kids.length cap)∧lD (bp p L.length).kids ad cap S):=(by rw[show(p.kids.take 3)=(bp p L.length).kids from vj];exact nJ _ Ly)
  refine OD.call an rfl rfl rfl call114 Bw ⟨ot,trivial⟩ (eN _) ?_;rintro _ vC ⟨Dn,Dp,rfl,va⟩;refine OD.perm (iY (A:=[_,_,_,_])) ?_;refine aD 1 ?_;refine aN 1 [_,_,_,_,_] sizeOf91 ?_;refine aj 98 [0,1,6,7,8] ?_;refine⟨_,(aM (h:=by repeat (first|exact trivial|refine⟨zD,?_⟩))),b7,Dj,Dk,Di,a51,Dm,Dl,Dn,Dp,vC,B4,B5,va,rfl⟩
 rintro _ ⟨b7,dg,dh,cD,di,dj,cG,bK,bL,bA,pD,zw,zx,rfl⟩;refine aC 2 ?_;refine bN (ei (l:=0) (h:=2) rfl ot trivial ⟨_,bJ⟩ (by first|exact ow gb (fun h=>by cases h) runUnderlying90 sizeOf49 w4|exact ow ey (fun h=>by cases h) runUnderlying90 sizeOf49 w4|exact oA (fun h=>by cases h) runUnderlying90 sizeOf49 w4|exact nL (fun _=>rfl) (fun h=>by cases h) runUnderlying90 sizeOf49 w4 w4)) ?_;have agy:VC Tryz.prog G 145 [.list 1 ((p.keys.take 2).flatMap cK) (p.keys.take 2).length] [] (fun r S=>∃ad cap,r = .v (.slice ad (bp p L.length).keys.length cap)∧oD (bp p L.length).keys ad cap S):=(by rw[show(p.keys.take 2)=(bp p L.length).keys from rfl];exact vP _ (by rw[←show(p.keys.take 2)=(bp p L.length).keys from rfl];simp only[length_take,length_drop];omega))
 refine OD.call an rfl rfl rfl call145 agy ⟨ot,trivial⟩ (eN _) ?_;rintro _ bW ⟨cm,cn,rfl,zy⟩;refine OD.perm (iY (A:=[_,_,_,_])) ?_;refine aD 1 ?_;refine aN 1 [_,_,_,_,_] sizeOf90 ?_;refine aj 98 [0,1,6,7,8] ?_;refine CD.seq ?_;refine fK 9 (ap (take 1 (drop 0 _))) ?_ (fun _ h=>(Sublist.map _ ((take_sublist _ _).trans (drop_sublist _ _))).subset h);refine ax 0 rfl bj ?_;refine ax 2 rfl bj ?_;refine ax 3 rfl lG ?_;refine ax 4 rfl (c8 0) ?_;refine dm.later rfl ?_;refine AD.two (i:=1) (j:=5) ay ?_ ?_
 ·refine jv call59 (jL (iX p) vr) ?_;refine cr 7 rfl (c8 3) ?_;refine AD.two (i:=5) (j:=8) ay ?_ ?_
  ·refine at_ rfl (dB 2) ?_;refine cr 6 rfl qv ?_;refine AD.one (i:=8) ay ?_;refine dN 1 [_,_,_,_,_] sizeOf49 ?_;refine eA ?_;refine aD 1 ?_;refine aN 1 [_,_,_,_,_] sizeOf3 ?_;refine aj 98 [0,1,6,7,8] ?_;refine CD.seq ?_;refine l8 6 [0,7,8,76,77,78] ?_;refine bH ?_;refine bN (c9 5 (h:=by first|exact .l (j:=i.toNat) (Int.toNat_of_nonneg hi.1).symm hj|exact .r (j:=i.toNat) (Int.toNat_of_nonneg hi.1).symm hj)) ?_;refine OD.storeAt (k:=3) (cs':=flatMap gO (L.set i.toNat (⟨bp p L.length,cm,cn,bW,bK,bL,bA⟩:aA))) an rfl rfl ot rfl rfl ot rfl rfl sizeOf93 rfl LI Lq ?_;refine aj 98 [0,7,8] ?_;refine CD.seq ?_;refine fK 8 (ap (take 2 _)) ?_ (fun _ h=>(Sublist.map _ (take_sublist _ _)).subset h);refine ax 0 rfl bj ?_;refine ax 1 rfl bj ?_;refine ax 2 rfl lG ?_;refine ax 3 rfl (c8 0) ?_;refine ax 5 rfl (BD 0 [_,_,_,_,_]) ?_;refine dm.later rfl ?_;refine AD.two (i:=4) (j:=6) ay ?_ ?_
   ·refine at_ rfl (cJ (mk:=Op.load 44) rfl ot (rM (k:=2) (d:=.v (.slice (some ⟨bx,0,none⟩) (L.set i.toNat (⟨bp p L.length,cm,cn,bW,bK,bL,bA⟩:aA)).length cap)) rfl rfl isAgg44 zN)) ?_;refine AD.one (i:=6) ay ?_;refine jj (bZ 0 [_]) [.bool false,.slice none 0 0,.slice none 0 0,.slice none 0 0,.int .i64 0] [_,_,_,_,_] zeroValue93 runUnderlying44 sizeOf93 (fun Dq=>?_);refine jk 0 86 5 1 ?_;refine AD.one (i:=7) ay ?_;refine bg.dZ (ls:=(L.set i.toNat (⟨bp p L.length,cm,cn,bW,bK,bL,bA⟩:aA))) (new:=[(⟨bu p,dg,dh,cD,di,dj,cG⟩:aA)]) (Sq:=[⟨bx,93,cap*5,flatMap gO (L.set i.toNat (⟨bp p L.length,cm,cn,bW,bK,bL,bA⟩:aA))⟩]) ga uK rfl an rfl rfl underlying44 yd rfl w7 ot (bI qZ rf) (jX (k:=3) rfl) ot bq zH zI (hT:=by intro x0 O;have O:x0∈[b7,b6]:=O;show x0∈(b7::b6::_:List Nat);simp only[mem_cons,not_mem_nil,or_false] at O ⊢;omega) (fun I E U Z=>?_);refine eA ?_;refine aD 2 ?_;refine aN 3 [_,_] sizeOf44 ?_;refine aj 98 [0,8] ?_;refine CD.seq ?_;refine fK 9 (ap _) ?_ (fun _ h=>h);refine ax 0 rfl bj ?_;refine ax 2 rfl bj ?_;refine ax 3 rfl lG ?_;refine ax 4 rfl (c8 0) ?_;refine ax 5 rfl (dB 3) ?_;refine ax 6 rfl qv ?_;refine ax 7 rfl (cZ (r:=.int .i64 (L.length:Nat)) rfl ot bJ (fZ zJ)) ?_;refine dm.later rfl ?_;refine AD.one (i:=1) ay ?_;refine jv call59 (jL (iX p) vr) ?_
    have oG:(bW++(bA++(cG++(cD++((L.eraseIdx i.toNat).flatMap bO))))).Perm (((L.set i.toNat (⟨bp p L.length,cm,cn,bW,bK,bL,bA⟩:aA))++[(⟨bu p,dg,dh,cD,di,dj,cG⟩:aA)]).flatMap bO):=iv fun iU=>by have hq:=yj (qC bO hj (⟨bp p L.length,cm,cn,bW,bK,bL,bA⟩:aA)) iU;rw[flatMap_append,show[(⟨bu p,dg,dh,cD,di,dj,cG⟩:aA)].flatMap bO=cD++(cG++[]) from by simp[bO]];simp only[show bO (⟨bp p L.length,cm,cn,bW,bK,bL,bA⟩:aA)=bW++bA from rfl,map_append,map_cons,map_nil,sum_append,sum_cons,sum_nil] at *;omega
    refine AD.perm (S':=⟨b7,93,5,gO (⟨bu p,dg,dh,cD,di,dj,cG⟩:aA)⟩::⟨b6,93,5,gO (⟨bp p L.length,cm,cn,bW,bK,bL,bA⟩:aA)⟩::⟨b,46,2,[.v (.slice (some ⟨I,0,none⟩) ((L.set i.toNat (⟨bp p L.length,cm,cn,bW,bK,bL,bA⟩:aA))++[(⟨bu p,dg,dh,cD,di,dj,cG⟩:aA)]).length E),.v (.int .i64 root)]⟩::(([⟨I,93,E*5,flatMap gO ((L.set i.toNat (⟨bp p L.length,cm,cn,bW,bK,bL,bA⟩:aA))++[(⟨bu p,dg,dh,cD,di,dj,cG⟩:aA)])⟩]:List ag)++((L.set i.toNat (⟨bp p L.length,cm,cn,bW,bK,bL,bA⟩:aA))++[(⟨bu p,dg,dh,cD,di,dj,cG⟩:aA)]).flatMap bO)) zE ?_;refine cr 8 rfl bj ?_;refine eA ?_;refine bf [4,5] ?_;refine aJ (⟨b,46,2,[.v (.slice (some ⟨I,0,none⟩) ((L.set i.toNat (⟨bp p L.length,cm,cn,bW,bK,bL,bA⟩:aA))++[(⟨bu p,dg,dh,cD,di,dj,cG⟩:aA)]).length E),.v (.int .i64 root)]⟩::([⟨I,93,E*5,flatMap gO ((L.set i.toNat (⟨bp p L.length,cm,cn,bW,bK,bL,bA⟩:aA))++[(⟨bu p,dg,dh,cD,di,dj,cG⟩:aA)])⟩]++((L.set i.toNat (⟨bp p L.length,cm,cn,bW,bK,bL,bA⟩:aA))++[(⟨bu p,dg,dh,cD,di,dj,cG⟩:aA)]).flatMap bO)) ?_;refine⟨rfl,((L.set i.toNat (⟨bp p L.length,cm,cn,bW,bK,bL,bA⟩:aA))++[(⟨bu p,dg,dh,cD,di,dj,cG⟩:aA)]),some ⟨I,0,none⟩,E,[⟨I,93,E*5,flatMap gO ((L.set i.toNat (⟨bp p L.length,cm,cn,bW,bK,bL,bA⟩:aA))++[(⟨bu p,dg,dh,cD,di,dj,cG⟩:aA)])⟩],bI U Z,fun x hx=>?_,?_,rfl⟩
    ·rcases mem_append.1 hx with hx|hx
     ·rcases mem_or_eq_of_mem_set hx with hx|rfl
      ·exact aS x hx
      exact⟨zy,zx⟩
     rw[mem_singleton] at hx;subst hx;exact⟨pD,zw⟩
    rw[map_append,map_set];rfl
   refine jj (bZ 0 [_]) [.bool false,.slice none 0 0,.slice none 0 0,.slice none 0 0,.int .i64 0] [_,_,_,_,_] zeroValue93 runUnderlying44 sizeOf93 (fun Dq=>?_);refine jk 0 86 5 1 ?_;refine AD.one (i:=4) ay ?_;refine at_ rfl (cJ (mk:=Op.load 44) rfl ot (rM (k:=2) (d:=.v (.slice (some ⟨bx,0,none⟩) (L.set i.toNat (⟨bp p L.length,cm,cn,bW,bK,bL,bA⟩:aA)).length cap)) rfl rfl isAgg44 zN)) ?_;refine AD.one (i:=7) ay ?_;refine bg.dZ (ls:=(L.set i.toNat (⟨bp p L.length,cm,cn,bW,bK,bL,bA⟩:aA))) (new:=[(⟨bu p,dg,dh,cD,di,dj,cG⟩:aA)]) (Sq:=[⟨bx,93,cap*5,flatMap gO (L.set i.toNat (⟨bp p L.length,cm,cn,bW,bK,bL,bA⟩:aA))⟩]) ga uK rfl an rfl rfl underlying44 yd rfl w7 ot (bI qZ rf) (jX (k:=3) rfl) ot bq zH zI (hT:=by intro x0 O;have O:x0∈[b7,b6]:=O;show x0∈(b7::b6::_:List Nat);simp only[mem_cons,not_mem_nil,or_false] at O ⊢;omega) (fun I E U Z=>?_);refine eA ?_;refine aD 2 ?_;refine aN 3 [_,_] sizeOf44 ?_;refine aj 98 [0,8] ?_;refine CD.seq ?_;refine fK 9 (ap _) ?_ (fun _ h=>h);refine ax 0 rfl bj ?_;refine ax 2 rfl bj ?_;refine ax 3 rfl lG ?_;refine ax 4 rfl (c8 0) ?_;refine ax 5 rfl (dB 3) ?_;refine ax 6 rfl qv ?_;refine ax 7 rfl (cZ (r:=.int .i64 (L.length:Nat)) rfl ot bJ (fZ zJ)) ?_;refine dm.later rfl ?_;refine AD.one (i:=1) ay ?_;refine jv call59 (jL (iX p) vr) ?_
   have oG:(bW++(bA++(cG++(cD++((L.eraseIdx i.toNat).flatMap bO))))).Perm (((L.set i.toNat (⟨bp p L.length,cm,cn,bW,bK,bL,bA⟩:aA))++[(⟨bu p,dg,dh,cD,di,dj,cG⟩:aA)]).flatMap bO):=iv fun iU=>by have hq:=yj (qC bO hj (⟨bp p L.length,cm,cn,bW,bK,bL,bA⟩:aA)) iU;rw[flatMap_append,show[(⟨bu p,dg,dh,cD,di,dj,cG⟩:aA)].flatMap bO=cD++(cG++[]) from by simp[bO]];simp only[show bO (⟨bp p L.length,cm,cn,bW,bK,bL,bA⟩:aA)=bW++bA from rfl,map_append,map_cons,map_nil,sum_append,sum_cons,sum_nil] at *;omega
   refine AD.perm (S':=⟨b7,93,5,gO (⟨bu p,dg,dh,cD,di,dj,cG⟩:aA)⟩::⟨b6,93,5,gO (⟨bp p L.length,cm,cn,bW,bK,bL,bA⟩:aA)⟩::⟨b,46,2,[.v (.slice (some ⟨I,0,none⟩) ((L.set i.toNat (⟨bp p L.length,cm,cn,bW,bK,bL,bA⟩:aA))++[(⟨bu p,dg,dh,cD,di,dj,cG⟩:aA)]).length E),.v (.int .i64 root)]⟩::(([⟨I,93,E*5,flatMap gO ((L.set i.toNat (⟨bp p L.length,cm,cn,bW,bK,bL,bA⟩:aA))++[(⟨bu p,dg,dh,cD,di,dj,cG⟩:aA)])⟩]:List ag)++((L.set i.toNat (⟨bp p L.length,cm,cn,bW,bK,bL,bA⟩:aA))++[(⟨bu p,dg,dh,cD,di,dj,cG⟩:aA)]).flatMap bO)) zE ?_;refine cr 8 rfl bj ?_;refine eA ?_;refine bf [4,5] ?_;refine aJ (⟨b,46,2,[.v (.slice (some ⟨I,0,none⟩) ((L.set i.toNat (⟨bp p L.length,cm,cn,bW,bK,bL,bA⟩:aA))++[(⟨bu p,dg,dh,cD,di,dj,cG⟩:aA)]).length E),.v (.int .i64 root)]⟩::([⟨I,93,E*5,flatMap gO ((L.set i.toNat (⟨bp p L.length,cm,cn,bW,bK,bL,bA⟩:aA))++[(⟨bu p,dg,dh,cD,di,dj,cG⟩:aA)])⟩]++((L.set i.toNat (⟨bp p L.length,cm,cn,bW,bK,bL,bA⟩:aA))++[(⟨bu p,dg,dh,cD,di,dj,cG⟩:aA)]).flatMap bO)) ?_;refine⟨rfl,((L.set i.toNat (⟨bp p L.length,cm,cn,bW,bK,bL,bA⟩:aA))++[(⟨bu p,dg,dh,cD,di,dj,cG⟩:aA)]),some ⟨I,0,none⟩,E,[⟨I,93,E*5,flatMap gO ((L.set i.toNat (⟨bp p L.length,cm,cn,bW,bK,bL,bA⟩:aA))++[(⟨bu p,dg,dh,cD,di,dj,cG⟩:aA)])⟩],bI U Z,fun x hx=>?_,?_,rfl⟩
   ·rcases mem_append.1 hx with hx|hx
    ·rcases mem_or_eq_of_mem_set hx with hx|rfl
     ·exact aS x hx
     exact⟨zy,zx⟩
    rw[mem_singleton] at hx;subst hx;exact⟨pD,zw⟩
   rw[map_append,map_set];rfl
  refine dN 1 [_,_,_,_,_] sizeOf49 ?_;refine AD.one (i:=5) ay ?_;refine at_ rfl (dB 2) ?_;refine cr 6 rfl qv ?_;refine eA ?_;refine aD 1 ?_;refine aN 1 [_,_,_,_,_] sizeOf3 ?_;refine aj 98 [0,1,6,7,8] ?_;refine CD.seq ?_;refine l8 6 [0,7,8,76,77,78] ?_;refine bH ?_;refine bN (c9 5 (h:=by first|exact .l (j:=i.toNat) (Int.toNat_of_nonneg hi.1).symm hj|exact .r (j:=i.toNat) (Int.toNat_of_nonneg hi.1).symm hj)) ?_;refine OD.storeAt (k:=3) (cs':=flatMap gO (L.set i.toNat (⟨bp p L.length,cm,cn,bW,bK,bL,bA⟩:aA))) an rfl rfl ot rfl rfl ot rfl rfl sizeOf93 rfl LI Lq ?_;refine aj 98 [0,7,8] ?_;refine CD.seq ?_;refine fK 8 (ap (take 2 _)) ?_ (fun _ h=>(Sublist.map _ (take_sublist _ _)).subset h);refine ax 0 rfl bj ?_;refine ax 1 rfl bj ?_;refine ax 2 rfl lG ?_;refine ax 3 rfl (c8 0) ?_;refine ax 5 rfl (BD 0 [_,_,_,_,_]) ?_;refine dm.later rfl ?_;refine AD.two (i:=4) (j:=6) ay ?_ ?_
  ·refine at_ rfl (cJ (mk:=Op.load 44) rfl ot (rM (k:=2) (d:=.v (.slice (some ⟨bx,0,none⟩) (L.set i.toNat (⟨bp p L.length,cm,cn,bW,bK,bL,bA⟩:aA)).length cap)) rfl rfl isAgg44 zN)) ?_;refine AD.one (i:=6) ay ?_;refine jj (bZ 0 [_]) [.bool false,.slice none 0 0,.slice none 0 0,.slice none 0 0,.int .i64 0] [_,_,_,_,_] zeroValue93 runUnderlying44 sizeOf93 (fun Dq=>?_);refine jk 0 86 5 1 ?_;refine AD.one (i:=7) ay ?_;refine bg.dZ (ls:=(L.set i.toNat (⟨bp p L.length,cm,cn,bW,bK,bL,bA⟩:aA))) (new:=[(⟨bu p,dg,dh,cD,di,dj,cG⟩:aA)]) (Sq:=[⟨bx,93,cap*5,flatMap gO (L.set i.toNat (⟨bp p L.length,cm,cn,bW,bK,bL,bA⟩:aA))⟩]) ga uK rfl an rfl rfl underlying44 yd rfl w7 ot (bI qZ rf) (jX (k:=3) rfl) ot bq zH zI (hT:=by intro x0 O;have O:x0∈[b7,b6]:=O;show x0∈(b7::b6::_:List Nat);simp only[mem_cons,not_mem_nil,or_false] at O ⊢;omega) (fun I E U Z=>?_);refine eA ?_;refine aD 2 ?_;refine aN 3 [_,_] sizeOf44 ?_;refine aj 98 [0,8] ?_;refine CD.seq ?_;refine fK 9 (ap _) ?_ (fun _ h=>h);refine ax 0 rfl bj ?_;refine ax 2 rfl bj ?_;refine ax 3 rfl lG ?_;refine ax 4 rfl (c8 0) ?_;refine ax 5 rfl (dB 3) ?_;refine ax 6 rfl qv ?_;refine ax 7 rfl (cZ (r:=.int .i64 (L.length:Nat)) rfl ot bJ (fZ zJ)) ?_;refine dm.later rfl ?_;refine AD.one (i:=1) ay ?_;refine jv call59 (jL (iX p) vr) ?_
   have oG:(bW++(bA++(cG++(cD++((L.eraseIdx i.toNat).flatMap bO))))).Perm (((L.set i.toNat (⟨bp p L.length,cm,cn,bW,bK,bL,bA⟩:aA))++[(⟨bu p,dg,dh,cD,di,dj,cG⟩:aA)]).flatMap bO):=iv fun iU=>by have hq:=yj (qC bO hj (⟨bp p L.length,cm,cn,bW,bK,bL,bA⟩:aA)) iU;rw[flatMap_append,show[(⟨bu p,dg,dh,cD,di,dj,cG⟩:aA)].flatMap bO=cD++(cG++[]) from by simp[bO]];simp only[show bO (⟨bp p L.length,cm,cn,bW,bK,bL,bA⟩:aA)=bW++bA from rfl,map_append,map_cons,map_nil,sum_append,sum_cons,sum_nil] at *;omega
   refine AD.perm (S':=⟨b7,93,5,gO (⟨bu p,dg,dh,cD,di,dj,cG⟩:aA)⟩::⟨b6,93,5,gO (⟨bp p L.length,cm,cn,bW,bK,bL,bA⟩:aA)⟩::⟨b,46,2,[.v (.slice (some ⟨I,0,none⟩) ((L.set i.toNat (⟨bp p L.length,cm,cn,bW,bK,bL,bA⟩:aA))++[(⟨bu p,dg,dh,cD,di,dj,cG⟩:aA)]).length E),.v (.int .i64 root)]⟩::(([⟨I,93,E*5,flatMap gO ((L.set i.toNat (⟨bp p L.length,cm,cn,bW,bK,bL,bA⟩:aA))++[(⟨bu p,dg,dh,cD,di,dj,cG⟩:aA)])⟩]:List ag)++((L.set i.toNat (⟨bp p L.length,cm,cn,bW,bK,bL,bA⟩:aA))++[(⟨bu p,dg,dh,cD,di,dj,cG⟩:aA)]).flatMap bO)) zE ?_;refine cr 8 rfl bj ?_;refine eA ?_;refine bf [4,5] ?_;refine aJ (⟨b,46,2,[.v (.slice (some ⟨I,0,none⟩) ((L.set i.toNat (⟨bp p L.length,cm,cn,bW,bK,bL,bA⟩:aA))++[(⟨bu p,dg,dh,cD,di,dj,cG⟩:aA)]).length E),.v (.int .i64 root)]⟩::([⟨I,93,E*5,flatMap gO ((L.set i.toNat (⟨bp p L.length,cm,cn,bW,bK,bL,bA⟩:aA))++[(⟨bu p,dg,dh,cD,di,dj,cG⟩:aA)])⟩]++((L.set i.toNat (⟨bp p L.length,cm,cn,bW,bK,bL,bA⟩:aA))++[(⟨bu p,dg,dh,cD,di,dj,cG⟩:aA)]).flatMap bO)) ?_;refine⟨rfl,((L.set i.toNat (⟨bp p L.length,cm,cn,bW,bK,bL,bA⟩:aA))++[(⟨bu p,dg,dh,cD,di,dj,cG⟩:aA)]),some ⟨I,0,none⟩,E,[⟨I,93,E*5,flatMap gO ((L.set i.toNat (⟨bp p L.length,cm,cn,bW,bK,bL,bA⟩:aA))++[(⟨bu p,dg,dh,cD,di,dj,cG⟩:aA)])⟩],bI U Z,fun x hx=>?_,?_,rfl⟩
   ·rcases mem_append.1 hx with hx|hx
    ·rcases mem_or_eq_of_mem_set hx with hx|rfl
     ·exact aS x hx
     exact⟨zy,zx⟩
    rw[mem_singleton] at hx;subst hx;exact⟨pD,zw⟩
   rw[map_append,map_set];rfl
  refine jj (bZ 0 [_]) [.bool false,.slice none 0 0,.slice none 0 0,.slice none 0 0,.int .i64 0] [_,_,_,_,_] zeroValue93 runUnderlying44 sizeOf93 (fun Dq=>?_);refine jk 0 86 5 1 ?_;refine AD.one (i:=4) ay ?_;refine at_ rfl (cJ (mk:=Op.load 44) rfl ot (rM (k:=2) (d:=.v (.slice (some ⟨bx,0,none⟩) (L.set i.toNat (⟨bp p L.length,cm,cn,bW,bK,bL,bA⟩:aA)).length cap)) rfl rfl isAgg44 zN)) ?_;refine AD.one (i:=7) ay ?_;refine bg.dZ (ls:=(L.set i.toNat (⟨bp p L.length,cm,cn,bW,bK,bL,bA⟩:aA))) (new:=[(⟨bu p,dg,dh,cD,di,dj,cG⟩:aA)]) (Sq:=[⟨bx,93,cap*5,flatMap gO (L.set i.toNat (⟨bp p L.length,cm,cn,bW,bK,bL,bA⟩:aA))⟩]) ga uK rfl an rfl rfl underlying44 yd rfl w7 ot (bI qZ rf) (jX (k:=3) rfl) ot bq zH zI (hT:=by intro x0 O;have O:x0∈[b7,b6]:=O;show x0∈(b7::b6::_:List Nat);simp only[mem_cons,not_mem_nil,or_false] at O ⊢;omega) (fun I E U Z=>?_);refine eA ?_;refine aD 2 ?_;refine aN 3 [_,_] sizeOf44 ?_;refine aj 98 [0,8] ?_;refine CD.seq ?_;refine fK 9 (ap _) ?_ (fun _ h=>h);refine ax 0 rfl bj ?_;refine ax 2 rfl bj ?_;refine ax 3 rfl lG ?_;refine ax 4 rfl (c8 0) ?_;refine ax 5 rfl (dB 3) ?_;refine ax 6 rfl qv ?_;refine ax 7 rfl (cZ (r:=.int .i64 (L.length:Nat)) rfl ot bJ (fZ zJ)) ?_;refine dm.later rfl ?_;refine AD.one (i:=1) ay ?_;refine jv call59 (jL (iX p) vr) ?_
  have oG:(bW++(bA++(cG++(cD++((L.eraseIdx i.toNat).flatMap bO))))).Perm (((L.set i.toNat (⟨bp p L.length,cm,cn,bW,bK,bL,bA⟩:aA))++[(⟨bu p,dg,dh,cD,di,dj,cG⟩:aA)]).flatMap bO):=iv fun iU=>by have hq:=yj (qC bO hj (⟨bp p L.length,cm,cn,bW,bK,bL,bA⟩:aA)) iU;rw[flatMap_append,show[(⟨bu p,dg,dh,cD,di,dj,cG⟩:aA)].flatMap bO=cD++(cG++[]) from by simp[bO]];simp only[show bO (⟨bp p L.length,cm,cn,bW,bK,bL,bA⟩:aA)=bW++bA from rfl,map_append,map_cons,map_nil,sum_append,sum_cons,sum_nil] at *;omega
  refine AD.perm (S':=⟨b7,93,5,gO (⟨bu p,dg,dh,cD,di,dj,cG⟩:aA)⟩::⟨b6,93,5,gO (⟨bp p L.length,cm,cn,bW,bK,bL,bA⟩:aA)⟩::⟨b,46,2,[.v (.slice (some ⟨I,0,none⟩) ((L.set i.toNat (⟨bp p L.length,cm,cn,bW,bK,bL,bA⟩:aA))++[(⟨bu p,dg,dh,cD,di,dj,cG⟩:aA)]).length E),.v (.int .i64 root)]⟩::(([⟨I,93,E*5,flatMap gO ((L.set i.toNat (⟨bp p L.length,cm,cn,bW,bK,bL,bA⟩:aA))++[(⟨bu p,dg,dh,cD,di,dj,cG⟩:aA)])⟩]:List ag)++((L.set i.toNat (⟨bp p L.length,cm,cn,bW,bK,bL,bA⟩:aA))++[(⟨bu p,dg,dh,cD,di,dj,cG⟩:aA)]).flatMap bO)) zE ?_;refine cr 8 rfl bj ?_;refine eA ?_;refine bf [4,5] ?_;refine aJ (⟨b,46,2,[.v (.slice (some ⟨I,0,none⟩) ((L.set i.toNat (⟨bp p L.length,cm,cn,bW,bK,bL,bA⟩:aA))++[(⟨bu p,dg,dh,cD,di,dj,cG⟩:aA)]).length E),.v (.int .i64 root)]⟩::([⟨I,93,E*5,flatMap gO ((L.set i.toNat (⟨bp p L.length,cm,cn,bW,bK,bL,bA⟩:aA))++[(⟨bu p,dg,dh,cD,di,dj,cG⟩:aA)])⟩]++((L.set i.toNat (⟨bp p L.length,cm,cn,bW,bK,bL,bA⟩:aA))++[(⟨bu p,dg,dh,cD,di,dj,cG⟩:aA)]).flatMap bO)) ?_;refine⟨rfl,((L.set i.toNat (⟨bp p L.length,cm,cn,bW,bK,bL,bA⟩:aA))++[(⟨bu p,dg,dh,cD,di,dj,cG⟩:aA)]),some ⟨I,0,none⟩,E,[⟨I,93,E*5,flatMap gO ((L.set i.toNat (⟨bp p L.length,cm,cn,bW,bK,bL,bA⟩:aA))++[(⟨bu p,dg,dh,cD,di,dj,cG⟩:aA)])⟩],bI U Z,fun x hx=>?_,?_,rfl⟩
  ·rcases mem_append.1 hx with hx|hx
   ·rcases mem_or_eq_of_mem_set hx with hx|rfl
    ·exact aS x hx
    exact⟨zy,zx⟩
   rw[mem_singleton] at hx;subst hx;exact⟨pD,zw⟩
  rw[map_append,map_set];rfl
 refine at_ rfl (dB 2) ?_;refine cr 6 rfl qv ?_;refine AD.one (i:=1) ay ?_;refine jv call59 (jL (iX p) vr) ?_;refine cr 7 rfl (c8 3) ?_;refine AD.one (i:=8) ay ?_;refine dN 1 [_,_,_,_,_] sizeOf49 ?_;refine eA ?_;refine aD 1 ?_;refine aN 1 [_,_,_,_,_] sizeOf3 ?_;refine aj 98 [0,1,6,7,8] ?_;refine CD.seq ?_;refine l8 6 [0,7,8,76,77,78] ?_;refine bH ?_;refine bN (c9 5 (h:=by first|exact .l (j:=i.toNat) (Int.toNat_of_nonneg hi.1).symm hj|exact .r (j:=i.toNat) (Int.toNat_of_nonneg hi.1).symm hj)) ?_;refine OD.storeAt (k:=3) (cs':=flatMap gO (L.set i.toNat (⟨bp p L.length,cm,cn,bW,bK,bL,bA⟩:aA))) an rfl rfl ot rfl rfl ot rfl rfl sizeOf93 rfl LI Lq ?_;refine aj 98 [0,7,8] ?_;refine CD.seq ?_;refine fK 8 (ap (take 2 _)) ?_ (fun _ h=>(Sublist.map _ (take_sublist _ _)).subset h);refine ax 0 rfl bj ?_;refine ax 1 rfl bj ?_;refine ax 2 rfl lG ?_;refine ax 3 rfl (c8 0) ?_;refine ax 5 rfl (BD 0 [_,_,_,_,_]) ?_;refine dm.later rfl ?_;refine AD.two (i:=4) (j:=6) ay ?_ ?_
 ·refine at_ rfl (cJ (mk:=Op.load 44) rfl ot (rM (k:=2) (d:=.v (.slice (some ⟨bx,0,none⟩) (L.set i.toNat (⟨bp p L.length,cm,cn,bW,bK,bL,bA⟩:aA)).length cap)) rfl rfl isAgg44 zN)) ?_;refine AD.one (i:=6) ay ?_;refine jj (bZ 0 [_]) [.bool false,.slice none 0 0,.slice none 0 0,.slice none 0 0,.int .i64 0] [_,_,_,_,_] zeroValue93 runUnderlying44 sizeOf93 (fun Dq=>?_);refine jk 0 86 5 1 ?_;refine AD.one (i:=7) ay ?_;refine bg.dZ (ls:=(L.set i.toNat (⟨bp p L.length,cm,cn,bW,bK,bL,bA⟩:aA))) (new:=[(⟨bu p,dg,dh,cD,di,dj,cG⟩:aA)]) (Sq:=[⟨bx,93,cap*5,flatMap gO (L.set i.toNat (⟨bp p L.length,cm,cn,bW,bK,bL,bA⟩:aA))⟩]) ga uK rfl an rfl rfl underlying44 yd rfl w7 ot (bI qZ rf) (jX (k:=3) rfl) ot bq zH zI (hT:=by intro x0 O;have O:x0∈[b7,b6]:=O;show x0∈(b7::b6::_:List Nat);simp only[mem_cons,not_mem_nil,or_false] at O ⊢;omega) (fun I E U Z=>?_);refine eA ?_;refine aD 2 ?_;refine aN 3 [_,_] sizeOf44 ?_;refine aj 98 [0,8] ?_;refine CD.seq ?_;refine fK 9 (ap _) ?_ (fun _ h=>h);refine ax 0 rfl bj ?_;refine ax 2 rfl bj ?_;refine ax 3 rfl lG ?_;refine ax 4 rfl (c8 0) ?_;refine ax 5 rfl (dB 3) ?_;refine ax 6 rfl qv ?_;refine ax 7 rfl (cZ (r:=.int .i64 (L.length:Nat)) rfl ot bJ (fZ zJ)) ?_;refine dm.later rfl ?_;refine AD.one (i:=1) ay ?_;refine jv call59 (jL (iX p) vr) ?_
  have oG:(bW++(bA++(cG++(cD++((L.eraseIdx i.toNat).flatMap bO))))).Perm (((L.set i.toNat (⟨bp p L.length,cm,cn,bW,bK,bL,bA⟩:aA))++[(⟨bu p,dg,dh,cD,di,dj,cG⟩:aA)]).flatMap bO):=iv fun iU=>by have hq:=yj (qC bO hj (⟨bp p L.length,cm,cn,bW,bK,bL,bA⟩:aA)) iU;rw[flatMap_append,show[(⟨bu p,dg,dh,cD,di,dj,cG⟩:aA)].flatMap bO=cD++(cG++[]) from by simp[bO]];simp only[show bO (⟨bp p L.length,cm,cn,bW,bK,bL,bA⟩:aA)=bW++bA from rfl,map_append,map_cons,map_nil,sum_append,sum_cons,sum_nil] at *;omega
  refine AD.perm (S':=⟨b7,93,5,gO (⟨bu p,dg,dh,cD,di,dj,cG⟩:aA)⟩::⟨b6,93,5,gO (⟨bp p L.length,cm,cn,bW,bK,bL,bA⟩:aA)⟩::⟨b,46,2,[.v (.slice (some ⟨I,0,none⟩) ((L.set i.toNat (⟨bp p L.length,cm,cn,bW,bK,bL,bA⟩:aA))++[(⟨bu p,dg,dh,cD,di,dj,cG⟩:aA)]).length E),.v (.int .i64 root)]⟩::(([⟨I,93,E*5,flatMap gO ((L.set i.toNat (⟨bp p L.length,cm,cn,bW,bK,bL,bA⟩:aA))++[(⟨bu p,dg,dh,cD,di,dj,cG⟩:aA)])⟩]:List ag)++((L.set i.toNat (⟨bp p L.length,cm,cn,bW,bK,bL,bA⟩:aA))++[(⟨bu p,dg,dh,cD,di,dj,cG⟩:aA)]).flatMap bO)) zE ?_;refine cr 8 rfl bj ?_;refine eA ?_;refine bf [4,5] ?_;refine aJ (⟨b,46,2,[.v (.slice (some ⟨I,0,none⟩) ((L.set i.toNat (⟨bp p L.length,cm,cn,bW,bK,bL,bA⟩:aA))++[(⟨bu p,dg,dh,cD,di,dj,cG⟩:aA)]).length E),.v (.int .i64 root)]⟩::([⟨I,93,E*5,flatMap gO ((L.set i.toNat (⟨bp p L.length,cm,cn,bW,bK,bL,bA⟩:aA))++[(⟨bu p,dg,dh,cD,di,dj,cG⟩:aA)])⟩]++((L.set i.toNat (⟨bp p L.length,cm,cn,bW,bK,bL,bA⟩:aA))++[(⟨bu p,dg,dh,cD,di,dj,cG⟩:aA)]).flatMap bO)) ?_;refine⟨rfl,((L.set i.toNat (⟨bp p L.length,cm,cn,bW,bK,bL,bA⟩:aA))++[(⟨bu p,dg,dh,cD,di,dj,cG⟩:aA)]),some ⟨I,0,none⟩,E,[⟨I,93,E*5,flatMap gO ((L.set i.toNat (⟨bp p L.length,cm,cn,bW,bK,bL,bA⟩:aA))++[(⟨bu p,dg,dh,cD,di,dj,cG⟩:aA)])⟩],bI U Z,fun x hx=>?_,?_,rfl⟩
  ·rcases mem_append.1 hx with hx|hx
   ·rcases mem_or_eq_of_mem_set hx with hx|rfl
    ·exact aS x hx
    exact⟨zy,zx⟩
   rw[mem_singleton] at hx;subst hx;exact⟨pD,zw⟩
  rw[map_append,map_set];rfl
 refine jj (bZ 0 [_]) [.bool false,.slice none 0 0,.slice none 0 0,.slice none 0 0,.int .i64 0] [_,_,_,_,_] zeroValue93 runUnderlying44 sizeOf93 (fun Dq=>?_);refine jk 0 86 5 1 ?_;refine AD.one (i:=4) ay ?_;refine at_ rfl (cJ (mk:=Op.load 44) rfl ot (rM (k:=2) (d:=.v (.slice (some ⟨bx,0,none⟩) (L.set i.toNat (⟨bp p L.length,cm,cn,bW,bK,bL,bA⟩:aA)).length cap)) rfl rfl isAgg44 zN)) ?_;refine AD.one (i:=7) ay ?_;refine bg.dZ (ls:=(L.set i.toNat (⟨bp p L.length,cm,cn,bW,bK,bL,bA⟩:aA))) (new:=[(⟨bu p,dg,dh,cD,di,dj,cG⟩:aA)]) (Sq:=[⟨bx,93,cap*5,flatMap gO (L.set i.toNat (⟨bp p L.length,cm,cn,bW,bK,bL,bA⟩:aA))⟩]) ga uK rfl an rfl rfl underlying44 yd rfl w7 ot (bI qZ rf) (jX (k:=3) rfl) ot bq zH zI (hT:=by intro x0 O;have O:x0∈[b7,b6]:=O;show x0∈(b7::b6::_:List Nat);simp only[mem_cons,not_mem_nil,or_false] at O ⊢;omega) (fun I E U Z=>?_);refine eA ?_;refine aD 2 ?_;refine aN 3 [_,_] sizeOf44 ?_;refine aj 98 [0,8] ?_;refine CD.seq ?_;refine fK 9 (ap _) ?_ (fun _ h=>h);refine ax 0 rfl bj ?_;refine ax 2 rfl bj ?_;refine ax 3 rfl lG ?_;refine ax 4 rfl (c8 0) ?_;refine ax 5 rfl (dB 3) ?_;refine ax 6 rfl qv ?_;refine ax 7 rfl (cZ (r:=.int .i64 (L.length:Nat)) rfl ot bJ (fZ zJ)) ?_;refine dm.later rfl ?_;refine AD.one (i:=1) ay ?_;refine jv call59 (jL (iX p) vr) ?_
 have oG:(bW++(bA++(cG++(cD++((L.eraseIdx i.toNat).flatMap bO))))).Perm (((L.set i.toNat (⟨bp p L.length,cm,cn,bW,bK,bL,bA⟩:aA))++[(⟨bu p,dg,dh,cD,di,dj,cG⟩:aA)]).flatMap bO):=iv fun iU=>by have hq:=yj (qC bO hj (⟨bp p L.length,cm,cn,bW,bK,bL,bA⟩:aA)) iU;rw[flatMap_append,show[(⟨bu p,dg,dh,cD,di,dj,cG⟩:aA)].flatMap bO=cD++(cG++[]) from by simp[bO]];simp only[show bO (⟨bp p L.length,cm,cn,bW,bK,bL,bA⟩:aA)=bW++bA from rfl,map_append,map_cons,map_nil,sum_append,sum_cons,sum_nil] at *;omega
 refine AD.perm (S':=⟨b7,93,5,gO (⟨bu p,dg,dh,cD,di,dj,cG⟩:aA)⟩::⟨b6,93,5,gO (⟨bp p L.length,cm,cn,bW,bK,bL,bA⟩:aA)⟩::⟨b,46,2,[.v (.slice (some ⟨I,0,none⟩) ((L.set i.toNat (⟨bp p L.length,cm,cn,bW,bK,bL,bA⟩:aA))++[(⟨bu p,dg,dh,cD,di,dj,cG⟩:aA)]).length E),.v (.int .i64 root)]⟩::(([⟨I,93,E*5,flatMap gO ((L.set i.toNat (⟨bp p L.length,cm,cn,bW,bK,bL,bA⟩:aA))++[(⟨bu p,dg,dh,cD,di,dj,cG⟩:aA)])⟩]:List ag)++((L.set i.toNat (⟨bp p L.length,cm,cn,bW,bK,bL,bA⟩:aA))++[(⟨bu p,dg,dh,cD,di,dj,cG⟩:aA)]).flatMap bO)) zE ?_;refine cr 8 rfl bj ?_;refine eA ?_;refine bf [4,5] ?_;refine aJ (⟨b,46,2,[.v (.slice (some ⟨I,0,none⟩) ((L.set i.toNat (⟨bp p L.length,cm,cn,bW,bK,bL,bA⟩:aA))++[(⟨bu p,dg,dh,cD,di,dj,cG⟩:aA)]).length E),.v (.int .i64 root)]⟩::([⟨I,93,E*5,flatMap gO ((L.set i.toNat (⟨bp p L.length,cm,cn,bW,bK,bL,bA⟩:aA))++[(⟨bu p,dg,dh,cD,di,dj,cG⟩:aA)])⟩]++((L.set i.toNat (⟨bp p L.length,cm,cn,bW,bK,bL,bA⟩:aA))++[(⟨bu p,dg,dh,cD,di,dj,cG⟩:aA)]).flatMap bO)) ?_;refine⟨rfl,((L.set i.toNat (⟨bp p L.length,cm,cn,bW,bK,bL,bA⟩:aA))++[(⟨bu p,dg,dh,cD,di,dj,cG⟩:aA)]),some ⟨I,0,none⟩,E,[⟨I,93,E*5,flatMap gO ((L.set i.toNat (⟨bp p L.length,cm,cn,bW,bK,bL,bA⟩:aA))++[(⟨bu p,dg,dh,cD,di,dj,cG⟩:aA)])⟩],bI U Z,fun x hx=>?_,?_,rfl⟩
 ·rcases mem_append.1 hx with hx|hx
  ·rcases mem_or_eq_of_mem_set hx with hx|rfl
   ·exact aS x hx
   exact⟨zy,zx⟩
  rw[mem_singleton] at hx;subst hx;exact⟨pD,zw⟩
 rw[map_append,map_set];rfl

def gS(q:List α)(i:Nat)(a:α):List α:=q.take i++a::q.drop i
theorem yq{q:List α}{a:α}(hi:i≤q.length):(gS q i a).length=q.length+1:=by unfold gS;rw[length_append,length_take,length_cons,length_drop];omega
theorem QH{q:List α}{a:α}:gS q q.length a=q++[a]:=by unfold gS;rw[take_length,drop_length]
theorem D5{g:α→List D}(hg:∀a,(g a).length=1){q:List α}{a:α}:(gS q i a).flatMap g=(q.flatMap g).take i++(g a++(q.flatMap g).drop i):=by
 have h1:=tq hg q i;have h2:=uG hg q i;rw[Nat.mul_one] at h1 h2;unfold gS;rw[flatMap_append,flatMap_cons,h1,h2]
theorem DQ{A ds:List D}{off:Nat}(hA:A.length=off)(hl:ds.length≤J.length):da (A++J) off ds=A++(ds++J.drop ds.length):=by
 rw[vM _ _ _ vm,take_left' hA,append_assoc,←drop_drop,drop_left' hA]
theorem QI{T R c:List D}(hT:T.length=i)(hc:c.length=1)(E:R.length+1≤J.length):T++(c++R) <+: da (da (T++J) i c) (i+1) R:=by
 rw[DQ hT w4,show T++(c++J.drop c.length)=(T++c)++J.drop c.length from(append_assoc _ _ _).symm,DQ (A:=T++c) vm (by rw[length_drop];omega)];exact⟨_,by simp only[append_assoc];rfl⟩
theorem Se{T R c:List D}(hT:T.length=i)(hc:c.length=1)(O:1≤J.length):T++(c++R) <+: da (da ((T++R)++J) (i+1) R) i c:=by
 obtain⟨E,I,hX,h1⟩:∃E I,R++J=E++I∧E.length=1:=⟨(R++J).take 1,(R++J).drop 1,(take_append_drop 1 _).symm,by rw[length_take,length_append];omega⟩
 have h2:R.length≤I.length:=(by have:=congrArg length hX;rw[length_append,length_append] at this;omega)
 have e1:(T++R)++J=(T++E)++I:=(by rw[append_assoc,hX,←append_assoc])
 have e2:(T++E)++(R++I.drop R.length)=T++(E++(R++I.drop R.length)):=append_assoc _ _ _;rw[e1,DQ (A:=T++E) vm h2,e2,DQ hT vm,drop_left' w4];exact⟨I.drop R.length,by simp only[append_assoc]⟩
theorem pW(n:Nat)(x:α):(replicate n x).length=n:=length_replicate
theorem DD:(Tryz.prog.info? 49).map (fun i=>i.size)=some 1:=by kernel_rfl
theorem Ho:(Tryz.prog.info? 49).map (fun i=>(i.zero,i.size,i.bytes))=some (some (.slice none 0 0),1,24):=by kernel_rfl
theorem Y5(q:List K)(i:Nat)(a:K)(cap b bv:Nat)(hi:i≤q.length)(hc:q.length≤cap)(hm:cap≤maxLen)(hs:q.length≤1000):VC Tryz.prog G 116 [.v (.slice (some ⟨b,0,none⟩) q.length cap),.v (.int .i64 (i:Nat)),.v (.slice (some ⟨bv,0,none⟩) 1 1)] [⟨bv,49,1*1,cK a⟩,⟨b,49,cap*1,q.flatMap cK⟩] (fun r S=>∃ad kg,r = .v (.slice ad (q.length+1) kg)∧bw 49 1 ((gS q i a).flatMap cK) (gS q i a).length ad kg S):=by
 refine VC.body func116 rfl ntmps116 aO fun X0 w0 aZ=>?_;refine ae [0,1,2] ?_;refine aC 2 ?_;refine bN (ei (l:=i) rfl ot ⟨_,ot⟩ trivial tY) ?_;refine aj 95 [0,1,2] ?_;refine ae [0,1,2,7] ?_;refine ae [0,1,2,7,16] ?_;refine aq (fun az aH=>?_) (fun az aH=>?_)
 ·exact absurd az (by simp at *)
 refine ae [0,1,2,7,8] ?_;refine ae [0,1,2,7,8,22] ?_;refine aq (fun aG aV=>?_) (fun aG aV=>?_)
 ·obtain rfl:i=q.length:=(by simp at *;omega)
  refine aC 2 ?_;refine fG 0 24 1 1 ?_;refine OD.dZ (ls:=q) (new:=[a]) (Sq:=[⟨b,49,cap*1,q.flatMap cK⟩]) gb pc an rfl rfl underlying90 Ho rfl w7 ot (bI hc hm) (dx (A:=[])) ot bq vp gU (fun xS B6 K8 K9=>?_);refine OD.perm (dV (S1:=[⟨xS,49,B6*1,flatMap cK (q++[a])⟩]) (A:=[])) ?_;refine aj 95 [6] ?_;refine aJ [⟨xS,49,B6*1,flatMap cK (q++[a])⟩] ?_;exact⟨_,_,by rw[length_append];rfl,by rw[QH];exact bI K8 K9⟩
 have aa:i<q.length:=(by omega)
 have hQ:(q.flatMap cK).length=q.length:=(by rw[cq gb];omega)
 have Z:((q.flatMap cK).take i).length=i:=(by rw[length_take];omega)
 have U:((q.flatMap cK).drop i).length=q.length-i:=(by rw[length_drop];omega)
 have jy:∀d∈(q.flatMap cK),V.one d=true:=tE pc _;refine cN [0,1,2,7,8,31] ?_;refine aQ 4 ?_ (h:=by exact(DW rfl rfl ot runUnderlying90));refine bH ?_;refine aq (fun aY bz=>?_) (fun aY bz=>?_)
 ·have I:eH cap (i) 1 0=i:=(by unfold eH;rw[if_neg w4];omega)
  have rB:Nat.min (q.length-i) (q.length+1-(i+1))=q.length-i:=Nat.min_eq_left w4;refine aC 2 ?_;refine bN (ei (l:=0) (h:=i) rfl ot trivial ⟨_,ot⟩ Lu) ?_;refine aD 5 ?_;refine OD.Ry (n:=i) (m:=q.length+1-i) (k:=1) an rfl rfl underlying90 underlying3 Ho rfl ot rfl rfl (by show i≤(q.flatMap cK).length;omega) (Eq.trans ot (congrArg (fun z=>D.v (.int .i64 z)) (show((q.length:Int)+(1:Nat)-(i:Int))=((q.length+1-i:Nat):Int) by omega))) w4 w4 Fx w4 (fun Gf E B7 La=>?_);have jQ:i+(q.length+1-i)=q.length+1:=(by omega)
  rw[jQ] at B7 ⊢;refine aj 95 [0,1,2,7,9] ?_;refine aC 2 ?_;refine bN (ei (l:=i) (h:=q.length+1) rfl ot ⟨_,ot⟩ trivial tY) ?_;have vA:eH E (i) 1 0=i:=(by unfold eH;rw[if_neg w4];omega)
  rw[vA];refine aD 1 ?_;have O:eH E (i+1) 1 0=i+1:=(by unfold eH;rw[if_neg w4];omega)
  refine OD.wk (Wk.toEnd (k:=0) rfl) ?_;refine OD.copy (k:=0) (k2:=1) (od:=i) (new:=cK a) (cs':=da ((q.flatMap cK).take i++replicate (E*1-((q.flatMap cK).take i).length) D.bU) i (cK a)) an rfl rfl underlying90 DD ot rfl rfl ot rfl rfl (by show take (Nat.min 1 (q.length+1-i)) (cK a)=_;rw[show Nat.min 1 (q.length+1-i)=1 from Nat.min_eq_left w4];rfl) (Nat.min_eq_left (by omega:1≤q.length+1-i)).symm (fun d hd=>all_eq_true.1 (pc a) d hd) (by show i+1≤((q.flatMap cK).take i++replicate (E*1-((q.flatMap cK).take i).length) D.bU).length;rw[length_append,pW,Z];omega) rfl ?_;refine aj 95 [0,1,7,9] ?_;refine CD.seq ?_;refine l8 8 [9,50,53] ?_;refine aQ 4 ?_ (h:=by exact(ei (l:=i+1) (h:=q.length+1) rfl ot ⟨_,ot⟩ trivial tY));refine aQ 2 ?_ (h:=by exact(ei (l:=i) (h:=q.length) rfl ot ⟨_,ot⟩ trivial tY));refine jR ?_
  refine OD.copy (k:=0) (k2:=2) (od:=eH E (i+1) 1 0) (oy:=eH cap i 1 0) (new:=(q.flatMap cK).drop i) (cs':=da (da ((q.flatMap cK).take i++replicate (E*1-((q.flatMap cK).take i).length) D.bU) i (cK a)) (i+1) ((q.flatMap cK).drop i)) an rfl rfl underlying90 DD ot rfl rfl ot rfl rfl (by show take (Nat.min (q.length-i) (q.length+1-(i+1))) (drop (eH cap i 1 0) (q.flatMap cK))=_;rw[I,rB,take_of_length_le w4]) (by show _=Nat.min (q.length-i) (q.length+1-(i+1));rw[rB,U]) (fun d hd=>jy d (mem_of_mem_drop hd)) (by show eH E (i+1) 1 0+_≤(da ((q.flatMap cK).take i++replicate (E*1-((q.flatMap cK).take i).length) D.bU) i (cK a)).length;rw[O,U,ya,length_append,pW,Z];omega) (by show da (da ((q.flatMap cK).take i++replicate (E*1-((q.flatMap cK).take i).length) D.bU) i (cK a)) (eH E (i+1) 1 0) _=_;rw[O]) ?_;refine aj 95 [9] ?_;refine aC 1 ?_;refine OD.shrink (k:=0) (cs':=(gS q i a).flatMap cK) rfl (by rw[D5 gb];exact QI Z rfl (by rw[pW,U,Z];omega)) ?_;refine aj 95 [6] ?_;refine aJ [⟨Gf,49,E*1,(gS q i a).flatMap cK⟩] ?_;exact⟨_,_,rfl,bI (by rw[yq hi];exact B7) La⟩
 have I:eH cap (i) 1 0=i:=(by unfold eH;rw[if_neg w4];omega)
 have O:eH cap (i+1) 1 0=i+1:=(by unfold eH;rw[if_neg w4];omega)
 have rB:Nat.min (q.length+1-i) (q.length+1-(i+1))=q.length-i:=(by rw[show q.length+1-(i+1)=q.length-i from by omega];exact Nat.min_eq_right w4)
 refine cN [0,1,2,7,8] ?_;refine aQ 4 ?_ (h:=by exact(ei (l:=0) (h:=q.length+1) rfl ot trivial ⟨_,ot⟩ Lu));refine bH ?_;refine aC 5 ?_;refine bN (ei (l:=i+1) (h:=q.length+1) rfl ot ⟨_,ot⟩ trivial tY) ?_;refine OD.wk (Wk.toEnd (k:=1) rfl) ?_;refine OD.overlaps (r:=4) (k:=0) (k2:=1) an rfl rfl func141 ay ay ay ay underlying90 sizeOf49 ot rfl rfl ot rfl rfl w7 (by show cap*1≠0;omega) ?_;refine aj 95 [0,1,2,7,8,68] ?_;refine aq (fun bC bY=>?_) (fun bC bY=>?_)
 ·refine CD.seq ?_;refine l8 8 [0,1,2,73,76] ?_;refine aQ 4 ?_ (h:=by exact(ei (l:=i+1) (h:=q.length+1) rfl ot ⟨_,ot⟩ trivial tY));refine aQ 2 ?_ (h:=by exact(ei (l:=i) (h:=q.length+1) rfl ot ⟨_,ot⟩ trivial tY));refine jR ?_;refine OD.copy (k:=1) (k2:=1) (od:=eH cap (i+1) 1 0) (oy:=eH cap i 1 0) (new:=(q.flatMap cK).drop i) (cs':=da ((q.flatMap cK)++replicate (cap*1-(q.flatMap cK).length) D.bU) (i+1) ((q.flatMap cK).drop i)) an rfl rfl underlying90 DD ot rfl rfl ot rfl rfl (by show take (Nat.min (q.length+1-i) (q.length+1-(i+1))) (drop (eH cap i 1 0) ((q.flatMap cK)++replicate (cap*1-(q.flatMap cK).length) D.bU))=_;rw[I,rB,drop_append_of_le_length w4,take_left' U]) (by show _=Nat.min (q.length+1-i) (q.length+1-(i+1));rw[rB,U]) (fun d hd=>jy d (mem_of_mem_drop hd)) (by show eH cap (i+1) 1 0+_≤((q.flatMap cK)++replicate (cap*1-(q.flatMap cK).length) D.bU).length;rw[O,U,length_append,pW,hQ];omega) (by show da ((q.flatMap cK)++replicate (cap*1-(q.flatMap cK).length) D.bU) (eH cap (i+1) 1 0) _=_;rw[O]) ?_;refine aj 95 [0,1,2] ?_;refine aC 2 ?_;refine bN (ei (l:=i) (h:=q.length+1) rfl ot ⟨_,ot⟩ trivial tY) ?_;refine aD 1 ?_
  refine OD.copy (k:=1) (k2:=0) (od:=eH cap i 1 0) (new:=cK a) (cs':=da (da ((q.flatMap cK)++replicate (cap*1-(q.flatMap cK).length) D.bU) (i+1) ((q.flatMap cK).drop i)) i (cK a)) an rfl rfl underlying90 DD ot rfl rfl ot rfl rfl (by show take (Nat.min 1 (q.length+1-i)) (cK a)=_;rw[show Nat.min 1 (q.length+1-i)=1 from Nat.min_eq_left w4];rfl) (Nat.min_eq_left (by omega:1≤q.length+1-i)).symm (fun d hd=>all_eq_true.1 (pc a) d hd) (by show eH cap i 1 0+1≤(da ((q.flatMap cK)++replicate (cap*1-(q.flatMap cK).length) D.bU) (i+1) ((q.flatMap cK).drop i)).length;rw[I,ya,length_append,pW,hQ];omega) (by show da (da ((q.flatMap cK)++replicate (cap*1-(q.flatMap cK).length) D.bU) (i+1) ((q.flatMap cK).drop i)) (eH cap i 1 0) _=_;rw[I]) ?_;refine aj 95 [0] ?_;refine aC 1 ?_;refine OD.shrink (k:=1) (cs':=(gS q i a).flatMap cK) rfl (by rw[D5 gb];show _ <+: da (da ((q.flatMap cK)++_) (i+1) ((q.flatMap cK).drop i)) i (cK a);rw[show(q.flatMap cK)++replicate (cap*1-(q.flatMap cK).length) D.bU=((q.flatMap cK).take i++(q.flatMap cK).drop i)++replicate (cap*1-(q.flatMap cK).length) D.bU from by rw[take_append_drop]];exact Se Z rfl (by rw[pW,hQ];omega)) ?_;refine aj 95 [6] ?_;refine aJ [⟨b,49,cap*1,(gS q i a).flatMap cK⟩] ?_;exact⟨_,_,rfl,bI (by rw[yq hi];omega) hm⟩
 exact absurd bC (by simp at *)
theorem DE:(Tryz.prog.info? 3).map (fun i=>i.size)=some 1:=by kernel_rfl
theorem HM:(Tryz.prog.info? 3).map (fun i=>(i.zero,i.size,i.bytes))=some (some (.int .i64 0),1,8):=by kernel_rfl
theorem Y6(q:List Int)(i:Nat)(a:Int)(cap b bv:Nat)(hi:i≤q.length)(hc:q.length≤cap)(hm:cap≤maxLen)(hs:q.length≤1000):VC Tryz.prog G 117 [.v (.slice (some ⟨b,0,none⟩) q.length cap),.v (.int .i64 (i:Nat)),.v (.slice (some ⟨bv,0,none⟩) 1 1)] [⟨bv,3,1*1,cI a⟩,⟨b,3,cap*1,q.flatMap cI⟩] (fun r S=>∃ad kg,r = .v (.slice ad (q.length+1) kg)∧bw 3 1 ((gS q i a).flatMap cI) (gS q i a).length ad kg S):=by
 refine VC.body func117 rfl ntmps117 aO fun X0 w0 aZ=>?_;refine ae [0,1,2] ?_;refine aC 2 ?_;refine bN (ei (l:=i) rfl ot ⟨_,ot⟩ trivial tZ) ?_;refine aj 95 [0,1,2] ?_;refine ae [0,1,2,7] ?_;refine ae [0,1,2,7,16] ?_;refine aq (fun az aH=>?_) (fun az aH=>?_)
 ·exact absurd az (by simp at *)
 refine ae [0,1,2,7,8] ?_;refine ae [0,1,2,7,8,22] ?_;refine aq (fun aG aV=>?_) (fun aG aV=>?_)
 ·obtain rfl:i=q.length:=(by simp at *;omega)
  refine aC 2 ?_;refine fG 0 24 1 1 ?_;refine OD.dZ (ls:=q) (new:=[a]) (Sq:=[⟨b,3,cap*1,q.flatMap cI⟩]) ey nr an rfl rfl underlying91 HM rfl w7 ot (bI hc hm) (dx (A:=[])) ot bq vp gU (fun xS B6 K8 K9=>?_);refine OD.perm (dV (S1:=[⟨xS,3,B6*1,flatMap cI (q++[a])⟩]) (A:=[])) ?_;refine aj 95 [6] ?_;refine aJ [⟨xS,3,B6*1,flatMap cI (q++[a])⟩] ?_;exact⟨_,_,by rw[length_append];rfl,by rw[QH];exact bI K8 K9⟩
 have aa:i<q.length:=(by omega)
 have hQ:(q.flatMap cI).length=q.length:=(by rw[cq ey];omega)
 have Z:((q.flatMap cI).take i).length=i:=(by rw[length_take];omega)
 have U:((q.flatMap cI).drop i).length=q.length-i:=(by rw[length_drop];omega)
 have jy:∀d∈(q.flatMap cI),V.one d=true:=tE nr _;refine cN [0,1,2,7,8,31] ?_;refine aQ 4 ?_ (h:=by exact(DW rfl rfl ot runUnderlying91));refine bH ?_;refine aq (fun aY bz=>?_) (fun aY bz=>?_)
 ·have I:eH cap (i) 1 0=i:=(by unfold eH;rw[if_neg w4];omega)
  have rB:Nat.min (q.length-i) (q.length+1-(i+1))=q.length-i:=Nat.min_eq_left w4;refine aC 2 ?_;refine bN (ei (l:=0) (h:=i) rfl ot trivial ⟨_,ot⟩ Lv) ?_;refine aD 5 ?_;refine OD.Ry (n:=i) (m:=q.length+1-i) (k:=1) an rfl rfl underlying91 underlying3 HM rfl ot rfl rfl (by show i≤(q.flatMap cI).length;omega) (Eq.trans ot (congrArg (fun z=>D.v (.int .i64 z)) (show((q.length:Int)+(1:Nat)-(i:Int))=((q.length+1-i:Nat):Int) by omega))) w4 w4 Fx w4 (fun Gf E B7 La=>?_);have jQ:i+(q.length+1-i)=q.length+1:=(by omega)
  rw[jQ] at B7 ⊢;refine aj 95 [0,1,2,7,9] ?_;refine aC 2 ?_;refine bN (ei (l:=i) (h:=q.length+1) rfl ot ⟨_,ot⟩ trivial tZ) ?_;have vA:eH E (i) 1 0=i:=(by unfold eH;rw[if_neg w4];omega)
  rw[vA];refine aD 1 ?_;have O:eH E (i+1) 1 0=i+1:=(by unfold eH;rw[if_neg w4];omega)
  refine OD.wk (Wk.toEnd (k:=0) rfl) ?_;refine OD.copy (k:=0) (k2:=1) (od:=i) (new:=cI a) (cs':=da ((q.flatMap cI).take i++replicate (E*1-((q.flatMap cI).take i).length) D.bU) i (cI a)) an rfl rfl underlying91 DE ot rfl rfl ot rfl rfl (by show take (Nat.min 1 (q.length+1-i)) (cI a)=_;rw[show Nat.min 1 (q.length+1-i)=1 from Nat.min_eq_left w4];rfl) (Nat.min_eq_left (by omega:1≤q.length+1-i)).symm (fun d hd=>all_eq_true.1 (nr a) d hd) (by show i+1≤((q.flatMap cI).take i++replicate (E*1-((q.flatMap cI).take i).length) D.bU).length;rw[length_append,pW,Z];omega) rfl ?_;refine aj 95 [0,1,7,9] ?_;refine CD.seq ?_;refine l8 8 [9,50,53] ?_;refine aQ 4 ?_ (h:=by exact(ei (l:=i+1) (h:=q.length+1) rfl ot ⟨_,ot⟩ trivial tZ));refine aQ 2 ?_ (h:=by exact(ei (l:=i) (h:=q.length) rfl ot ⟨_,ot⟩ trivial tZ));refine jR ?_
  refine OD.copy (k:=0) (k2:=2) (od:=eH E (i+1) 1 0) (oy:=eH cap i 1 0) (new:=(q.flatMap cI).drop i) (cs':=da (da ((q.flatMap cI).take i++replicate (E*1-((q.flatMap cI).take i).length) D.bU) i (cI a)) (i+1) ((q.flatMap cI).drop i)) an rfl rfl underlying91 DE ot rfl rfl ot rfl rfl (by show take (Nat.min (q.length-i) (q.length+1-(i+1))) (drop (eH cap i 1 0) (q.flatMap cI))=_;rw[I,rB,take_of_length_le w4]) (by show _=Nat.min (q.length-i) (q.length+1-(i+1));rw[rB,U]) (fun d hd=>jy d (mem_of_mem_drop hd)) (by show eH E (i+1) 1 0+_≤(da ((q.flatMap cI).take i++replicate (E*1-((q.flatMap cI).take i).length) D.bU) i (cI a)).length;rw[O,U,ya,length_append,pW,Z];omega) (by show da (da ((q.flatMap cI).take i++replicate (E*1-((q.flatMap cI).take i).length) D.bU) i (cI a)) (eH E (i+1) 1 0) _=_;rw[O]) ?_;refine aj 95 [9] ?_;refine aC 1 ?_;refine OD.shrink (k:=0) (cs':=(gS q i a).flatMap cI) rfl (by rw[D5 ey];exact QI Z rfl (by rw[pW,U,Z];omega)) ?_;refine aj 95 [6] ?_;refine aJ [⟨Gf,3,E*1,(gS q i a).flatMap cI⟩] ?_;exact⟨_,_,rfl,bI (by rw[yq hi];exact B7) La⟩
 have I:eH cap (i) 1 0=i:=(by unfold eH;rw[if_neg w4];omega)
 have O:eH cap (i+1) 1 0=i+1:=(by unfold eH;rw[if_neg w4];omega)
 have rB:Nat.min (q.length+1-i) (q.length+1-(i+1))=q.length-i:=(by rw[show q.length+1-(i+1)=q.length-i from by omega];exact Nat.min_eq_right w4)
 refine cN [0,1,2,7,8] ?_;refine aQ 4 ?_ (h:=by exact(ei (l:=0) (h:=q.length+1) rfl ot trivial ⟨_,ot⟩ Lv));refine bH ?_;refine aC 5 ?_;refine bN (ei (l:=i+1) (h:=q.length+1) rfl ot ⟨_,ot⟩ trivial tZ) ?_;refine OD.wk (Wk.toEnd (k:=1) rfl) ?_;refine OD.overlaps (r:=4) (k:=0) (k2:=1) an rfl rfl func143 ay ay ay ay underlying91 sizeOf3 ot rfl rfl ot rfl rfl w7 (by show cap*1≠0;omega) ?_;refine aj 95 [0,1,2,7,8,68] ?_;refine aq (fun bC bY=>?_) (fun bC bY=>?_)
 ·refine CD.seq ?_;refine l8 8 [0,1,2,73,76] ?_;refine aQ 4 ?_ (h:=by exact(ei (l:=i+1) (h:=q.length+1) rfl ot ⟨_,ot⟩ trivial tZ));refine aQ 2 ?_ (h:=by exact(ei (l:=i) (h:=q.length+1) rfl ot ⟨_,ot⟩ trivial tZ));refine jR ?_;refine OD.copy (k:=1) (k2:=1) (od:=eH cap (i+1) 1 0) (oy:=eH cap i 1 0) (new:=(q.flatMap cI).drop i) (cs':=da ((q.flatMap cI)++replicate (cap*1-(q.flatMap cI).length) D.bU) (i+1) ((q.flatMap cI).drop i)) an rfl rfl underlying91 DE ot rfl rfl ot rfl rfl (by show take (Nat.min (q.length+1-i) (q.length+1-(i+1))) (drop (eH cap i 1 0) ((q.flatMap cI)++replicate (cap*1-(q.flatMap cI).length) D.bU))=_;rw[I,rB,drop_append_of_le_length w4,take_left' U]) (by show _=Nat.min (q.length+1-i) (q.length+1-(i+1));rw[rB,U]) (fun d hd=>jy d (mem_of_mem_drop hd)) (by show eH cap (i+1) 1 0+_≤((q.flatMap cI)++replicate (cap*1-(q.flatMap cI).length) D.bU).length;rw[O,U,length_append,pW,hQ];omega) (by show da ((q.flatMap cI)++replicate (cap*1-(q.flatMap cI).length) D.bU) (eH cap (i+1) 1 0) _=_;rw[O]) ?_;refine aj 95 [0,1,2] ?_;refine aC 2 ?_;refine bN (ei (l:=i) (h:=q.length+1) rfl ot ⟨_,ot⟩ trivial tZ) ?_;refine aD 1 ?_
  refine OD.copy (k:=1) (k2:=0) (od:=eH cap i 1 0) (new:=cI a) (cs':=da (da ((q.flatMap cI)++replicate (cap*1-(q.flatMap cI).length) D.bU) (i+1) ((q.flatMap cI).drop i)) i (cI a)) an rfl rfl underlying91 DE ot rfl rfl ot rfl rfl (by show take (Nat.min 1 (q.length+1-i)) (cI a)=_;rw[show Nat.min 1 (q.length+1-i)=1 from Nat.min_eq_left w4];rfl) (Nat.min_eq_left (by omega:1≤q.length+1-i)).symm (fun d hd=>all_eq_true.1 (nr a) d hd) (by show eH cap i 1 0+1≤(da ((q.flatMap cI)++replicate (cap*1-(q.flatMap cI).length) D.bU) (i+1) ((q.flatMap cI).drop i)).length;rw[I,ya,length_append,pW,hQ];omega) (by show da (da ((q.flatMap cI)++replicate (cap*1-(q.flatMap cI).length) D.bU) (i+1) ((q.flatMap cI).drop i)) (eH cap i 1 0) _=_;rw[I]) ?_;refine aj 95 [0] ?_;refine aC 1 ?_;refine OD.shrink (k:=1) (cs':=(gS q i a).flatMap cI) rfl (by rw[D5 ey];show _ <+: da (da ((q.flatMap cI)++_) (i+1) ((q.flatMap cI).drop i)) i (cI a);rw[show(q.flatMap cI)++replicate (cap*1-(q.flatMap cI).length) D.bU=((q.flatMap cI).take i++(q.flatMap cI).drop i)++replicate (cap*1-(q.flatMap cI).length) D.bU from by rw[take_append_drop]];exact Se Z rfl (by rw[pW,hQ];omega)) ?_;refine aj 95 [6] ?_;refine aJ [⟨b,3,cap*1,(gS q i a).flatMap cI⟩] ?_;exact⟨_,_,rfl,bI (by rw[yq hi];omega) hm⟩
 exact absurd bC (by simp at *)
theorem aaw(a:K)(bv:Nat):VC Tryz.prog G 116 [.v (.slice none 0 0),.v (.int .i64 (0:Nat)),.v (.slice (some ⟨bv,0,none⟩) 1 1)] [⟨bv,49,1*1,cK a⟩] (fun r S=>∃ad E,r = .v (.slice ad 1 E)∧bw 49 1 ((gS ([]:List K) 0 a).flatMap cK) (gS ([]:List K) 0 a).length ad E S):=by
 refine VC.body func116 rfl ntmps116 aO fun X0 w0 aZ=>?_;refine ae [0,1,2] ?_;refine aC 2 ?_;refine bN (DG rfl ot ⟨_,_,ot,rfl⟩ rfl runUnderlying90 sizeOf49) ?_;refine aj 95 [0,1,2] ?_;refine ae [0,1,2,7] ?_;refine ae [0,1,2,7,16] ?_;refine aq (fun az aH=>?_) (fun az aH=>?_)
 ·exact absurd az (by simp at *)
 refine ae [0,1,2,7,8] ?_;refine ae [0,1,2,7,8,22] ?_;refine aq (fun aG aV=>?_) (fun aG aV=>?_)
 ·refine aC 2 ?_;refine fG 0 24 1 1 ?_;refine OD.dZ (ls:=([]:List K)) (new:=[a]) (Sq:=[]) gb pc an rfl rfl underlying90 Ho rfl w7 ot iw (dx (A:=[])) ot bq (by simp[maxLen]) bq (fun O I U Z=>?_);refine OD.perm (dV (S1:=[⟨O,49,I*1,flatMap cK (([]:List K)++[a])⟩]) (A:=[])) ?_;refine aj 95 [6] ?_;refine aJ [⟨O,49,I*1,flatMap cK (([]:List K)++[a])⟩] ?_;exact⟨_,_,rfl,bI U Z⟩
 exact absurd aG (by simp at *)
theorem Y7(q:List K)(i:Nat)(a:K)(ad:Option Addr)(cap:Nat)(Sq:List ag)(I:Nat)(hi:i≤q.length)(hs:q.length≤1000)(ho:bw 49 1 (q.flatMap cK) q.length ad cap Sq):VC Tryz.prog G 116 [.v (.slice ad q.length cap),.v (.int .i64 (i:Nat)),.v (.slice (some ⟨I,0,none⟩) 1 1)] (⟨I,49,1*1,cK a⟩::Sq) (fun r S=>∃ad E,r = .v (.slice ad (q.length+1) E)∧bw 49 1 ((gS q i a).flatMap cK) (gS q i a).length ad E S):=by
 rcases ho with ⟨h1,h2,rfl,rfl,rfl⟩|⟨b,rfl,h1,h2,rfl⟩
 ·obtain rfl:=length_eq_zero_iff.1 h1;obtain rfl:i=0:=Nat.le_zero.1 hi;exact aaw a I
 exact Y5 q i a cap b I hi h1 h2 hs
theorem aax(a:Int)(bv:Nat):VC Tryz.prog G 117 [.v (.slice none 0 0),.v (.int .i64 (0:Nat)),.v (.slice (some ⟨bv,0,none⟩) 1 1)] [⟨bv,3,1*1,cI a⟩] (fun r S=>∃ad E,r = .v (.slice ad 1 E)∧bw 3 1 ((gS ([]:List Int) 0 a).flatMap cI) (gS ([]:List Int) 0 a).length ad E S):=by
 refine VC.body func117 rfl ntmps117 aO fun X0 w0 aZ=>?_;refine ae [0,1,2] ?_;refine aC 2 ?_;refine bN (DG rfl ot ⟨_,_,ot,rfl⟩ rfl runUnderlying91 sizeOf3) ?_;refine aj 95 [0,1,2] ?_;refine ae [0,1,2,7] ?_;refine ae [0,1,2,7,16] ?_;refine aq (fun az aH=>?_) (fun az aH=>?_)
 ·exact absurd az (by simp at *)
 refine ae [0,1,2,7,8] ?_;refine ae [0,1,2,7,8,22] ?_;refine aq (fun aG aV=>?_) (fun aG aV=>?_)
 ·refine aC 2 ?_;refine fG 0 24 1 1 ?_;refine OD.dZ (ls:=([]:List Int)) (new:=[a]) (Sq:=[]) ey nr an rfl rfl underlying91 HM rfl w7 ot iw (dx (A:=[])) ot bq (by simp[maxLen]) bq (fun O I U Z=>?_);refine OD.perm (dV (S1:=[⟨O,3,I*1,flatMap cI (([]:List Int)++[a])⟩]) (A:=[])) ?_;refine aj 95 [6] ?_;refine aJ [⟨O,3,I*1,flatMap cI (([]:List Int)++[a])⟩] ?_;exact⟨_,_,rfl,bI U Z⟩
 exact absurd aG (by simp at *)
theorem Y8(q:List Int)(i:Nat)(a:Int)(ad:Option Addr)(cap:Nat)(Sq:List ag)(I:Nat)(hi:i≤q.length)(hs:q.length≤1000)(ho:bw 3 1 (q.flatMap cI) q.length ad cap Sq):VC Tryz.prog G 117 [.v (.slice ad q.length cap),.v (.int .i64 (i:Nat)),.v (.slice (some ⟨I,0,none⟩) 1 1)] (⟨I,3,1*1,cI a⟩::Sq) (fun r S=>∃ad E,r = .v (.slice ad (q.length+1) E)∧bw 3 1 ((gS q i a).flatMap cI) (gS q i a).length ad E S):=by
 rcases ho with ⟨h1,h2,rfl,rfl,rfl⟩|⟨b,rfl,h1,h2,rfl⟩
 ·obtain rfl:=length_eq_zero_iff.1 h1;obtain rfl:i=0:=Nat.le_zero.1 hi;exact aax a I
 exact Y6 q i a cap b I hi h1 h2 hs

end Go.Proofs.YtbcmjoaggammcaaGreatDoor.Tw
