/-
  What the proof of InsertBad leans on, part 6 of 8: walks of the program's functions at the level of values, and plain facts of what they compute.
-/
import Derived.Test.YtbcmjoaggammcaaGreatDoorPInsertBad5
set_option linter.unusedVariables false
set_option linter.unusedSimpArgs false
set_option maxRecDepth 100000
set_option maxHeartbeats 4000000
namespace Go.Proofs.YtbcmjoaggammcaaGreatDoor.Tw
open List
open Go.Proofs.Tryz
open Go.RowKit V Tr Pk
structure aA where
 p:cQ
 ak:Option Addr
 ck:Nat
 sk:List ag
 ai:Option Addr
 ci:Nat
 si:List ag
def gO(o:aA):List D:=[.v (.bool o.p.leaf),.v (.slice o.ak o.p.keys.length o.ck),.v (.slice o.ai o.p.kids.length o.ci),.list 1 (o.p.high.flatMap cB) o.p.high.length,.v (.int .i64 o.p.next)]
theorem fV(o:aA):(gO o).length=5:=rfl
theorem uv(o:aA):(gO o).all V.one=true:=rfl
def bO(o:aA):List ag:=o.sk++o.si
def qp(o:aA):Prop:=om o.p.keys o.ak o.ck o.sk∧lp o.p.kids o.ai o.ci o.si
theorem Rr{S:List ag}:∀{L:List aA},(∀o∈L,qp o)→(∀B∈L.flatMap bO,B∈S)→gi S (L.flatMap gO) ((L.map aA.p).flatMap cP)
 | [],_,_=>trivial
 | o::L,h,hs=>by
  rw[map_cons,flatMap_cons,flatMap_cons];obtain⟨h1,h2⟩:=h o mem_cons_self;refine gi.append ⟨eM,kY h1 (cl fW _) (fun B E=>hs B ?_),kY h2 (cl ev _) (fun B E=>hs B ?_),eM,eM,trivial⟩ (Rr (fun o ho=>h o (mem_cons_of_mem _ ho)) fun B E=>hs B ?_)
  ·rw[flatMap_cons];exact mem_append_left _ (mem_append_left _ E)
  ·rw[flatMap_cons];exact mem_append_left _ (mem_append_right _ E)
  rw[flatMap_cons];exact mem_append_right _ E
abbrev tq(L:List aA)(ad:Option Addr)(cap:Nat)(S:List ag):Prop:=bu 93 5 (L.flatMap gO) L.length ad cap S
theorem Jh{S Sx:List ag}{L:List aA}{ad:Option Addr}{cap:Nat}{root:Int}(ho:tq L ad cap Sx)(h:∀o∈L,qp o)(hs:∀B∈Sx++L.flatMap bO,B∈S) :
  View S (.agg [.v (.slice ad L.length cap),.v (.int .i64 root)]) (.agg (cT ⟨L.map aA.p,root⟩)):=by
 refine uh ⟨?_,eM,trivial⟩;have:=An ho (Rr h fun B E=>hs B (mem_append_right _ E)) (cl EO _ |>.trans bw) (fun B E=>hs B (mem_append_left _ E));rw[length_map];exact this
def FB(t:aE)(r:D)(S:List ag):Prop:=∃L ad cap Sx,r = .agg [.v (.slice ad (length L) cap),.v (.int .i64 t.root)]∧tq L ad cap Sx∧(∀o∈L,qp o)∧L.map aA.p=t.af∧S=Sx++L.flatMap bO
theorem Qw(L:List aA)(o:aA):(L++[o]).flatMap bO=L.flatMap bO++bO o:=by simp
variable {G:List (Nat×List Value)}
theorem pJ{α:Type}{l:List α}{j:Nat}(h:j<l.length):take j l++[l[j]]=take (j+1) l:=(take_succ_eq_append_getElem h).symm
theorem Ym:(Tryz.prog.info? 49).map (fun i=>(i.zero,i.size,i.bytes))=some (some (.slice none 0 0),1,24):=by kernel_rfl
theorem XZ:(Tryz.prog.info? 93).map (fun i=>(i.zero,i.size,i.bytes))=some (some (.agg #[.bool false,.slice none 0 0,.slice none 0 0,.slice none 0 0,.int .i64 0]),5,88):=by kernel_rfl
theorem Ng : ∀ w, ((#[{ name := "Leaf", type := 4, offset := 0, embedded := false, tag := "", pkgPath := "", byteOffset := 0 }, { name := "Keys", type := 90, offset := 1, embedded := false, tag := "", pkgPath := "", byteOffset := 8 }, { name := "Kids", type := 91, offset := 2, embedded := false, tag := "", pkgPath := "", byteOffset := 32 }, { name := "High", type := 49, offset := 3, embedded := false, tag := "", pkgPath := "", byteOffset := 56 }, { name := "Next", type := 3, offset := 4, embedded := false, tag := "", pkgPath := "", byteOffset := 80 }] : Array Field).mapM fun f => do pure (f.offset, ← sizeOf f.type) : Sem (Array (Nat × Nat))).run Tryz.prog w = .ok #[(0, 1), (1, 1), (2, 1), (3, 1), (4, 1)] w := fun w => by simp [sizeOf3, sizeOf4, sizeOf49, sizeOf90, sizeOf91]
theorem EP(t:aE)(h:Nat)(v:Valid t h):VC Tryz.prog G 115 [.agg (cT t)] [] (FB t):=by
 refine VC.body func115 rfl ntmps115 aO fun X0 w0 aX=>?_;unfold cT;have dr:maxLen=9223372036854775807:=rfl;have hval:=v;have MD:=v.mQ;refine bX ?_;refine OD.box (ds:=[_,_]) an rfl rfl ot rfl rfl (fun b1=>?_);refine OD.alloc (ds:=[_,_]) an rfl rfl zeroValue46 rfl (fun b2=>?_);refine aj 51 [1,2] ?_;refine aC 3 ?_;refine OD.alloc (ds:=[_,_]) an rfl rfl zeroValue46 rfl (fun b3=>?_);refine aN 0 [_,_] sizeOf46 ?_;refine aj 51 [1,2,3] ?_;refine ae [2,3,13,14,15] ?_;refine eI [2,3,13,14] (fun aV _ (E:Nat×List aA×Option Addr×Nat×List ag) aK=>match E with|(i,L,dS,dD,Sx)=>(i≤t.af.length)∧(L.map aA.p=t.af.take i)∧(∀o∈L,qp o)∧(tq L dS dD Sx)∧aK=(⟨51,(15,.v (.int .i64 (i:Nat)))::aV,(⟨b3,46,2,[.v (.slice dS L.length dD),.v (.int .i64 t.root)]⟩::⟨b2,46,2,[.v (.slice none 0 0),.v (.int .i64 0)]⟩::(Sx++L.flatMap bO))⟩:St)) (fun (E:Nat×List aA×Option Addr×Nat×List ag)=>match E with|(i,L,dS,dD,Sx)=>t.af.length-i) (0,([]:List aA),none,0,[]) ⟨(Nat.zero_le _),rfl,(fun o h=>by cases h),iA,rfl⟩ ?_;rintro⟨i,L,dS,dD,Sx⟩ _ ⟨hi,hL,aR,ee,rfl⟩;refine ae [2,3,13,14,15,16] ?_;refine aq (fun az aG=>?_) (fun az aG=>?_)
 ·have aa:i<t.af.length:=(by omega)
  have po:=v.page _ (getElem_mem aa);have q9:L.length=i:=(by have:=congrArg length hL;rw[length_map,length_take] at this;omega)
  have mR:=po.eL;have WJ:=po.hlen;have E7:(t.af[i]'aa).kids.length≤5:=by
      exact VK
  refine aC 2 ?_;refine OD.alloc (ds:=[_,_,_,_,_]) an rfl rfl zeroValue93 rfl (fun b5=>?_);refine aN 0 [_,_,_,_,_] sizeOf93 ?_;refine aj 51 [2,3,5,13,14,15] ?_;refine bX ?_;refine aZ [2,3,5,6,13,14,15] ?_;refine ae [2,3,5,6,13,14,15,20,21,22] ?_;refine CD.block ?_;refine mB (fun (E:Nat×Option Addr×Nat×List ag) aK=>match E with|(j,hU,ic,Sy)=>(j≤(t.af[i]'aa).keys.length)∧(om (take j (t.af[i]'aa).keys) hU ic Sy)∧aK=(⟨51,[(2,.v (.pointer (some ⟨b2,0,none⟩))),(3,.v (.pointer (some ⟨b3,0,none⟩))),(5,.v (.pointer (some ⟨b5,0,none⟩))),(6,.v (.slice hU (take j (t.af[i]'aa).keys).length ic)),(13,.list 5 (t.af.flatMap cP) t.af.length),(14,.v (.int .i64 (t.af.length:Nat))),(15,.v (.int .i64 (i:Nat))),(20,.list 1 ((t.af[i]'aa).keys.flatMap cK) (t.af[i]'aa).keys.length),(21,.v (.int .i64 ((t.af[i]'aa).keys.length:Nat))),(22,.v (.int .i64 (j:Nat)))],(⟨b5,93,5,cP (t.af[i]'aa)⟩::⟨b3,46,2,[.v (.slice dS L.length dD),.v (.int .i64 t.root)]⟩::⟨b2,46,2,[.v (.slice none 0 0),.v (.int .i64 0)]⟩::(Sy++(Sx++L.flatMap bO)))⟩:St)) (fun (E:Nat×Option Addr×Nat×List ag)=>match E with|(j,hU,ic,Sy)=>(t.af[i]'aa).keys.length-j) (0,none,0,[]) ⟨(Nat.zero_le _),iA,rfl⟩ (aM (h:=by repeat (first|exact trivial|refine⟨(by (repeat (first|exact fm|(apply fK;focus (first|rfl|(simp;done)|(congr 2;omega)|(apply eC;exact pJ O)))|(apply fu;focus rfl)));done),?_⟩))) ?_
  rintro⟨j,hU,ic,Sy⟩ _ ⟨hj,U,rfl⟩;refine ae [2,3,5,6,13,14,15,20,21,22,23] ?_;refine aq (fun aH aU=>?_) (fun aH aU=>?_)
  ·have O:j<(t.af[i]'aa).keys.length:=(by omega)
   have KH:=(po.kP _ (getElem_mem O)).2;refine ae [2,3,5,6,8,13,14,15,20,21,22] ?_;refine dw 2 ?_;refine dJ call59 (jK (t.af[i]'aa).keys[j] w4) ?_;refine ei (bZ 0 [_]) [.slice none 0 0] [_] zeroValue49 runUnderlying90 sizeOf49 (fun tU=>?_);refine fG 0 29 1 1 ?_;refine OD.en (ls:=(take j (t.af[i]'aa).keys)) (new:=[(t.af[i]'aa).keys[j]]) (Sq:=Sy) fW oW an rfl rfl underlying90 Ym rfl w7 ot U (HK (A:=[_,_,_])) ot bw u7 gM (fun Z I KC KD=>?_);refine OD.perm (Pe (S1:=[⟨Z,49,I*1,flatMap cK ((take j (t.af[i]'aa).keys)++[(t.af[i]'aa).keys[j]])⟩]) (A:=[_,_,_])) ?_;refine aj 51 [2,3,5,6,13,14,15,20,21,22] ?_;refine cj [2,3,5,6,13,14,15,20,21,22] ?_;refine⟨((j+1),(some ⟨Z,0,none⟩),I,[⟨Z,49,I*1,flatMap cK ((take j (t.af[i]'aa).keys)++[(t.af[i]'aa).keys[j]])⟩]),_,cz,(aM (h:=by repeat (first|exact trivial|refine⟨(by (repeat (first|exact fm|(apply fK;focus (first|rfl|(simp;done)|(congr 2;omega)|(apply eC;exact pJ O)))|(apply fu;focus rfl)));done),?_⟩))),w4,(bu.cast (bD KC KD) (pJ O)),rfl⟩
  have hjt:take j (t.af[i]'aa).keys=(t.af[i]'aa).keys:=take_of_length_le w4;rw[hjt] at U ⊢;refine CD.exit ?_;refine fE 16 (ap (take 1 _)) ?_ (fun _ h=>(Sublist.map _ (take_sublist _ _)).subset h);refine ax 0 rfl (cX 0) ?_;refine ax 2 rfl (cX 0) ?_;refine ax 3 rfl (dx 0) ?_;refine ax 4 rfl bg ?_;refine ax 5 rfl (cX 2) ?_;refine ax 6 rfl (dx 0) ?_;refine ax 8 rfl (cX 3) ?_;refine ax 9 rfl (dx 0) ?_;refine ax 11 rfl (cX 4) ?_;refine ax 12 rfl (dx 0) ?_;refine dg.later rfl ?_;refine AD.two (i:=1) (j:=7) ay ?_ ?_
  ·refine at_ rfl (dx 1) ?_;refine AD.one (i:=7) ay ?_;refine bf.call rfl an rfl rfl rfl call114 (nC (t.af[i]'aa).kids w4) ⟨ot,trivial⟩ (eH _) (fun b hb=>by simp[ap,St.put] at hb ⊢;try simp[hb]) ?_;rintro _ Sz ⟨lB,lC,rfl,xF⟩;refine AD.perm (iU (A:=[_,_,_])) ?_;have ve:(L++[(⟨(t.af[i]'aa),hU,ic,Sy,lB,lC,Sz⟩:aA)]).map aA.p=t.af.take (i+1):=(by rw[map_append,hL];exact pJ aa)
   have jE:∀o∈L++[(⟨(t.af[i]'aa),hU,ic,Sy,lB,lC,Sz⟩:aA)],qp o:=fun o ho=>by rcases mem_append.1 ho with ho|ho;exact aR o ho;rw[mem_singleton] at ho;subst ho;exact⟨U,xF⟩
   exact z117
  refine bf.call rfl an rfl rfl rfl call114 (nC (t.af[i]'aa).kids w4) ⟨ot,trivial⟩ (eH _) (fun b hb=>by simp[ap,St.put] at hb ⊢;try simp[hb]) ?_;rintro _ Sz ⟨lB,lC,rfl,xF⟩;refine AD.perm (iU (A:=[_,_,_])) ?_;have ve:(L++[(⟨(t.af[i]'aa),hU,ic,Sy,lB,lC,Sz⟩:aA)]).map aA.p=t.af.take (i+1):=(by rw[map_append,hL];exact pJ aa)
  have jE:∀o∈L++[(⟨(t.af[i]'aa),hU,ic,Sy,lB,lC,Sz⟩:aA)],qp o:=fun o ho=>by rcases mem_append.1 ho with ho|ho;exact aR o ho;rw[mem_singleton] at ho;subst ho;exact⟨U,xF⟩
  refine AD.two (i:=1) (j:=10) ay ?_ ?_
  ·refine at_ rfl (dx 1) ?_;exact z117
  refine jt call59 (jK (t.af[i]'aa).high w4) ?_;refine cr 13 rfl (nc (pl:=[(0,_),(1,_),(2,_),(3,_),(4,_)]) (ds:=[_,_,_,_,_]) rfl zeroValue93 runUnderlying93 Ng ⟨rfl,ot,rfl,ot,rfl,ot,rfl,ot,rfl,ot,trivial⟩ rfl rfl) ?_;refine AD.two (i:=1) (j:=14) ay ?_ ?_
  ·refine at_ rfl (dx 1) ?_;refine AD.one (i:=14) ay ?_;refine je (bZ 0 [_]) [.bool false,.slice none 0 0,.slice none 0 0,.slice none 0 0,.int .i64 0] [_,_,_,_,_] zeroValue93 runUnderlying44 sizeOf93 (fun zO=>?_);refine jf 0 46 5 1 ?_;exact Ls
  refine je (bZ 0 [_]) [.bool false,.slice none 0 0,.slice none 0 0,.slice none 0 0,.int .i64 0] [_,_,_,_,_] zeroValue93 runUnderlying44 sizeOf93 (fun zO=>?_);refine jf 0 46 5 1 ?_;refine AD.one (i:=1) ay ?_;refine at_ rfl (dx 1) ?_;exact Ls
 refine aC 1 ?_;refine aN 1 [_,_] sizeOf46 ?_;refine aj 51 [2] ?_;refine aJ (Sx++L.flatMap bO) ?_;exact⟨L,dS,dD,Sx,rfl,ee,aR,by rw[hL,take_of_length_le w4],rfl⟩

end Go.Proofs.YtbcmjoaggammcaaGreatDoor.Tw

namespace Go.Proofs.YtbcmjoaggammcaaGreatDoor.Tw
open List
open Go.Proofs.Tryz
open Go.RowKit V Go.Proofs.YtbcmjoaggammcaaGreatDoor.Tr Pk
open Go.Lib (compareBytes)
variable {t:aE} {lv:List (List Int)} {level:Nat} {i:Int}
structure ni (t:aE) (s:jl):Prop where
 nd:s.1.Nodup
 rg:∀x∈s.1,0≤x∧x<t.af.length
 eL:s.2.length≤s.1.length
 each:∀l∈s.2,l.length≤s.1.length
 el:∀l∈s.2,∀x∈l,0≤x∧x<t.af.length
theorem aa9{n:Nat}{l:List Int}(h:l.Nodup)(hr:∀x∈l,0≤x∧x<n):l.length≤n:=by
 induction n generalizing l with
 | zero =>
  cases l with
  | nil=>simp
  | cons a l=>have:=hr a mem_cons_self;omega
 | succ n ih =>
  have h1:=ih (l:=l.erase (n:Int)) (h.erase _) fun x hx=>by
   have h2:=(h.mem_erase_iff).1 hx;have h3:=hr x h2.2;have:=h2.1;omega
  rw[length_erase] at h1;split at h1<;>omega
theorem ni.mQ{s:jl}(h:ni t s):s.1.length≤t.af.length:=aa9 h.nd h.rg
theorem ZF{n:Nat}(h:∀l∈lv,l.length≤n):∀l∈ke lv level i,l.length≤n+1:=fun l hl=>by
 obtain⟨j,hj,rfl⟩:=mem_iff_getElem.1 hl;have e:(ke lv level i)[j]=(ke lv level i).getD j []:=(by rw[getD_eq_getElem?_getD,getElem?_eq_getElem hj];rfl)
 rw[e,Ey,length_append];have h1:(lv.getD j []).length≤n:=by
  rw[getD_eq_getElem?_getD];rcases Nat.lt_or_ge j lv.length with q|q
  ·rw[getElem?_eq_getElem q];exact h _ (getElem_mem q)
  rw[getElem?_eq_none q];simp
 split
 ·simp only[length_cons,length_nil];omega
 simp only[length_nil];omega
theorem acQ{Q:Int→Prop}(h:∀l∈lv,∀x∈l,Q x)(hi:Q i):∀l∈ke lv level i,∀x∈l,Q x:=fun l hl x hx=>by
 obtain⟨j,hj,rfl⟩:=mem_iff_getElem.1 hl;have e:(ke lv level i)[j]=(ke lv level i).getD j []:=(by rw[getD_eq_getElem?_getD,getElem?_eq_getElem hj];rfl)
 rw[e,Ey,mem_append] at hx;rcases hx with hx|hx
 ·rw[getD_eq_getElem?_getD] at hx;rcases Nat.lt_or_ge j lv.length with q|q
  ·rw[getElem?_eq_getElem q] at hx;exact h _ (getElem_mem q) x hx
  rw[getElem?_eq_none q] at hx;cases hx
 split at hx
 ·rw[mem_singleton] at hx;subst hx;exact hi
 cases hx
theorem ni.add{s:jl}(h:ni t s)(hi:0≤i∧i<t.af.length)(hn:i∉s.1)(hl:level≤s.1.length):ni t (s.1++[i],ke s.2 level i):=by
 refine⟨?_,fun x hx=>?_,?_,?_,acQ h.el hi⟩
 ·exact nodup_append.2 ⟨h.nd,by simp,fun a ha b hb e=>by rw[mem_singleton] at hb;subst hb;subst e;exact hn ha⟩
 ·rcases mem_append.1 hx with hx|hx
  ·exact h.rg x hx
  rw[mem_singleton] at hx;subst hx;exact hi
 ·show(ke s.2 level i).length≤(s.1++[i]).length;rw[HX,length_append];have:=h.eL;simp;omega
 show ∀l∈ke s.2 level i,l.length≤(s.1++[i]).length;rw[length_append];exact ZF h.each
theorem P6{t:aE}{go:Int→K→K→jl→Option (Nat×jl)}{low:K}{p:cQ}{n:Nat}(E:∀(c:Int) lo hi s d s',(0≤c∧c<t.af.length)→ni t s→n≤s.1.length→go c lo hi s=some (d,s')→ni t s'∧s.1.length≤s'.1.length) :
  ∀(cs:List Int) (k:Nat) (deep:Option Nat) (s:jl) (d:Nat) (s':jl),(∀c∈cs,0≤c∧c<t.af.length)→ni t s→n≤s.1.length→lj go low p cs k deep s=some (d,s')→ni t s'∧s.1.length≤s'.1.length
 | [],k,deep,s,d,s',_,hs,_,h=>by
  rw[lj] at h;cases deep with
  | none=>cases h
  | some e=>simp at h;rw[←h.2];exact⟨hs,Nat.le_refl _⟩
 | c::cs,k,deep,s,d,s',hc,hs,hn,h=>by
  rw[lj] at h;cases hg:go c (gQ low p k) (gC p k) s with
  | none=>rw[hg] at h;cases h
  | some q =>
   obtain⟨d1,s1⟩:=q;rw[hg] at h;obtain⟨h1,h2⟩:=E _ _ _ _ _ _ (hc c mem_cons_self) hs hn hg;change (if deep=none∨deep=some d1 then lj go low p cs (k+1) (some d1) s1 else none)=_ at h;split at h
   ·obtain⟨h3,h4⟩:=P6 E cs _ _ _ _ _ (fun c tT=>hc c (mem_cons_of_mem _ tT)) h1 w4 h;exact⟨h3,by omega⟩
   cases h
theorem Ow{p:cQ}(hp:ew p t.af.length)(hl:p.leaf=false):∀c∈p.kids,0≤c∧c<t.af.length:=fun c hc=>⟨hp.aB c hc,hp.uT hl c hc⟩
theorem IN{t:aE}(hp:ur t):∀(f:Nat) (i:Int) (lo hi:K) (level:Nat) (s:jl) (d:Nat) (s':jl),(0≤i∧i<t.af.length)→ni t s→level≤s.1.length→jb t f i lo hi level s=some (d,s')→ni t s'∧s.1.length≤s'.1.length
 | 0,i,lo,hi,level,s,d,s',_,_,_,h=>by rw[jb] at h;cases h
 | f+1,i,lo,hi,level,s,d,s',hr,hs,hl,h=>by
  rw[jb] at h;split at h
  ·cases h
  rename_i hn;split at h
  ·cases h
  have ha:=hs.add hr hn hl;have hlen:s.1.length+1=(s.1++[i]).length:=(by simp)
  split at h
  ·simp at h;rw[←h.2];exact⟨ha,by show s.1.length≤(s.1++[i]).length;omega⟩
  rename_i fB;have fB:(t.pg i).leaf=false:=(by simpa using fB)
  obtain⟨h1,h2⟩:=P6 (n:=level+1) (fun c lo hi s d s' hc hs hn h=>IN hp f c lo hi (level+1) s d s' hc hs hn h) _ _ _ _ _ _ (Ow (hp _ (jn hr)) fB) ha (by show level+1≤(s.1++[i]).length;omega) h;have h3:(s.1++[i]).length≤s'.1.length:=h2;exact⟨h1,by omega⟩
structure dm where
 l:List Int
 ad:Option Addr
 cp:Nat
 s:List ag
variable {L:List dm}
def gV(o:dm):List D:=[.v (.slice o.ad o.l.length o.cp)]
theorem vS(o:dm):(gV o).length=1:=rfl
theorem aey(o:dm):(gV o).all V.one=true:=rfl
def mC(o:dm):Prop:=lp o.l o.ad o.cp o.s
def qL:dm:=⟨[],none,0,[]⟩
theorem acR:mC qL:=.inl ⟨rfl,rfl,rfl,rfl,rfl⟩
abbrev zb(L:List dm)(ad:Option Addr)(cap:Nat)(S:List ag):Prop:=bu 91 1 (L.flatMap gV) L.length ad cap S
def Uw(t:aE)(b bm:Nat)(n:Nat)(ad:Option Addr)(cap:Nat):ag:=⟨b,104,4,[.list 5 (t.af.flatMap cP) t.af.length,.v (.int .i64 t.root),.v (.map (some bm)),.v (.slice ad n cap)]⟩
def SW(t:aE)(b bm:Nat)(m:List Int)(L:List dm)(ad:Option Addr)(cap:Nat)(Sx:List ag):List ag:=Uw t b bm L.length ad cap::kw bm m::(Sx++L.flatMap dm.s)
def Ux(t:aE)(b bm:Nat):Option (Nat×jl)→D→List ag→Prop
 | none,r,S=>r = .v (.int .i64 (-1))∧S=[]
 | some (d,s),r,S=>r = .v (.int .i64 (d:Nat))∧∃L ad cap Sx,zb L ad cap Sx∧(∀o∈L,mC o)∧L.map dm.l=s.2∧S=SW t b bm s.1 L ad cap Sx
theorem yl{α:Type}(g:α→List ag):∀{L:List α} {j:Nat} (h:j<L.length),(L.flatMap g).Perm (g L[j]++(L.eraseIdx j).flatMap g)
 | a::L,0,_=>by simp
 | a::L,j+1,h=>by
  have E:=yl g (L:=L) (j:=j) oB;simp only[flatMap_cons,getElem_cons_succ,eraseIdx_cons_succ];refine(E.append_left (g a)).trans ?_;rw[←append_assoc,←append_assoc];exact List.perm_append_comm.append_right _
theorem qt{α:Type}(g:α→List ag){L:List α}{j:Nat}(h:j<L.length)(a:α):((L.set j a).flatMap g).Perm (g a++(L.eraseIdx j).flatMap g):=by
 have:=yl g (L:=L.set j a) (j:=j) (by rw[length_set];exact h);rw[getElem_set_self,eraseIdx_set_eq] at this;exact this
def rI:Option Nat→Int
 | none=>-2
 | some d=>d
variable {G:List (Nat×List Value)}

theorem aez{f:Nat}{low high:K}{s:jl}(h:i∈s.1):jb t (f+1) i low high level s=none:=by rw[jb,if_pos h]
theorem Rt{f:Nat}{low high:K}{s:jl}(h:((t.pg i).high≠high∨∃k,(t.pg i).keys.head?=some k∧bP k low)):jb t (f+1) i low high level s=none:=by
 rw[jb];by_cases hi:i∈s.1
 ·rw[if_pos hi]
 rw[if_neg hi,if_pos h]
theorem aba{f:Nat}{low high:K}{s:jl}(h:i∉s.1)(h2:¬((t.pg i).high≠high∨∃k,(t.pg i).keys.head?=some k∧bP k low))(h3:(t.pg i).leaf=true):jb t (f+1) i low high level s=some (level,(s.1++[i],ke s.2 level i)):=by rw[jb,if_neg h,if_neg h2,if_pos h3]
theorem abb{f:Nat}{low high:K}{s:jl}(h:i∉s.1)(h2:¬((t.pg i).high≠high∨∃k,(t.pg i).keys.head?=some k∧bP k low))(h3:(t.pg i).leaf=false):jb t (f+1) i low high level s=lj (fun c lo hi s=>jb t f c lo hi (level+1) s) low (t.pg i) (t.pg i).kids 0 none (s.1++[i],ke s.2 level i):=by rw[jb,if_neg h,if_neg h2,if_neg (by rw[h3];decide)]
section
variable {go:Int→K→K→jl→Option (Nat×jl)} {low:K} {p:cQ} {k:Nat} {deep:Option Nat} {s s':jl} {d:Nat}
theorem ZG(hk:k<p.kids.length)(h:go p.kids[k] (gQ low p k) (gC p k) s=none):lj go low p (p.kids.drop k) k deep s=none:=by rw[drop_eq_getElem_cons hk,lj,h]
theorem Ox(hk:k<p.kids.length)(h:go p.kids[k] (gQ low p k) (gC p k) s=some (d,s'))(hd:deep=none∨deep=some d):lj go low p (p.kids.drop k) k deep s=lj go low p (p.kids.drop (k+1)) (k+1) (some d) s':=by
 rw[drop_eq_getElem_cons hk,lj,h];show(if deep=none∨deep=some d then _ else _)=_;rw[if_pos hd]
theorem abc(hk:k<p.kids.length)(h:go p.kids[k] (gQ low p k) (gC p k) s=some (d,s'))(hd:¬(deep=none∨deep=some d)):lj go low p (p.kids.drop k) k deep s=none:=by
 rw[drop_eq_getElem_cons hk,lj,h];show(if deep=none∨deep=some d then _ else _)=_;rw[if_neg hd]
theorem abd(hk:p.kids.length≤k):lj go low p (p.kids.drop k) k deep s=deep.map fun d=>(d,s):=by rw[drop_of_length_le hk,lj]
end
theorem ZH:(L++[qL]).flatMap dm.s=L.flatMap dm.s:=by simp[qL]
theorem acS{E:List dm}(h:E.map dm.l=L.map dm.l++replicate (E.length-L.length) [])(h1:L.length≤E.length)(h2:E.length≤max L.length (level+1))(h3:level<E.length):E.map dm.l=rR (L.map dm.l) (level+1):=by
 rw[h];unfold rR;rw[length_map,show E.length-L.length=level+1-L.length from by omega]
theorem IP{E:List dm}{o:dm}(h:E.map dm.l=rR (L.map dm.l) (level+1))(h3:level<E.length)(ho:o.l=E[level].l++[i]):(E.set level o).map dm.l=ke (L.map dm.l) level i:=by
 rw[map_set,ho];unfold ke;rw[←h,getD_eq_getElem?_getD,getElem?_eq_getElem (by rw[length_map];exact h3),getElem_map];rfl
theorem Ru{j:Nat}{o:dm}(h:∀o∈L,mC o)(ho:mC o):∀x∈L.set j o,mC x:=fun x hx=>by
 rcases mem_or_eq_of_mem_set hx with hx|rfl
 ·exact h x hx
 exact ho
theorem P7{deep:Option Nat}{d:Nat}(h:rI deep≠-2)(h2:(d:Int)=rI deep):deep=some d:=by
 cases deep with
 | none=>exact absurd rfl h
 | some e=>unfold rI at h2;simp only at h2;rw[show d=e from by omega]
theorem abe{deep:Option Nat}{d:Nat}(h:rI deep≠-2)(h2:¬(d:Int)=rI deep):¬(deep=none∨deep=some d):=by
 rintro(rfl|rfl)
 ·exact h rfl
 exact h2 rfl
theorem Oy{deep:Option Nat}(h:rI deep = -2):deep=none:=by
 cases deep with
 | none=>rfl
 | some e=>unfold rI at h;simp only at h;omega
def Tz(G:List (Nat×List Value))(t:aE)(b bm f:Nat):Prop:=∀(i:Int) (low high:K) (level:Nat) (m:List Int) (L:List dm) (ad:Option Addr) (cap:Nat) (Sx:List ag),(0≤i∧i<t.af.length)→ni t (m,(L.map dm.l))→level≤m.length→t.af.length+1≤f+m.length→high.length≤100→zb L ad cap Sx→(∀o∈L,mC o) →
 VC Tryz.prog G 37 [.v (.pointer (some ⟨b,0,none⟩)),.v (.int .i64 i),.list 1 (low.flatMap cB) low.length,.list 1 (high.flatMap cB) high.length,.v (.int .i64 (level:Nat))] (SW t b bm m L ad cap Sx) (Ux t b bm (jb t f i low high level (m,(L.map dm.l))))

theorem Oz:(Tryz.prog.info? 3).map (fun i=>(i.zero,i.size,i.bytes))=some (some (.int .i64 0),1,8):=by kernel_rfl

theorem Yn:(Tryz.prog.info? 91).map (fun i=>(i.zero,i.size,i.bytes))=some (some (.slice none 0 0),1,24):=by kernel_rfl

theorem ZI(t:aE)(hp:ur t)(qM:t.af.length≤4000)(b bm f:Nat)(ih:Tz G t b bm f)(i:Int)(low high:K)(level:Nat)(m:List Int)(L:List dm)(ad:Option Addr)(cap:Nat)(Sx:List ag)(hr:0≤i∧i<t.af.length)(FC:ni t (m,(L.map dm.l)))(hlm:level≤m.length)(hfu:t.af.length+1≤(f+1)+m.length)(WK:high.length≤100)(my:zb L ad cap Sx)(aR:∀o∈L,mC o) :
 VC Tryz.prog G 37 [.v (.pointer (some ⟨b,0,none⟩)),.v (.int .i64 i),.list 1 (low.flatMap cB) low.length,.list 1 (high.flatMap cB) high.length,.v (.int .i64 (level:Nat))] (SW t b bm m L ad cap Sx) (Ux t b bm (jb t (f+1) i low high level (m,(L.map dm.l)))):=by
 refine VC.body func37 rfl ntmps37 aO fun X0 w0 aX=>?_;unfold SW Uw;have dr:maxLen=9223372036854775807:=rfl;have aa:i.toNat<t.af.length:=(by omega)
 have pE:t.pg i=(t.af[i.toNat]'aa):=uK hr;have po:ew (t.af[i.toNat]'aa) t.af.length:=hp _ (getElem_mem aa);have WJ:=po.hlen;have LO:=FC.mQ;have CL:m.length≤t.af.length:=LO;refine ae [0,1,2,3,4] ?_;refine aC 5 ?_;refine bJ (Y2 (i:=1) rfl ot ot rfl underlying101 underlying3 zeroValue130) ?_;refine aD 3 ?_;refine OD.alloc (ds:=[]) an rfl rfl zeroValue130 rfl (fun kg=>?_);refine aN 0 [] sizeOf130 ?_;refine aj 148 [0,1,2,3,4,12] ?_;refine ae [0,1,2,3,4,29] ?_;refine aq (fun az aG=>?_) (fun az aG=>?_)
 ·have kH:i∈m:=(by simpa using az)
  refine ae [10] ?_;refine aJ [] ?_;rw[aez (by exact kH)];exact⟨rfl,rfl⟩
 have pA:i∉m:=(by simpa using az)
 refine aC 6 ?_;refine OD.addKey (i:=2) an rfl rfl ot ot ot rfl pA underlying101 underlying3 ?_;refine aj 148 [0,1,2,3,4] ?_;refine aC 6 ?_;refine bJ (dy 5 (h:=by first|exact .l (j:=i.toNat) (Int.toNat_of_nonneg hr.1).symm aa|exact .r (j:=i.toNat) (Int.toNat_of_nonneg hr.1).symm aa)) ?_;refine aD 1 ?_;refine OD.alloc (ds:=[_,_,_,_,_]) an rfl rfl zeroValue93 rfl (fun mE=>?_);refine aN 0 [_,_,_,_,_] sizeOf93 ?_;refine aj 148 [0,1,2,3,4,13] ?_;refine jz [0,1,2,3,4] (fun aV _ aK=>∃(mE:Nat),(¬((t.pg i).high≠high∨∃k,(t.pg i).keys.head?=some k∧bP k low))∧aK=(⟨148,(13,.v (.pointer (some ⟨mE,0,none⟩)))::aV,(⟨mE,93,5,cP (t.af[i.toNat]'aa)⟩::⟨b,104,4,[.list 5 (t.af.flatMap cP) t.af.length,.v (.int .i64 t.root),.v (.map (some bm)),.v (.slice ad L.length cap)]⟩::kw bm (m++[i])::(Sx++L.flatMap dm.s))⟩:St)) ?_ ?_
 ·refine aC 3 ?_;refine dJ call57 (Tu (t.af[i.toNat]'aa).high high w4 w4) ?_;refine aD 2 ?_;refine bS 49 (fun BJ afX=>?_) (fun BJ afX=>?_)
  ·refine aj 148 [0,1,2,3,4,13,63] ?_;refine ez ?_;have nM:((t.pg i).high≠high∨∃k,(t.pg i).keys.head?=some k∧bP k low):=(by rw[pE];first|exact .inl (by simpa using BJ)|exact .inr ⟨_,head?_eq_getElem? .. ▸ getElem?_eq_getElem w4,of_decide_eq_true aH⟩)
   refine ae [10] ?_;refine aJ [] ?_;rw[Rt nM];exact⟨rfl,rfl⟩
  refine aD 5 ?_;refine bS 54 (fun yV yA=>?_) (fun yV yA=>?_)
  ·refine aD 2 ?_;refine OD.still gN rfl (nZ (mk:=Op.indexAddr 90) rfl ot bC (by first|exact oR (j:=0) runUnderlying90 sizeOf49 rfl zB|exact oV (j:=0) runUnderlying90 sizeOf49 rfl zB)) ?_;refine aD 2 ?_;refine OD.gI gN rfl rfl rfl call35 (vM ((t.af[i.toNat]'aa).keys[0]'w4) low) ⟨ot,ot,trivial⟩ ?_;refine aj 148 [0,1,2,3,4,13,63] ?_;refine aq (fun aH aU=>?_) (fun aH aU=>?_)
   ·have nM:((t.pg i).high≠high∨∃k,(t.pg i).keys.head?=some k∧bP k low):=(by rw[pE];first|exact .inl (by simpa using BJ)|exact .inr ⟨_,head?_eq_getElem? .. ▸ getElem?_eq_getElem w4,of_decide_eq_true aH⟩)
    refine ae [10] ?_;refine aJ [] ?_;rw[Rt nM];exact⟨rfl,rfl⟩
   have nJ:¬((t.pg i).high≠high∨∃k,(t.pg i).keys.head?=some k∧bP k low):=(by rw[pE];rintro(h|⟨k,hk,uP⟩);exact h (by simpa using BJ);first|(rw[head?_eq_getElem?,getElem?_eq_none w4] at hk;cases hk;done)|(rw[head?_eq_getElem?,getElem?_eq_getElem w4] at hk;cases hk;exact of_decide_eq_false aH uP))
   refine CD.skip ?_;refine⟨_,aM,mE,nJ,rfl⟩
  refine aj 148 [0,1,2,3,4,13,63] ?_;refine fF ?_;have nJ:¬((t.pg i).high≠high∨∃k,(t.pg i).keys.head?=some k∧bP k low):=(by rw[pE];rintro(h|⟨k,hk,uP⟩);exact h (by simpa using BJ);first|(rw[head?_eq_getElem?,getElem?_eq_none w4] at hk;cases hk;done)|(rw[head?_eq_getElem?,getElem?_eq_getElem w4] at hk;cases hk;exact of_decide_eq_false aH uP))
  refine CD.skip ?_;refine⟨_,aM,mE,nJ,rfl⟩
 rintro _ ⟨mE,nJ,rfl⟩;refine eI [0,1,2,3,4,13] (fun aV _ (lS:List dm×Option Addr×Nat×List ag) aK=>match lS with|(I,Gz,Z,CP)=>(zb I Gz Z CP)∧(∀o∈I,mC o)∧(I.map dm.l=L.map dm.l++replicate (I.length-L.length) [])∧(L.length≤I.length)∧(I.length≤max L.length (level+1))∧aK=(⟨148,aV,(⟨mE,93,5,cP (t.af[i.toNat]'aa)⟩::⟨b,104,4,[.list 5 (t.af.flatMap cP) t.af.length,.v (.int .i64 t.root),.v (.map (some bm)),.v (.slice Gz I.length Z)]⟩::kw bm (m++[i])::(CP++I.flatMap dm.s))⟩:St)) (fun (lS:List dm×Option Addr×Nat×List ag)=>match lS with|(I,Gz,Z,CP)=>level+1-I.length) (L,ad,cap,Sx) ⟨my,aR,bw,(Nat.le_refl _),w4,rfl⟩ ?_;rintro⟨I,Gz,Z,CP⟩ _ ⟨Uy,pi,Uz,aim,ain,rfl⟩;refine ae [0,1,2,3,4,13,70] ?_;refine aq (fun aY bz=>?_) (fun aY bz=>?_)
 ·have mR:=FC.eL;have mR:L.length≤m.length:=(by simpa using mR)
  have E:I.length≤level:=(by omega)
  refine dw 5 ?_;refine ei (bZ 0 [_]) [.slice none 0 0] [_] zeroValue91 runUnderlying102 sizeOf91 (fun b76=>?_);refine fG 0 76 1 1 ?_;refine OD.en (ls:=I) (new:=[qL]) (Sq:=CP) vS aey an rfl rfl underlying102 Yn rfl w7 ot Uy (n8 (A:=[_,_,_])) ot bw FO FO (fun MF KI aio aip=>?_);refine OD.perm (iU (S1:=[⟨MF,91,KI*1,flatMap gV (I++[qL])⟩]) (A:=[_,_,_])) ?_;rw[←ZH (L:=I)];refine aD 2 ?_;refine aN 1 [_,_,_,_] sizeOf102 ?_;refine aj 148 [0,1,2,3,4,13] ?_;refine⟨((I++[qL]),(some ⟨MF,0,none⟩),KI,[⟨MF,91,KI*1,flatMap gV (I++[qL])⟩]),_,(by (show level+1-(I++[qL]).length<level+1-I.length;rw[length_append,show[qL].length=1 from rfl];omega)),aM,(bD aio aip),(fun o ho=>by rcases mem_append.1 ho with ho|ho;exact pi o ho;rw[mem_singleton] at ho;subst ho;exact acR),(by rw[map_append,Uz,append_assoc,length_append,show[qL].length=1 from rfl,show I.length+1-L.length=I.length-L.length+1 from by omega,replicate_succ'];rfl),u3,(by rw[length_append,show[qL].length=1 from rfl];omega),rfl⟩
 have E:level<I.length:=(by omega)
 have zc:=acS Uz aim ain E;obtain⟨bv,rfl,BI,Be,rfl⟩:=Uy.pos w4;have ee:mC (I[level]'E):=pi _ (getElem_mem E);have lI:(I[level]'E).l.length≤m.length:=by
    have hz:(I[level]'E).l=(rR (L.map dm.l) (level+1)).getD level []:=(by rw[←zc,getD_eq_getElem?_getD,getElem?_eq_getElem (by rw[length_map];exact E),getElem_map];rfl)
    rw[hz,IM,getD_eq_getElem?_getD];rcases Nat.lt_or_ge level (L.map dm.l).length with q|q
    ·rw[getElem?_eq_getElem q];exact FC.each _ (getElem_mem q)
    rw[getElem?_eq_none q];simp
 refine CD.perm (Perm.cons _ (Perm.cons _ (Perm.cons _ ((yl dm.s E).append_left _)))) ?_;refine CD.exit ?_;refine CD.seq ?_;refine CD.mono (Q:=fun aV aK=>aV=Exit.normal∧∃(o2:dm),(mC o2)∧(o2.l=(I[level]'E).l++[i])∧Wk aK (⟨148,[(0,.v (.pointer (some ⟨b,0,none⟩))),(2,.list 1 (low.flatMap cB) low.length),(3,.list 1 (high.flatMap cB) high.length),(4,.v (.int .i64 (level:Nat))),(13,.v (.pointer (some ⟨mE,0,none⟩)))],(⟨mE,93,5,cP (t.af[i.toNat]'aa)⟩::⟨b,104,4,[.list 5 (t.af.flatMap cP) t.af.length,.v (.int .i64 t.root),.v (.map (some bm)),.v (.slice (some ⟨bv,0,none⟩) (I.set level o2).length Z)]⟩::kw bm (m++[i])::([⟨bv,91,Z*1,flatMap gV (I.set level o2)⟩]++(I.set level o2).flatMap dm.s))⟩:St)) ?_ ?_
 ·refine CD.draw (ap (take 3 _)) ay (fun _ h=>(Sublist.map _ (take_sublist _ _)).subset h) ?_;refine ax 0 rfl bg ?_;refine ax 1 rfl lA ?_;refine ax 2 rfl (cX 3) ?_;refine ax 3 rfl (dx 1) ?_;refine ax 4 rfl bg ?_;refine ax 5 rfl bg ?_;refine ax 6 rfl lA ?_;refine ax 7 rfl (cX 3) ?_;refine ax 8 rfl (dx 1) ?_;refine ax 9 rfl bg ?_;refine ax 10 rfl (dy 1) ?_;refine ax 12 rfl bg ?_;refine dg.later rfl ?_;refine AD.two (i:=11) (j:=13) ay ?_ ?_
  ·refine at_ rfl (cH (mk:=Op.load 91) rfl ot (iK (k:=3) (d:=.v (.slice (I[level]'E).ad (I[level]'E).l.length (I[level]'E).cp)) (i:=level) vS rfl rfl rfl isAgg91 E rfl)) ?_;refine AD.one (i:=13) ay ?_;refine je (bZ 0 [_]) [.int .i64 0] [_] zeroValue3 runUnderlying91 sizeOf3 (fun Ww=>?_);refine jf 0 93 1 1 ?_;refine AD.one (i:=14) ay ?_;refine bf.en (ls:=(I[level]'E).l) (new:=[i]) (Sq:=(I[level]'E).s) ev nf rfl an rfl rfl underlying91 Oz rfl w7 ot ee (sG (A:=[_,_,_]) (S1:=[⟨bv,91,Z*1,flatMap gV I⟩])) ot bw nu nv (fun U O KJ KK=>?_);refine AD.perm (vE (S2:=[⟨U,3,O*1,flatMap cI ((I[level]'E).l++[i])⟩]) (A:=[_,_,_])) ?_;refine cr 15 rfl (dy 1) ?_;refine AD.one (i:=16) ay ?_;refine bf.storeAt (k:=3) (cs':=flatMap gV (I.set level (⟨(I[level]'E).l++[i],some ⟨U,0,none⟩,O,[⟨U,3,O*1,flatMap cI ((I[level]'E).l++[i])⟩]⟩:dm))) rfl an rfl rfl ot rfl rfl ot rfl rfl sizeOf91 rfl (by show 0+level*1+1≤(flatMap gV I).length;rw[cl vS];omega) (by rw[Nat.zero_add];exact oc vS I (⟨(I[level]'E).l++[i],some ⟨U,0,none⟩,O,[⟨U,3,O*1,flatMap cI ((I[level]'E).l++[i])⟩]⟩:dm) E) gZ ?_
   refine AD.wk (y:=⟨148,[(0,_),(2,_),(3,_),(4,_),(13,_)],(⟨mE,93,5,[_,_,_,_,_]⟩::⟨b,104,4,[_,_,_,_]⟩::_::([⟨bv,91,Z*1,flatMap gV (I.set level (⟨(I[level]'E).l++[i],some ⟨U,0,none⟩,O,[⟨U,3,O*1,flatMap cI ((I[level]'E).l++[i])⟩]⟩:dm))⟩]++([⟨U,3,O*1,flatMap cI ((I[level]'E).l++[i])⟩]++((I.eraseIdx level).flatMap dm.s))))⟩) (Wk.dN rfl rfl fb) rfl ?_;refine AD.done ay ?_;exact⟨rfl,(⟨(I[level]'E).l++[i],some ⟨U,0,none⟩,O,[⟨U,3,O*1,flatMap cI ((I[level]'E).l++[i])⟩]⟩:dm),bD KJ KK,rfl,by rw[length_set];exact Wk.perm (Perm.cons _ (Perm.cons _ (Perm.cons _ ((qt dm.s E (⟨(I[level]'E).l++[i],some ⟨U,0,none⟩,O,[⟨U,3,O*1,flatMap cI ((I[level]'E).l++[i])⟩]⟩:dm)).symm.append_left _))))⟩
  refine je (bZ 0 [_]) [.int .i64 0] [_] zeroValue3 runUnderlying91 sizeOf3 (fun Ww=>?_);refine jf 0 93 1 1 ?_;refine AD.one (i:=11) ay ?_;refine at_ rfl (cH (mk:=Op.load 91) rfl ot (iK (k:=3) (d:=.v (.slice (I[level]'E).ad (I[level]'E).l.length (I[level]'E).cp)) (i:=level) vS rfl rfl rfl isAgg91 E rfl)) ?_;refine AD.one (i:=14) ay ?_;refine bf.en (ls:=(I[level]'E).l) (new:=[i]) (Sq:=(I[level]'E).s) ev nf rfl an rfl rfl underlying91 Oz rfl w7 ot ee (sG (A:=[_,_,_]) (S1:=[⟨bv,91,Z*1,flatMap gV I⟩])) ot bw nu nv (fun U O KJ KK=>?_);refine AD.perm (vE (S2:=[⟨U,3,O*1,flatMap cI ((I[level]'E).l++[i])⟩]) (A:=[_,_,_])) ?_;refine cr 15 rfl (dy 1) ?_;refine AD.one (i:=16) ay ?_;refine bf.storeAt (k:=3) (cs':=flatMap gV (I.set level (⟨(I[level]'E).l++[i],some ⟨U,0,none⟩,O,[⟨U,3,O*1,flatMap cI ((I[level]'E).l++[i])⟩]⟩:dm))) rfl an rfl rfl ot rfl rfl ot rfl rfl sizeOf91 rfl (by show 0+level*1+1≤(flatMap gV I).length;rw[cl vS];omega) (by rw[Nat.zero_add];exact oc vS I (⟨(I[level]'E).l++[i],some ⟨U,0,none⟩,O,[⟨U,3,O*1,flatMap cI ((I[level]'E).l++[i])⟩]⟩:dm) E) gZ ?_
  refine AD.wk (y:=⟨148,[(0,_),(2,_),(3,_),(4,_),(13,_)],(⟨mE,93,5,[_,_,_,_,_]⟩::⟨b,104,4,[_,_,_,_]⟩::_::([⟨bv,91,Z*1,flatMap gV (I.set level (⟨(I[level]'E).l++[i],some ⟨U,0,none⟩,O,[⟨U,3,O*1,flatMap cI ((I[level]'E).l++[i])⟩]⟩:dm))⟩]++([⟨U,3,O*1,flatMap cI ((I[level]'E).l++[i])⟩]++((I.eraseIdx level).flatMap dm.s))))⟩) (Wk.dN rfl rfl fb) rfl ?_;refine AD.done ay ?_;exact⟨rfl,(⟨(I[level]'E).l++[i],some ⟨U,0,none⟩,O,[⟨U,3,O*1,flatMap cI ((I[level]'E).l++[i])⟩]⟩:dm),bD KJ KK,rfl,by rw[length_set];exact Wk.perm (Perm.cons _ (Perm.cons _ (Perm.cons _ ((qt dm.s E (⟨(I[level]'E).l++[i],some ⟨U,0,none⟩,O,[⟨U,3,O*1,flatMap cI ((I[level]'E).l++[i])⟩]⟩:dm)).symm.append_left _))))⟩
 rintro _ _ ⟨rfl,o2,oL,Fz,JP⟩;refine CD.wk JP ?_;refine ae [0,2,3,4,13,97] ?_;refine aq (fun bF bY=>?_) (fun bF bY=>?_)
 ·refine ae [10] ?_;refine aJ (SW t b bm (m++[i]) (I.set level o2) (some ⟨bv,0,none⟩) Z _) ?_;rw[aba pA nJ (by rw[pE];exact bF)];exact⟨rfl,_,_,_,_,bD (by rw[length_set];exact BI) Be,Ru pi oL,IP zc E Fz,rfl⟩
 have fB:(t.pg i).leaf=false:=(by rw[pE];exact bF)
 have E8:ni t (m++[i],(I.set level o2).map dm.l):=(by rw[IP zc E Fz];exact FC.add hr pA hlm)
 have aiq:=Ow po (by rw[←pE];exact fB);have am7:=(po.node (by rw[←pE];exact fB)).1;have am8:=po.eL;have Bf:(t.af[i.toNat]'aa).high=high:=(by rw[←pE];exact Classical.byContradiction fun h=>nJ (.inl h))
 refine ae [0,2,3,4,13,14] ?_;refine ae [0,2,3,4,13,14,100,101,102] ?_;refine eI [0,2,3,4,13,100,101] (fun aV _ (lS:Nat×Option Nat×List Int×List dm×Option Addr×Nat×List ag) aK=>match lS with|(k,deep,m2,L2,tX,tr,tY)=>(k≤(t.af[i.toNat]'aa).kids.length)∧(lj (fun c lo hi s=>jb t f c lo hi (level+1) s) low (t.af[i.toNat]'aa) ((t.af[i.toNat]'aa).kids.drop k) k deep (m2,(L2.map dm.l))=(jb t (f+1) i low high level (m,(L.map dm.l))))∧(zb L2 tX tr tY)∧(∀o∈L2,mC o)∧(ni t (m2,(L2.map dm.l)))∧(level+1≤m2.length)∧(t.af.length+1≤f+m2.length)∧((k=0∨deep≠none))∧aK=(⟨148,(14,.v (.int .i64 (rI deep)))::(102,.v (.int .i64 (k:Nat)))::aV,(⟨mE,93,5,cP (t.af[i.toNat]'aa)⟩::⟨b,104,4,[.list 5 (t.af.flatMap cP) t.af.length,.v (.int .i64 t.root),.v (.map (some bm)),.v (.slice tX L2.length tr)]⟩::kw bm m2::(tY++L2.flatMap dm.s))⟩:St)) (fun (lS:Nat×Option Nat×List Int×List dm×Option Addr×Nat×List ag)=>match lS with|(k,deep,m2,L2,tX,tr,tY)=>(t.af[i.toNat]'aa).kids.length-k) (0,none,(m++[i]),(I.set level o2),(some ⟨bv,0,none⟩),Z,[⟨bv,91,Z*1,flatMap gV (I.set level o2)⟩]) ⟨(Nat.zero_le _),(by rw[abb pA nJ fB,IP zc E Fz,pE];rfl),(bD (by rw[length_set];exact BI) Be),(Ru pi oL),E8,FU,FU,(.inl rfl),rfl⟩ ?_;rintro⟨k,deep,m2,L2,tX,tr,tY⟩ _ ⟨hk,CQ,UA,jE,E8,UB,air,hdp,rfl⟩;refine ae [0,2,3,4,13,14,100,101,102,103] ?_
 refine aq (fun cx c8=>?_) (fun cx c8=>?_)
 ·have dU:k<(t.af[i.toNat]'aa).kids.length:=(by omega)
  have WL:=aiq _ (getElem_mem dU);have hhk:(gC (t.af[i.toNat]'aa) k).length≤100:=(by unfold gC;rw[getD_eq_getElem?_getD];rcases Nat.lt_or_ge k (t.af[i.toNat]'aa).keys.length with q|q;(rw[getElem?_eq_getElem q];exact(po.kP _ (getElem_mem q)).2);(rw[getElem?_eq_none q];exact po.hlen))
  refine ae [0,2,3,4,13,14,15,16,100,101,102] ?_;refine ae [0,2,3,4,13,14,15,16,17,18,100,101,102] ?_;refine CD.cut (fun aK=>aK=(⟨148,[(0,.v (.pointer (some ⟨b,0,none⟩))),(2,.list 1 (low.flatMap cB) low.length),(3,.list 1 (high.flatMap cB) high.length),(4,.v (.int .i64 (level:Nat))),(13,.v (.pointer (some ⟨mE,0,none⟩))),(14,.v (.int .i64 (rI deep))),(15,.v (.int .i64 (k:Nat))),(16,.v (.int .i64 ((t.af[i.toNat]'aa).kids[k]'dU))),(17,.list 1 ((gQ low (t.af[i.toNat]'aa) k).flatMap cB) (gQ low (t.af[i.toNat]'aa) k).length),(18,.list 1 (high.flatMap cB) high.length),(100,.list 1 ((t.af[i.toNat]'aa).kids.flatMap cI) (t.af[i.toNat]'aa).kids.length),(101,.v (.int .i64 ((t.af[i.toNat]'aa).kids.length:Nat))),(102,.v (.int .i64 (k:Nat)))],(⟨mE,93,5,cP (t.af[i.toNat]'aa)⟩::⟨b,104,4,[.list 5 (t.af.flatMap cP) t.af.length,.v (.int .i64 t.root),.v (.map (some bm)),.v (.slice tX L2.length tr)]⟩::kw bm m2::(tY++L2.flatMap dm.s))⟩:St)) ?_ ?_
  ·refine ae [0,2,3,4,13,14,15,16,17,18,100,101,102,110] ?_;refine aq (fun dP er=>?_) (fun dP er=>?_)
   ·have eO:gQ low (t.af[i.toNat]'aa) k=(t.af[i.toNat]'aa).keys[k-1]'w4:=(by unfold gQ;rw[if_neg w4,getD_eq_getElem?_getD,getElem?_eq_getElem w4];rfl)
    refine ie [0,2,3,4,13,14,15,16,17,18,100,101,102] ?_;refine aP 4 ?_ (h:=by exact(dy 1 (h:=by first|exact .l (j:=k-1) w4 w4|exact .r (j:=k-1) w4 w4)));refine bM ?_;refine⟨_,(aM (h:=by repeat (first|exact trivial|refine⟨(by (repeat (first|exact fm|(apply fK;focus (first|rfl|(rw[eO];done)|(simp;done)))|(apply fu;focus rfl)));done),?_⟩))),rfl⟩
   have eO:gQ low (t.af[i.toNat]'aa) k=low:=(by unfold gQ;rw[if_pos w4])
   refine CD.skip ?_;refine⟨_,(aM (h:=by repeat (first|exact trivial|refine⟨(by (repeat (first|exact fm|(apply fK;focus (first|rfl|(rw[eO];done)|(simp;done)))|(apply fu;focus rfl)));done),?_⟩))),rfl⟩
  rintro _ ⟨rfl⟩;refine CD.cut (fun aK=>aK=(⟨148,[(0,.v (.pointer (some ⟨b,0,none⟩))),(2,.list 1 (low.flatMap cB) low.length),(3,.list 1 (high.flatMap cB) high.length),(4,.v (.int .i64 (level:Nat))),(13,.v (.pointer (some ⟨mE,0,none⟩))),(14,.v (.int .i64 (rI deep))),(16,.v (.int .i64 ((t.af[i.toNat]'aa).kids[k]'dU))),(17,.list 1 ((gQ low (t.af[i.toNat]'aa) k).flatMap cB) (gQ low (t.af[i.toNat]'aa) k).length),(18,.list 1 ((gC (t.af[i.toNat]'aa) k).flatMap cB) (gC (t.af[i.toNat]'aa) k).length),(100,.list 1 ((t.af[i.toNat]'aa).kids.flatMap cI) (t.af[i.toNat]'aa).kids.length),(101,.v (.int .i64 ((t.af[i.toNat]'aa).kids.length:Nat))),(102,.v (.int .i64 (k:Nat)))],(⟨mE,93,5,cP (t.af[i.toNat]'aa)⟩::⟨b,104,4,[.list 5 (t.af.flatMap cP) t.af.length,.v (.int .i64 t.root),.v (.map (some bm)),.v (.slice tX L2.length tr)]⟩::kw bm m2::(tY++L2.flatMap dm.s))⟩:St)) ?_ ?_
  ·refine ae [0,2,3,4,13,14,15,16,17,18,100,101,102,121] ?_;refine aq (fun eN fR=>?_) (fun eN fR=>?_)
   ·have eu:gC (t.af[i.toNat]'aa) k=(t.af[i.toNat]'aa).keys[k]'w4:=(by unfold gC;rw[getD_eq_getElem?_getD,getElem?_eq_getElem w4];rfl)
    refine cj [0,2,3,4,13,14,16,17,18,100,101,102] ?_;refine⟨_,(aM (h:=by repeat (first|exact trivial|refine⟨(by (repeat (first|exact fm|(apply fK;focus (first|rfl|(rw[eu];done)|(simp;done)))|(apply fu;focus rfl)));done),?_⟩))),rfl⟩
   have eu:gC (t.af[i.toNat]'aa) k=high:=(by unfold gC;rw[getD_eq_getElem?_getD,getElem?_eq_none w4];exact Bf)
   refine CD.skip ?_;refine⟨_,(aM (h:=by repeat (first|exact trivial|refine⟨(by (repeat (first|exact fm|(apply fK;focus (first|rfl|(rw[eu];done)|(simp;done)))|(apply fu;focus rfl)));done),?_⟩))),rfl⟩
  rintro _ ⟨rfl⟩;refine aC 5 ?_;refine bJ (cW (r:=.int .i64 ((level+1:Nat):Int)) rfl ot bC (jW (by rw[show((level:Nat):Int)+1=((level+1:Nat):Int) from rfl];exact wrap_i64 w4 w4))) ?_;refine OD.call an rfl rfl rfl call37 (ih ((t.af[i.toNat]'aa).kids[k]'dU) (gQ low (t.af[i.toNat]'aa) k) (gC (t.af[i.toNat]'aa) k) (level+1) m2 L2 tX tr tY WL E8 UB air hhk UA jE) ⟨ot,ot,ot,ot,ot,trivial⟩ (perm_append_singleton _ _).symm ?_;rintro r19 S19 mi;rcases jv:jb t f ((t.af[i.toNat]'aa).kids[k]'dU) (gQ low (t.af[i.toNat]'aa) k) (gC (t.af[i.toNat]'aa) k) (level+1) (m2,(L2.map dm.l)) with _|⟨d,m3,lv3⟩
  ·rw[jv] at mi;obtain⟨rfl,rfl⟩:=mi;have afY:=CQ.symm.trans (ZG dU jv);refine aj 148 [0,2,3,4,13,14,19,100,101,102] ?_;refine aC 3 ?_;refine bS 136 (fun Bg Ji=>?_) (fun Bg Ji=>?_)
   ·refine aZ [0,2,3,4,13,19,100,101,102,144] ?_;refine ez ?_;refine ae [10] ?_;refine aJ [] ?_;rw[afY];exact⟨rfl,rfl⟩
   exact absurd Bg w7
  rw[jv] at mi;obtain⟨rfl,L3,GA,FD,GB,UC,wH,rfl,rfl⟩:=mi;obtain⟨TA,EZ⟩:=IN hp _ _ _ _ _ _ _ _ WL E8 UB jv;have EZ:m2.length≤m3.length:=EZ;refine OD.perm (perm_append_singleton _ _) ?_;refine aj 148 [0,2,3,4,13,14,19,100,101,102] ?_;refine aC 3 ?_;refine bS 136 (fun Bg Ji=>?_) (fun Bg Ji=>?_)
  ·exact absurd Bg (by intro e;have e:=of_decide_eq_true e;omega)
  refine aD 3 ?_;refine bS 139 (fun yN aeA=>?_) (fun yN aeA=>?_)
  ·refine aZ [0,2,3,4,13,19,100,101,102,144] ?_;refine aq (fun eG fY=>?_) (fun eG fY=>?_)
   ·refine ae [10] ?_;refine aJ [] ?_;rw[CQ.symm.trans (abc dU jv (abe (by simpa using yN) (by simpa using eG)))];exact⟨rfl,rfl⟩
   refine cj [0,2,3,4,13,14,100,101,102] ?_;refine cj [0,2,3,4,13,14,100,101,102] ?_;refine⟨((k+1),(some d),m3,L3,GA,FD,GB),_,cz,aM,w4,((Ox dU jv (by first|exact .inl (Oy (by simpa using yN))|exact .inr (P7 (by simpa using yN) (by simpa using eG)))).symm.trans CQ),UC,wH,TA,w4,w4,(.inr (fun e=>by cases e)),rfl⟩
  refine aZ [0,2,3,4,13,19,100,101,102,144] ?_;refine fF ?_;refine cj [0,2,3,4,13,14,100,101,102] ?_;refine cj [0,2,3,4,13,14,100,101,102] ?_;refine⟨((k+1),(some d),m3,L3,GA,FD,GB),_,cz,aM,w4,((Ox dU jv (by first|exact .inl (Oy (by simpa using yN))|exact .inr (P7 (by simpa using yN) (by simpa using eG)))).symm.trans CQ),UC,wH,TA,w4,w4,(.inr (fun e=>by cases e)),rfl⟩
 obtain rfl:k=(t.af[i.toNat]'aa).kids.length:=(by omega)
 obtain⟨d,rfl⟩:∃d,deep=some d:=(by rcases hdp with h|h;omega;exact Option.ne_none_iff_exists'.1 h)
 refine ae [10] ?_;refine aJ (SW t b bm m2 L2 tX tr tY) ?_;rw[←CQ,abd (Nat.le_refl _)];exact⟨rfl,L2,tX,tr,tY,UA,jE,rfl,rfl⟩

end Go.Proofs.YtbcmjoaggammcaaGreatDoor.Tw

namespace Go.Proofs.YtbcmjoaggammcaaGreatDoor.Tw
open List
open Go.Proofs.Tryz
open Go.RowKit V Go.Proofs.YtbcmjoaggammcaaGreatDoor.Tr Pk
theorem IQ{G:List (Nat×List Value)}(t:aE)(hp:ur t)(I:t.af.length≤4000)(b Z:Nat):∀f,Tz G t b Z f
 | 0=>fun i low high level m L ad cap Sx hr E O U _ _ _=>by have h:m.length≤t.af.length:=E.mQ;exfalso;omega
 | f+1=>fun i low high level m L ad cap Sx hr E O U WK my aR=>ZI t hp I b Z f (IQ t hp I b Z f) i low high level m L ad cap Sx hr E O U WK my aR
theorem IR(t:aE):ni t ([],[]):=⟨nodup_nil,(fun x h=>by cases h),Nat.le_refl _,(fun l h=>by cases h),(fun l h=>by cases h)⟩
theorem IS{t:aE}{e:Int}:∀{l:List Int},eV t l e↔∀k (h:k<l.length),(t.pg l[k]).next=l.getD (k+1) e
  | []=>⟨(fun _ k h=>by cases h),fun _=>trivial⟩
  | [i] => ⟨fun h k hk => by obtain rfl : k=0 := by (simp at hk; exact hk)
                             exact h,fun h=>h 0 bw⟩
  | i::j::r=>by
    show(t.pg i).next=j∧eV t (j::r) e↔_;rw[IS (l:=j::r)];constructor
    · rintro⟨h1,h2⟩ k hk;cases k with
      | zero=>exact h1
      | succ k=>exact h2 k (by simpa using hk)
    intro h;exact⟨h 0 bw,fun k hk=>h (k+1) (by simpa using hk)⟩
theorem OA{p:cQ}{n:Int}:Bb p n=true↔ew p n:=by unfold Bb;simp
section
variable {t:aE}
theorem Nl(h:t.af.length<1∨t.af.length>4000∨t.root<0∨t.root≥t.af.length):gh t=11:=by unfold gh;rw[if_pos h]
theorem Yo(h:¬ur t):gh t=11:=by
 unfold gh;split
 ·rfl
 first|rfl|rw[if_pos h]
variable {d:Nat} {m:List Int} {lv:List (List Int)}
theorem Yp(hw:jb t (t.af.length+1) t.root [] [] 0 ([],[])=none):gh t=11:=by
 unfold gh;split
 ·rfl
 split
 ·rfl
 rw[hw]
theorem ZJ(hw:jb t (t.af.length+1) t.root [] [] 0 ([],[])=some (d,m,lv))(h:m.length≠t.af.length):gh t=11:=by
 unfold gh;split
 ·rfl
 split
 ·rfl
 rw[hw];exact if_pos h
open Classical in
theorem ZK(hw:jb t (t.af.length+1) t.root [] [] 0 ([],[])=some (d,m,lv))(h:¬∀l∈lv,eV t l (-1)):gh t=11:=by
 unfold gh;split
 ·rfl
 split
 ·rfl
 rw[hw];show(if m.length≠t.af.length then (11:Int) else if ∀l∈lv,eV t l (-1) then 0 else 11)=11;split
 ·rfl
 first|rfl|rw[if_neg h]
open Classical in
theorem ZL(h1:¬(t.af.length<1∨t.af.length>4000∨t.root<0∨t.root≥t.af.length))(h2:ur t)(hw:jb t (t.af.length+1) t.root [] [] 0 ([],[])=some (d,m,lv))(h3:m.length=t.af.length)(h:∀l∈lv,eV t l (-1)):gh t=0:=by
 unfold gh;rw[if_neg h1,if_neg (fun hn=>hn h2),hw];show(if m.length≠t.af.length then (11:Int) else if ∀l∈lv,eV t l (-1) then 0 else 11)=0;rw[if_neg (fun hn=>hn h3),if_pos h]
end
def xG(l:List Int):List D:=[.list 1 (l.flatMap cI) l.length]
theorem acT(l:List Int):(xG l).length=1:=rfl
theorem Rv{S:List ag}:∀{L:List dm},(∀o∈L,mC o)→(∀B∈L.flatMap dm.s,B∈S)→gi S (L.flatMap gV) ((L.map dm.l).flatMap xG)
 | [],_,_=>trivial
 | o::L,h,hs=>by
  rw[map_cons,flatMap_cons,flatMap_cons];refine gi.append ⟨kY (h o mem_cons_self) (cl ev _) (fun B E=>hs B ?_),trivial⟩ (Rv (fun o ho=>h o (mem_cons_of_mem _ ho)) fun B E=>hs B ?_)
  ·rw[flatMap_cons];exact mem_append_left _ E
  rw[flatMap_cons];exact mem_append_right _ E
theorem aeB{Sx:List ag}{L:List dm}{ad:Option Addr}{cap:Nat}{lv:List (List Int)}(ho:zb L ad cap Sx)(h:∀o∈L,mC o)(hm:L.map dm.l=lv):View (Sx++L.flatMap dm.s) (.v (.slice ad L.length cap)) (.list 1 (lv.flatMap xG) lv.length):=by
 subst hm;have:=An ho (Rv (S:=Sx++L.flatMap dm.s) h fun B E=>mem_append_right _ E) (cl acT _ |>.trans bw) (fun B E=>mem_append_left _ E);rw[length_map];exact this
variable {G:List (Nat×List Value)}

theorem oP(t:aE)(hb:∀p∈t.af,p.keys.length≤maxLen∧p.kids.length≤maxLen):VP Tryz.prog G 16 [.agg (cT t)] (.v (.int .i64 (gh t))):=by
 refine VC.body func16 rfl ntmps16 aO fun X0 w0 aX=>?_;unfold cT;have dr:maxLen=9223372036854775807:=rfl;refine bX ?_;refine OD.box (ds:=[_,_]) an rfl rfl ot rfl rfl (fun b1=>?_);refine aj 104 [1] ?_;refine aC 5 ?_;refine bS 15 (fun Bt afZ=>?_) (fun Bt afZ=>?_)
 ·exact z75
 refine aD 6 ?_;refine bS 21 (fun qb af0=>?_) (fun qb af0=>?_)
 ·exact z75
 refine aD 5 ?_;refine bS 26 (fun ais JQ=>?_) (fun ais JQ=>?_)
 ·exact z75
 refine aZ [1,33] ?_;refine aq (fun az aG=>?_) (fun az aG=>?_)
 ·refine ae [2] ?_;refine eA ?_;exact⟨vi (Nl w4).symm,rfl⟩
 refine ae [1,35,36,37] ?_;refine eI [1,35,36] (fun aV _ (i:Nat) aK=>(i≤t.af.length)∧(∀j (h:j<t.af.length),j<i→ew t.af[j] t.af.length)∧aK=(⟨104,(37,.v (.int .i64 (i:Nat)))::aV,[⟨b1,46,2,[.list 5 (t.af.flatMap cP) t.af.length,.v (.int .i64 t.root)]⟩]⟩:St)) (fun (i:Nat)=>t.af.length-i) 0 ⟨(Nat.zero_le _),(fun j h h0=>by omega),rfl⟩ ?_;rintro i _ ⟨hi,pE,rfl⟩;refine ae [1,35,36,37,38] ?_;refine aq (fun aH aU=>?_) (fun aH aU=>?_)
 ·have aa:i<t.af.length:=(by omega)
  obtain⟨dU,fi⟩:=hb (t.af[i]'aa) (getElem_mem aa);refine aC 2 ?_;refine OD.alloc (ds:=[_,_,_,_,_]) an rfl rfl zeroValue93 rfl (fun b4=>?_);refine aN 0 [_,_,_,_,_] sizeOf93 ?_;refine aj 104 [1,4,35,36,37] ?_;refine cL [1,35,36,37,46] (acN (t.af[i]'aa) (t.af.length:Nat) dU fi) ?_;refine aq (fun aY bz=>?_) (fun aY bz=>?_)
  ·have nM:¬ur t:=fun h=>by have:=OA.2 (h (t.af[i]'aa) (getElem_mem aa));rw[this] at aY;cases aY
   refine ae [2] ?_;refine aJ [] ?_;exact⟨vi (Yo nM).symm,rfl⟩
  have ait:ew (t.af[i]'aa) t.af.length:=OA.1 (by simpa using aY);refine cj [1,35,36,37] ?_;refine⟨(i+1),_,cz,aM,w4,(fun j h h0=>by rcases Nat.lt_or_ge j i with q|q;exact pE j h q;obtain rfl:j=i:=w4;exact ait),rfl⟩
 have eY:ur t:=fun p h=>by obtain⟨j,hj,rfl⟩:=mem_iff_getElem.1 h;exact pE j hj w4
 have h4:t.af.length≤4000:=(by omega)
 have E:0≤t.root∧t.root<t.af.length:=(by omega)
 refine aC 1 ?_;refine OD.ab2 an rfl rfl (fun O=>?_);refine aD 1 ?_;refine OD.box (ds:=[_,_,_,_]) an rfl rfl ot rfl rfl (fun U=>?_);refine aj 104 [1,5] ?_;refine CD.seq ?_;refine CD.seq ?_;rcases jv:jb t (t.af.length+1) t.root [] [] 0 ([],[]) with _|⟨d,m,lv⟩
 ·refine fE 14 (ap (drop 2 _)) ?_ (fun _ h=>(Sublist.map _ (drop_sublist _ _)).subset h);refine ax 0 rfl bg ?_;refine ax 1 rfl (cX 1) ?_;refine ax 2 rfl (dx 2) ?_;refine dg.later rfl ?_;refine AD.one (i:=3) ay ?_;refine bf.call rfl an rfl rfl rfl call37 (VC.eB (args':=[.v (.pointer (some ⟨U,0,none⟩)),.v (.int .i64 t.root),.v (.slice none 0 0),.v (.slice none 0 0),.v (.int .i64 0)]) (IQ t eY h4 U O (t.af.length+1) t.root [] [] 0 [] [] none 0 [] E (IR t) (Nat.le_refl _) (Nat.le_refl _) w7 iA (fun o h=>by cases h)) ⟨.inl rfl,.inl rfl,.inr ⟨1,rfl,rfl⟩,.inr ⟨1,rfl,rfl⟩,.inl rfl,trivial⟩) ⟨ot,ot,bC,bC,bC,trivial⟩ (Perm.refl _) gZ ?_;rintro r55 Lx mi;rw[show map dm.l []=[] from rfl,jv] at mi;obtain⟨rfl,rfl⟩:=mi;refine cr 4 rfl mz ?_;refine cr 5 rfl bg ?_;refine AD.split (t:=57) lk (fun tc=>?_) (fun tc=>?_)
  ·have A5:=tc;(try simp only[V.mU,ne_eq] at A5)
   refine px 6 rfl ?_;refine px 7 rfl ?_;refine px 11 rfl ?_;refine px 12 rfl ?_;refine px 13 rfl ?_;refine AD.one (i:=8) ay ?_;refine bf.skip rfl (l5 rfl rfl rfl lk jd) rfl ?_;refine AD.one (i:=9) ay ?_;refine bf.skip rfl (l5 rfl rfl rfl lk jd) rfl ?_;refine AD.one (i:=10) ay ?_;refine bf.skip rfl (l5 rfl rfl rfl lk jd) rfl ?_;refine ey ?_;refine aZ [1,5,67] ?_;refine ez ?_;try have I:m.length≠t.af.length:=by intro e;rw[e] at bF;simp at bF
   refine ae [2] ?_;refine eA ?_;exact⟨vi (Yp jv).symm,rfl⟩
  exact absurd tc w7
 refine fE 14 (ap (drop 2 _)) ?_ (fun _ h=>(Sublist.map _ (drop_sublist _ _)).subset h);refine ax 0 rfl bg ?_;refine ax 1 rfl (cX 1) ?_;refine ax 2 rfl (dx 2) ?_;refine dg.later rfl ?_;refine AD.one (i:=3) ay ?_;refine bf.call rfl an rfl rfl rfl call37 (VC.eB (args':=[.v (.pointer (some ⟨U,0,none⟩)),.v (.int .i64 t.root),.v (.slice none 0 0),.v (.slice none 0 0),.v (.int .i64 0)]) (IQ t eY h4 U O (t.af.length+1) t.root [] [] 0 [] [] none 0 [] E (IR t) (Nat.le_refl _) (Nat.le_refl _) w7 iA (fun o h=>by cases h)) ⟨.inl rfl,.inl rfl,.inr ⟨1,rfl,rfl⟩,.inr ⟨1,rfl,rfl⟩,.inl rfl,trivial⟩) ⟨ot,ot,bC,bC,bC,trivial⟩ (Perm.refl _) gZ ?_;rintro r55 Lx mi;rw[show map dm.l []=[] from rfl,jv] at mi;obtain⟨rfl,L,ad,cap,Sx,my,aR,zc,rfl⟩:=mi;refine AD.perm (Perm.cons _ (Perm.cons _ (perm_append_singleton _ _))) ?_;refine cr 4 rfl mz ?_;refine cr 5 rfl bg ?_;refine AD.split (t:=57) lk (fun tc=>?_) (fun tc=>?_)
 ·exact absurd tc (by intro e;have e:=of_decide_eq_true e;omega)
 have A5:=tc;(try simp only[V.mU,ne_eq] at A5)
 refine cr 6 rfl bg ?_;refine cr 7 rfl lA ?_;refine cr 11 rfl (cX 0) ?_;refine cr 12 rfl (dx 2) ?_;refine cr 13 rfl qm ?_;refine AD.one (i:=8) ay ?_;refine at_ rfl (cX 2) ?_;refine AD.one (i:=9) ay ?_;refine at_ rfl (dx 0) ?_;refine AD.one (i:=10) ay ?_;refine at_ rfl (Ya (i:=1) rfl rfl ot rfl underlying101) ?_;refine ey ?_;refine aZ [1,5,67] ?_;refine aq (fun bF bY=>?_) (fun bF bY=>?_)
 ·try have I:m.length≠t.af.length:=by intro e;rw[e] at bF;simp at bF
  refine ae [2] ?_;refine eA ?_;exact⟨vi (ZJ jv I).symm,rfl⟩
 have I:m.length=t.af.length:=(by have:=bF;simp at this;omega)
 refine CD.wk (Wk.cover (A:=⟨U,104,4,[.list 5 (t.af.flatMap cP) t.af.length,.v (.int .i64 t.root),.v (.map (some O)),.v (.slice ad L.length cap)]⟩) (R:=[kw O m,⟨b1,46,2,[.list 5 (t.af.flatMap cP) t.af.length,.v (.int .i64 t.root)]⟩]) (Sd:=Sx++L.flatMap dm.s) (cs':=[.list 5 (t.af.flatMap cP) t.af.length,.v (.int .i64 t.root),.v (.map (some O)),.list 1 (lv.flatMap xG) lv.length]) (Perm.refl _) ⟨eM,eM,eM,aeB my aR zc,trivial⟩) ?_;obtain⟨Z,_⟩:=IN eY _ _ _ _ _ _ _ _ E (IR t) (Nat.le_refl _) jv;refine ae [1,71,72,73] ?_;refine V9 (fun (i:Nat) aK=>(i≤lv.length)∧(∀j (_:j<i) (h:j<lv.length),eV t lv[j] (-1))∧aK=(⟨104,[(1,.v (.pointer (some ⟨b1,0,none⟩))),(71,.list 1 (lv.flatMap xG) lv.length),(72,.v (.int .i64 (lv.length:Nat))),(73,.v (.int .i64 (i:Nat)))],[⟨b1,46,2,[.list 5 (t.af.flatMap cP) t.af.length,.v (.int .i64 t.root)]⟩]⟩:St)) (fun (i:Nat)=>lv.length-i) 0 ⟨(Nat.zero_le _),(fun j h _=>by omega),rfl⟩ ?_;rintro i _ ⟨jS,GC,rfl⟩;refine ae [1,71,72,73,74] ?_;refine aq (fun cx c8=>?_) (fun cx c8=>?_)
 ·have fi:i<lv.length:=(by omega)
  have Cx:∀x∈(lv[i]'fi),0≤x∧x<t.af.length:=Z.el _ (getElem_mem fi);have lI:(lv[i]'fi).length≤m.length:=Z.each _ (getElem_mem fi);have WM:lv.length≤m.length:=Z.eL;refine ae [1,7,71,72,73] ?_;refine ae [1,7,71,72,73,77,78,79] ?_;refine V9 (fun (k:Nat) aK=>(k≤(lv[i]'fi).length)∧(∀j (_:j<k) (h:j<(lv[i]'fi).length),(t.pg (lv[i]'fi)[j]).next=(lv[i]'fi).getD (j+1) (-1))∧aK=(⟨104,[(1,.v (.pointer (some ⟨b1,0,none⟩))),(7,.list 1 ((lv[i]'fi).flatMap cI) (lv[i]'fi).length),(71,.list 1 (lv.flatMap xG) lv.length),(72,.v (.int .i64 (lv.length:Nat))),(73,.v (.int .i64 (i:Nat))),(77,.list 1 ((lv[i]'fi).flatMap cI) (lv[i]'fi).length),(78,.v (.int .i64 ((lv[i]'fi).length:Nat))),(79,.v (.int .i64 (k:Nat)))],[⟨b1,46,2,[.list 5 (t.af.flatMap cP) t.af.length,.v (.int .i64 t.root)]⟩]⟩:St)) (fun (k:Nat)=>(lv[i]'fi).length-k) 0 ⟨(Nat.zero_le _),(fun j h _=>by omega),rfl⟩ ?_;rintro k _ ⟨hk,hn,rfl⟩;refine ae [1,7,71,72,73,77,78,79,80] ?_;refine aq (fun dP er=>?_) (fun dP er=>?_)
  ·have dU:k<(lv[i]'fi).length:=(by omega)
   have MG:=Cx _ (getElem_mem dU);have fO:((lv[i]'fi)[k]'dU).toNat<t.af.length:=(by omega)
   have WN:t.pg ((lv[i]'fi)[k]'dU)=t.af[((lv[i]'fi)[k]'dU).toNat]'fO:=uK MG;refine ae [1,7,8,9,71,72,73,77,78,79] ?_;refine ae [1,7,8,9,10,71,72,73,77,78,79] ?_;refine CD.cut (fun aK=>aK=(⟨104,[(1,.v (.pointer (some ⟨b1,0,none⟩))),(7,.list 1 ((lv[i]'fi).flatMap cI) (lv[i]'fi).length),(9,.v (.int .i64 ((lv[i]'fi)[k]'dU))),(10,.v (.int .i64 ((lv[i]'fi).getD (k+1) (-1)))),(71,.list 1 (lv.flatMap xG) lv.length),(72,.v (.int .i64 (lv.length:Nat))),(73,.v (.int .i64 (i:Nat))),(77,.list 1 ((lv[i]'fi).flatMap cI) (lv[i]'fi).length),(78,.v (.int .i64 ((lv[i]'fi).length:Nat))),(79,.v (.int .i64 (k:Nat)))],[⟨b1,46,2,[.list 5 (t.af.flatMap cP) t.af.length,.v (.int .i64 t.root)]⟩]⟩:St)) ?_ ?_
   ·refine ae [1,7,8,9,10,71,72,73,77,78,79,88] ?_;refine aq (fun eN fR=>?_) (fun eN fR=>?_)
    ·have kE:(lv[i]'fi).getD (k+1) (-1)=(lv[i]'fi)[k+1]'w4:=(by rw[getD_eq_getElem?_getD,getElem?_eq_getElem w4];rfl)
     refine ie [1,7,9,10,71,72,73,77,78,79] ?_;refine aP 3 ?_ (h:=by exact(dy 1 (h:=by first|exact .l (j:=k+1) w4 w4|exact .r (j:=k+1) w4 w4)));refine bM ?_;exact z87
    have kE:(lv[i]'fi).getD (k+1) (-1) = -1:=(by rw[getD_eq_getElem?_getD,getElem?_eq_none w4];rfl)
    refine CD.skip ?_;exact z87
   rintro _ ⟨rfl⟩;refine cM [1,7,71,72,73,77,78,79,101] ?_;refine aP 3 ?_ (h:=by exact(dy 5 (h:=by first|exact .l (j:=((lv[i]'fi)[k]'dU).toNat) (Int.toNat_of_nonneg MG.1).symm fO|exact .r (j:=((lv[i]'fi)[k]'dU).toNat) (Int.toNat_of_nonneg MG.1).symm fO)));refine bM ?_;refine aq (fun eG fY=>?_) (fun eG fY=>?_)
   ·have nM:¬∀l∈lv,eV t l (-1):=fun h=>by have:=IS.1 (h (lv[i]'fi) (getElem_mem fi)) k dU;rw[WN] at this;simp[this] at eG
    refine ae [2] ?_;refine aJ [] ?_;exact⟨vi (ZK jv nM).symm,rfl⟩
   have nx:(t.pg ((lv[i]'fi)[k]'dU)).next=(lv[i]'fi).getD (k+1) (-1):=(by rw[WN];simpa using eG)
   refine cj [1,7,71,72,73,77,78,79] ?_;refine⟨(k+1),_,cz,aM,w4,(fun j h0 h=>by rcases Nat.lt_or_ge j k with q|q;exact hn j q h;obtain rfl:j=k:=w4;exact nx),rfl⟩
  have aiu:eV t (lv[i]'fi) (-1):=IS.2 fun j hj=>hn j w4 hj;refine cj [1,71,72,73] ?_;refine⟨(i+1),_,cz,aM,w4,(fun j h0 h=>by rcases Nat.lt_or_ge j i with q|q;exact GC j q h;obtain rfl:j=i:=w4;exact aiu),rfl⟩
 have nO:i=lv.length:=(by omega)
 refine ae [2] ?_;refine aJ [] ?_;exact⟨vi (ZL w4 eY jv I fun l hl=>by obtain⟨j,hj,rfl⟩:=mem_iff_getElem.1 hl;exact GC j w4 hj).symm,rfl⟩

end Go.Proofs.YtbcmjoaggammcaaGreatDoor.Tw

namespace Go.Proofs.YtbcmjoaggammcaaGreatDoor.Tw
open List
open Go.Proofs.Tryz
open Go.RowKit V Tr Pk
variable {t:aE} {k:K}
noncomputable def kQ(t:aE)(k:K):Int:=if gh t=0 then (if nP k=true then 0 else 1) else gh t
theorem D3(h:¬gh t=0):kQ t k=gh t:=by unfold kQ;rw[if_neg h]
theorem DI(h:gh t=0)(hk:nP k=false):kQ t k=1:=by unfold kQ;rw[if_pos h,hk];rfl
theorem Ih(h:gh t=0)(hk:nP k=true):kQ t k=0:=by unfold kQ;rw[if_pos h,hk];rfl
def dW(t:aE)(k:K)(h:Nat):Int:=(t.pg (aI t k h t.root)).kids.getD (aL (t.pg (aI t k h t.root)) k) 0
noncomputable def findF(t:aE)(k:K)(h:Nat):Int×Int:=if kQ t k=0 then (if gS t k h=true then (dW t k h,0) else (0,8)) else (0,kQ t k)
theorem abf{h:Nat}(v:Valid t h):∀p∈t.af,p.keys.length≤maxLen∧p.kids.length≤maxLen:=fun p hp=>by
 have po:=v.page p hp;have dr:maxLen=9223372036854775807:=rfl;have h1:=po.eL;cases hl:p.leaf with
 | true=>have:=po.leaf hl;omega
 | false=>have:=(po.node hl).1;omega
theorem DF{h:Nat}(v:Valid t h)(k:K):(iO t k h t.root).length≤1000000:=by
 rw[Ed];have:=v.high;have:=v.mQ;omega
theorem H6(h:nP k=true):0<k.length∧k.length≤100:=of_decide_eq_true h
variable {G:List (Nat×List Value)}
theorem G1(t:aE)(k:K)(hb:∀p∈t.af,p.keys.length≤maxLen∧p.kids.length≤maxLen):VP Tryz.prog G 32 [.agg (cT t),.list 1 (k.flatMap cB) k.length] (.v (.int .i64 (kQ t k))):=by
 refine VC.body func32 rfl ntmps32 aO fun X0 w0 aX=>?_;have eZ:=oP (G:=G) t hb;unfold cT at eZ;unfold cT;refine bX ?_;refine OD.box (ds:=[_,_]) an rfl rfl ot rfl rfl (fun b2=>?_);refine aj 14 [1,2] ?_;refine cL [1,5] (eZ) ?_;refine ae [1,5,9] ?_;refine aq (fun az aG=>?_) (fun az aG=>?_)
 ·have hn:¬gh t=0:=(by simpa using az)
  exact VG
 have hz:gh t=0:=(by simpa using az)
 refine cL [13] (yw k) ?_;refine aq (fun aH aU=>?_) (fun aH aU=>?_)
 ·exact VG
 refine ae [4] ?_;refine aJ [] ?_;first|exact⟨vi (D3 hn).symm,rfl⟩|exact⟨vi (DI hz u9).symm,rfl⟩|exact⟨vi (Ih hz u9).symm,rfl⟩
theorem aeC(t:aE)(h:Nat)(k:K)(hb:∀p∈t.af,p.keys.length≤maxLen∧p.kids.length≤maxLen)(hv:gh t=0→Valid t h):VP Tryz.prog G 14 [.agg (cT t),.list 1 (k.flatMap cB) k.length] (.dz [.v (.int .i64 (findF t k h).1),.v (.int .i64 (findF t k h).2)]):=by
 refine VC.body func14 rfl ntmps14 aO fun X0 w0 aX=>?_;have eZ:=G1 (G:=G) t k hb;unfold cT at eZ;unfold cT;have dr:maxLen=9223372036854775807:=rfl;refine bX ?_;refine OD.box (ds:=[_,_]) an rfl rfl ot rfl rfl (fun b2=>?_);refine aj 34 [1,2] ?_;refine cL [1,2,6] (eZ) ?_;refine ae [1,2,6,14] ?_;refine aq (fun az aG=>?_) (fun az aG=>?_)
 ·have hn:¬kQ t k=0:=(by simpa using az)
  refine ae [4,5] ?_;refine aJ [] ?_;exact⟨by unfold findF;rw[if_neg hn],rfl⟩
 have hz:kQ t k=0:=(by simpa using az)
 have hc:gh t=0:=Classical.byContradiction fun e=>by rw[D3 e] at hz;exact e hz
 have U:nP k=true:=(by cases hq:nP k with|true=>rfl|false=>rw[DI hc hq] at hz;cases hz)
 have v:=hv hc;have dU:=H6 U;have fL:=qx (G:=G) t h v k w4 (DF v k);unfold cT at fL;obtain⟨q1,E⟩:=v.leaf k;have aa:(aI t k h t.root).toNat<t.af.length:=(by omega)
 have I:t.pg (aI t k h t.root)=(t.af[(aI t k h t.root).toNat]'aa):=uK q1;refine cL [2,7,8,9] (fL) ?_;refine ae [2,7,8,24] ?_;refine aq (fun aH aU=>?_) (fun aH aU=>?_)
 ·have iG:gS t k h=false:=(by simpa using aH)
  refine ae [4,5] ?_;refine aJ [] ?_;exact⟨by unfold findF;rw[if_pos hz,if_neg wQ],rfl⟩
 have iG:gS t k h=true:=(by simpa using aH)
 obtain⟨ha,Mn⟩:=(DE v k).1 iG;have po:=v.page _ (jn q1);have hle:=po.leaf E;have O:aL (t.pg (aI t k h t.root)) k<(t.pg (aI t k h t.root)).kids.length:=(by omega)
 have Z:aL (t.af[(aI t k h t.root).toNat]'aa) k<(t.af[(aI t k h t.root).toNat]'aa).kids.length:=(by rw[←I];exact O)
 rw[I];refine cM [4,5] ?_;refine aP 3 ?_ (h:=by exact(dy 5 (h:=by first|exact .l (j:=(aI t k h t.root).toNat) (Int.toNat_of_nonneg q1.1).symm aa|exact .r (j:=(aI t k h t.root).toNat) (Int.toNat_of_nonneg q1.1).symm aa)));refine bM ?_;refine aJ [] ?_;exact⟨by unfold findF dW;rw[if_pos hz,if_pos iG,I,sK Z],rfl⟩
theorem ZM{S:List ag}:gi S [.v (.bool true),.v (.slice none 0 0),.v (.slice none 0 0),.v (.slice none 0 0),.v (.int .i64 (-1))] (cP (⟨true,[],[],[],-1⟩:cQ)):=⟨eM,xU,xU,xU,eM,trivial⟩
theorem aeD(E:True):VC Tryz.prog G 84 [] [] (fun r S=>∃b,r = .agg [.v (.slice (some ⟨b,0,none⟩) 1 1),.v (.int .i64 0)]∧S=[⟨b,93,5,[.v (.bool true),.v (.slice none 0 0),.v (.slice none 0 0),.v (.slice none 0 0),.v (.int .i64 (-1))]⟩]):=by
 refine VC.body func84 rfl ntmps84 aO fun X0 w0 aX=>?_;refine bX ?_;refine OD.alloc (ds:=[_,_]) an rfl rfl zeroValue46 rfl (fun b0=>?_);refine aj 4 [0] ?_;refine aC 1 ?_;refine ei (bZ 0 [_]) [.bool false,.slice none 0 0,.slice none 0 0,.slice none 0 0,.int .i64 0] [_,_,_,_,_] zeroValue93 runUnderlying44 sizeOf93 (fun b2=>?_);refine aD 1 ?_;refine aN 1 [_,_] sizeOf46 ?_;refine aj 4 [0] ?_;refine aJ [_] ?_;exact⟨_,rfl,rfl⟩
theorem aeE:VP Tryz.prog G 84 [] (.agg (cT rP)):=VC.cover (aeD trivial) fun r S ⟨b,hr,hS⟩=>by
 subst hr;subst hS;exact uh ⟨N1 (cs:=[.v (.bool true),.v (.slice none 0 0),.v (.slice none 0 0),.v (.slice none 0 0),.v (.int .i64 (-1))]) (e:=93) (size:=5) mem_cons_self ZM rfl (Nat.le_refl _) w7,eM,trivial⟩

end Go.Proofs.YtbcmjoaggammcaaGreatDoor.Tw
namespace Go.Proofs.YtbcmjoaggammcaaGreatDoor.Tr
open List
open Go.Proofs.Tryz
open Go.Lib (compareBytes)
variable {t:aE} {k:K} {row:Int}
variable {h m:Nat} {u:aE} {up:K}
def cZ(t:aE)(k:K):Nat→Int→Nat→Int
 | 0,i,_=>i
 | h+1,i,m=>if m=h+1 then i else cZ t k h ((t.pg i).kids.getD (aL (t.pg i) k) 0) m
theorem Hs:∀(h:Nat) (i:Int),cZ t k h i h=i
 | 0,_=>rfl
 | h+1,i=>by rw[cZ,if_pos rfl]
theorem Ak:∀{h:Nat} {i:Int} {m:Nat},m<h→cZ t k h i m=(t.pg (cZ t k h i (m+1))).kids.getD (aL (t.pg (cZ t k h i (m+1))) k) 0
 | 0,_,_,hm=>by omega
 | h+1,i,m,hm=>by
  rw[cZ,if_neg w4,cZ];by_cases e:m=h
  ·subst e;rw[Hs,if_pos rfl]
  rw[if_neg w4];exact Ak w4
theorem OB:∀{h:Nat} {i:Int} {m:Nat},m≤h→(iO t k h i)[h-m]?=some (cZ t k h i m)
 | 0,i,m,_=>by
  obtain rfl:m=0:=(by omega)
  rfl
 | h+1,i,m,hm=>by
  rw[iO,cZ];by_cases e:m=h+1
  ·subst e;rw[if_pos rfl,Nat.sub_self];rfl
  rw[if_neg e,show h+1-m=(h-m)+1 from by omega,getElem?_cons_succ];exact OB w4
theorem Ee{n:Int}(hp:∀p∈t.af,ew p n):∀{h:Nat} {i:Int} {low high:K},dR t h i low high→(ids t h i).Nodup→kX low high k→(∀x∈dZ t h i,x.1≠k)→∀m,m≤h →
  ∃lo hi,dR t m (cZ t k h i m) lo hi∧(ids t m (cZ t k h i m)).Nodup∧kX lo hi k∧∀x∈dZ t m (cZ t k h i m),x.1≠k
 | 0,i,low,high,ok,nd,hk,hn,m,hm=>by
  obtain rfl:m=0:=(by omega)
  exact⟨low,high,ok,nd,hk,hn⟩
 | h+1,i,low,high,ok,nd,hk,hn,m,hm=>by
  by_cases e:m=h+1
  ·subst e;rw[Hs];exact⟨low,high,ok,nd,hk,hn⟩
  obtain⟨q1,q2,E,O,I⟩:=id ok;have po:=hp _ (jn q1);obtain⟨d1,d2⟩:=down po q2 E hk;have:=Ee hp (I _ d1) (vz d1 nd).1 d2 (fun x hx=>hn x Ll) m w4;rw[←sK d1] at this;rw[cZ,if_neg e];exact this
structure aeF (u:aE) (i:Int) (up:K) (aB:Int):Prop where
 page:∀p∈u.af,ew p u.af.length
 rg:0≤i∧i<u.af.length
 out:up∉(u.pg i).keys
 len:1≤up.length∧up.length≤100
 high:(u.pg i).high≠[]→bP up (u.pg i).high
 nn:0≤aB
 nnl:(u.pg i).leaf=false→aB<u.af.length
def j5(t:aE)(k:K)(row:Int)(h m:Nat):aE×Option (K×Int):=if m=0 then (t,some (k,row)) else fS t k row (m-1) (cZ t k h t.root (m-1))
theorem P8(h:Nat):j5 t k row h (h+1)=fS t k row h t.root:=by unfold j5;rw[if_neg w4,Nat.add_sub_cancel,Hs]
theorem OC(hm:m≤h){aB:Int}(e:j5 t k row h m=(u,some (up,aB))):j5 t k row h (m+1)=qK u (cZ t k h t.root m) up aB:=by
 unfold j5 at e ⊢;rw[if_neg w4,Nat.add_sub_cancel];cases m with
 | zero=>rw[if_pos rfl] at e;injection e with e1 e2;injection e2 with e2;injection e2 with e2 E;subst e1 e2 E;rw[fS]
 | succ m=>rw[if_neg w4,Nat.add_sub_cancel,Ak w4] at e;rw[fS,e]
theorem ZN(h0:0<m)(hm:m≤h)(e:j5 t k row h m=(u,none)):j5 t k row h (m+1)=(u,none):=by
 unfold j5 at e ⊢;rw[if_neg w4,Nat.add_sub_cancel];cases m with
 | zero=>omega
 | succ m=>rw[if_neg w4,Nat.add_sub_cancel,Ak w4] at e;rw[fS,e]
theorem OE{h:Nat}{u:aE}:∀(d m:Nat),m+d=h+1→0<m→j5 t k row h m=(u,none)→fS t k row h t.root=(u,none)
 | 0,m,hm,_,e=>by
  obtain rfl:m=h+1:=(by omega)
  rw[←P8];exact e
 | d+1,m,hm,h0,e=>OE d (m+1) w4 w4 (ZN h0 w4 e)
theorem P9(v:Valid t h)(hn:∀x∈kC t h,x.1≠k)(hl:1≤k.length∧k.length≤100)(hr:0≤row)(hm:m≤h):∃lo hi,dR t m (cZ t k h t.root m) lo hi∧kX lo hi k∧nU t (fS t k row m (cZ t k h t.root m)).1 m (cZ t k h t.root m) lo hi k row (fS t k row m (cZ t k h t.root m)).2:=by
 obtain⟨lo,hi,ok,nd,hk,hne⟩:=Ee v.page v.ok v.za (sR k) hn m hm;exact⟨lo,hi,ok,hk,EN v.page ok nd hk hne hl hr⟩
theorem Ht(v:Valid t h)(hn:∀x∈kC t h,x.1≠k)(hl:1≤k.length∧k.length≤100)(hr:0≤row)(hm:m≤h+1){r:Option (K×Int)}(e:j5 t k row h m=(u,r)):u.root=t.root∧u.af.length≤t.af.length+m∧t.af.length≤u.af.length∧∀p∈u.af,ew p u.af.length:=by
 unfold j5 at e;cases m with
 | zero=>rw[if_pos rfl] at e;injection e with e1 e2;subst e1;exact⟨rfl,Nat.le_refl _,Nat.le_refl _,v.page⟩
 | succ m =>
  rw[if_neg w4,Nat.add_sub_cancel] at e;obtain⟨lo,hi,_,_,I⟩:=P9 v hn hl hr (m:=m) w4;rw[e] at I;exact⟨I.root,I.more,I.le,I.page⟩
theorem acU(v:Valid t h)(hn:∀x∈kC t h,x.1≠k)(hl:1≤k.length∧k.length≤100)(hr:0≤row)(hm:m≤h+1){aB:Int}(e:j5 t k row h m=(u,some (up,aB))):up.length≤100:=by
 unfold j5 at e;cases m with
 | zero=>rw[if_pos rfl] at e;injection e with e1 e2;injection e2 with e2;injection e2 with e2 E;subst e2;exact hl.2
 | succ m =>
  rw[if_neg w4,Nat.add_sub_cancel] at e;obtain⟨lo,hi,_,_,I⟩:=P9 v hn hl hr (m:=m) w4;rw[e] at I;exact I.ok.1.2
theorem acV(v:Valid t h)(hn:∀x∈kC t h,x.1≠k)(hl:1≤k.length∧k.length≤100)(hr:0≤row)(hm:m≤h){aB:Int}(e:j5 t k row h m=(u,some (up,aB))):aeF u (cZ t k h t.root m) up aB:=by
 cases m with
 | zero =>
  unfold j5 at e;rw[if_pos rfl] at e;injection e with e1 e2;injection e2 with e2;injection e2 with e2 e3;subst e1 e2 e3
  obtain⟨lo,hi,⟨q1,q2,O,q4⟩,nd,hk,hne⟩:=Ee v.page v.ok v.za (sR k) hn 0 hm;refine⟨v.page,q1,fun hm=>?_,hl,fun E=>?_,hr,fun h=>by rw[q2] at h;cases h⟩
  ·have po:=v.page _ (jn q1);have hlen:=po.leaf q2;obtain⟨a,ha,he⟩:=mem_iff_getElem.1 hm;exact hne (k,(t.pg (cZ t k h t.root 0)).kids[a]'w4) ((Aq hlen).2 ⟨a,ha,by rw[he]⟩) rfl
  rw[O] at E ⊢;exact hk.2 E
 | succ m =>
  obtain⟨s1,s2,s3,s4⟩:=Ht v hn hl hr w4 e;unfold j5 at e;rw[if_neg w4,Nat.add_sub_cancel] at e;obtain⟨lo,hi,ok,nd,hk,hne⟩:=Ee v.page v.ok v.za (sR k) hn (m+1) hm;obtain⟨q1,q2,O,q4,q5⟩:=id ok;have po:=v.page _ (jn q1);obtain⟨d1,d2⟩:=down po q2 O hk;have U:=EN (row:=row) v.page (q5 _ d1) (vz d1 nd).1 d2 (fun x hx=>hne x Ll) hl hr;rw[←sK d1,←Ak w4,e,Ak w4] at U;have M:jk t u m (cZ t k h t.root (m+1)) lo hi (aL (t.pg (cZ t k h t.root (m+1))) k) k row (some (up,aB)):=⟨v.page,ok,nd,d1,d2,U⟩
  obtain⟨m1,m2,m3,m4⟩:=M.place;have Z:=M.same;obtain⟨o1,o2,o3,o4,o5⟩:(1≤up.length∧up.length≤100)∧_∧_∧_∧dR u m aB up _:=U.ok;have I:=o5.idx;refine⟨s4,⟨q1.1,by omega⟩,by rw[Z];exact m2,o1,fun E=>?_,I.1,fun _=>I.2⟩;rw[Z,O] at E ⊢;exact m3.2 E

end Go.Proofs.YtbcmjoaggammcaaGreatDoor.Tr
namespace Go.Proofs.YtbcmjoaggammcaaGreatDoor.Tr
open List
open Go.Proofs.Tryz
open Go.Lib (compareBytes)
variable {t:aE} {h:Nat} {k:K}
variable {i:Int}
noncomputable def mN(t:aE)(h:Nat)(k:K):List (K×Int):=(kC t h).filter fun x=>decide (¬bP x.1 k)
def iM(t:aE)(ls:List Int):List (K×Int):=ls.flatMap fun l=>eU (t.pg l)
theorem eV.tail{r:List Int}{e:Int}(h:eV t (i::r) e):eV t r e:=by
 cases r with
 | nil=>trivial
 | cons j r=>exact h.2
theorem eV.next{i:Int}{r:List Int}{e:Int}(h:eV t (i::r) e):(t.pg i).next=r.headD e:=by
 cases r with
 | nil=>exact h
 | cons j r=>exact h.1
theorem eV.drop{e:Int}:∀{a b:List Int},eV t (a++b) e→eV t b e
 | [],_,h=>h
 | i::a,b,h=>eV.drop (a:=a) (eV.tail h)
theorem Qa:∀{h:Nat} {i:Int} {low high:K},dR t h i low high→∀l∈cy t h i,(0≤l∧l<t.af.length)∧(t.pg l).leaf=true
 | 0,i,low,high,ok,l,hl=>by
  rw[cy,mem_singleton] at hl;subst hl;exact⟨ok.1,ok.2.1⟩
 | h+1,i,low,high,ok,l,hl=>by
  obtain⟨q1,q2,I,O,E⟩:=ok;rw[cy] at hl;obtain⟨c,hc,hl⟩:=mem_flatMap.1 hl;obtain⟨j,hj,rfl⟩:=mem_iff_getElem.1 hc;exact Qa (E j hj) l hl
structure qE (t:aE) (ls:List Int):Prop where
 oK:eV t ls (-1)
 at_:∀l∈ls,(0≤l∧l<t.af.length)∧(t.pg l).leaf=true
theorem qE.tail{i:Int}{r:List Int}(h:qE t (i::r)):qE t r:=⟨eV.tail h.oK,fun l hl=>h.at_ l (mem_cons_of_mem _ hl)⟩
theorem qE.head{ls:List Int}(h:qE t ls):(0≤ls.headD (-1)→∃r,ls=ls.headD (-1)::r)∧(ls.headD (-1)<0→ls=[]):=by
 cases ls with
 | nil=>exact⟨fun h=>by simp at h,fun _=>rfl⟩
 | cons i r=>exact⟨fun _=>⟨r,rfl⟩,fun h0=>by have:=(h.at_ i mem_cons_self).1;simp at h0;omega⟩
theorem NM(v:Valid t h):qE t (cy t h t.root):=⟨v.oK h (Nat.le_refl _),Qa v.ok⟩
theorem DU(v:Valid t h){l:Int}(hl:(0≤l∧l<t.af.length)∧(t.pg l).leaf=true):(eU (t.pg l)).length=(t.pg l).keys.length:=by
 have:=(v.page _ (jn hl.1)).leaf hl.2;unfold eU;rw[length_zip];omega
theorem Yq(v:Valid t h)(k:K):∃r,qE t (aI t k h t.root::r)∧mN t h k=(iM t (aI t k h t.root::r)).drop (aL (t.pg (aI t k h t.root)) k)∧aL (t.pg (aI t k h t.root)) k≤(t.pg (aI t k h t.root)).keys.length:=by
 obtain⟨pre,post,e,he⟩:=Zr v.page v.ok (sR k);have hL:=NM v;have hl:=v.leaf k;have fC:aL (t.pg (aI t k h t.root)) k≤(t.pg (aI t k h t.root)).keys.length:=by
  unfold aL;split
  ·exact x4 _ _
  exact Ay _ _
 rw[e] at hL;refine⟨post,⟨eV.drop hL.oK,fun l hl=>hL.at_ l (mem_append_right _ hl)⟩,?_,fC⟩;unfold mN kC;rw[he];unfold iM;rw[flatMap_cons,drop_append_of_le_length (by rw[DU v hl];exact fC)]
theorem ZO(v:Valid t h){r:List Int}(hL:qE t (i::r)){a:Nat}(ha:a<(t.pg i).keys.length)(hk:a<(t.pg i).kids.length) :
  (iM t (i::r)).drop a=((t.pg i).keys[a],(t.pg i).kids[a])::(iM t (i::r)).drop (a+1):=by
 have hi:=hL.at_ i mem_cons_self;have hlen:=DU v hi;have h1:a<(iM t (i::r)).length:=(by unfold iM;rw[flatMap_cons,length_append];omega)
 rw[drop_eq_getElem_cons h1];congr 1;unfold iM;simp only[flatMap_cons];rw[getElem_append_left w4];unfold eU;rw[getElem_zip]
theorem Yr(v:Valid t h){r:List Int}(hL:qE t (i::r)){a:Nat}(ha:a=(t.pg i).keys.length):(iM t (i::r)).drop a=(iM t r).drop 0:=by
 have hi:=hL.at_ i mem_cons_self;have hlen:=DU v hi;unfold iM;rw[flatMap_cons,drop_zero,drop_append_of_le_length w4,drop_eq_nil_of_le w4];rfl
theorem abg(v:Valid t h):kC t h=iM t (cy t h t.root):=vI t h t.root
theorem Hu(v:Valid t h):(kC t h).Pairwise fun x y=>bP x.1 y.1:=(IJ v.page v.ok).1
theorem ZP(v:Valid t h)(k:K):(mN t h k).Pairwise fun x y=>bP x.1 y.1:=(Hu v).filter _
theorem abh(t:aE)(h:Nat):mN t h []=kC t h:=by
 unfold mN;rw[filter_eq_self.2];intro x _;simpa using Je x.1
theorem abi(v:Valid t h):(kC t h).length≤4*t.af.length:=by
 have key:∀(ls:List Int),(∀l∈ls,(0≤l∧l<t.af.length)∧(t.pg l).leaf=true)→(iM t ls).length≤4*ls.length:=by
  intro ls;induction ls with
  | nil=>intro _;simp[iM]
  | cons i r ih =>
   intro hl;have h1:=DU v (hl i mem_cons_self);have h2:=(v.page _ (jn (hl i mem_cons_self).1)).eL;have h3:=ih fun l E=>hl l (mem_cons_of_mem _ E);unfold iM at h3 ⊢;rw[flatMap_cons,length_append,length_cons];omega
 have I:(cy t h t.root).length≤(ids t h t.root).length:=by
  have:∀(h:Nat) (i:Int),(cy t h i).length≤(ids t h i).length:=by
   intro h;induction h with
   | zero=>intro i;simp[cy,ids]
   | succ h ih =>
    intro i;rw[cy,ids,length_cons,length_flatMap,length_flatMap];have:∀(l:List Int),(l.map fun a=>(cy t h a).length).sum≤(l.map fun a=>(ids t h a).length).sum:=by
     intro l;induction l with
     | nil=>simp
     | cons a l O=>simp only[map_cons,sum_cons];have:=ih a;omega
    have:=this (t.pg i).kids;omega
  exact this h t.root
 rw[abg v];have:=key _ (NM v).at_;rw[v.all] at I;omega
theorem Qb(v:Valid t h)(k:K):(mN t h k).length≤16000:=by
 have:=abi v;have h1:=v.mQ;have:(mN t h k).length≤(kC t h).length:=(filter_sublist).length_le;omega

end Go.Proofs.YtbcmjoaggammcaaGreatDoor.Tr
namespace Go.Proofs.YtbcmjoaggammcaaGreatDoor.Tw
open List
open Go.Proofs.Tryz
open Go.RowKit V Tr Pk
def cE(e:K×Int):List D:=[.list 1 (e.1.flatMap cB) e.1.length,.v (.int .i64 e.2)]
theorem R6(e:K×Int):(cE e).length=2:=rfl
def FE(e:K×Int):List D:=[.agg (cE e)]
theorem aeG(b:UInt8):fA (cB b)=true:=rfl
theorem yx(k:K):fA (k.flatMap cB)=true:=uq aeG k
theorem yy(e:K×Int):fA (cE e)=true:=by simp[cE,fA,ij,yx]
theorem abj(e:K×Int):fA (FE e)=true:=by simp[FE,fA,ij,yy]
def JR(t:aE)(k:K):List D:=[.fp [.list 5 (t.af.flatMap cP) t.af.length,.v (.int .i64 t.root)] 0,.fp [.list 1 (k.flatMap cB) k.length] 0]
variable {G:List (Nat×List Value)}
theorem rm : ∀ w, ((#[{ name := "Key", type := 49, offset := 0, embedded := false, tag := "", pkgPath := "", byteOffset := 0 }, { name := "Row", type := 3, offset := 1, embedded := false, tag := "", pkgPath := "", byteOffset := 24 }] : Array Field).mapM fun f => do pure (f.offset, ← sizeOf f.type) : Sem (Array (Nat × Nat))).run Tryz.prog w = .ok #[(0, 1), (1, 1)] w := fun w => by simp [sizeOf3, sizeOf49]
theorem abk(t:aE)(h:Nat)(v:Valid t h)(k:K)(dU:k.length≤maxLen):VI Tryz.prog G 58 (JR t k) FE (fun xs=>xs=mN t h k) (fun pre=>pre <+: mN t h k) (mN t h k).length:=by
 refine VI.body func58 rfl ntmps58 aO fun Y X0 w0 aX Sc0 hYe hYN O hY hJ0=>?_;have dr:maxLen=9223372036854775807:=rfl;have fL:=qx (G:=G) t h v k w4 (DF v k);unfold cT at fL;obtain⟨r0,hL0,aiv,Uv⟩:=Yq v k;obtain⟨y1,y2,y3⟩:=(by exact⟨hYe,hYN,O⟩:Y.enc=FE∧Y.N=(mN t h k).length∧w0.heap.size≤Y.l)
 refine cL [0,1,4,5] (fL) ?_;refine CD.block ?_;refine mB (fun (U:List Int×Nat×List (K×Int)×List ag) aK=>match U with|(ls,a,pre,Sc)=>(qE t ls)∧(mN t h k=pre++(iM t ls).drop a)∧((∀x∈head? ls,a≤(t.pg x).keys.length))∧(Y.J pre Sc)∧aK=(⟨46,[(0,.jR Y.l Y.os),(1,.fp [.list 5 (t.af.flatMap cP) t.af.length,.v (.int .i64 t.root)] 0),(4,.v (.int .i64 (headD ls (-1)))),(5,.v (.int .i64 (a:Nat)))],Sc⟩:St)) (fun (U:List Int×Nat×List (K×Int)×List ag)=>match U with|(ls,a,pre,Sc)=>length ls) ((aI t k h t.root::r0),(aL (t.pg (aI t k h t.root)) k),[],Sc0) ⟨hL0,(by rw[nil_append];exact aiv),(fun x hx=>by simp at hx;subst hx;exact Uv),hJ0,rfl⟩ (aM (h:=by repeat (first|exact trivial|refine⟨(by (repeat (first|exact fm|(apply fK;focus (first|rfl|(simp;done)|(rw[←gB,eV.next hL.oK])))|(apply fu;focus rfl)));done),?_⟩))) ?_;rintro⟨ls,a,pre,Sc⟩ _ ⟨hL,WO,fC,hj,rfl⟩;refine ae [0,1,4,5,16] ?_;refine aq (fun az aG=>?_) (fun az aG=>?_)
 ·have Mz:0≤headD ls (-1):=(by simpa using az)
  obtain⟨r,hr⟩:=(qE.head hL).1 Mz;obtain⟨i,hi⟩:∃i,i=headD ls (-1):=⟨_,rfl⟩
  rw[←hi] at hr Mz;subst hr;obtain⟨zY,JO⟩:=hL.at_ i mem_cons_self;have aa:i.toNat<t.af.length:=(by omega)
  have gB:t.pg i=t.af[i.toNat]:=uK zY;have po:=v.page _ (jn zY);have KH:=po.leaf JO;have mR:=po.eL;have UD:=fC i rfl;have TB:=v.mQ;rw[gB] at po KH mR UD;refine aC 3 ?_;refine bJ (dy 5 (h:=by first|exact .l (j:=i.toNat) (by show headD (i::r) (-1)=_;simp;omega) aa|exact .r (j:=i.toNat) (by show headD (i::r) (-1)=_;simp;omega) aa)) ?_;refine bJ (cH (mk:=Op.load 93) rfl ot (by exact jM (i:=i.toNat) EO isAgg93 sizeOf93 aa)) ?_;refine OD.alloc (ds:=[_,_,_,_,_]) an rfl rfl zeroValue93 rfl (fun b7=>?_);refine aN 0 [_,_,_,_,_] sizeOf93 ?_;refine aj 46 [0,1,5,7] ?_;refine eI [0,1,7] (fun aV _ (U:Nat×List (K×Int)×List ag) aK=>match U with|(a,E,I)=>(mN t h k=E++(iM t (i::r)).drop a)∧(a≤((t.af[i.toNat]'aa)).keys.length)∧(Y.J E I)∧aK=(⟨46,(5,.v (.int .i64 (a:Nat)))::aV,(⟨b7,93,5,cP (t.af[i.toNat]'aa)⟩::I)⟩:St)) (fun (U:Nat×List (K×Int)×List ag)=>match U with|(a,E,I)=>((t.af[i.toNat]'aa)).keys.length-a) (a,pre,Sc) ⟨WO,UD,hj,rfl⟩ ?_;rintro⟨a,E,I⟩ _ ⟨oY,an6,Z,rfl⟩;refine ae [0,1,5,7,26] ?_;refine aq (fun aH aU=>?_) (fun aH aU=>?_)
  ·have qX:a<((t.af[i.toNat]'aa)).keys.length:=(by have:=aH;simp at this;omega)
   have tZ:a<((t.af[i.toNat]'aa)).kids.length:=(by omega)
   have iX:(iM t (i::r)).drop a=(((t.af[i.toNat]'aa)).keys[a],((t.af[i.toNat]'aa)).kids[a])::(iM t (i::r)).drop (a+1):=(by have:=ZO v hL (a:=a) (by rw[gB];exact qX) (by rw[gB];exact tZ);simp only[gB] at this;exact this)
   have kV:((t.af[i.toNat]'aa)).keys[a].length≤100:=(by have:=(po.kP _ (getElem_mem qX)).2;omega)
   refine CD.skip ?_;refine CD.seq ?_;refine CD.block ?_;refine CD.seq ?_;refine CD.ab3 ay ?_;refine fI 0 rfl bg ?_;refine fI 1 rfl (cX 1) ?_;refine fI 3 rfl bg ?_;refine fI 7 rfl (cX 2) ?_;refine fI 9 rfl bg ?_;refine AI.two (i:=2) (j:=8) ay ?_ ?_
   ·refine kj rfl (dx 0) ?_;refine fI 4 rfl (dy 1 (h:=by first|exact .l (j:=a) rfl qX|exact .r (j:=a) rfl qX)) ?_;refine AI.two (i:=5) (j:=8) ay ?_ ?_
    ·refine kj rfl eP ?_;refine AI.two (i:=6) (j:=8) ay ?_ ?_
     ·refine gv.gI rfl an rfl rfl rfl call59 (jK (((t.af[i.toNat]'aa)).keys[a]) w4) ⟨ot,trivial⟩ ?_;refine AI.one (i:=8) ay ?_;refine kj rfl (dx 0) ?_;refine fI 10 rfl (dy 1 (h:=by first|exact .l (j:=a) rfl tZ|exact .r (j:=a) rfl tZ)) ?_;refine AI.one (i:=11) ay ?_;refine kj rfl eP ?_;refine fI 12 rfl (nc (pl:=[(0,_),(1,_)]) (ds:=[_,_]) rfl zeroValue97 runUnderlying97 rm ⟨rfl,ot,rfl,ot,trivial⟩ rfl rfl) ?_;refine AI.one (i:=13) ay ?_;refine gv.yield (Y:=Y) (pre:=E) (y:=(((t.af[i.toNat]'aa)).keys[a],((t.af[i.toNat]'aa)).kids[a])) (Sc:=I) (R:=[⟨b7,93,5,cP (t.af[i.toNat]'aa)⟩]) rfl an rfl rfl ot aO lk rY (perm_append_singleton _ _).symm Z rX hY O w7 (fun CR MH=>?_) (fun CR MH=>?_)
      ·refine AI.perm (perm_append_singleton _ _) ?_;refine fI 14 rfl kI ?_;refine AI.wk (y:=⟨46,[(0,_),(1,_),(5,_),(7,_),(43,_)],(⟨b7,93,5,[_,_,_,_,_]⟩::CR)⟩) (Wk.dN rfl rfl fb) ?_;refine AI.done ay ?_;refine fF ?_;refine cj [0,1,5,7] ?_;refine⟨((a+1),(E++[(((t.af[i.toNat]'aa)).keys[a],((t.af[i.toNat]'aa)).kids[a])]),CR),_,cz,aM,rW,w4,MH,rfl⟩
      refine fI 14 rfl kI ?_;refine AI.wk (y:=⟨46,[(0,_),(43,_)],(CR)⟩) (Wk.dN rfl rfl fb) ?_;refine AI.done ay ?_;refine ez ?_;refine CD.ret ?_;refine⟨.inr rfl,⟨_,pL results58⟩,(show 0<46 by decide),CR,Sublist.refl _,?_⟩;exact .inr ⟨E++[(((t.af[i.toNat]'aa)).keys[a],((t.af[i.toNat]'aa)).kids[a])],⟨(iM t (i::r)).drop (a+1),by rw[oY,iX,append_assoc];rfl⟩,MH,lk⟩
     refine kj rfl (dx 0) ?_;refine fI 10 rfl (dy 1 (h:=by first|exact .l (j:=a) rfl tZ|exact .r (j:=a) rfl tZ)) ?_;refine AI.two (i:=6) (j:=11) ay ?_ ?_
     ·refine gv.gI rfl an rfl rfl rfl call59 (jK (((t.af[i.toNat]'aa)).keys[a]) w4) ⟨ot,trivial⟩ ?_;refine AI.one (i:=11) ay ?_;refine kj rfl eP ?_;refine fI 12 rfl (nc (pl:=[(0,_),(1,_)]) (ds:=[_,_]) rfl zeroValue97 runUnderlying97 rm ⟨rfl,ot,rfl,ot,trivial⟩ rfl rfl) ?_;refine AI.one (i:=13) ay ?_;refine gv.yield (Y:=Y) (pre:=E) (y:=(((t.af[i.toNat]'aa)).keys[a],((t.af[i.toNat]'aa)).kids[a])) (Sc:=I) (R:=[⟨b7,93,5,cP (t.af[i.toNat]'aa)⟩]) rfl an rfl rfl ot aO lk rY (perm_append_singleton _ _).symm Z rX hY O w7 (fun I MI=>?_) (fun I MI=>?_)
      ·refine AI.perm (perm_append_singleton _ _) ?_;refine fI 14 rfl kI ?_;refine AI.wk (y:=⟨46,[(0,_),(1,_),(5,_),(7,_),(43,_)],(⟨b7,93,5,[_,_,_,_,_]⟩::I)⟩) (Wk.dN rfl rfl fb) ?_;refine AI.done ay ?_;refine fF ?_;refine cj [0,1,5,7] ?_;refine⟨((a+1),(E++[(((t.af[i.toNat]'aa)).keys[a],((t.af[i.toNat]'aa)).kids[a])]),I),_,cz,aM,rW,w4,MI,rfl⟩
      refine fI 14 rfl kI ?_;refine AI.wk (y:=⟨46,[(0,_),(43,_)],(I)⟩) (Wk.dN rfl rfl fb) ?_;refine AI.done ay ?_;refine ez ?_;refine CD.ret ?_;refine⟨.inr rfl,⟨_,pL results58⟩,(show 0<46 by decide),I,Sublist.refl _,?_⟩;exact .inr ⟨E++[(((t.af[i.toNat]'aa)).keys[a],((t.af[i.toNat]'aa)).kids[a])],⟨(iM t (i::r)).drop (a+1),by rw[oY,iX,append_assoc];rfl⟩,MI,lk⟩
     refine kj rfl eP ?_;refine AI.one (i:=6) ay ?_;refine gv.gI rfl an rfl rfl rfl call59 (jK (((t.af[i.toNat]'aa)).keys[a]) w4) ⟨ot,trivial⟩ ?_;refine fI 12 rfl (nc (pl:=[(0,_),(1,_)]) (ds:=[_,_]) rfl zeroValue97 runUnderlying97 rm ⟨rfl,ot,rfl,ot,trivial⟩ rfl rfl) ?_;refine AI.one (i:=13) ay ?_;refine gv.yield (Y:=Y) (pre:=E) (y:=(((t.af[i.toNat]'aa)).keys[a],((t.af[i.toNat]'aa)).kids[a])) (Sc:=I) (R:=[⟨b7,93,5,cP (t.af[i.toNat]'aa)⟩]) rfl an rfl rfl ot aO lk rY (perm_append_singleton _ _).symm Z rX hY O w7 (fun CS MJ=>?_) (fun CS MJ=>?_)
     ·refine AI.perm (perm_append_singleton _ _) ?_;refine fI 14 rfl kI ?_;refine AI.wk (y:=⟨46,[(0,_),(1,_),(5,_),(7,_),(43,_)],(⟨b7,93,5,[_,_,_,_,_]⟩::CS)⟩) (Wk.dN rfl rfl fb) ?_;refine AI.done ay ?_;refine fF ?_;refine cj [0,1,5,7] ?_;refine⟨((a+1),(E++[(((t.af[i.toNat]'aa)).keys[a],((t.af[i.toNat]'aa)).kids[a])]),CS),_,cz,aM,rW,w4,MJ,rfl⟩
     refine fI 14 rfl kI ?_;refine AI.wk (y:=⟨46,[(0,_),(43,_)],(CS)⟩) (Wk.dN rfl rfl fb) ?_;refine AI.done ay ?_;refine ez ?_;refine CD.ret ?_;refine⟨.inr rfl,⟨_,pL results58⟩,(show 0<46 by decide),CS,Sublist.refl _,?_⟩;exact .inr ⟨E++[(((t.af[i.toNat]'aa)).keys[a],((t.af[i.toNat]'aa)).kids[a])],⟨(iM t (i::r)).drop (a+1),by rw[oY,iX,append_assoc];rfl⟩,MJ,lk⟩
    refine kj rfl (dx 0) ?_;refine fI 10 rfl (dy 1 (h:=by first|exact .l (j:=a) rfl tZ|exact .r (j:=a) rfl tZ)) ?_;refine AI.two (i:=5) (j:=11) ay ?_ ?_
    ·refine kj rfl eP ?_;refine AI.two (i:=6) (j:=11) ay ?_ ?_
     ·refine gv.gI rfl an rfl rfl rfl call59 (jK (((t.af[i.toNat]'aa)).keys[a]) w4) ⟨ot,trivial⟩ ?_;refine AI.one (i:=11) ay ?_;refine kj rfl eP ?_;refine fI 12 rfl (nc (pl:=[(0,_),(1,_)]) (ds:=[_,_]) rfl zeroValue97 runUnderlying97 rm ⟨rfl,ot,rfl,ot,trivial⟩ rfl rfl) ?_;refine AI.one (i:=13) ay ?_;refine gv.yield (Y:=Y) (pre:=E) (y:=(((t.af[i.toNat]'aa)).keys[a],((t.af[i.toNat]'aa)).kids[a])) (Sc:=I) (R:=[⟨b7,93,5,cP (t.af[i.toNat]'aa)⟩]) rfl an rfl rfl ot aO lk rY (perm_append_singleton _ _).symm Z rX hY O w7 (fun CT MK=>?_) (fun CT MK=>?_)
      ·refine AI.perm (perm_append_singleton _ _) ?_;refine fI 14 rfl kI ?_;refine AI.wk (y:=⟨46,[(0,_),(1,_),(5,_),(7,_),(43,_)],(⟨b7,93,5,[_,_,_,_,_]⟩::CT)⟩) (Wk.dN rfl rfl fb) ?_;refine AI.done ay ?_;refine fF ?_;refine cj [0,1,5,7] ?_;refine⟨((a+1),(E++[(((t.af[i.toNat]'aa)).keys[a],((t.af[i.toNat]'aa)).kids[a])]),CT),_,cz,aM,rW,w4,MK,rfl⟩
      refine fI 14 rfl kI ?_;refine AI.wk (y:=⟨46,[(0,_),(43,_)],(CT)⟩) (Wk.dN rfl rfl fb) ?_;refine AI.done ay ?_;refine ez ?_;refine CD.ret ?_;refine⟨.inr rfl,⟨_,pL results58⟩,(show 0<46 by decide),CT,Sublist.refl _,?_⟩;exact .inr ⟨E++[(((t.af[i.toNat]'aa)).keys[a],((t.af[i.toNat]'aa)).kids[a])],⟨(iM t (i::r)).drop (a+1),by rw[oY,iX,append_assoc];rfl⟩,MK,lk⟩
     refine kj rfl eP ?_;refine AI.one (i:=6) ay ?_;refine gv.gI rfl an rfl rfl rfl call59 (jK (((t.af[i.toNat]'aa)).keys[a]) w4) ⟨ot,trivial⟩ ?_;refine fI 12 rfl (nc (pl:=[(0,_),(1,_)]) (ds:=[_,_]) rfl zeroValue97 runUnderlying97 rm ⟨rfl,ot,rfl,ot,trivial⟩ rfl rfl) ?_;refine AI.one (i:=13) ay ?_;refine gv.yield (Y:=Y) (pre:=E) (y:=(((t.af[i.toNat]'aa)).keys[a],((t.af[i.toNat]'aa)).kids[a])) (Sc:=I) (R:=[⟨b7,93,5,cP (t.af[i.toNat]'aa)⟩]) rfl an rfl rfl ot aO lk rY (perm_append_singleton _ _).symm Z rX hY O w7 (fun CU ML=>?_) (fun CU ML=>?_)
     ·refine AI.perm (perm_append_singleton _ _) ?_;refine fI 14 rfl kI ?_;refine AI.wk (y:=⟨46,[(0,_),(1,_),(5,_),(7,_),(43,_)],(⟨b7,93,5,[_,_,_,_,_]⟩::CU)⟩) (Wk.dN rfl rfl fb) ?_;refine AI.done ay ?_;refine fF ?_;refine cj [0,1,5,7] ?_;refine⟨((a+1),(E++[(((t.af[i.toNat]'aa)).keys[a],((t.af[i.toNat]'aa)).kids[a])]),CU),_,cz,aM,rW,w4,ML,rfl⟩
     refine fI 14 rfl kI ?_;refine AI.wk (y:=⟨46,[(0,_),(43,_)],(CU)⟩) (Wk.dN rfl rfl fb) ?_;refine AI.done ay ?_;refine ez ?_;refine CD.ret ?_;refine⟨.inr rfl,⟨_,pL results58⟩,(show 0<46 by decide),CU,Sublist.refl _,?_⟩;exact .inr ⟨E++[(((t.af[i.toNat]'aa)).keys[a],((t.af[i.toNat]'aa)).kids[a])],⟨(iM t (i::r)).drop (a+1),by rw[oY,iX,append_assoc];rfl⟩,ML,lk⟩
    refine kj rfl eP ?_;refine AI.one (i:=5) ay ?_;refine kj rfl eP ?_;refine AI.one (i:=6) ay ?_;refine gv.gI rfl an rfl rfl rfl call59 (jK (((t.af[i.toNat]'aa)).keys[a]) w4) ⟨ot,trivial⟩ ?_;refine fI 12 rfl (nc (pl:=[(0,_),(1,_)]) (ds:=[_,_]) rfl zeroValue97 runUnderlying97 rm ⟨rfl,ot,rfl,ot,trivial⟩ rfl rfl) ?_;refine AI.one (i:=13) ay ?_;refine gv.yield (Y:=Y) (pre:=E) (y:=(((t.af[i.toNat]'aa)).keys[a],((t.af[i.toNat]'aa)).kids[a])) (Sc:=I) (R:=[⟨b7,93,5,cP (t.af[i.toNat]'aa)⟩]) rfl an rfl rfl ot aO lk rY (perm_append_singleton _ _).symm Z rX hY O w7 (fun CV MM=>?_) (fun CV MM=>?_)
    ·refine AI.perm (perm_append_singleton _ _) ?_;refine fI 14 rfl kI ?_;refine AI.wk (y:=⟨46,[(0,_),(1,_),(5,_),(7,_),(43,_)],(⟨b7,93,5,[_,_,_,_,_]⟩::CV)⟩) (Wk.dN rfl rfl fb) ?_;refine AI.done ay ?_;refine fF ?_;refine cj [0,1,5,7] ?_;refine⟨((a+1),(E++[(((t.af[i.toNat]'aa)).keys[a],((t.af[i.toNat]'aa)).kids[a])]),CV),_,cz,aM,rW,w4,MM,rfl⟩
    refine fI 14 rfl kI ?_;refine AI.wk (y:=⟨46,[(0,_),(43,_)],(CV)⟩) (Wk.dN rfl rfl fb) ?_;refine AI.done ay ?_;refine ez ?_;refine CD.ret ?_;refine⟨.inr rfl,⟨_,pL results58⟩,(show 0<46 by decide),CV,Sublist.refl _,?_⟩;exact .inr ⟨E++[(((t.af[i.toNat]'aa)).keys[a],((t.af[i.toNat]'aa)).kids[a])],⟨(iM t (i::r)).drop (a+1),by rw[oY,iX,append_assoc];rfl⟩,MM,lk⟩
   refine kj rfl (dx 0) ?_;refine fI 10 rfl (dy 1 (h:=by first|exact .l (j:=a) rfl tZ|exact .r (j:=a) rfl tZ)) ?_;refine AI.two (i:=2) (j:=11) ay ?_ ?_
   ·refine kj rfl (dx 0) ?_;refine fI 4 rfl (dy 1 (h:=by first|exact .l (j:=a) rfl qX|exact .r (j:=a) rfl qX)) ?_;refine AI.two (i:=5) (j:=11) ay ?_ ?_
    ·refine kj rfl eP ?_;refine AI.two (i:=6) (j:=11) ay ?_ ?_
     ·refine gv.gI rfl an rfl rfl rfl call59 (jK (((t.af[i.toNat]'aa)).keys[a]) w4) ⟨ot,trivial⟩ ?_;refine AI.one (i:=11) ay ?_;refine kj rfl eP ?_;refine fI 12 rfl (nc (pl:=[(0,_),(1,_)]) (ds:=[_,_]) rfl zeroValue97 runUnderlying97 rm ⟨rfl,ot,rfl,ot,trivial⟩ rfl rfl) ?_;refine AI.one (i:=13) ay ?_;refine gv.yield (Y:=Y) (pre:=E) (y:=(((t.af[i.toNat]'aa)).keys[a],((t.af[i.toNat]'aa)).kids[a])) (Sc:=I) (R:=[⟨b7,93,5,cP (t.af[i.toNat]'aa)⟩]) rfl an rfl rfl ot aO lk rY (perm_append_singleton _ _).symm Z rX hY O w7 (fun CW MN=>?_) (fun CW MN=>?_)
      ·refine AI.perm (perm_append_singleton _ _) ?_;refine fI 14 rfl kI ?_;refine AI.wk (y:=⟨46,[(0,_),(1,_),(5,_),(7,_),(43,_)],(⟨b7,93,5,[_,_,_,_,_]⟩::CW)⟩) (Wk.dN rfl rfl fb) ?_;refine AI.done ay ?_;refine fF ?_;refine cj [0,1,5,7] ?_;refine⟨((a+1),(E++[(((t.af[i.toNat]'aa)).keys[a],((t.af[i.toNat]'aa)).kids[a])]),CW),_,cz,aM,rW,w4,MN,rfl⟩
      refine fI 14 rfl kI ?_;refine AI.wk (y:=⟨46,[(0,_),(43,_)],(CW)⟩) (Wk.dN rfl rfl fb) ?_;refine AI.done ay ?_;refine ez ?_;refine CD.ret ?_;refine⟨.inr rfl,⟨_,pL results58⟩,(show 0<46 by decide),CW,Sublist.refl _,?_⟩;exact .inr ⟨E++[(((t.af[i.toNat]'aa)).keys[a],((t.af[i.toNat]'aa)).kids[a])],⟨(iM t (i::r)).drop (a+1),by rw[oY,iX,append_assoc];rfl⟩,MN,lk⟩
     refine kj rfl eP ?_;refine AI.one (i:=6) ay ?_;refine gv.gI rfl an rfl rfl rfl call59 (jK (((t.af[i.toNat]'aa)).keys[a]) w4) ⟨ot,trivial⟩ ?_;refine fI 12 rfl (nc (pl:=[(0,_),(1,_)]) (ds:=[_,_]) rfl zeroValue97 runUnderlying97 rm ⟨rfl,ot,rfl,ot,trivial⟩ rfl rfl) ?_;refine AI.one (i:=13) ay ?_;refine gv.yield (Y:=Y) (pre:=E) (y:=(((t.af[i.toNat]'aa)).keys[a],((t.af[i.toNat]'aa)).kids[a])) (Sc:=I) (R:=[⟨b7,93,5,cP (t.af[i.toNat]'aa)⟩]) rfl an rfl rfl ot aO lk rY (perm_append_singleton _ _).symm Z rX hY O w7 (fun CX MO=>?_) (fun CX MO=>?_)
     ·refine AI.perm (perm_append_singleton _ _) ?_;refine fI 14 rfl kI ?_;refine AI.wk (y:=⟨46,[(0,_),(1,_),(5,_),(7,_),(43,_)],(⟨b7,93,5,[_,_,_,_,_]⟩::CX)⟩) (Wk.dN rfl rfl fb) ?_;refine AI.done ay ?_;refine fF ?_;refine cj [0,1,5,7] ?_;refine⟨((a+1),(E++[(((t.af[i.toNat]'aa)).keys[a],((t.af[i.toNat]'aa)).kids[a])]),CX),_,cz,aM,rW,w4,MO,rfl⟩
     refine fI 14 rfl kI ?_;refine AI.wk (y:=⟨46,[(0,_),(43,_)],(CX)⟩) (Wk.dN rfl rfl fb) ?_;refine AI.done ay ?_;refine ez ?_;refine CD.ret ?_;refine⟨.inr rfl,⟨_,pL results58⟩,(show 0<46 by decide),CX,Sublist.refl _,?_⟩;exact .inr ⟨E++[(((t.af[i.toNat]'aa)).keys[a],((t.af[i.toNat]'aa)).kids[a])],⟨(iM t (i::r)).drop (a+1),by rw[oY,iX,append_assoc];rfl⟩,MO,lk⟩
    refine kj rfl eP ?_;refine AI.one (i:=5) ay ?_;refine kj rfl eP ?_;refine AI.one (i:=6) ay ?_;refine gv.gI rfl an rfl rfl rfl call59 (jK (((t.af[i.toNat]'aa)).keys[a]) w4) ⟨ot,trivial⟩ ?_;refine fI 12 rfl (nc (pl:=[(0,_),(1,_)]) (ds:=[_,_]) rfl zeroValue97 runUnderlying97 rm ⟨rfl,ot,rfl,ot,trivial⟩ rfl rfl) ?_;refine AI.one (i:=13) ay ?_;refine gv.yield (Y:=Y) (pre:=E) (y:=(((t.af[i.toNat]'aa)).keys[a],((t.af[i.toNat]'aa)).kids[a])) (Sc:=I) (R:=[⟨b7,93,5,cP (t.af[i.toNat]'aa)⟩]) rfl an rfl rfl ot aO lk rY (perm_append_singleton _ _).symm Z rX hY O w7 (fun CY MP=>?_) (fun CY MP=>?_)
    ·refine AI.perm (perm_append_singleton _ _) ?_;refine fI 14 rfl kI ?_;refine AI.wk (y:=⟨46,[(0,_),(1,_),(5,_),(7,_),(43,_)],(⟨b7,93,5,[_,_,_,_,_]⟩::CY)⟩) (Wk.dN rfl rfl fb) ?_;refine AI.done ay ?_;refine fF ?_;refine cj [0,1,5,7] ?_;refine⟨((a+1),(E++[(((t.af[i.toNat]'aa)).keys[a],((t.af[i.toNat]'aa)).kids[a])]),CY),_,cz,aM,rW,w4,MP,rfl⟩
    refine fI 14 rfl kI ?_;refine AI.wk (y:=⟨46,[(0,_),(43,_)],(CY)⟩) (Wk.dN rfl rfl fb) ?_;refine AI.done ay ?_;refine ez ?_;refine CD.ret ?_;refine⟨.inr rfl,⟨_,pL results58⟩,(show 0<46 by decide),CY,Sublist.refl _,?_⟩;exact .inr ⟨E++[(((t.af[i.toNat]'aa)).keys[a],((t.af[i.toNat]'aa)).kids[a])],⟨(iM t (i::r)).drop (a+1),by rw[oY,iX,append_assoc];rfl⟩,MP,lk⟩
   refine kj rfl eP ?_;refine AI.one (i:=2) ay ?_;refine kj rfl (dx 0) ?_;refine fI 4 rfl (dy 1 (h:=by first|exact .l (j:=a) rfl qX|exact .r (j:=a) rfl qX)) ?_;refine AI.one (i:=5) ay ?_;refine kj rfl eP ?_;refine AI.one (i:=6) ay ?_;refine gv.gI rfl an rfl rfl rfl call59 (jK (((t.af[i.toNat]'aa)).keys[a]) w4) ⟨ot,trivial⟩ ?_;refine fI 12 rfl (nc (pl:=[(0,_),(1,_)]) (ds:=[_,_]) rfl zeroValue97 runUnderlying97 rm ⟨rfl,ot,rfl,ot,trivial⟩ rfl rfl) ?_;refine AI.one (i:=13) ay ?_;refine gv.yield (Y:=Y) (pre:=E) (y:=(((t.af[i.toNat]'aa)).keys[a],((t.af[i.toNat]'aa)).kids[a])) (Sc:=I) (R:=[⟨b7,93,5,cP (t.af[i.toNat]'aa)⟩]) rfl an rfl rfl ot aO lk rY (perm_append_singleton _ _).symm Z rX hY O w7 (fun BK KL=>?_) (fun BK KL=>?_)
   ·refine AI.perm (perm_append_singleton _ _) ?_;refine fI 14 rfl kI ?_;refine AI.wk (y:=⟨46,[(0,_),(1,_),(5,_),(7,_),(43,_)],(⟨b7,93,5,[_,_,_,_,_]⟩::BK)⟩) (Wk.dN rfl rfl fb) ?_;refine AI.done ay ?_;refine fF ?_;refine cj [0,1,5,7] ?_;refine⟨((a+1),(E++[(((t.af[i.toNat]'aa)).keys[a],((t.af[i.toNat]'aa)).kids[a])]),BK),_,cz,aM,rW,w4,KL,rfl⟩
   refine fI 14 rfl kI ?_;refine AI.wk (y:=⟨46,[(0,_),(43,_)],(BK)⟩) (Wk.dN rfl rfl fb) ?_;refine AI.done ay ?_;refine ez ?_;refine CD.ret ?_;refine⟨.inr rfl,⟨_,pL results58⟩,(show 0<46 by decide),BK,Sublist.refl _,?_⟩;exact .inr ⟨E++[(((t.af[i.toNat]'aa)).keys[a],((t.af[i.toNat]'aa)).kids[a])],⟨(iM t (i::r)).drop (a+1),by rw[oY,iX,append_assoc];rfl⟩,KL,lk⟩
  have fa:a=(t.pg i).keys.length:=(by rw[gB];have:=aH;simp at this;omega)
  refine cj [0,1,4,5] ?_;refine⟨(r,0,E,I),_,(by (show length r<length (i::r);simp)),(aM (h:=by repeat (first|exact trivial|refine⟨(by (repeat (first|exact fm|(apply fK;focus (first|rfl|(simp;done)|(rw[←gB,eV.next hL.oK])))|(apply fu;focus rfl)));done),?_⟩))),hL.tail,(by rw[oY,Yr v hL fa]),(fun x hx=>Nat.zero_le _),Z,rfl⟩
 have aiw:ls=[]:=hL.head.2 wR;refine CD.exit ?_;refine⟨.inl rfl,⟨_,pL results58⟩,(show 0<46 by decide),Sc,Sublist.refl _,?_⟩;exact .inl ⟨pre,by rw[WO,aiw];simp[iM],hj,lk⟩

open Go.Lib (compareBytes)
theorem adL(e:K×Int):(cE e).all V.one=true:=rfl
theorem aeH(k:K):fA (cK k)=true:=by simp[cK,fA,ij,yx]
theorem aeI(n:Int):fA (cI n)=true:=rfl
theorem aeJ(p:cQ):fA (cP p)=true:=by simp[cP,fA,ij,yx,uq aeH,uq aeI]
def TC(t:aE)(k:K):D:=.eo (.func 58) (JR t k)
noncomputable def uF(eB:K)(x:K×Int):Bool:=decide (0<eB.length∧bP eB x.1)
noncomputable def v8(t:aE)(h:Nat)(f eB:K):List (K×Int):=(mN t h f).takeWhile fun x=>!uF eB x
noncomputable def vW(t:aE)(h:Nat)(f eB:K):List (K×Int)×Int:=if gh t=0 then (if f.length≤100∧eB.length≤100 then (v8 t h f eB,0) else ([],1)) else ([],gh t)
theorem Hv{α:Type}{p:α→Bool}:∀{l:List α},(∀x∈l,p x=true)→l.takeWhile p=l
 | [],_=>rfl
 | x::l,h=>by rw[takeWhile_cons,if_pos (h x mem_cons_self),Hv fun y hy=>h y (mem_cons_of_mem _ hy)]
theorem OF{α:Type}{p:α→Bool}{y:α}{r:List α}(hy:p y=false):∀{l:List α},(∀x∈l,p x=true)→(l++y::r).takeWhile p=l
 | [],_=>by rw[nil_append,takeWhile_cons,if_neg (by rw[hy];decide)]
 | x::l,h=>by rw[cons_append,takeWhile_cons,if_pos (h x mem_cons_self),OF hy fun y hy=>h y (mem_cons_of_mem _ hy)]
def wc(b9 b5:Nat)(eB:K)(pre:List (K×Int))(Sc:List ag):Prop:=(∀x∈pre,uF eB x=false)∧∃ad cap So,bu 97 2 (pre.flatMap cE) pre.length ad cap So∧Sc=⟨b9,54,1,[.v (.slice ad pre.length cap)]⟩::⟨b5,49,1,[.list 1 (eB.flatMap cB) eB.length]⟩::So
def E9(b9 b5:Nat)(eB:K)(pre:List (K×Int))(Sc:List ag):Prop:=∃init y,pre=init++[y]∧uF eB y=true∧wc b9 b5 eB init Sc
theorem wc.ij{b9 b5:Nat}{eB:K}{pre:List (K×Int)}{Sc:List ag}(h:wc b9 b5 eB pre Sc):∀B∈Sc,fA B.cs=true:=by
 obtain⟨_,ad,cap,So,ho,rfl⟩:=h;intro B E;rcases mem_cons.1 E with rfl|E
 ·rfl
 rcases mem_cons.1 E with rfl|E
 ·simp[fA,V.ij,yx]
 rcases ho with ⟨_,_,_,_,rfl⟩|⟨b,_,_,_,rfl⟩
 ·cases E
 rw[mem_singleton] at E;subst E;exact uq yy pre
theorem E9.ij{b9 b5:Nat}{eB:K}{pre:List (K×Int)}{Sc:List ag}(h:E9 b9 b5 eB pre Sc):∀B∈Sc,fA B.cs=true:=by
 obtain⟨init,y,_,_,h⟩:=h;exact h.ij
def JS(b9 b5:Nat)(eB:K)(pre:List (K×Int))(y:K×Int)(Sc:List ag)(z:St):Prop:=wc b9 b5 eB pre Sc∧∃kD,z=⟨43,[(5,.v (.pointer (some ⟨b5,0,none⟩))),(9,.v (.pointer (some ⟨b9,0,none⟩))),(10,.v (.pointer (some ⟨kD,0,none⟩)))],⟨kD,97,2,cE y⟩::Sc⟩
theorem JS.ij{b9 b5:Nat}{eB:K}{pre:List (K×Int)}{y:K×Int}{Sc:List ag}{z:St}(h:JS b9 b5 eB pre y Sc z):(z.env.all fun p=>V.ij p.2)=true∧∀B∈z.S,fA B.cs=true:=by
 obtain⟨hj,kD,rfl⟩:=h;refine⟨rfl,fun B E=>?_⟩;rcases mem_cons.1 E with rfl|E
 ·exact yy y
 exact hj.ij B E
theorem abl{b9 b5:Nat}{t:aE}{h:Nat}{f eB:K}{Sc:List ag}{c d:Code}(he:(∃xs,xs=mN t h f∧wc b9 b5 eB xs Sc)∨(c=d∧∃pre,pre <+: mN t h f∧E9 b9 b5 eB pre Sc)):∃I,I=v8 t h f eB∧wc b9 b5 eB I Sc:=by
 rcases he with ⟨xs,rfl,hj⟩|⟨_,pre,⟨r,hr⟩,E,y,rfl,hy,hj⟩
 ·exact⟨_,(Hv fun x hx=>by rw[hj.1 x hx];rfl).symm,hj⟩
 refine⟨E,?_,hj⟩;unfold v8;rw[←hr,append_assoc,singleton_append];exact(OF (by rw[hy];rfl) fun x hx=>by rw[hj.1 x hx];rfl).symm
theorem acW(t:aE)(k:K):VC Tryz.prog G 34 [.agg (cT t),.list 1 (k.flatMap cB) k.length] [] (fun r S=>∃b2 b3,r = .eo (.func 58) [.v (.pointer (some ⟨b2,0,none⟩)),.v (.pointer (some ⟨b3,0,none⟩))]∧S=[⟨b3,49,1,[.list 1 (k.flatMap cB) k.length]⟩,⟨b2,46,2,cT t⟩]):=by
 refine VC.body func34 rfl ntmps34 aO fun X0 w0 aX=>?_;unfold cT;refine bX ?_;refine OD.box (ds:=[_,_]) an rfl rfl ot rfl rfl (fun b2=>?_);refine OD.box (ds:=[_]) an rfl rfl ot rfl rfl (fun b3=>?_);refine aj 6 [2,3] ?_;refine cM [4] ?_;refine aP 0 ?_ (h:=by exact(oO (ds:=[_,_]) rfl ⟨ot,ot,trivial⟩));refine bM ?_;refine aJ [_,_] ?_;exact⟨_,_,rfl,rfl⟩
theorem acX(t:aE)(k:K):VP Tryz.prog G 34 [.agg (cT t),.list 1 (k.flatMap cB) k.length] (TC t k):=VC.cover (acW t k) fun r S ⟨b2,b3,hr,hS⟩=>by
 subst hr;subst hS;exact aay ⟨Po (e:=46) (size:=2) (cs:=cT t) (mem_cons_of_mem _ mem_cons_self) gi.same,Po (e:=49) (size:=1) mem_cons_self gi.same,trivial⟩
theorem X2:(Tryz.prog.info? 97).map (fun i=>(i.zero,i.size,i.bytes))=some (some (.agg #[.slice none 0 0,.int .i64 0]),2,32):=by kernel_rfl
theorem acY(t:aE)(h:Nat)(hb:∀p∈t.af,p.keys.length≤maxLen∧p.kids.length≤maxLen)(hv:gh t=0→Valid t h)(f eB:K):VP Tryz.prog G 15 [.agg (cT t),.list 1 (f.flatMap cB) f.length,.list 1 (eB.flatMap cB) eB.length] (.dz [.list 2 ((vW t h f eB).1.flatMap cE) (vW t h f eB).1.length,.v (.int .i64 (vW t h f eB).2)]):=by
 refine VC.yI func15 rfl ntmps15 aO fun X0 w0 aX=>?_;have dr:maxLen=9223372036854775807:=rfl;have eZ:=oP (G:=G) t hb;have U:=acX (G:=G) t f;unfold cT at eZ U;unfold cT;refine bX ?_;refine OD.box (ds:=[_,_]) an rfl rfl ot rfl rfl (fun b3=>?_);refine OD.box (ds:=[_]) an rfl rfl ot rfl rfl (fun b5=>?_);refine aj 43 [1,3,5] ?_;refine cL [1,3,5,8] (eZ) ?_;refine ae [1,3,5,8,14] ?_;refine aq (fun az aG=>?_) (fun az aG=>?_)
 ·have hn:¬gh t=0:=(by simpa using az)
  refine ae [6,7] ?_;refine CD.wk (Wk.um (t:=6) (sz:=2) lk) ?_;refine aJ [] ?_;exact⟨by unfold vW;rw[if_neg hn];rfl,rfl⟩
 have hz:gh t=0:=(by simpa using az)
 have v:=hv hz;have TB:=Qb v f;refine aC 4 ?_;refine bS 19 (fun Z O=>?_) (fun Z O=>?_)
 ·refine aZ [1,3,5,23] ?_;refine ez ?_;exact z80
 refine aZ [1,3,5,23] ?_;refine aq (fun aH aU=>?_) (fun aH aU=>?_)
 ·exact z80
 have amH:f.length≤100∧eB.length≤100:=(by simp_all;omega)
 have hf1:f.length≤maxLen:=(by omega)
 refine bX ?_;refine OD.alloc (ds:=[_]) an rfl rfl zeroValue54 rfl (fun b9=>?_);refine aj 43 [1,3,5,9] ?_;refine CD.agS ?_;refine dw 2 ?_;refine dJ call34 (U) ?_;refine aj 43 [5,9,26] ?_;refine vj.wk (Wk.drop _ _ _ [⟨b9,54,1,[.v (.slice none 0 0)]⟩,⟨b5,49,1,[.list 1 (eB.flatMap cB) eB.length]⟩] (Sublist.cons_cons _ (Sublist.cons_cons _ (Sublist.cons _ (Sublist.refl _))))) ?_;refine vj.range ot call58 (abk t h v f hf1) (fun _=>rfl) abj (.exit 0) (.inr rfl) (wc b9 b5 eB) (E9 b9 b5 eB) (fun _ _ h=>h.ij) (fun _ _ h=>h.ij) ⟨(fun _ h=>by cases h),none,0,[],iA,rfl⟩ (JS b9 b5 eB) (fun _ _ _ _ h=>h.ij) ?_ ?_ ?_ (fun h=>by cases h)
 ·intro X1 W1 S1 l1 pre y Sc hJ hN;refine CI.region Lm rfl ?_;refine OD.alloc (ds:=[_,_]) an rfl rfl zeroValue97 rfl (fun kD=>?_);refine aN 0 [_,_] sizeOf97 ?_;refine OD.wk (Wk.dN (n:=43) (l':=[(5,_),(9,_),(10,_)]) (S':=(⟨kD,97,2,[_,_]⟩::Sc)) rfl rfl fb) ?_;refine OD.nil ?_;exact⟨rfl,hJ,kD,rfl⟩
 ·intro X1 W1 S1 l1 pre y Sc z hJ hN hz;obtain⟨⟨aR,ad,cap,So,ho,rfl⟩,kD,rfl⟩:=hz;unfold cE;refine CI.block ?_;refine CI.seq ?_;refine CI.seq ?_;refine CI.region Lm rfl ?_;refine bJ (dx 2) ?_;refine bJ qm ?_;refine bJ mz ?_;refine om_ ?_;refine OD.split (t:=31) lk (fun I=>?_) (fun I=>?_)
  ·have E:=I;(try simp only[V.mU,ne_eq] at E)
   refine bJ (cX 0) ?_;refine bJ (dx 0) ?_;refine bJ (dx 2) ?_;refine OD.gI gN rfl rfl rfl call35 (vM y.1 eB) ⟨ot,ot,trivial⟩ ?_;refine bJ mz ?_;refine bJ wz ?_;refine OD.wk (Wk.dN (n:=43) (l':=[(9,_),(10,_),(37,_)]) (S':=(⟨kD,97,2,[_,_]⟩::⟨b9,54,1,[_]⟩::⟨b5,49,1,[_]⟩::So)) rfl rfl fb) ?_;refine OD.nil ?_;refine CI.cond ot (fun aY=>?_) (fun aY=>?_)
   ·have bz:=aY
    (try simp only[V.mU,ne_eq] at bz)
    have fq:uF eB y=true:=(by unfold uF;simp_all[R5])
    refine CI.exit ?_;exact⟨rfl,_,Sublist.cons _ (Sublist.refl _),pre,y,rfl,fq,aR,ad,cap,So,ho,rfl⟩
   have bz:=aY
   (try simp only[V.mU,ne_eq] at bz)
   exact z31
  have E:=I;(try simp only[V.mU,ne_eq] at E)
  refine Ck ?_;refine Ck ?_;refine Ck ?_;refine Ck ?_;refine Ck ?_;refine bJ uM ?_;refine VQ [9,10,37] ?_;refine CI.JE ot jd ?_;exact z31
 intro W1 S1 D1 Sc fa;obtain⟨es,hes,aR,ad,cap,So,ho,rfl⟩:=abl fa;refine ae [6,7] ?_;refine CD.gd (t:=6) (Sq:=So) lk ho (cl R6 _) (dB (A:=[_,_])) ?_;refine CD.ret ?_;refine⟨rfl,(by simp[ij,fA,uq yy,yx,yy,uq aeJ,TC,JR]),(by intro B hB;simp only[mem_cons,not_mem_nil,or_false] at hB;rcases hB with rfl|rfl<;>simp[ij,fA,yx]),_,[],nil_sublist _,Ij results15 (yc aO lk) (yc aO lk),(by simp[ij,fA,uq yy]),?_⟩;rw[hes];exact⟨by unfold vW;rw[if_pos hz,if_pos ⟨by omega,by omega⟩],rfl⟩

end Go.Proofs.YtbcmjoaggammcaaGreatDoor.Tw
namespace Go.Proofs.YtbcmjoaggammcaaGreatDoor.Tw

open List
open Go.Proofs.Tryz
open Go.RowKit V Tr Pk
variable {α:Type} {i:Nat} {t:aE} {J:List D}
theorem Rw{g:α→List D}(hg:∀a,(g a).length=1){q:List α}{cap:Nat}(hi:i<q.length)(hc:q.length≤cap):((q.flatMap g).drop (eE cap (i+1) 1 0)).take ((q.length-(i+1))*1)=(q.drop (i+1)).flatMap g:=by
 unfold eE;by_cases h:cap=i+1
 ·have e:q.length=i+1:=(by omega)
  have e2:q.drop (i+1)=[]:=drop_of_length_le w4;rw[if_pos h,show q.length-(i+1)=0 from by omega,e2];simp
 rw[if_neg h,Nat.zero_add,uo hg,take_of_length_le];rw[cl hg,length_drop];exact Nat.le_refl _
theorem SJ{g:α→List D}(hg:∀a,(g a).length=1){q:List α}(hi:i<q.length):cY (q.flatMap g) (i*1) ((q.drop (i+1)).flatMap g)=(q.eraseIdx i).flatMap g++(q.flatMap g).drop (i*1+((q.drop (i+1)).flatMap g).length):=by
 rw[vw _ _ _ (by rw[cl hg,cl hg,length_drop];omega),sQ hg,eraseIdx_eq_take_drop_succ,flatMap_append]
variable {G:List (Nat×List Value)}
theorem Xd:(Tryz.prog.info? 49).map (fun i=>i.size)=some 1:=by kernel_rfl
theorem G2(q:List K)(i cap b:Nat)(hi:i<q.length)(hc:q.length≤cap)(hm:cap≤maxLen)(hs:q.length≤1000):VC Tryz.prog G 128 [.v (.slice (some ⟨b,0,none⟩) q.length cap),.v (.int .i64 (i:Nat)),.v (.int .i64 ((i+1:Nat):Int))] [⟨b,49,cap*1,q.flatMap cK⟩] (fun r S=>r = .v (.slice (some ⟨b,0,none⟩) (q.length-1) cap)∧S=[⟨b,49,cap*1,(q.eraseIdx i).flatMap cK⟩]):=by
 refine VC.body func128 rfl ntmps128 aO fun X0 w0 aX=>?_;refine ae [0,1,2] ?_;refine cM [0,1,2] ?_;refine aP 5 ?_ (h:=by exact(Nb rfl ot ot ot ot runUnderlying90 sizeOf49 w4 w4 hc));refine jP ?_;refine ae [0,1,2,16] ?_;refine aq (fun az aG=>?_) (fun az aG=>?_)
 ·exact absurd az tF
 refine ae [0,1,2,7] ?_;refine CD.seq ?_;refine fE 7 (ap (eraseIdx _ 0)) ?_ (fun _ h=>(Sublist.map _ (eraseIdx_sublist _ 0)).subset h);refine ax 0 rfl bg ?_;refine ax 1 rfl bg ?_;refine ax 2 rfl (ek (l:=0) (h:=i) rfl ot trivial ⟨_,ot⟩ K3) ?_;refine ax 3 rfl bg ?_;refine ax 4 rfl bg ?_;refine ax 5 rfl (ek (l:=i+1) rfl ot ⟨_,ot⟩ trivial tD) ?_;refine dg.later rfl ?_;refine AD.one (i:=6) ay ?_;refine bf.Pd (n:=i) (m:=q.length-(i+1)) (k:=0) (new:=(q.drop (i+1)).flatMap cK) (cs':=(q.eraseIdx i).flatMap cK++(q.flatMap cK).drop (i*1+((q.drop (i+1)).flatMap cK).length)) rfl an rfl rfl underlying90 Xd ot rfl rfl ot (Rw fW hi hc) (by rw[cl fW,length_drop]) (sV oW _) w4 (by show _≤(q.flatMap cK).length;rw[cl fW];omega) (SJ fW hi) gZ ?_;rw[show i+(q.length-(i+1))=q.length-1 from by omega];refine ey ?_;refine aZ [0,7] ?_;refine aC 4 ?_;refine bJ (ek (l:=q.length-1) (h:=q.length) rfl ot ⟨_,ot⟩ ⟨_,ot⟩ (by first|exact oe (fun h=>by cases h) runUnderlying90 sizeOf49 w4|exact x8 (fun h=>by cases h) (fun h=>by cases h) runUnderlying90 sizeOf49 w4 w4|exact nE (fun h=>by cases h) (fun h=>by cases h) runUnderlying90 sizeOf49 w4 w4)) ?_;refine OD.shrink (k:=0) (cs':=(q.eraseIdx i).flatMap cK) rfl (prefix_append _ _) ?_;refine OD.clear (k:=0) (sz:=1) an rfl rfl underlying90 zeroValue49 rfl ay ot rfl rfl (fun h0=>?_) ?_
 ·have h3:eE cap (q.length-1) 1 0=(q.length-1)*1:=(by unfold eE;rw[if_neg w4];omega)
  rw[h3];refine⟨?_,?_⟩
  ·show((q.eraseIdx i).flatMap cK).length≤_;rw[cl fW,length_eraseIdx_of_lt hi];exact Nat.le_refl _
  show _≤cap*1;omega
 refine aj 33 [0] ?_;refine ae [6] ?_;refine aJ [_] ?_;exact⟨rfl,rfl⟩
theorem Xe:(Tryz.prog.info? 3).map (fun i=>i.size)=some 1:=by kernel_rfl
theorem Nu(q:List Int)(i cap b:Nat)(hi:i<q.length)(hc:q.length≤cap)(hm:cap≤maxLen)(hs:q.length≤1000):VC Tryz.prog G 129 [.v (.slice (some ⟨b,0,none⟩) q.length cap),.v (.int .i64 (i:Nat)),.v (.int .i64 ((i+1:Nat):Int))] [⟨b,3,cap*1,q.flatMap cI⟩] (fun r S=>r = .v (.slice (some ⟨b,0,none⟩) (q.length-1) cap)∧S=[⟨b,3,cap*1,(q.eraseIdx i).flatMap cI⟩]):=by
 refine VC.body func129 rfl ntmps129 aO fun X0 w0 aX=>?_;refine ae [0,1,2] ?_;refine cM [0,1,2] ?_;refine aP 5 ?_ (h:=by exact(Nb rfl ot ot ot ot runUnderlying91 sizeOf3 w4 w4 hc));refine jP ?_;refine ae [0,1,2,16] ?_;refine aq (fun az aG=>?_) (fun az aG=>?_)
 ·exact absurd az tF
 refine ae [0,1,2,7] ?_;refine CD.seq ?_;refine fE 7 (ap (eraseIdx _ 0)) ?_ (fun _ h=>(Sublist.map _ (eraseIdx_sublist _ 0)).subset h);refine ax 0 rfl bg ?_;refine ax 1 rfl bg ?_;refine ax 2 rfl (ek (l:=0) (h:=i) rfl ot trivial ⟨_,ot⟩ K4) ?_;refine ax 3 rfl bg ?_;refine ax 4 rfl bg ?_;refine ax 5 rfl (ek (l:=i+1) rfl ot ⟨_,ot⟩ trivial tE) ?_;refine dg.later rfl ?_;refine AD.one (i:=6) ay ?_;refine bf.Pd (n:=i) (m:=q.length-(i+1)) (k:=0) (new:=(q.drop (i+1)).flatMap cI) (cs':=(q.eraseIdx i).flatMap cI++(q.flatMap cI).drop (i*1+((q.drop (i+1)).flatMap cI).length)) rfl an rfl rfl underlying91 Xe ot rfl rfl ot (Rw ev hi hc) (by rw[cl ev,length_drop]) (sV nf _) w4 (by show _≤(q.flatMap cI).length;rw[cl ev];omega) (SJ ev hi) gZ ?_;rw[show i+(q.length-(i+1))=q.length-1 from by omega];refine ey ?_;refine aZ [0,7] ?_;refine aC 4 ?_;refine bJ (ek (l:=q.length-1) (h:=q.length) rfl ot ⟨_,ot⟩ ⟨_,ot⟩ (by first|exact oe (fun h=>by cases h) runUnderlying91 sizeOf3 w4|exact x8 (fun h=>by cases h) (fun h=>by cases h) runUnderlying91 sizeOf3 w4 w4|exact nE (fun h=>by cases h) (fun h=>by cases h) runUnderlying91 sizeOf3 w4 w4)) ?_;refine OD.shrink (k:=0) (cs':=(q.eraseIdx i).flatMap cI) rfl (prefix_append _ _) ?_;refine OD.clear (k:=0) (sz:=1) an rfl rfl underlying91 zeroValue3 rfl ay ot rfl rfl (fun h0=>?_) ?_
 ·have h3:eE cap (q.length-1) 1 0=(q.length-1)*1:=(by unfold eE;rw[if_neg w4];omega)
  rw[h3];refine⟨?_,?_⟩
  ·show((q.eraseIdx i).flatMap cI).length≤_;rw[cl ev,length_eraseIdx_of_lt hi];exact Nat.le_refl _
  show _≤cap*1;omega
 refine aj 33 [0] ?_;refine ae [6] ?_;refine aJ [_] ?_;exact⟨rfl,rfl⟩

theorem vv{α:Type}{g:α→List D}{sz:Nat}(hg:∀a,(g a).length=sz){a':α}{c:Nat}{d:D}(hc:c<sz):∀{L:List α} {j:Nat} (hj:j<L.length),g a'=(g L[j]).set c d→(L.flatMap g).set (j*sz+c) d=(L.set j a').flatMap g
 | a::L,0,_,h=>by
  simp only[getElem_cons_zero] at h;rw[flatMap_cons,set_cons_zero,flatMap_cons,h,set_append_left _ _ (by rw[hg];omega),Nat.zero_mul,Nat.zero_add]
 | a::L,j+1,hj,h=>by
  have E:=vv hg hc (L:=L) (j:=j) (by simpa using hj) oB;have e:(j+1)*sz+c=sz+(j*sz+c):=(by rw[Nat.succ_mul];omega)
  rw[flatMap_cons,set_cons_succ,flatMap_cons,←E,set_append_right _ _ (by rw[hg];omega),hg,e,show sz+(j*sz+c)-sz=j*sz+c from by omega]
theorem SK{L:List aA}(hL:L.map aA.p=t.af){i:Int}(hi:0≤i∧i<t.af.length)(hj:i.toNat<L.length):L[i.toNat].p=t.pg i:=by
 rw[uK hi];have h:(L.map aA.p)[i.toNat]?=some L[i.toNat].p:=(by rw[getElem?_map,getElem?_eq_getElem hj];rfl)
 rw[hL,getElem?_eq_getElem w4] at h;exact(Option.some.inj h).symm
def vn:aE:=⟨[],0⟩
def BL(te:aE×Int)(r:D)(S:List ag):Prop:=∃r',r = .dz [r',.v (.int .i64 te.2)]∧FB te.1 r' S
theorem ym(e:Int):BL (vn,e) (.dz [.agg [.v (.slice none 0 0),.v (.int .i64 0)],.v (.int .i64 e)]) []:=⟨_,rfl,[],none,0,[],rfl,iA,(fun o h=>by cases h),rfl,rfl⟩
theorem FB.view{r:D}{S:List ag}(h:FB t r S):View S r (.agg (cT t)):=by
 obtain⟨L,ad,cap,Sx,rfl,ho,aR,hL,rfl⟩:=h;have:=Jh (root:=t.root) ho aR (fun B E=>E);rw[hL] at this;exact this
theorem BL.view{te:aE×Int}{r:D}{S:List ag}(h:BL te r S):View S r (.dz [.agg (cT te.1),.v (.int .i64 te.2)]):=by
 obtain⟨r',rfl,h⟩:=h;exact D6 ⟨h.view,eM,trivial⟩
noncomputable def qG(t:aE)(k:K)(h:Nat):aE×Int:=if kQ t k=0 then (if gS t k h=true then (gp t h k,0) else (vn,8)) else (vn,kQ t k)
theorem OG{k:K}(h:kQ t k=0):gh t=0∧nP k=true:=by
 have hc:gh t=0:=Classical.byContradiction fun e=>by rw[D3 e] at h;exact e h
 refine⟨hc,?_⟩;cases hq:nP k with
 | true=>rfl
 | false=>rw[DI hc hq] at h;cases h
theorem ZQ(t:aE)(h:Nat)(k:K)(hb:∀p∈t.af,p.keys.length≤maxLen∧p.kids.length≤maxLen)(hv:gh t=0→Valid t h):VC Tryz.prog G 93 [.agg [.list 5 (t.af.flatMap cP) t.af.length,.v (.int .i64 t.root)],.list 1 (k.flatMap cB) k.length] [] (BL (qG t k h)):=by
 refine VC.body func93 rfl ntmps93 aO fun X0 w0 aX=>?_;have eZ:=G1 (G:=G) t k hb;unfold cT at eZ;have hcT:cT t=[.list 5 (t.af.flatMap cP) t.af.length,.v (.int .i64 t.root)]:=rfl;have dr:maxLen=9223372036854775807:=rfl;refine bX ?_;refine OD.box (ds:=[_,_]) an rfl rfl ot rfl rfl (fun b2=>?_);refine OD.alloc (ds:=[_,_]) an rfl rfl zeroValue46 rfl (fun b4=>?_);refine aj 58 [1,2,4] ?_;refine cL [1,2,4,6] (eZ) ?_;refine ae [1,2,4,6,16] ?_;refine aq (fun az aG=>?_) (fun az aG=>?_)
 ·have hn:¬kQ t k=0:=(by simpa using az)
  refine aC 2 ?_;refine aN 0 [_,_] sizeOf46 ?_;refine aj 58 [4,5] ?_;refine aJ [] ?_;unfold qG;rw[if_neg hn];exact ym _
 have hz:kQ t k=0:=(by simpa using az)
 obtain⟨hc,MQ⟩:=OG hz;have v:=hv hc;have BM:=H6 MQ;have fL:=qx (G:=G) t h v k w4 (DF v k);obtain⟨q1,E⟩:=v.leaf k;refine aC 1 ?_;refine OD.call an rfl rfl rfl call115 (EP t h v) ⟨ot,trivial⟩ (eH _) ?_;rintro _ _ ⟨L,ad,cap,Sx,rfl,ee,aR,hL,rfl⟩;refine OD.perm (dY (A:=[_,_])) ?_;refine OD.alloc (ds:=[_,_]) an rfl rfl zeroValue46 rfl (fun b7=>?_);refine aN 0 [_,_] sizeOf46 ?_;refine aj 58 [1,4,7] ?_;refine cM [4,7,8,9,10] ?_;refine mW 2 ?_;refine yY (fL) (ha:=by exact⟨⟨_,ot,by have:=Jh (root:=t.root) ee aR (fun B hB=>mem_cons_of_mem ⟨b7,46,2,[.v (.slice ad L.length cap),.v (.int .i64 t.root)]⟩ (mem_cons_of_mem ⟨b4,46,2,[.v (.slice none 0 0),.v (.int .i64 0)]⟩ (mem_cons_of_mem ⟨b2,46,2,[.list 5 (t.af.flatMap cP) t.af.length,.v (.int .i64 t.root)]⟩ hB)));rw[hL] at this;exact this⟩,⟨_,ot,eM⟩,trivial⟩) (K:=?_);refine bM ?_;refine ae [4,7,8,9,29] ?_;refine aq (fun aH aU=>?_) (fun aH aU=>?_)
 ·have iG:gS t k h=false:=(by simpa using aH)
  refine aC 1 ?_;refine aN 1 [_,_] sizeOf46 ?_;refine aj 58 [4,5] ?_;refine aJ [] ?_;unfold qG;rw[if_pos hz,if_neg wQ];exact ym _
 have iG:gS t k h=true:=(by simpa using aH)
 obtain⟨ha,Mn⟩:=(DE v k).1 iG;have po:=v.page _ (jn q1);have hle:=po.leaf E;have WM:=po.eL;have q9:L.length=t.af.length:=(by rw[←hL,length_map])
 have hj:(aI t k h t.root).toNat<L.length:=(by omega)
 have O:=SK hL q1 hj;obtain⟨bx,rfl,fO,qS,rfl⟩:=ee.pos w4;have U:=aR _ (getElem_mem hj);obtain⟨o,ho⟩:∃o,o=L[(aI t k h t.root).toNat]:=⟨_,rfl⟩
 rw[←ho] at U O;rcases o with ⟨p,ak,ck,sk,ai,ci,si⟩
 have gB:p=t.pg (aI t k h t.root):=O;obtain⟨dI,Z⟩:om p.keys ak ck sk∧lp p.kids ai ci si:=U;rw[←gB] at ha hle WM;obtain⟨bk,rfl,dU,wT,rfl⟩:=dI.pos w4;obtain⟨bi,rfl,fi,FX,rfl⟩:=Z.pos w4;have I:(L.flatMap bO).Perm (⟨bk,49,ck*1,flatMap cK p.keys⟩::⟨bi,3,ci*1,flatMap cI p.kids⟩::((L.eraseIdx (aI t k h t.root).toNat).flatMap bO)):=(by have:=yl bO hj;rw[←ho] at this;exact this)
 refine CD.perm (Perm.cons _ (Perm.cons _ (Perm.cons _ (Perm.cons _ I)))) ?_;rw[gB] at ha;have ha:(aL (t.pg (aI t k h t.root)) k)<p.keys.length:=(by rw[gB];exact ha)
 have pu:(aL (t.pg (aI t k h t.root)) k)<p.kids.length:=(by omega)
 have hid:=dU;clear dI Z;refine cM [4,7,9,11] ?_;refine aP 3 ?_ (h:=by exact(dy 5 (h:=by first|exact .l (j:=(aI t k h t.root).toNat) (Int.toNat_of_nonneg q1.1).symm hj|exact .r (j:=(aI t k h t.root).toNat) (Int.toNat_of_nonneg q1.1).symm hj)));refine bM ?_;refine CD.seq ?_;refine fE 21 (ap (take 3 _)) ?_ (fun _ h=>(Sublist.map _ (take_sublist _ _)).subset h);refine ax 0 rfl bg ?_;refine ax 1 rfl bg ?_;refine ax 2 rfl bg ?_;refine ax 3 rfl lA ?_;refine ax 4 rfl (cX 1) ?_;refine ax 6 rfl bg ?_;refine ax 7 rfl bg ?_;refine ax 8 rfl (cW (r:=.int .i64 (((aL (t.pg (aI t k h t.root)) k)+1:Nat):Int)) rfl ot bC (jW (by rw[show(((aL (t.pg (aI t k h t.root)) k):Nat):Int)+1=(((aL (t.pg (aI t k h t.root)) k)+1:Nat):Int) from rfl];exact wrap_i64 w4 w4))) ?_;refine ax 10 rfl bg ?_;refine ax 11 rfl lA ?_;refine ax 12 rfl (cX 2) ?_;refine ax 14 rfl bg ?_;refine ax 15 rfl bg ?_;refine ax 16 rfl (cW (r:=.int .i64 (((aL (t.pg (aI t k h t.root)) k)+1:Nat):Int)) rfl ot bC (jW (by rw[show(((aL (t.pg (aI t k h t.root)) k):Nat):Int)+1=(((aL (t.pg (aI t k h t.root)) k)+1:Nat):Int) from rfl];exact wrap_i64 w4 w4))) ?_;refine dg.later rfl ?_;refine AD.two (i:=5) (j:=13) ay ?_ ?_
 ·first|refine at_ rfl (cH (mk:=Op.load 90) rfl ot (kN (k:=3) (j:=1) (d:=.v (.slice (some ⟨bk,0,none⟩) p.keys.length ck)) (ls:=L) fV rfl rfl rfl isAgg90 hj qQ)) ?_|refine at_ rfl (cH (mk:=Op.load 90) rfl ot (kN (k:=4) (j:=1) (d:=.v (.slice (some ⟨bk,0,none⟩) p.keys.length ck)) (ls:=L) fV rfl rfl rfl isAgg90 hj qQ)) ?_
  refine AD.two (i:=9) (j:=13) ay ?_ ?_
  ·refine bf.call rfl an rfl rfl rfl call128 (G2 p.keys (aL (t.pg (aI t k h t.root)) k) ck bk ha dU wT w4) ⟨ot,ot,ot,trivial⟩ (jU (k:=4) rfl) gZ ?_;rintro _ _ ⟨rfl,rfl⟩;refine AD.perm (perm_middle (l₁:=[_,_,_,_])).symm ?_;refine AD.one (i:=13) ay ?_;first|refine at_ rfl (cH (mk:=Op.load 91) rfl ot (kN (k:=3) (j:=2) (d:=.v (.slice (some ⟨bi,0,none⟩) p.kids.length ci)) (ls:=L) fV rfl rfl rfl isAgg91 hj qQ)) ?_|refine at_ rfl (cH (mk:=Op.load 91) rfl ot (kN (k:=4) (j:=2) (d:=.v (.slice (some ⟨bi,0,none⟩) p.kids.length ci)) (ls:=L) fV rfl rfl rfl isAgg91 hj qQ)) ?_
   exact z8
  first|refine at_ rfl (cH (mk:=Op.load 91) rfl ot (kN (k:=3) (j:=2) (d:=.v (.slice (some ⟨bi,0,none⟩) p.kids.length ci)) (ls:=L) fV rfl rfl rfl isAgg91 hj qQ)) ?_|refine at_ rfl (cH (mk:=Op.load 91) rfl ot (kN (k:=4) (j:=2) (d:=.v (.slice (some ⟨bi,0,none⟩) p.kids.length ci)) (ls:=L) fV rfl rfl rfl isAgg91 hj qQ)) ?_
  refine AD.one (i:=9) ay ?_;refine bf.call rfl an rfl rfl rfl call128 (G2 p.keys (aL (t.pg (aI t k h t.root)) k) ck bk ha dU wT w4) ⟨ot,ot,ot,trivial⟩ (jU (k:=4) rfl) gZ ?_;rintro _ _ ⟨rfl,rfl⟩;refine AD.perm (perm_middle (l₁:=[_,_,_,_])).symm ?_;exact z8
 first|refine at_ rfl (cH (mk:=Op.load 91) rfl ot (kN (k:=3) (j:=2) (d:=.v (.slice (some ⟨bi,0,none⟩) p.kids.length ci)) (ls:=L) fV rfl rfl rfl isAgg91 hj qQ)) ?_|refine at_ rfl (cH (mk:=Op.load 91) rfl ot (kN (k:=4) (j:=2) (d:=.v (.slice (some ⟨bi,0,none⟩) p.kids.length ci)) (ls:=L) fV rfl rfl rfl isAgg91 hj qQ)) ?_
 refine AD.one (i:=5) ay ?_;first|refine at_ rfl (cH (mk:=Op.load 90) rfl ot (kN (k:=3) (j:=1) (d:=.v (.slice (some ⟨bk,0,none⟩) p.keys.length ck)) (ls:=L) fV rfl rfl rfl isAgg90 hj qQ)) ?_|refine at_ rfl (cH (mk:=Op.load 90) rfl ot (kN (k:=4) (j:=1) (d:=.v (.slice (some ⟨bk,0,none⟩) p.keys.length ck)) (ls:=L) fV rfl rfl rfl isAgg90 hj qQ)) ?_
 refine AD.one (i:=9) ay ?_;refine bf.call rfl an rfl rfl rfl call128 (G2 p.keys (aL (t.pg (aI t k h t.root)) k) ck bk ha dU wT w4) ⟨ot,ot,ot,trivial⟩ (jU (k:=4) rfl) gZ ?_;rintro _ _ ⟨rfl,rfl⟩;refine AD.perm (perm_middle (l₁:=[_,_,_,_])).symm ?_;refine AD.one (i:=17) ay ?_;refine bf.call rfl an rfl rfl rfl call129 (Nu p.kids (aL (t.pg (aI t k h t.root)) k) ci bi pu fi FX w4) ⟨ot,ot,ot,trivial⟩ (jU (k:=5) rfl) gZ ?_;rintro _ _ ⟨rfl,rfl⟩;refine AD.perm (perm_middle (l₁:=[_,_,_,_,_])).symm ?_;refine cr 18 rfl lA ?_;refine cr 19 rfl (cX 1) ?_;refine AD.one (i:=20) ay ?_
 refine bf.storeAt (k:=3) (cs':=flatMap gO (L.set (aI t k h t.root).toNat (⟨{p with keys:=(p.keys.eraseIdx (aL (t.pg (aI t k h t.root)) k))},some ⟨bk,0,none⟩,ck,[⟨bk,49,ck*1,flatMap cK (p.keys.eraseIdx (aL (t.pg (aI t k h t.root)) k))⟩],some ⟨bi,0,none⟩,ci,[⟨bi,3,ci*1,flatMap cI p.kids⟩]⟩:aA))) rfl an rfl rfl ot rfl rfl ot rfl rfl sizeOf90 rfl (by show 0+(aI t k h t.root).toNat*5+1+1≤(flatMap gO L).length;rw[cl fV];omega) (by show(L.flatMap gO).set (0+(aI t k h t.root).toNat*5+1) _=_;rw[Nat.zero_add];exact vv fV w7 hj (by rw[←ho];show gO (⟨{p with keys:=(p.keys.eraseIdx (aL (t.pg (aI t k h t.root)) k))},some ⟨bk,0,none⟩,ck,[⟨bk,49,ck*1,flatMap cK (p.keys.eraseIdx (aL (t.pg (aI t k h t.root)) k))⟩],some ⟨bi,0,none⟩,ci,[⟨bi,3,ci*1,flatMap cI p.kids⟩]⟩:aA)=(gO (⟨p,some ⟨bk,0,none⟩,ck,[⟨bk,49,ck*1,flatMap cK p.keys⟩],some ⟨bi,0,none⟩,ci,[⟨bi,3,ci*1,flatMap cI p.kids⟩]⟩:aA)).set 1 _;unfold gO;rw[length_eraseIdx_of_lt ha];rfl)) gZ ?_;refine ey ?_;refine aD 2 ?_
 refine OD.storeAt (k:=3) (cs':=flatMap gO (L.set (aI t k h t.root).toNat (⟨(j7 p (aL (t.pg (aI t k h t.root)) k)),some ⟨bk,0,none⟩,ck,[⟨bk,49,ck*1,flatMap cK (p.keys.eraseIdx (aL (t.pg (aI t k h t.root)) k))⟩],some ⟨bi,0,none⟩,ci,[⟨bi,3,ci*1,flatMap cI (p.kids.eraseIdx (aL (t.pg (aI t k h t.root)) k))⟩]⟩:aA))) an rfl rfl ot rfl rfl ot rfl rfl sizeOf91 rfl (by show 0+(aI t k h t.root).toNat*5+2+1≤(flatMap gO (L.set (aI t k h t.root).toNat (⟨{p with keys:=(p.keys.eraseIdx (aL (t.pg (aI t k h t.root)) k))},some ⟨bk,0,none⟩,ck,[⟨bk,49,ck*1,flatMap cK (p.keys.eraseIdx (aL (t.pg (aI t k h t.root)) k))⟩],some ⟨bi,0,none⟩,ci,[⟨bi,3,ci*1,flatMap cI p.kids⟩]⟩:aA))).length;rw[cl fV,length_set];omega) (by show(flatMap gO (L.set (aI t k h t.root).toNat (⟨{p with keys:=(p.keys.eraseIdx (aL (t.pg (aI t k h t.root)) k))},some ⟨bk,0,none⟩,ck,[⟨bk,49,ck*1,flatMap cK (p.keys.eraseIdx (aL (t.pg (aI t k h t.root)) k))⟩],some ⟨bi,0,none⟩,ci,[⟨bi,3,ci*1,flatMap cI p.kids⟩]⟩:aA))).set (0+(aI t k h t.root).toNat*5+2) _=_;rw[Nat.zero_add,vv fV (a':=(⟨(j7 p (aL (t.pg (aI t k h t.root)) k)),some ⟨bk,0,none⟩,ck,[⟨bk,49,ck*1,flatMap cK (p.keys.eraseIdx (aL (t.pg (aI t k h t.root)) k))⟩],some ⟨bi,0,none⟩,ci,[⟨bi,3,ci*1,flatMap cI (p.kids.eraseIdx (aL (t.pg (aI t k h t.root)) k))⟩]⟩:aA)) w7 wM (by rw[getElem_set_self];show gO (⟨(j7 p (aL (t.pg (aI t k h t.root)) k)),some ⟨bk,0,none⟩,ck,[⟨bk,49,ck*1,flatMap cK (p.keys.eraseIdx (aL (t.pg (aI t k h t.root)) k))⟩],some ⟨bi,0,none⟩,ci,[⟨bi,3,ci*1,flatMap cI (p.kids.eraseIdx (aL (t.pg (aI t k h t.root)) k))⟩]⟩:aA)=(gO (⟨{p with keys:=(p.keys.eraseIdx (aL (t.pg (aI t k h t.root)) k))},some ⟨bk,0,none⟩,ck,[⟨bk,49,ck*1,flatMap cK (p.keys.eraseIdx (aL (t.pg (aI t k h t.root)) k))⟩],some ⟨bi,0,none⟩,ci,[⟨bi,3,ci*1,flatMap cI p.kids⟩]⟩:aA)).set 2 _;unfold gO j7;simp only[];rw[length_eraseIdx_of_lt pu];rfl),set_set]) ?_
 have vc:(⟨bk,49,ck*1,flatMap cK (p.keys.eraseIdx (aL (t.pg (aI t k h t.root)) k))⟩::⟨bi,3,ci*1,flatMap cI (p.kids.eraseIdx (aL (t.pg (aI t k h t.root)) k))⟩::((L.eraseIdx (aI t k h t.root).toNat).flatMap bO)).Perm ((L.set (aI t k h t.root).toNat (⟨(j7 p (aL (t.pg (aI t k h t.root)) k)),some ⟨bk,0,none⟩,ck,[⟨bk,49,ck*1,flatMap cK (p.keys.eraseIdx (aL (t.pg (aI t k h t.root)) k))⟩],some ⟨bi,0,none⟩,ci,[⟨bi,3,ci*1,flatMap cI (p.kids.eraseIdx (aL (t.pg (aI t k h t.root)) k))⟩]⟩:aA)).flatMap bO):=(qt bO hj (⟨(j7 p (aL (t.pg (aI t k h t.root)) k)),some ⟨bk,0,none⟩,ck,[⟨bk,49,ck*1,flatMap cK (p.keys.eraseIdx (aL (t.pg (aI t k h t.root)) k))⟩],some ⟨bi,0,none⟩,ci,[⟨bi,3,ci*1,flatMap cI (p.kids.eraseIdx (aL (t.pg (aI t k h t.root)) k))⟩]⟩:aA)).symm;refine OD.perm (Perm.cons _ (Perm.cons _ (Perm.cons _ (Perm.cons _ vc)))) ?_;refine aj 58 [4,7] ?_;refine aC 1 ?_;refine aN 1 [_,_] sizeOf46 ?_;refine aj 58 [4,5] ?_
 refine aJ ([⟨bx,93,cap*5,flatMap gO (L.set (aI t k h t.root).toNat (⟨(j7 p (aL (t.pg (aI t k h t.root)) k)),some ⟨bk,0,none⟩,ck,[⟨bk,49,ck*1,flatMap cK (p.keys.eraseIdx (aL (t.pg (aI t k h t.root)) k))⟩],some ⟨bi,0,none⟩,ci,[⟨bi,3,ci*1,flatMap cI (p.kids.eraseIdx (aL (t.pg (aI t k h t.root)) k))⟩]⟩:aA))⟩]++(L.set (aI t k h t.root).toNat (⟨(j7 p (aL (t.pg (aI t k h t.root)) k)),some ⟨bk,0,none⟩,ck,[⟨bk,49,ck*1,flatMap cK (p.keys.eraseIdx (aL (t.pg (aI t k h t.root)) k))⟩],some ⟨bi,0,none⟩,ci,[⟨bi,3,ci*1,flatMap cI (p.kids.eraseIdx (aL (t.pg (aI t k h t.root)) k))⟩]⟩:aA)).flatMap bO) ?_;unfold qG;rw[if_pos hz,if_pos iG];refine⟨_,rfl,L.set (aI t k h t.root).toNat (⟨(j7 p (aL (t.pg (aI t k h t.root)) k)),some ⟨bk,0,none⟩,ck,[⟨bk,49,ck*1,flatMap cK (p.keys.eraseIdx (aL (t.pg (aI t k h t.root)) k))⟩],some ⟨bi,0,none⟩,ci,[⟨bi,3,ci*1,flatMap cI (p.kids.eraseIdx (aL (t.pg (aI t k h t.root)) k))⟩]⟩:aA),some ⟨bx,0,none⟩,cap,_,by rw[length_set];rfl,bD qP qS,fun x hx=>?_,?_,rfl⟩
 ·rcases mem_or_eq_of_mem_set hx with hx|rfl
  ·exact aR x hx
  exact⟨bD (by show(p.keys.eraseIdx (aL (t.pg (aI t k h t.root)) k)).length≤ck;rw[length_eraseIdx_of_lt ha];omega) wT,bD (by show(p.kids.eraseIdx (aL (t.pg (aI t k h t.root)) k)).length≤ci;rw[length_eraseIdx_of_lt pu];omega) FX⟩
 rw[map_set,hL];show _=t.af.set (aI t k h t.root).toNat (j7 (t.pg (aI t k h t.root)) (aL (t.pg (aI t k h t.root)) k));rw[←gB]
theorem ZR(t:aE)(h:Nat)(k:K)(hb:∀p∈t.af,p.keys.length≤maxLen∧p.kids.length≤maxLen)(E:gh t=0→Valid t h):VP Tryz.prog G 93 [.agg (cT t),.list 1 (k.flatMap cB) k.length] (.dz [.agg (cT (qG t k h).1),.v (.int .i64 (qG t k h).2)]):=(ZQ t h k hb E).cover fun r S hr=>hr.view

def UE(L:List aA)(b:Nat)(root:Int)(j:Nat)(p:cQ)(r:D)(S:List ag):Prop:=r = .dz [.list 1 ((iT p).flatMap cB) (iT p).length,.v (.int .i64 (L.length:Nat))]∧∃L' ad cap Sx,tq L' ad cap Sx∧(∀o∈L',qp o)∧L'.map aA.p=(L.map aA.p).set j (bn p L.length)++[bp p]∧S=⟨b,46,2,[.v (.slice ad (length L') cap),.v (.int .i64 root)]⟩::(Sx++L'.flatMap bO)
theorem xQ:(Tryz.prog.info? 93).map (fun i=>(i.zero,i.size,i.bytes))=some (some (.agg #[.bool false,.slice none 0 0,.slice none 0 0,.slice none 0 0,.int .i64 0]),5,88):=by kernel_rfl
theorem abm(L:List aA)(b:Nat)(root i:Int)(ad:Option Addr)(cap:Nat)(Sx:List ag)(hi:0≤i∧i<L.length)(hn:L.length≤10000)(ee:tq L ad cap Sx)(aR:∀o∈L,qp o)(h5:(L[i.toNat]'w4).p.keys.length=5)(dU:(L[i.toNat]'w4).p.leaf=true→(L[i.toNat]'w4).p.kids.length=5)(xH:(L[i.toNat]'w4).p.leaf=false→(L[i.toNat]'w4).p.kids.length=6)(GD:∀k∈(L[i.toNat]'w4).p.keys,k.length≤100)(hh:(L[i.toNat]'w4).p.high.length≤100) :
 VC Tryz.prog G 118 [.v (.pointer (some ⟨b,0,none⟩)),.v (.int .i64 i)] (⟨b,46,2,[.v (.slice ad L.length cap),.v (.int .i64 root)]⟩::(Sx++L.flatMap bO)) (UE L b root i.toNat (L[i.toNat]'w4).p):=by
 refine VC.body func118 rfl ntmps118 aO fun X0 w0 aX=>?_;have dr:maxLen=9223372036854775807:=rfl;have hj:i.toNat<L.length:=(by omega)
 obtain⟨bx,rfl,fO,qS,rfl⟩:=ee.pos w4;have xw:=aR _ (getElem_mem hj);obtain⟨o,ho⟩:∃o,o=L[i.toNat]:=⟨_,rfl⟩
 rw[←ho] at xw h5 dU xH GD hh ⊢;rcases o with ⟨p,ak,ck,sk,ai,ci,si⟩
 obtain⟨dI,jS⟩:om p.keys ak ck sk∧lp p.kids ai ci si:=xw;change p.keys.length=5 at h5;change p.leaf=true→p.kids.length=5 at dU;change p.leaf=false→p.kids.length=6 at xH;change ∀k∈p.keys,k.length≤100 at GD;change p.high.length≤100 at hh;have JT:(L.flatMap bO).Perm (sk++(si++((L.eraseIdx i.toNat).flatMap bO))):=(by have:=yl bO hj;rw[←ho] at this;exact this.trans (by rw[show bO ⟨p,ak,ck,sk,ai,ci,si⟩=sk++si from rfl,append_assoc]))
 refine CD.perm (Perm.cons _ (Perm.cons _ JT)) ?_;have wL:iT p=p.keys[2]'w4:=yu h5;have WQ:(p.keys[2]'w4).length≤100:=GD _ (getElem_mem _);refine ae [0,1] ?_;refine aC 5 ?_;refine bJ (dy 5 (h:=by first|exact .l (j:=i.toNat) (Int.toNat_of_nonneg hi.1).symm hj|exact .r (j:=i.toNat) (Int.toNat_of_nonneg hi.1).symm hj)) ?_;refine bJ (cH (mk:=Op.load 93) rfl ot (dK (k:=1) (ls:=L) (i:=i.toNat) fV rfl rfl rfl isAgg93 sizeOf93 hj)) ?_;refine OD.alloc (ds:=[_,_,_,_,_]) an rfl rfl zeroValue93 rfl (fun b6=>?_);refine aN 0 [_,_,_,_,_] sizeOf93 ?_;refine aj 98 [0,1,6] ?_;refine CD.seq ?_;refine CD.wk (Wk.cover (A:=⟨b6,93,5,gO L[i.toNat]⟩) (R:=⟨b,46,2,[.v (.slice (some ⟨bx,0,none⟩) L.length cap),.v (.int .i64 root)]⟩::⟨bx,93,cap*5,flatMap gO L⟩::((L.eraseIdx i.toNat).flatMap bO)) (Sd:=sk++si) (cs':=cP p) (Perm.cons _ (Perm.cons _ (Perm.cons _ (by rw[←append_assoc];exact perm_append_comm)))) (by show gi _ (gO L[i.toNat]) _;rw[←ho];exact⟨eM,kY dI (cl fW _) (fun B hB=>mem_append_left _ hB),kY jS (cl ev _) (fun B hB=>mem_append_right _ hB),eM,eM,trivial⟩)) ?_;refine dw 7 ?_;refine OD.alloc (ds:=[_,_,_,_,_]) an rfl rfl zeroValue93 rfl (fun b7=>?_);refine aN 0 [_,_,_,_,_] sizeOf93 ?_;refine aj 98 [0,1,6,7] ?_;refine cM [0,1,6,7,8] ?_
 refine aP 2 ?_ (h:=by exact(nZ (mk:=Op.indexAddr 90) rfl ot bC (by first|exact oR runUnderlying90 sizeOf49 (j:=2) rfl w4|exact oV runUnderlying90 sizeOf49 (j:=2) rfl w4)));refine bM ?_;refine CD.cut (fun aK=>∃(b7:Nat),∃(c9:Option Addr),∃(da:Nat),∃(cA:List ag),∃(dc:Option Addr),∃(de:Nat),∃(cD:List ag),∃(bK:Option Addr),∃(bL:Nat),∃(bA:List ag),(om (bp p).keys c9 da cA)∧(lp (bp p).kids dc de cD)∧(lp (bn p L.length).kids bK bL bA)∧aK=(⟨98,[(0,.v (.pointer (some ⟨b,0,none⟩))),(1,.v (.int .i64 i)),(6,.v (.pointer (some ⟨b6,0,none⟩))),(7,.v (.pointer (some ⟨b7,0,none⟩))),(8,.list 1 ((iT p).flatMap cB) (iT p).length)],(⟨b7,93,5,[.v (.bool p.leaf),.v (.slice c9 (bp p).keys.length da),.v (.slice dc (bp p).kids.length de),.list 1 (p.high.flatMap cB) p.high.length,.v (.int .i64 p.next)]⟩::⟨b6,93,5,[.v (.bool p.leaf),.list 1 (p.keys.flatMap cK) p.keys.length,.v (.slice bK (bn p L.length).kids.length bL),.list 1 (p.high.flatMap cB) p.high.length,.v (.int .i64 p.next)]⟩::⟨b,46,2,[.v (.slice (some ⟨bx,0,none⟩) L.length cap),.v (.int .i64 root)]⟩::⟨bx,93,cap*5,flatMap gO L⟩::(bA++(cD++(cA++((L.eraseIdx i.toNat).flatMap bO)))))⟩:St)) ?_ ?_
 ·refine ae [0,1,6,7,8,28] ?_;refine aq (fun az aG=>?_) (fun az aG=>?_)
  ·have fB:p.leaf=true:=az;have dU:=dU fB;refine CD.seq ?_;refine fE 10 (ap (take 2 (drop 1 _))) ?_ (fun _ h=>(Sublist.map _ ((take_sublist _ _).trans (drop_sublist _ _))).subset h);refine ax 0 rfl (cX 1) ?_;refine ax 4 rfl (cX 2) ?_;refine dg.later rfl ?_;refine AD.two (i:=1) (j:=5) ay ?_ ?_
   ·refine at_ rfl (dx 1) ?_;refine cr 2 rfl (ek (l:=2) rfl ot ⟨_,bC⟩ trivial FQ) ?_;refine AD.two (i:=3) (j:=5) ay ?_ ?_
    ·have Bh:VC Tryz.prog G 145 [.list 1 ((p.keys.drop 2).flatMap cK) (p.keys.drop 2).length] [] (fun r S=>∃ad cap,r = .v (.slice ad (bp p).keys.length cap)∧om (bp p).keys ad cap S):=(by rw[show(p.keys.drop 2)=(bp p).keys from u0];exact vA _ Lc)
     refine bf.call rfl an rfl rfl rfl call145 Bh ⟨ot,trivial⟩ (eH _) gZ ?_;rintro _ CZ ⟨C0,C1,rfl,BN⟩;refine AD.perm (iU (A:=[_,_,_,_])) ?_;refine cr 8 rfl (cX 1) ?_;refine AD.one (i:=5) ay ?_;refine at_ rfl (dx 1) ?_;refine cr 6 rfl (ek (l:=2) rfl ot ⟨_,bC⟩ trivial zx) ?_;refine AD.one (i:=7) ay ?_;have Bi:VC Tryz.prog G 114 [.list 1 ((p.kids.drop 2).flatMap cI) (p.kids.drop 2).length] [] (fun r S=>∃ad cap,r = .v (.slice ad (bp p).kids.length cap)∧lp (bp p).kids ad cap S):=(by rw[show(p.kids.drop 2)=(bp p).kids from uZ];exact nC _ La)
     refine bf.call rfl an rfl rfl rfl call114 Bi ⟨ot,trivial⟩ (eH _) gZ ?_;rintro _ C2 ⟨C3,C4,rfl,BO⟩;refine AD.perm (iU (A:=[_,_,_,_])) ?_;refine AD.one (i:=9) ay ?_;refine dN 0 [_,_,_,_,_] sizeOf90 ?_;refine ey ?_;refine aD 1 ?_;refine aN 0 [_,_,_,_,_] sizeOf91 ?_;refine aj 98 [0,1,6,7,8] ?_;refine dw 2 ?_;refine bJ (ek (l:=0) (h:=2) rfl ot trivial ⟨_,bC⟩ zy) ?_;have Bj:VC Tryz.prog G 114 [.list 1 ((p.kids.take 2).flatMap cI) (p.kids.take 2).length] [] (fun r S=>∃ad cap,r = .v (.slice ad (bn p L.length).kids.length cap)∧lp (bn p L.length).kids ad cap S):=(by rw[show(p.kids.take 2)=(bn p L.length).kids from uY];exact nC _ K8)
     refine OD.call an rfl rfl rfl call114 Bj ⟨ot,trivial⟩ (eH _) ?_;rintro _ C5 ⟨C6,C7,rfl,BQ⟩;refine OD.perm (iU (A:=[_,_,_,_])) ?_;refine aD 1 ?_;refine aN 1 [_,_,_,_,_] sizeOf91 ?_;refine aj 98 [0,1,6,7,8] ?_;refine⟨_,(aM (h:=by repeat (first|exact trivial|refine⟨zm,?_⟩))),b7,C0,C1,CZ,C3,C4,C2,C6,C7,C5,BN,BO,BQ,rfl⟩
    refine at_ rfl (dx 1) ?_;refine cr 6 rfl (ek (l:=2) rfl ot ⟨_,bC⟩ trivial zx) ?_;refine AD.one (i:=3) ay ?_;have Bh:VC Tryz.prog G 145 [.list 1 ((p.keys.drop 2).flatMap cK) (p.keys.drop 2).length] [] (fun r S=>∃ad cap,r = .v (.slice ad (bp p).keys.length cap)∧om (bp p).keys ad cap S):=(by rw[show(p.keys.drop 2)=(bp p).keys from u0];exact vA _ Lc)
    refine bf.call rfl an rfl rfl rfl call145 Bh ⟨ot,trivial⟩ (eH _) gZ ?_;rintro _ CZ ⟨C0,C1,rfl,BN⟩;refine AD.perm (iU (A:=[_,_,_,_])) ?_;refine cr 8 rfl (cX 1) ?_;refine AD.one (i:=7) ay ?_;have Bi:VC Tryz.prog G 114 [.list 1 ((p.kids.drop 2).flatMap cI) (p.kids.drop 2).length] [] (fun r S=>∃ad cap,r = .v (.slice ad (bp p).kids.length cap)∧lp (bp p).kids ad cap S):=(by rw[show(p.kids.drop 2)=(bp p).kids from uZ];exact nC _ La)
    refine bf.call rfl an rfl rfl rfl call114 Bi ⟨ot,trivial⟩ (eH _) gZ ?_;rintro _ C2 ⟨C3,C4,rfl,BO⟩;refine AD.perm (iU (A:=[_,_,_,_])) ?_;refine AD.one (i:=9) ay ?_;refine dN 0 [_,_,_,_,_] sizeOf90 ?_;refine ey ?_;refine aD 1 ?_;refine aN 0 [_,_,_,_,_] sizeOf91 ?_;refine aj 98 [0,1,6,7,8] ?_;refine dw 2 ?_;refine bJ (ek (l:=0) (h:=2) rfl ot trivial ⟨_,bC⟩ zy) ?_;have Bj:VC Tryz.prog G 114 [.list 1 ((p.kids.take 2).flatMap cI) (p.kids.take 2).length] [] (fun r S=>∃ad cap,r = .v (.slice ad (bn p L.length).kids.length cap)∧lp (bn p L.length).kids ad cap S):=(by rw[show(p.kids.take 2)=(bn p L.length).kids from uY];exact nC _ K8)
    refine OD.call an rfl rfl rfl call114 Bj ⟨ot,trivial⟩ (eH _) ?_;rintro _ C5 ⟨C6,C7,rfl,BQ⟩;refine OD.perm (iU (A:=[_,_,_,_])) ?_;refine aD 1 ?_;refine aN 1 [_,_,_,_,_] sizeOf91 ?_;refine aj 98 [0,1,6,7,8] ?_;refine⟨_,(aM (h:=by repeat (first|exact trivial|refine⟨zm,?_⟩))),b7,C0,C1,CZ,C3,C4,C2,C6,C7,C5,BN,BO,BQ,rfl⟩
   refine at_ rfl (dx 1) ?_;refine cr 6 rfl (ek (l:=2) rfl ot ⟨_,bC⟩ trivial zx) ?_;refine AD.one (i:=1) ay ?_;refine at_ rfl (dx 1) ?_;refine cr 2 rfl (ek (l:=2) rfl ot ⟨_,bC⟩ trivial FQ) ?_;refine AD.one (i:=3) ay ?_;have Bh:VC Tryz.prog G 145 [.list 1 ((p.keys.drop 2).flatMap cK) (p.keys.drop 2).length] [] (fun r S=>∃ad cap,r = .v (.slice ad (bp p).keys.length cap)∧om (bp p).keys ad cap S):=(by rw[show(p.keys.drop 2)=(bp p).keys from u0];exact vA _ Lc)
   refine bf.call rfl an rfl rfl rfl call145 Bh ⟨ot,trivial⟩ (eH _) gZ ?_;rintro _ CZ ⟨C0,C1,rfl,BN⟩;refine AD.perm (iU (A:=[_,_,_,_])) ?_;refine cr 8 rfl (cX 1) ?_;refine AD.one (i:=7) ay ?_;have Bi:VC Tryz.prog G 114 [.list 1 ((p.kids.drop 2).flatMap cI) (p.kids.drop 2).length] [] (fun r S=>∃ad cap,r = .v (.slice ad (bp p).kids.length cap)∧lp (bp p).kids ad cap S):=(by rw[show(p.kids.drop 2)=(bp p).kids from uZ];exact nC _ La)
   refine bf.call rfl an rfl rfl rfl call114 Bi ⟨ot,trivial⟩ (eH _) gZ ?_;rintro _ C2 ⟨C3,C4,rfl,BO⟩;refine AD.perm (iU (A:=[_,_,_,_])) ?_;refine AD.one (i:=9) ay ?_;refine dN 0 [_,_,_,_,_] sizeOf90 ?_;refine ey ?_;refine aD 1 ?_;refine aN 0 [_,_,_,_,_] sizeOf91 ?_;refine aj 98 [0,1,6,7,8] ?_;refine dw 2 ?_;refine bJ (ek (l:=0) (h:=2) rfl ot trivial ⟨_,bC⟩ zy) ?_;have Bj:VC Tryz.prog G 114 [.list 1 ((p.kids.take 2).flatMap cI) (p.kids.take 2).length] [] (fun r S=>∃ad cap,r = .v (.slice ad (bn p L.length).kids.length cap)∧lp (bn p L.length).kids ad cap S):=(by rw[show(p.kids.take 2)=(bn p L.length).kids from uY];exact nC _ K8)
   refine OD.call an rfl rfl rfl call114 Bj ⟨ot,trivial⟩ (eH _) ?_;rintro _ C5 ⟨C6,C7,rfl,BQ⟩;refine OD.perm (iU (A:=[_,_,_,_])) ?_;refine aD 1 ?_;refine aN 1 [_,_,_,_,_] sizeOf91 ?_;refine aj 98 [0,1,6,7,8] ?_;refine⟨_,(aM (h:=by repeat (first|exact trivial|refine⟨zm,?_⟩))),b7,C0,C1,CZ,C3,C4,C2,C6,C7,C5,BN,BO,BQ,rfl⟩
  have fB:p.leaf=false:=az;have xH:=xH fB;refine CD.seq ?_;refine fE 10 (ap (take 2 (drop 1 _))) ?_ (fun _ h=>(Sublist.map _ ((take_sublist _ _).trans (drop_sublist _ _))).subset h);refine ax 0 rfl (cX 1) ?_;refine ax 4 rfl (cX 2) ?_;refine dg.later rfl ?_;refine AD.two (i:=1) (j:=5) ay ?_ ?_
  ·refine at_ rfl (dx 1) ?_;refine cr 2 rfl (ek (l:=3) rfl ot ⟨_,bC⟩ trivial FQ) ?_;refine AD.two (i:=3) (j:=5) ay ?_ ?_
   ·have Bk:VC Tryz.prog G 145 [.list 1 ((p.keys.drop 3).flatMap cK) (p.keys.drop 3).length] [] (fun r S=>∃ad cap,r = .v (.slice ad (bp p).keys.length cap)∧om (bp p).keys ad cap S):=(by rw[show(p.keys.drop 3)=(bp p).keys from u0];exact vA _ Lb)
    refine bf.call rfl an rfl rfl rfl call145 Bk ⟨ot,trivial⟩ (eH _) gZ ?_;rintro _ C8 ⟨C9,Da,rfl,BR⟩;refine AD.perm (iU (A:=[_,_,_,_])) ?_;refine cr 8 rfl (cX 1) ?_;refine AD.one (i:=5) ay ?_;refine at_ rfl (dx 1) ?_;refine cr 6 rfl (ek (l:=3) rfl ot ⟨_,bC⟩ trivial zx) ?_;refine AD.one (i:=7) ay ?_;have Bl:VC Tryz.prog G 114 [.list 1 ((p.kids.drop 3).flatMap cI) (p.kids.drop 3).length] [] (fun r S=>∃ad cap,r = .v (.slice ad (bp p).kids.length cap)∧lp (bp p).kids ad cap S):=(by rw[show(p.kids.drop 3)=(bp p).kids from uZ];exact nC _ K9)
    refine bf.call rfl an rfl rfl rfl call114 Bl ⟨ot,trivial⟩ (eH _) gZ ?_;rintro _ Db ⟨a51,Dc,rfl,BS⟩;refine AD.perm (iU (A:=[_,_,_,_])) ?_;refine AD.one (i:=9) ay ?_;refine dN 0 [_,_,_,_,_] sizeOf90 ?_;refine ey ?_;refine aD 1 ?_;refine aN 0 [_,_,_,_,_] sizeOf91 ?_;refine aj 98 [0,1,6,7,8] ?_;refine dw 2 ?_;refine bJ (ek (l:=0) (h:=3) rfl ot trivial ⟨_,bC⟩ zy) ?_;have Bm:VC Tryz.prog G 114 [.list 1 ((p.kids.take 3).flatMap cI) (p.kids.take 3).length] [] (fun r S=>∃ad cap,r = .v (.slice ad (bn p L.length).kids.length cap)∧lp (bn p L.length).kids ad cap S):=(by rw[show(p.kids.take 3)=(bn p L.length).kids from uY];exact nC _ K7)
    refine OD.call an rfl rfl rfl call114 Bm ⟨ot,trivial⟩ (eH _) ?_;rintro _ vm ⟨De,Df,rfl,uS⟩;refine OD.perm (iU (A:=[_,_,_,_])) ?_;refine aD 1 ?_;refine aN 1 [_,_,_,_,_] sizeOf91 ?_;refine aj 98 [0,1,6,7,8] ?_;refine⟨_,(aM (h:=by repeat (first|exact trivial|refine⟨zm,?_⟩))),b7,C9,Da,C8,a51,Dc,Db,De,Df,vm,BR,BS,uS,rfl⟩
   refine at_ rfl (dx 1) ?_;refine cr 6 rfl (ek (l:=3) rfl ot ⟨_,bC⟩ trivial zx) ?_;refine AD.one (i:=3) ay ?_;have Bk:VC Tryz.prog G 145 [.list 1 ((p.keys.drop 3).flatMap cK) (p.keys.drop 3).length] [] (fun r S=>∃ad cap,r = .v (.slice ad (bp p).keys.length cap)∧om (bp p).keys ad cap S):=(by rw[show(p.keys.drop 3)=(bp p).keys from u0];exact vA _ Lb)
   refine bf.call rfl an rfl rfl rfl call145 Bk ⟨ot,trivial⟩ (eH _) gZ ?_;rintro _ C8 ⟨C9,Da,rfl,BR⟩;refine AD.perm (iU (A:=[_,_,_,_])) ?_;refine cr 8 rfl (cX 1) ?_;refine AD.one (i:=7) ay ?_;have Bl:VC Tryz.prog G 114 [.list 1 ((p.kids.drop 3).flatMap cI) (p.kids.drop 3).length] [] (fun r S=>∃ad cap,r = .v (.slice ad (bp p).kids.length cap)∧lp (bp p).kids ad cap S):=(by rw[show(p.kids.drop 3)=(bp p).kids from uZ];exact nC _ K9)
   refine bf.call rfl an rfl rfl rfl call114 Bl ⟨ot,trivial⟩ (eH _) gZ ?_;rintro _ Db ⟨a51,Dc,rfl,BS⟩;refine AD.perm (iU (A:=[_,_,_,_])) ?_;refine AD.one (i:=9) ay ?_;refine dN 0 [_,_,_,_,_] sizeOf90 ?_;refine ey ?_;refine aD 1 ?_;refine aN 0 [_,_,_,_,_] sizeOf91 ?_;refine aj 98 [0,1,6,7,8] ?_;refine dw 2 ?_;refine bJ (ek (l:=0) (h:=3) rfl ot trivial ⟨_,bC⟩ zy) ?_;have Bm:VC Tryz.prog G 114 [.list 1 ((p.kids.take 3).flatMap cI) (p.kids.take 3).length] [] (fun r S=>∃ad cap,r = .v (.slice ad (bn p L.length).kids.length cap)∧lp (bn p L.length).kids ad cap S):=(by rw[show(p.kids.take 3)=(bn p L.length).kids from uY];exact nC _ K7)
   refine OD.call an rfl rfl rfl call114 Bm ⟨ot,trivial⟩ (eH _) ?_;rintro _ vm ⟨De,Df,rfl,uS⟩;refine OD.perm (iU (A:=[_,_,_,_])) ?_;refine aD 1 ?_;refine aN 1 [_,_,_,_,_] sizeOf91 ?_;refine aj 98 [0,1,6,7,8] ?_;refine⟨_,(aM (h:=by repeat (first|exact trivial|refine⟨zm,?_⟩))),b7,C9,Da,C8,a51,Dc,Db,De,Df,vm,BR,BS,uS,rfl⟩
  refine at_ rfl (dx 1) ?_;refine cr 6 rfl (ek (l:=3) rfl ot ⟨_,bC⟩ trivial zx) ?_;refine AD.one (i:=1) ay ?_;refine at_ rfl (dx 1) ?_;refine cr 2 rfl (ek (l:=3) rfl ot ⟨_,bC⟩ trivial FQ) ?_;refine AD.one (i:=3) ay ?_;have Bk:VC Tryz.prog G 145 [.list 1 ((p.keys.drop 3).flatMap cK) (p.keys.drop 3).length] [] (fun r S=>∃ad cap,r = .v (.slice ad (bp p).keys.length cap)∧om (bp p).keys ad cap S):=(by rw[show(p.keys.drop 3)=(bp p).keys from u0];exact vA _ Lb)
  refine bf.call rfl an rfl rfl rfl call145 Bk ⟨ot,trivial⟩ (eH _) gZ ?_;rintro _ C8 ⟨C9,Da,rfl,BR⟩;refine AD.perm (iU (A:=[_,_,_,_])) ?_;refine cr 8 rfl (cX 1) ?_;refine AD.one (i:=7) ay ?_;have Bl:VC Tryz.prog G 114 [.list 1 ((p.kids.drop 3).flatMap cI) (p.kids.drop 3).length] [] (fun r S=>∃ad cap,r = .v (.slice ad (bp p).kids.length cap)∧lp (bp p).kids ad cap S):=(by rw[show(p.kids.drop 3)=(bp p).kids from uZ];exact nC _ K9)
  refine bf.call rfl an rfl rfl rfl call114 Bl ⟨ot,trivial⟩ (eH _) gZ ?_;rintro _ Db ⟨a51,Dc,rfl,BS⟩;refine AD.perm (iU (A:=[_,_,_,_])) ?_;refine AD.one (i:=9) ay ?_;refine dN 0 [_,_,_,_,_] sizeOf90 ?_;refine ey ?_;refine aD 1 ?_;refine aN 0 [_,_,_,_,_] sizeOf91 ?_;refine aj 98 [0,1,6,7,8] ?_;refine dw 2 ?_;refine bJ (ek (l:=0) (h:=3) rfl ot trivial ⟨_,bC⟩ zy) ?_;have Bm:VC Tryz.prog G 114 [.list 1 ((p.kids.take 3).flatMap cI) (p.kids.take 3).length] [] (fun r S=>∃ad cap,r = .v (.slice ad (bn p L.length).kids.length cap)∧lp (bn p L.length).kids ad cap S):=(by rw[show(p.kids.take 3)=(bn p L.length).kids from uY];exact nC _ K7)
  refine OD.call an rfl rfl rfl call114 Bm ⟨ot,trivial⟩ (eH _) ?_;rintro _ vm ⟨De,Df,rfl,uS⟩;refine OD.perm (iU (A:=[_,_,_,_])) ?_;refine aD 1 ?_;refine aN 1 [_,_,_,_,_] sizeOf91 ?_;refine aj 98 [0,1,6,7,8] ?_;refine⟨_,(aM (h:=by repeat (first|exact trivial|refine⟨zm,?_⟩))),b7,C9,Da,C8,a51,Dc,Db,De,Df,vm,BR,BS,uS,rfl⟩
 rintro _ ⟨b7,c9,da,cA,dc,de,cD,bK,bL,bA,pi,ze,zf,rfl⟩;refine aC 2 ?_;refine bJ (ek (l:=0) (h:=2) rfl ot trivial ⟨_,bC⟩ (by first|exact n9 fW (fun h=>by cases h) runUnderlying90 sizeOf49 w4|exact n9 ev (fun h=>by cases h) runUnderlying90 sizeOf49 w4|exact oe (fun h=>by cases h) runUnderlying90 sizeOf49 w4|exact nE (fun _=>rfl) (fun h=>by cases h) runUnderlying90 sizeOf49 w4 w4)) ?_;have af1:VC Tryz.prog G 145 [.list 1 ((p.keys.take 2).flatMap cK) (p.keys.take 2).length] [] (fun r S=>∃ad cap,r = .v (.slice ad (bn p L.length).keys.length cap)∧om (bn p L.length).keys ad cap S):=(by rw[show(p.keys.take 2)=(bn p L.length).keys from rfl];exact vA _ (by rw[←show(p.keys.take 2)=(bn p L.length).keys from rfl];simp only[length_take,length_drop];omega))
 refine OD.call an rfl rfl rfl call145 af1 ⟨ot,trivial⟩ (eH _) ?_;rintro _ bW ⟨cn,cq,rfl,zg⟩;refine OD.perm (iU (A:=[_,_,_,_])) ?_;refine aD 1 ?_;refine aN 1 [_,_,_,_,_] sizeOf90 ?_;refine aj 98 [0,1,6,7,8] ?_;refine CD.seq ?_;refine fE 9 (ap (take 1 (drop 0 _))) ?_ (fun _ h=>(Sublist.map _ ((take_sublist _ _).trans (drop_sublist _ _))).subset h);refine ax 0 rfl bg ?_;refine ax 2 rfl bg ?_;refine ax 3 rfl lA ?_;refine ax 4 rfl (cX 0) ?_;refine dg.later rfl ?_;refine AD.two (i:=1) (j:=5) ay ?_ ?_
 ·refine jt call59 (jK (iT p) va) ?_;refine cr 7 rfl (cX 3) ?_;refine AD.two (i:=5) (j:=8) ay ?_ ?_
  ·refine at_ rfl (dx 2) ?_;refine cr 6 rfl qm ?_;refine AD.one (i:=8) ay ?_;refine dN 1 [_,_,_,_,_] sizeOf49 ?_;refine ey ?_;refine aD 1 ?_;refine aN 1 [_,_,_,_,_] sizeOf3 ?_;refine aj 98 [0,1,6,7,8] ?_;refine CD.seq ?_;refine lT 6 [0,7,8,76,77,78] ?_;refine bM ?_;refine bJ (dy 5 (h:=by first|exact .l (j:=i.toNat) (Int.toNat_of_nonneg hi.1).symm hj|exact .r (j:=i.toNat) (Int.toNat_of_nonneg hi.1).symm hj)) ?_;refine OD.storeAt (k:=3) (cs':=flatMap gO (L.set i.toNat (⟨bn p L.length,cn,cq,bW,bK,bL,bA⟩:aA))) an rfl rfl ot rfl rfl ot rfl rfl sizeOf93 rfl Le K1 ?_;refine aj 98 [0,7,8] ?_;refine CD.seq ?_;refine fE 8 (ap (take 2 _)) ?_ (fun _ h=>(Sublist.map _ (take_sublist _ _)).subset h);refine ax 0 rfl bg ?_;refine ax 1 rfl bg ?_;refine ax 2 rfl lA ?_;refine ax 3 rfl (cX 0) ?_;refine ax 5 rfl (Bs 0 [_,_,_,_,_]) ?_;refine dg.later rfl ?_;refine AD.two (i:=4) (j:=6) ay ?_ ?_
   ·refine at_ rfl (cH (mk:=Op.load 44) rfl ot (rA (k:=2) (d:=.v (.slice (some ⟨bx,0,none⟩) (L.set i.toNat (⟨bn p L.length,cn,cq,bW,bK,bL,bA⟩:aA)).length cap)) rfl rfl isAgg44 zA)) ?_;refine AD.one (i:=6) ay ?_;refine je (bZ 0 [_]) [.bool false,.slice none 0 0,.slice none 0 0,.slice none 0 0,.int .i64 0] [_,_,_,_,_] zeroValue93 runUnderlying44 sizeOf93 (fun Dg=>?_);refine jf 0 86 5 1 ?_;refine AD.one (i:=7) ay ?_;refine bf.en (ls:=(L.set i.toNat (⟨bn p L.length,cn,cq,bW,bK,bL,bA⟩:aA))) (new:=[(⟨bp p,c9,da,cA,dc,de,cD⟩:aA)]) (Sq:=[⟨bx,93,cap*5,flatMap gO (L.set i.toNat (⟨bn p L.length,cn,cq,bW,bK,bL,bA⟩:aA))⟩]) fV uv rfl an rfl rfl underlying44 xQ rfl w7 ot (bD qP qS) (jU (k:=3) rfl) ot bw zu zv (hT:=by intro x0 O;have O:x0∈[b7,b6]:=O;show x0∈(b7::b6::_:List Nat);simp only[mem_cons,not_mem_nil,or_false] at O ⊢;omega) (fun I E U Z=>?_);refine ey ?_;refine aD 2 ?_;refine aN 3 [_,_] sizeOf44 ?_;refine aj 98 [0,8] ?_;refine CD.seq ?_;refine fE 9 (ap _) ?_ (fun _ h=>h);refine ax 0 rfl bg ?_;refine ax 2 rfl bg ?_;refine ax 3 rfl lA ?_;refine ax 4 rfl (cX 0) ?_;refine ax 5 rfl (dx 3) ?_;refine ax 6 rfl qm ?_;refine ax 7 rfl (cW (r:=.int .i64 (L.length:Nat)) rfl ot bC (fU zw)) ?_;refine dg.later rfl ?_;refine AD.one (i:=1) ay ?_;refine jt call59 (jK (iT p) va) ?_
    have ow:(bW++(bA++(cD++(cA++((L.eraseIdx i.toNat).flatMap bO))))).Perm (((L.set i.toNat (⟨bn p L.length,cn,cq,bW,bK,bL,bA⟩:aA))++[(⟨bp p,c9,da,cA,dc,de,cD⟩:aA)]).flatMap bO):=ik fun iQ=>by have hq:=xV (qt bO hj (⟨bn p L.length,cn,cq,bW,bK,bL,bA⟩:aA)) iQ;rw[flatMap_append,show[(⟨bp p,c9,da,cA,dc,de,cD⟩:aA)].flatMap bO=cA++(cD++[]) from by simp[bO]];simp only[show bO (⟨bn p L.length,cn,cq,bW,bK,bL,bA⟩:aA)=bW++bA from rfl,map_append,map_cons,map_nil,sum_append,sum_cons,sum_nil] at *;omega
    refine AD.perm (S':=⟨b7,93,5,gO (⟨bp p,c9,da,cA,dc,de,cD⟩:aA)⟩::⟨b6,93,5,gO (⟨bn p L.length,cn,cq,bW,bK,bL,bA⟩:aA)⟩::⟨b,46,2,[.v (.slice (some ⟨I,0,none⟩) ((L.set i.toNat (⟨bn p L.length,cn,cq,bW,bK,bL,bA⟩:aA))++[(⟨bp p,c9,da,cA,dc,de,cD⟩:aA)]).length E),.v (.int .i64 root)]⟩::(([⟨I,93,E*5,flatMap gO ((L.set i.toNat (⟨bn p L.length,cn,cq,bW,bK,bL,bA⟩:aA))++[(⟨bp p,c9,da,cA,dc,de,cD⟩:aA)])⟩]:List ag)++((L.set i.toNat (⟨bn p L.length,cn,cq,bW,bK,bL,bA⟩:aA))++[(⟨bp p,c9,da,cA,dc,de,cD⟩:aA)]).flatMap bO)) zn ?_;refine cr 8 rfl bg ?_;refine ey ?_;refine aZ [4,5] ?_;refine aJ (⟨b,46,2,[.v (.slice (some ⟨I,0,none⟩) ((L.set i.toNat (⟨bn p L.length,cn,cq,bW,bK,bL,bA⟩:aA))++[(⟨bp p,c9,da,cA,dc,de,cD⟩:aA)]).length E),.v (.int .i64 root)]⟩::([⟨I,93,E*5,flatMap gO ((L.set i.toNat (⟨bn p L.length,cn,cq,bW,bK,bL,bA⟩:aA))++[(⟨bp p,c9,da,cA,dc,de,cD⟩:aA)])⟩]++((L.set i.toNat (⟨bn p L.length,cn,cq,bW,bK,bL,bA⟩:aA))++[(⟨bp p,c9,da,cA,dc,de,cD⟩:aA)]).flatMap bO)) ?_;refine⟨rfl,((L.set i.toNat (⟨bn p L.length,cn,cq,bW,bK,bL,bA⟩:aA))++[(⟨bp p,c9,da,cA,dc,de,cD⟩:aA)]),some ⟨I,0,none⟩,E,[⟨I,93,E*5,flatMap gO ((L.set i.toNat (⟨bn p L.length,cn,cq,bW,bK,bL,bA⟩:aA))++[(⟨bp p,c9,da,cA,dc,de,cD⟩:aA)])⟩],bD U Z,fun x hx=>?_,?_,rfl⟩
    ·rcases mem_append.1 hx with hx|hx
     ·rcases mem_or_eq_of_mem_set hx with hx|rfl
      ·exact aR x hx
      exact⟨zg,zf⟩
     rw[mem_singleton] at hx;subst hx;exact⟨pi,ze⟩
    rw[map_append,map_set];rfl
   refine je (bZ 0 [_]) [.bool false,.slice none 0 0,.slice none 0 0,.slice none 0 0,.int .i64 0] [_,_,_,_,_] zeroValue93 runUnderlying44 sizeOf93 (fun Dg=>?_);refine jf 0 86 5 1 ?_;refine AD.one (i:=4) ay ?_;refine at_ rfl (cH (mk:=Op.load 44) rfl ot (rA (k:=2) (d:=.v (.slice (some ⟨bx,0,none⟩) (L.set i.toNat (⟨bn p L.length,cn,cq,bW,bK,bL,bA⟩:aA)).length cap)) rfl rfl isAgg44 zA)) ?_;refine AD.one (i:=7) ay ?_;refine bf.en (ls:=(L.set i.toNat (⟨bn p L.length,cn,cq,bW,bK,bL,bA⟩:aA))) (new:=[(⟨bp p,c9,da,cA,dc,de,cD⟩:aA)]) (Sq:=[⟨bx,93,cap*5,flatMap gO (L.set i.toNat (⟨bn p L.length,cn,cq,bW,bK,bL,bA⟩:aA))⟩]) fV uv rfl an rfl rfl underlying44 xQ rfl w7 ot (bD qP qS) (jU (k:=3) rfl) ot bw zu zv (hT:=by intro x0 O;have O:x0∈[b7,b6]:=O;show x0∈(b7::b6::_:List Nat);simp only[mem_cons,not_mem_nil,or_false] at O ⊢;omega) (fun I E U Z=>?_);refine ey ?_;refine aD 2 ?_;refine aN 3 [_,_] sizeOf44 ?_;refine aj 98 [0,8] ?_;refine CD.seq ?_;refine fE 9 (ap _) ?_ (fun _ h=>h);refine ax 0 rfl bg ?_;refine ax 2 rfl bg ?_;refine ax 3 rfl lA ?_;refine ax 4 rfl (cX 0) ?_;refine ax 5 rfl (dx 3) ?_;refine ax 6 rfl qm ?_;refine ax 7 rfl (cW (r:=.int .i64 (L.length:Nat)) rfl ot bC (fU zw)) ?_;refine dg.later rfl ?_;refine AD.one (i:=1) ay ?_;refine jt call59 (jK (iT p) va) ?_
   have ow:(bW++(bA++(cD++(cA++((L.eraseIdx i.toNat).flatMap bO))))).Perm (((L.set i.toNat (⟨bn p L.length,cn,cq,bW,bK,bL,bA⟩:aA))++[(⟨bp p,c9,da,cA,dc,de,cD⟩:aA)]).flatMap bO):=ik fun iQ=>by have hq:=xV (qt bO hj (⟨bn p L.length,cn,cq,bW,bK,bL,bA⟩:aA)) iQ;rw[flatMap_append,show[(⟨bp p,c9,da,cA,dc,de,cD⟩:aA)].flatMap bO=cA++(cD++[]) from by simp[bO]];simp only[show bO (⟨bn p L.length,cn,cq,bW,bK,bL,bA⟩:aA)=bW++bA from rfl,map_append,map_cons,map_nil,sum_append,sum_cons,sum_nil] at *;omega
   refine AD.perm (S':=⟨b7,93,5,gO (⟨bp p,c9,da,cA,dc,de,cD⟩:aA)⟩::⟨b6,93,5,gO (⟨bn p L.length,cn,cq,bW,bK,bL,bA⟩:aA)⟩::⟨b,46,2,[.v (.slice (some ⟨I,0,none⟩) ((L.set i.toNat (⟨bn p L.length,cn,cq,bW,bK,bL,bA⟩:aA))++[(⟨bp p,c9,da,cA,dc,de,cD⟩:aA)]).length E),.v (.int .i64 root)]⟩::(([⟨I,93,E*5,flatMap gO ((L.set i.toNat (⟨bn p L.length,cn,cq,bW,bK,bL,bA⟩:aA))++[(⟨bp p,c9,da,cA,dc,de,cD⟩:aA)])⟩]:List ag)++((L.set i.toNat (⟨bn p L.length,cn,cq,bW,bK,bL,bA⟩:aA))++[(⟨bp p,c9,da,cA,dc,de,cD⟩:aA)]).flatMap bO)) zn ?_;refine cr 8 rfl bg ?_;refine ey ?_;refine aZ [4,5] ?_;refine aJ (⟨b,46,2,[.v (.slice (some ⟨I,0,none⟩) ((L.set i.toNat (⟨bn p L.length,cn,cq,bW,bK,bL,bA⟩:aA))++[(⟨bp p,c9,da,cA,dc,de,cD⟩:aA)]).length E),.v (.int .i64 root)]⟩::([⟨I,93,E*5,flatMap gO ((L.set i.toNat (⟨bn p L.length,cn,cq,bW,bK,bL,bA⟩:aA))++[(⟨bp p,c9,da,cA,dc,de,cD⟩:aA)])⟩]++((L.set i.toNat (⟨bn p L.length,cn,cq,bW,bK,bL,bA⟩:aA))++[(⟨bp p,c9,da,cA,dc,de,cD⟩:aA)]).flatMap bO)) ?_;refine⟨rfl,((L.set i.toNat (⟨bn p L.length,cn,cq,bW,bK,bL,bA⟩:aA))++[(⟨bp p,c9,da,cA,dc,de,cD⟩:aA)]),some ⟨I,0,none⟩,E,[⟨I,93,E*5,flatMap gO ((L.set i.toNat (⟨bn p L.length,cn,cq,bW,bK,bL,bA⟩:aA))++[(⟨bp p,c9,da,cA,dc,de,cD⟩:aA)])⟩],bD U Z,fun x hx=>?_,?_,rfl⟩
   ·rcases mem_append.1 hx with hx|hx
    ·rcases mem_or_eq_of_mem_set hx with hx|rfl
     ·exact aR x hx
     exact⟨zg,zf⟩
    rw[mem_singleton] at hx;subst hx;exact⟨pi,ze⟩
   rw[map_append,map_set];rfl
  refine dN 1 [_,_,_,_,_] sizeOf49 ?_;refine AD.one (i:=5) ay ?_;refine at_ rfl (dx 2) ?_;refine cr 6 rfl qm ?_;refine ey ?_;refine aD 1 ?_;refine aN 1 [_,_,_,_,_] sizeOf3 ?_;refine aj 98 [0,1,6,7,8] ?_;refine CD.seq ?_;refine lT 6 [0,7,8,76,77,78] ?_;refine bM ?_;refine bJ (dy 5 (h:=by first|exact .l (j:=i.toNat) (Int.toNat_of_nonneg hi.1).symm hj|exact .r (j:=i.toNat) (Int.toNat_of_nonneg hi.1).symm hj)) ?_;refine OD.storeAt (k:=3) (cs':=flatMap gO (L.set i.toNat (⟨bn p L.length,cn,cq,bW,bK,bL,bA⟩:aA))) an rfl rfl ot rfl rfl ot rfl rfl sizeOf93 rfl Le K1 ?_;refine aj 98 [0,7,8] ?_;refine CD.seq ?_;refine fE 8 (ap (take 2 _)) ?_ (fun _ h=>(Sublist.map _ (take_sublist _ _)).subset h);refine ax 0 rfl bg ?_;refine ax 1 rfl bg ?_;refine ax 2 rfl lA ?_;refine ax 3 rfl (cX 0) ?_;refine ax 5 rfl (Bs 0 [_,_,_,_,_]) ?_;refine dg.later rfl ?_;refine AD.two (i:=4) (j:=6) ay ?_ ?_
  ·refine at_ rfl (cH (mk:=Op.load 44) rfl ot (rA (k:=2) (d:=.v (.slice (some ⟨bx,0,none⟩) (L.set i.toNat (⟨bn p L.length,cn,cq,bW,bK,bL,bA⟩:aA)).length cap)) rfl rfl isAgg44 zA)) ?_;refine AD.one (i:=6) ay ?_;refine je (bZ 0 [_]) [.bool false,.slice none 0 0,.slice none 0 0,.slice none 0 0,.int .i64 0] [_,_,_,_,_] zeroValue93 runUnderlying44 sizeOf93 (fun Dg=>?_);refine jf 0 86 5 1 ?_;refine AD.one (i:=7) ay ?_;refine bf.en (ls:=(L.set i.toNat (⟨bn p L.length,cn,cq,bW,bK,bL,bA⟩:aA))) (new:=[(⟨bp p,c9,da,cA,dc,de,cD⟩:aA)]) (Sq:=[⟨bx,93,cap*5,flatMap gO (L.set i.toNat (⟨bn p L.length,cn,cq,bW,bK,bL,bA⟩:aA))⟩]) fV uv rfl an rfl rfl underlying44 xQ rfl w7 ot (bD qP qS) (jU (k:=3) rfl) ot bw zu zv (hT:=by intro x0 O;have O:x0∈[b7,b6]:=O;show x0∈(b7::b6::_:List Nat);simp only[mem_cons,not_mem_nil,or_false] at O ⊢;omega) (fun I E U Z=>?_);refine ey ?_;refine aD 2 ?_;refine aN 3 [_,_] sizeOf44 ?_;refine aj 98 [0,8] ?_;refine CD.seq ?_;refine fE 9 (ap _) ?_ (fun _ h=>h);refine ax 0 rfl bg ?_;refine ax 2 rfl bg ?_;refine ax 3 rfl lA ?_;refine ax 4 rfl (cX 0) ?_;refine ax 5 rfl (dx 3) ?_;refine ax 6 rfl qm ?_;refine ax 7 rfl (cW (r:=.int .i64 (L.length:Nat)) rfl ot bC (fU zw)) ?_;refine dg.later rfl ?_;refine AD.one (i:=1) ay ?_;refine jt call59 (jK (iT p) va) ?_
   have ow:(bW++(bA++(cD++(cA++((L.eraseIdx i.toNat).flatMap bO))))).Perm (((L.set i.toNat (⟨bn p L.length,cn,cq,bW,bK,bL,bA⟩:aA))++[(⟨bp p,c9,da,cA,dc,de,cD⟩:aA)]).flatMap bO):=ik fun iQ=>by have hq:=xV (qt bO hj (⟨bn p L.length,cn,cq,bW,bK,bL,bA⟩:aA)) iQ;rw[flatMap_append,show[(⟨bp p,c9,da,cA,dc,de,cD⟩:aA)].flatMap bO=cA++(cD++[]) from by simp[bO]];simp only[show bO (⟨bn p L.length,cn,cq,bW,bK,bL,bA⟩:aA)=bW++bA from rfl,map_append,map_cons,map_nil,sum_append,sum_cons,sum_nil] at *;omega
   refine AD.perm (S':=⟨b7,93,5,gO (⟨bp p,c9,da,cA,dc,de,cD⟩:aA)⟩::⟨b6,93,5,gO (⟨bn p L.length,cn,cq,bW,bK,bL,bA⟩:aA)⟩::⟨b,46,2,[.v (.slice (some ⟨I,0,none⟩) ((L.set i.toNat (⟨bn p L.length,cn,cq,bW,bK,bL,bA⟩:aA))++[(⟨bp p,c9,da,cA,dc,de,cD⟩:aA)]).length E),.v (.int .i64 root)]⟩::(([⟨I,93,E*5,flatMap gO ((L.set i.toNat (⟨bn p L.length,cn,cq,bW,bK,bL,bA⟩:aA))++[(⟨bp p,c9,da,cA,dc,de,cD⟩:aA)])⟩]:List ag)++((L.set i.toNat (⟨bn p L.length,cn,cq,bW,bK,bL,bA⟩:aA))++[(⟨bp p,c9,da,cA,dc,de,cD⟩:aA)]).flatMap bO)) zn ?_;refine cr 8 rfl bg ?_;refine ey ?_;refine aZ [4,5] ?_;refine aJ (⟨b,46,2,[.v (.slice (some ⟨I,0,none⟩) ((L.set i.toNat (⟨bn p L.length,cn,cq,bW,bK,bL,bA⟩:aA))++[(⟨bp p,c9,da,cA,dc,de,cD⟩:aA)]).length E),.v (.int .i64 root)]⟩::([⟨I,93,E*5,flatMap gO ((L.set i.toNat (⟨bn p L.length,cn,cq,bW,bK,bL,bA⟩:aA))++[(⟨bp p,c9,da,cA,dc,de,cD⟩:aA)])⟩]++((L.set i.toNat (⟨bn p L.length,cn,cq,bW,bK,bL,bA⟩:aA))++[(⟨bp p,c9,da,cA,dc,de,cD⟩:aA)]).flatMap bO)) ?_;refine⟨rfl,((L.set i.toNat (⟨bn p L.length,cn,cq,bW,bK,bL,bA⟩:aA))++[(⟨bp p,c9,da,cA,dc,de,cD⟩:aA)]),some ⟨I,0,none⟩,E,[⟨I,93,E*5,flatMap gO ((L.set i.toNat (⟨bn p L.length,cn,cq,bW,bK,bL,bA⟩:aA))++[(⟨bp p,c9,da,cA,dc,de,cD⟩:aA)])⟩],bD U Z,fun x hx=>?_,?_,rfl⟩
   ·rcases mem_append.1 hx with hx|hx
    ·rcases mem_or_eq_of_mem_set hx with hx|rfl
     ·exact aR x hx
     exact⟨zg,zf⟩
    rw[mem_singleton] at hx;subst hx;exact⟨pi,ze⟩
   rw[map_append,map_set];rfl
  refine je (bZ 0 [_]) [.bool false,.slice none 0 0,.slice none 0 0,.slice none 0 0,.int .i64 0] [_,_,_,_,_] zeroValue93 runUnderlying44 sizeOf93 (fun Dg=>?_);refine jf 0 86 5 1 ?_;refine AD.one (i:=4) ay ?_;refine at_ rfl (cH (mk:=Op.load 44) rfl ot (rA (k:=2) (d:=.v (.slice (some ⟨bx,0,none⟩) (L.set i.toNat (⟨bn p L.length,cn,cq,bW,bK,bL,bA⟩:aA)).length cap)) rfl rfl isAgg44 zA)) ?_;refine AD.one (i:=7) ay ?_;refine bf.en (ls:=(L.set i.toNat (⟨bn p L.length,cn,cq,bW,bK,bL,bA⟩:aA))) (new:=[(⟨bp p,c9,da,cA,dc,de,cD⟩:aA)]) (Sq:=[⟨bx,93,cap*5,flatMap gO (L.set i.toNat (⟨bn p L.length,cn,cq,bW,bK,bL,bA⟩:aA))⟩]) fV uv rfl an rfl rfl underlying44 xQ rfl w7 ot (bD qP qS) (jU (k:=3) rfl) ot bw zu zv (hT:=by intro x0 O;have O:x0∈[b7,b6]:=O;show x0∈(b7::b6::_:List Nat);simp only[mem_cons,not_mem_nil,or_false] at O ⊢;omega) (fun I E U Z=>?_);refine ey ?_;refine aD 2 ?_;refine aN 3 [_,_] sizeOf44 ?_;refine aj 98 [0,8] ?_;refine CD.seq ?_;refine fE 9 (ap _) ?_ (fun _ h=>h);refine ax 0 rfl bg ?_;refine ax 2 rfl bg ?_;refine ax 3 rfl lA ?_;refine ax 4 rfl (cX 0) ?_;refine ax 5 rfl (dx 3) ?_;refine ax 6 rfl qm ?_;refine ax 7 rfl (cW (r:=.int .i64 (L.length:Nat)) rfl ot bC (fU zw)) ?_;refine dg.later rfl ?_;refine AD.one (i:=1) ay ?_;refine jt call59 (jK (iT p) va) ?_
  have ow:(bW++(bA++(cD++(cA++((L.eraseIdx i.toNat).flatMap bO))))).Perm (((L.set i.toNat (⟨bn p L.length,cn,cq,bW,bK,bL,bA⟩:aA))++[(⟨bp p,c9,da,cA,dc,de,cD⟩:aA)]).flatMap bO):=ik fun iQ=>by have hq:=xV (qt bO hj (⟨bn p L.length,cn,cq,bW,bK,bL,bA⟩:aA)) iQ;rw[flatMap_append,show[(⟨bp p,c9,da,cA,dc,de,cD⟩:aA)].flatMap bO=cA++(cD++[]) from by simp[bO]];simp only[show bO (⟨bn p L.length,cn,cq,bW,bK,bL,bA⟩:aA)=bW++bA from rfl,map_append,map_cons,map_nil,sum_append,sum_cons,sum_nil] at *;omega
  refine AD.perm (S':=⟨b7,93,5,gO (⟨bp p,c9,da,cA,dc,de,cD⟩:aA)⟩::⟨b6,93,5,gO (⟨bn p L.length,cn,cq,bW,bK,bL,bA⟩:aA)⟩::⟨b,46,2,[.v (.slice (some ⟨I,0,none⟩) ((L.set i.toNat (⟨bn p L.length,cn,cq,bW,bK,bL,bA⟩:aA))++[(⟨bp p,c9,da,cA,dc,de,cD⟩:aA)]).length E),.v (.int .i64 root)]⟩::(([⟨I,93,E*5,flatMap gO ((L.set i.toNat (⟨bn p L.length,cn,cq,bW,bK,bL,bA⟩:aA))++[(⟨bp p,c9,da,cA,dc,de,cD⟩:aA)])⟩]:List ag)++((L.set i.toNat (⟨bn p L.length,cn,cq,bW,bK,bL,bA⟩:aA))++[(⟨bp p,c9,da,cA,dc,de,cD⟩:aA)]).flatMap bO)) zn ?_;refine cr 8 rfl bg ?_;refine ey ?_;refine aZ [4,5] ?_;refine aJ (⟨b,46,2,[.v (.slice (some ⟨I,0,none⟩) ((L.set i.toNat (⟨bn p L.length,cn,cq,bW,bK,bL,bA⟩:aA))++[(⟨bp p,c9,da,cA,dc,de,cD⟩:aA)]).length E),.v (.int .i64 root)]⟩::([⟨I,93,E*5,flatMap gO ((L.set i.toNat (⟨bn p L.length,cn,cq,bW,bK,bL,bA⟩:aA))++[(⟨bp p,c9,da,cA,dc,de,cD⟩:aA)])⟩]++((L.set i.toNat (⟨bn p L.length,cn,cq,bW,bK,bL,bA⟩:aA))++[(⟨bp p,c9,da,cA,dc,de,cD⟩:aA)]).flatMap bO)) ?_;refine⟨rfl,((L.set i.toNat (⟨bn p L.length,cn,cq,bW,bK,bL,bA⟩:aA))++[(⟨bp p,c9,da,cA,dc,de,cD⟩:aA)]),some ⟨I,0,none⟩,E,[⟨I,93,E*5,flatMap gO ((L.set i.toNat (⟨bn p L.length,cn,cq,bW,bK,bL,bA⟩:aA))++[(⟨bp p,c9,da,cA,dc,de,cD⟩:aA)])⟩],bD U Z,fun x hx=>?_,?_,rfl⟩
  ·rcases mem_append.1 hx with hx|hx
   ·rcases mem_or_eq_of_mem_set hx with hx|rfl
    ·exact aR x hx
    exact⟨zg,zf⟩
   rw[mem_singleton] at hx;subst hx;exact⟨pi,ze⟩
  rw[map_append,map_set];rfl
 refine at_ rfl (dx 2) ?_;refine cr 6 rfl qm ?_;refine AD.one (i:=1) ay ?_;refine jt call59 (jK (iT p) va) ?_;refine cr 7 rfl (cX 3) ?_;refine AD.one (i:=8) ay ?_;refine dN 1 [_,_,_,_,_] sizeOf49 ?_;refine ey ?_;refine aD 1 ?_;refine aN 1 [_,_,_,_,_] sizeOf3 ?_;refine aj 98 [0,1,6,7,8] ?_;refine CD.seq ?_;refine lT 6 [0,7,8,76,77,78] ?_;refine bM ?_;refine bJ (dy 5 (h:=by first|exact .l (j:=i.toNat) (Int.toNat_of_nonneg hi.1).symm hj|exact .r (j:=i.toNat) (Int.toNat_of_nonneg hi.1).symm hj)) ?_;refine OD.storeAt (k:=3) (cs':=flatMap gO (L.set i.toNat (⟨bn p L.length,cn,cq,bW,bK,bL,bA⟩:aA))) an rfl rfl ot rfl rfl ot rfl rfl sizeOf93 rfl Le K1 ?_;refine aj 98 [0,7,8] ?_;refine CD.seq ?_;refine fE 8 (ap (take 2 _)) ?_ (fun _ h=>(Sublist.map _ (take_sublist _ _)).subset h);refine ax 0 rfl bg ?_;refine ax 1 rfl bg ?_;refine ax 2 rfl lA ?_;refine ax 3 rfl (cX 0) ?_;refine ax 5 rfl (Bs 0 [_,_,_,_,_]) ?_;refine dg.later rfl ?_;refine AD.two (i:=4) (j:=6) ay ?_ ?_
 ·refine at_ rfl (cH (mk:=Op.load 44) rfl ot (rA (k:=2) (d:=.v (.slice (some ⟨bx,0,none⟩) (L.set i.toNat (⟨bn p L.length,cn,cq,bW,bK,bL,bA⟩:aA)).length cap)) rfl rfl isAgg44 zA)) ?_;refine AD.one (i:=6) ay ?_;refine je (bZ 0 [_]) [.bool false,.slice none 0 0,.slice none 0 0,.slice none 0 0,.int .i64 0] [_,_,_,_,_] zeroValue93 runUnderlying44 sizeOf93 (fun Dg=>?_);refine jf 0 86 5 1 ?_;refine AD.one (i:=7) ay ?_;refine bf.en (ls:=(L.set i.toNat (⟨bn p L.length,cn,cq,bW,bK,bL,bA⟩:aA))) (new:=[(⟨bp p,c9,da,cA,dc,de,cD⟩:aA)]) (Sq:=[⟨bx,93,cap*5,flatMap gO (L.set i.toNat (⟨bn p L.length,cn,cq,bW,bK,bL,bA⟩:aA))⟩]) fV uv rfl an rfl rfl underlying44 xQ rfl w7 ot (bD qP qS) (jU (k:=3) rfl) ot bw zu zv (hT:=by intro x0 O;have O:x0∈[b7,b6]:=O;show x0∈(b7::b6::_:List Nat);simp only[mem_cons,not_mem_nil,or_false] at O ⊢;omega) (fun I E U Z=>?_);refine ey ?_;refine aD 2 ?_;refine aN 3 [_,_] sizeOf44 ?_;refine aj 98 [0,8] ?_;refine CD.seq ?_;refine fE 9 (ap _) ?_ (fun _ h=>h);refine ax 0 rfl bg ?_;refine ax 2 rfl bg ?_;refine ax 3 rfl lA ?_;refine ax 4 rfl (cX 0) ?_;refine ax 5 rfl (dx 3) ?_;refine ax 6 rfl qm ?_;refine ax 7 rfl (cW (r:=.int .i64 (L.length:Nat)) rfl ot bC (fU zw)) ?_;refine dg.later rfl ?_;refine AD.one (i:=1) ay ?_;refine jt call59 (jK (iT p) va) ?_
  have ow:(bW++(bA++(cD++(cA++((L.eraseIdx i.toNat).flatMap bO))))).Perm (((L.set i.toNat (⟨bn p L.length,cn,cq,bW,bK,bL,bA⟩:aA))++[(⟨bp p,c9,da,cA,dc,de,cD⟩:aA)]).flatMap bO):=ik fun iQ=>by have hq:=xV (qt bO hj (⟨bn p L.length,cn,cq,bW,bK,bL,bA⟩:aA)) iQ;rw[flatMap_append,show[(⟨bp p,c9,da,cA,dc,de,cD⟩:aA)].flatMap bO=cA++(cD++[]) from by simp[bO]];simp only[show bO (⟨bn p L.length,cn,cq,bW,bK,bL,bA⟩:aA)=bW++bA from rfl,map_append,map_cons,map_nil,sum_append,sum_cons,sum_nil] at *;omega
  refine AD.perm (S':=⟨b7,93,5,gO (⟨bp p,c9,da,cA,dc,de,cD⟩:aA)⟩::⟨b6,93,5,gO (⟨bn p L.length,cn,cq,bW,bK,bL,bA⟩:aA)⟩::⟨b,46,2,[.v (.slice (some ⟨I,0,none⟩) ((L.set i.toNat (⟨bn p L.length,cn,cq,bW,bK,bL,bA⟩:aA))++[(⟨bp p,c9,da,cA,dc,de,cD⟩:aA)]).length E),.v (.int .i64 root)]⟩::(([⟨I,93,E*5,flatMap gO ((L.set i.toNat (⟨bn p L.length,cn,cq,bW,bK,bL,bA⟩:aA))++[(⟨bp p,c9,da,cA,dc,de,cD⟩:aA)])⟩]:List ag)++((L.set i.toNat (⟨bn p L.length,cn,cq,bW,bK,bL,bA⟩:aA))++[(⟨bp p,c9,da,cA,dc,de,cD⟩:aA)]).flatMap bO)) zn ?_;refine cr 8 rfl bg ?_;refine ey ?_;refine aZ [4,5] ?_;refine aJ (⟨b,46,2,[.v (.slice (some ⟨I,0,none⟩) ((L.set i.toNat (⟨bn p L.length,cn,cq,bW,bK,bL,bA⟩:aA))++[(⟨bp p,c9,da,cA,dc,de,cD⟩:aA)]).length E),.v (.int .i64 root)]⟩::([⟨I,93,E*5,flatMap gO ((L.set i.toNat (⟨bn p L.length,cn,cq,bW,bK,bL,bA⟩:aA))++[(⟨bp p,c9,da,cA,dc,de,cD⟩:aA)])⟩]++((L.set i.toNat (⟨bn p L.length,cn,cq,bW,bK,bL,bA⟩:aA))++[(⟨bp p,c9,da,cA,dc,de,cD⟩:aA)]).flatMap bO)) ?_;refine⟨rfl,((L.set i.toNat (⟨bn p L.length,cn,cq,bW,bK,bL,bA⟩:aA))++[(⟨bp p,c9,da,cA,dc,de,cD⟩:aA)]),some ⟨I,0,none⟩,E,[⟨I,93,E*5,flatMap gO ((L.set i.toNat (⟨bn p L.length,cn,cq,bW,bK,bL,bA⟩:aA))++[(⟨bp p,c9,da,cA,dc,de,cD⟩:aA)])⟩],bD U Z,fun x hx=>?_,?_,rfl⟩
  ·rcases mem_append.1 hx with hx|hx
   ·rcases mem_or_eq_of_mem_set hx with hx|rfl
    ·exact aR x hx
    exact⟨zg,zf⟩
   rw[mem_singleton] at hx;subst hx;exact⟨pi,ze⟩
  rw[map_append,map_set];rfl
 refine je (bZ 0 [_]) [.bool false,.slice none 0 0,.slice none 0 0,.slice none 0 0,.int .i64 0] [_,_,_,_,_] zeroValue93 runUnderlying44 sizeOf93 (fun Dg=>?_);refine jf 0 86 5 1 ?_;refine AD.one (i:=4) ay ?_;refine at_ rfl (cH (mk:=Op.load 44) rfl ot (rA (k:=2) (d:=.v (.slice (some ⟨bx,0,none⟩) (L.set i.toNat (⟨bn p L.length,cn,cq,bW,bK,bL,bA⟩:aA)).length cap)) rfl rfl isAgg44 zA)) ?_;refine AD.one (i:=7) ay ?_;refine bf.en (ls:=(L.set i.toNat (⟨bn p L.length,cn,cq,bW,bK,bL,bA⟩:aA))) (new:=[(⟨bp p,c9,da,cA,dc,de,cD⟩:aA)]) (Sq:=[⟨bx,93,cap*5,flatMap gO (L.set i.toNat (⟨bn p L.length,cn,cq,bW,bK,bL,bA⟩:aA))⟩]) fV uv rfl an rfl rfl underlying44 xQ rfl w7 ot (bD qP qS) (jU (k:=3) rfl) ot bw zu zv (hT:=by intro x0 O;have O:x0∈[b7,b6]:=O;show x0∈(b7::b6::_:List Nat);simp only[mem_cons,not_mem_nil,or_false] at O ⊢;omega) (fun I E U Z=>?_);refine ey ?_;refine aD 2 ?_;refine aN 3 [_,_] sizeOf44 ?_;refine aj 98 [0,8] ?_;refine CD.seq ?_;refine fE 9 (ap _) ?_ (fun _ h=>h);refine ax 0 rfl bg ?_;refine ax 2 rfl bg ?_;refine ax 3 rfl lA ?_;refine ax 4 rfl (cX 0) ?_;refine ax 5 rfl (dx 3) ?_;refine ax 6 rfl qm ?_;refine ax 7 rfl (cW (r:=.int .i64 (L.length:Nat)) rfl ot bC (fU zw)) ?_;refine dg.later rfl ?_;refine AD.one (i:=1) ay ?_;refine jt call59 (jK (iT p) va) ?_
 have ow:(bW++(bA++(cD++(cA++((L.eraseIdx i.toNat).flatMap bO))))).Perm (((L.set i.toNat (⟨bn p L.length,cn,cq,bW,bK,bL,bA⟩:aA))++[(⟨bp p,c9,da,cA,dc,de,cD⟩:aA)]).flatMap bO):=ik fun iQ=>by have hq:=xV (qt bO hj (⟨bn p L.length,cn,cq,bW,bK,bL,bA⟩:aA)) iQ;rw[flatMap_append,show[(⟨bp p,c9,da,cA,dc,de,cD⟩:aA)].flatMap bO=cA++(cD++[]) from by simp[bO]];simp only[show bO (⟨bn p L.length,cn,cq,bW,bK,bL,bA⟩:aA)=bW++bA from rfl,map_append,map_cons,map_nil,sum_append,sum_cons,sum_nil] at *;omega
 refine AD.perm (S':=⟨b7,93,5,gO (⟨bp p,c9,da,cA,dc,de,cD⟩:aA)⟩::⟨b6,93,5,gO (⟨bn p L.length,cn,cq,bW,bK,bL,bA⟩:aA)⟩::⟨b,46,2,[.v (.slice (some ⟨I,0,none⟩) ((L.set i.toNat (⟨bn p L.length,cn,cq,bW,bK,bL,bA⟩:aA))++[(⟨bp p,c9,da,cA,dc,de,cD⟩:aA)]).length E),.v (.int .i64 root)]⟩::(([⟨I,93,E*5,flatMap gO ((L.set i.toNat (⟨bn p L.length,cn,cq,bW,bK,bL,bA⟩:aA))++[(⟨bp p,c9,da,cA,dc,de,cD⟩:aA)])⟩]:List ag)++((L.set i.toNat (⟨bn p L.length,cn,cq,bW,bK,bL,bA⟩:aA))++[(⟨bp p,c9,da,cA,dc,de,cD⟩:aA)]).flatMap bO)) zn ?_;refine cr 8 rfl bg ?_;refine ey ?_;refine aZ [4,5] ?_;refine aJ (⟨b,46,2,[.v (.slice (some ⟨I,0,none⟩) ((L.set i.toNat (⟨bn p L.length,cn,cq,bW,bK,bL,bA⟩:aA))++[(⟨bp p,c9,da,cA,dc,de,cD⟩:aA)]).length E),.v (.int .i64 root)]⟩::([⟨I,93,E*5,flatMap gO ((L.set i.toNat (⟨bn p L.length,cn,cq,bW,bK,bL,bA⟩:aA))++[(⟨bp p,c9,da,cA,dc,de,cD⟩:aA)])⟩]++((L.set i.toNat (⟨bn p L.length,cn,cq,bW,bK,bL,bA⟩:aA))++[(⟨bp p,c9,da,cA,dc,de,cD⟩:aA)]).flatMap bO)) ?_;refine⟨rfl,((L.set i.toNat (⟨bn p L.length,cn,cq,bW,bK,bL,bA⟩:aA))++[(⟨bp p,c9,da,cA,dc,de,cD⟩:aA)]),some ⟨I,0,none⟩,E,[⟨I,93,E*5,flatMap gO ((L.set i.toNat (⟨bn p L.length,cn,cq,bW,bK,bL,bA⟩:aA))++[(⟨bp p,c9,da,cA,dc,de,cD⟩:aA)])⟩],bD U Z,fun x hx=>?_,?_,rfl⟩
 ·rcases mem_append.1 hx with hx|hx
  ·rcases mem_or_eq_of_mem_set hx with hx|rfl
   ·exact aR x hx
   exact⟨zg,zf⟩
  rw[mem_singleton] at hx;subst hx;exact⟨pi,ze⟩
 rw[map_append,map_set];rfl

def gL(q:List α)(i:Nat)(a:α):List α:=q.take i++a::q.drop i
theorem x5{q:List α}{a:α}(hi:i≤q.length):(gL q i a).length=q.length+1:=by unfold gL;rw[length_append,length_take,length_cons,length_drop];omega
theorem Qc{q:List α}{a:α}:gL q q.length a=q++[a]:=by unfold gL;rw[take_length,drop_length]
theorem DV{g:α→List D}(hg:∀a,(g a).length=1){q:List α}{a:α}:(gL q i a).flatMap g=(q.flatMap g).take i++(g a++(q.flatMap g).drop i):=by
 have h1:=sQ hg q i;have h2:=uo hg q i;rw[Nat.mul_one] at h1 h2;unfold gL;rw[flatMap_append,flatMap_cons,h1,h2]
theorem DG{A ds:List D}{off:Nat}(hA:A.length=off)(hl:ds.length≤J.length):cY (A++J) off ds=A++(ds++J.drop ds.length):=by
 rw[vw _ _ _ u3,take_left' hA,append_assoc,←drop_drop,drop_left' hA]
theorem Qd{T R c:List D}(hT:T.length=i)(hc:c.length=1)(E:R.length+1≤J.length):T++(c++R) <+: cY (cY (T++J) i c) (i+1) R:=by
 rw[DG hT w4,show T++(c++J.drop c.length)=(T++c)++J.drop c.length from(append_assoc _ _ _).symm,DG (A:=T++c) u3 (by rw[length_drop];omega)];exact⟨_,by simp only[append_assoc];rfl⟩
theorem Rx{T R c:List D}(hT:T.length=i)(hc:c.length=1)(O:1≤J.length):T++(c++R) <+: cY (cY ((T++R)++J) (i+1) R) i c:=by
 obtain⟨E,I,hX,h1⟩:∃E I,R++J=E++I∧E.length=1:=⟨(R++J).take 1,(R++J).drop 1,(take_append_drop 1 _).symm,by rw[length_take,length_append];omega⟩
 have h2:R.length≤I.length:=(by have:=congrArg length hX;rw[length_append,length_append] at this;omega)
 have e1:(T++R)++J=(T++E)++I:=(by rw[append_assoc,hX,←append_assoc])
 have e2:(T++E)++(R++I.drop R.length)=T++(E++(R++I.drop R.length)):=append_assoc _ _ _;rw[e1,DG (A:=T++E) u3 h2,e2,DG hT u3,drop_left' w4];exact⟨I.drop R.length,by simp only[append_assoc]⟩
theorem pN(n:Nat)(x:α):(replicate n x).length=n:=length_replicate
theorem Du:(Tryz.prog.info? 49).map (fun i=>i.size)=some 1:=by kernel_rfl
theorem G3:(Tryz.prog.info? 49).map (fun i=>(i.zero,i.size,i.bytes))=some (some (.slice none 0 0),1,24):=by kernel_rfl
theorem Yt(q:List K)(i:Nat)(a:K)(cap b bv:Nat)(hi:i≤q.length)(hc:q.length≤cap)(hm:cap≤maxLen)(hs:q.length≤1000):VC Tryz.prog G 116 [.v (.slice (some ⟨b,0,none⟩) q.length cap),.v (.int .i64 (i:Nat)),.v (.slice (some ⟨bv,0,none⟩) 1 1)] [⟨bv,49,1*1,cK a⟩,⟨b,49,cap*1,q.flatMap cK⟩] (fun r S=>∃ad j9,r = .v (.slice ad (q.length+1) j9)∧bu 49 1 ((gL q i a).flatMap cK) (gL q i a).length ad j9 S):=by
 refine VC.body func116 rfl ntmps116 aO fun X0 w0 aX=>?_;refine ae [0,1,2] ?_;refine aC 2 ?_;refine bJ (ek (l:=i) rfl ot ⟨_,ot⟩ trivial tD) ?_;refine aj 95 [0,1,2] ?_;refine ae [0,1,2,7] ?_;refine ae [0,1,2,7,16] ?_;refine aq (fun az aG=>?_) (fun az aG=>?_)
 ·exact absurd az (by simp at *)
 refine ae [0,1,2,7,8] ?_;refine ae [0,1,2,7,8,22] ?_;refine aq (fun aH aU=>?_) (fun aH aU=>?_)
 ·obtain rfl:i=q.length:=(by simp at *;omega)
  refine aC 2 ?_;refine fG 0 24 1 1 ?_;refine OD.en (ls:=q) (new:=[a]) (Sq:=[⟨b,49,cap*1,q.flatMap cK⟩]) fW oW an rfl rfl underlying90 G3 rfl w7 ot (bD hc hm) (dB (A:=[])) ot bw u7 gM (fun xA BU KM KN=>?_);refine OD.perm (dY (S1:=[⟨xA,49,BU*1,flatMap cK (q++[a])⟩]) (A:=[])) ?_;refine aj 95 [6] ?_;refine aJ [⟨xA,49,BU*1,flatMap cK (q++[a])⟩] ?_;exact⟨_,_,by rw[length_append];rfl,by rw[Qc];exact bD KM KN⟩
 have aa:i<q.length:=(by omega)
 have hQ:(q.flatMap cK).length=q.length:=(by rw[cl fW];omega)
 have Z:((q.flatMap cK).take i).length=i:=(by rw[length_take];omega)
 have U:((q.flatMap cK).drop i).length=q.length-i:=(by rw[length_drop];omega)
 have jx:∀d∈(q.flatMap cK),V.one d=true:=sV oW _;refine cM [0,1,2,7,8,31] ?_;refine aP 4 ?_ (h:=by exact(DM rfl rfl ot runUnderlying90));refine bM ?_;refine aq (fun aY bz=>?_) (fun aY bz=>?_)
 ·have I:eE cap (i) 1 0=i:=(by unfold eE;rw[if_neg w4];omega)
  have rf:Nat.min (q.length-i) (q.length+1-(i+1))=q.length-i:=Nat.min_eq_left w4;refine aC 2 ?_;refine bJ (ek (l:=0) (h:=i) rfl ot trivial ⟨_,ot⟩ K3) ?_;refine aD 5 ?_;refine OD.QY (n:=i) (m:=q.length+1-i) (k:=1) an rfl rfl underlying90 underlying3 G3 rfl ot rfl rfl (by show i≤(q.flatMap cK).length;omega) (Eq.trans ot (congrArg (fun z=>D.v (.int .i64 z)) (show((q.length:Int)+(1:Nat)-(i:Int))=((q.length+1-i:Nat):Int) by omega))) w4 w4 Fg w4 (fun F2 E BV KO=>?_);have jO:i+(q.length+1-i)=q.length+1:=(by omega)
  rw[jO] at BV ⊢;refine aj 95 [0,1,2,7,9] ?_;refine aC 2 ?_;refine bJ (ek (l:=i) (h:=q.length+1) rfl ot ⟨_,ot⟩ trivial tD) ?_;have vk:eE E (i) 1 0=i:=(by unfold eE;rw[if_neg w4];omega)
  rw[vk];refine aD 1 ?_;have O:eE E (i+1) 1 0=i+1:=(by unfold eE;rw[if_neg w4];omega)
  refine OD.wk (Wk.toEnd (k:=0) rfl) ?_;refine OD.copy (k:=0) (k2:=1) (od:=i) (new:=cK a) (cs':=cY ((q.flatMap cK).take i++replicate (E*1-((q.flatMap cK).take i).length) D.bU) i (cK a)) an rfl rfl underlying90 Du ot rfl rfl ot rfl rfl (by show take (Nat.min 1 (q.length+1-i)) (cK a)=_;rw[show Nat.min 1 (q.length+1-i)=1 from Nat.min_eq_left w4];rfl) (Nat.min_eq_left (by omega:1≤q.length+1-i)).symm (fun d hd=>all_eq_true.1 (oW a) d hd) (by show i+1≤((q.flatMap cK).take i++replicate (E*1-((q.flatMap cK).take i).length) D.bU).length;rw[length_append,pN,Z];omega) rfl ?_;refine aj 95 [0,1,7,9] ?_;refine CD.seq ?_;refine lT 8 [9,50,53] ?_;refine aP 4 ?_ (h:=by exact(ek (l:=i+1) (h:=q.length+1) rfl ot ⟨_,ot⟩ trivial tD));refine aP 2 ?_ (h:=by exact(ek (l:=i) (h:=q.length) rfl ot ⟨_,ot⟩ trivial tD));refine jP ?_
  refine OD.copy (k:=0) (k2:=2) (od:=eE E (i+1) 1 0) (oy:=eE cap i 1 0) (new:=(q.flatMap cK).drop i) (cs':=cY (cY ((q.flatMap cK).take i++replicate (E*1-((q.flatMap cK).take i).length) D.bU) i (cK a)) (i+1) ((q.flatMap cK).drop i)) an rfl rfl underlying90 Du ot rfl rfl ot rfl rfl (by show take (Nat.min (q.length-i) (q.length+1-(i+1))) (drop (eE cap i 1 0) (q.flatMap cK))=_;rw[I,rf,take_of_length_le w4]) (by show _=Nat.min (q.length-i) (q.length+1-(i+1));rw[rf,U]) (fun d hd=>jx d (mem_of_mem_drop hd)) (by show eE E (i+1) 1 0+_≤(cY ((q.flatMap cK).take i++replicate (E*1-((q.flatMap cK).take i).length) D.bU) i (cK a)).length;rw[O,U,xN,length_append,pN,Z];omega) (by show cY (cY ((q.flatMap cK).take i++replicate (E*1-((q.flatMap cK).take i).length) D.bU) i (cK a)) (eE E (i+1) 1 0) _=_;rw[O]) ?_;refine aj 95 [9] ?_;refine aC 1 ?_;refine OD.shrink (k:=0) (cs':=(gL q i a).flatMap cK) rfl (by rw[DV fW];exact Qd Z rfl (by rw[pN,U,Z];omega)) ?_;refine aj 95 [6] ?_;refine aJ [⟨F2,49,E*1,(gL q i a).flatMap cK⟩] ?_;exact⟨_,_,rfl,bD (by rw[x5 hi];exact BV) KO⟩
 have I:eE cap (i) 1 0=i:=(by unfold eE;rw[if_neg w4];omega)
 have O:eE cap (i+1) 1 0=i+1:=(by unfold eE;rw[if_neg w4];omega)
 have rf:Nat.min (q.length+1-i) (q.length+1-(i+1))=q.length-i:=(by rw[show q.length+1-(i+1)=q.length-i from by omega];exact Nat.min_eq_right w4)
 refine cM [0,1,2,7,8] ?_;refine aP 4 ?_ (h:=by exact(ek (l:=0) (h:=q.length+1) rfl ot trivial ⟨_,ot⟩ K3));refine bM ?_;refine aC 5 ?_;refine bJ (ek (l:=i+1) (h:=q.length+1) rfl ot ⟨_,ot⟩ trivial tD) ?_;refine OD.wk (Wk.toEnd (k:=1) rfl) ?_;refine OD.overlaps (r:=4) (k:=0) (k2:=1) an rfl rfl func141 ay ay ay ay underlying90 sizeOf49 ot rfl rfl ot rfl rfl w7 (by show cap*1≠0;omega) ?_;refine aj 95 [0,1,2,7,8,68] ?_;refine aq (fun bF bY=>?_) (fun bF bY=>?_)
 ·refine CD.seq ?_;refine lT 8 [0,1,2,73,76] ?_;refine aP 4 ?_ (h:=by exact(ek (l:=i+1) (h:=q.length+1) rfl ot ⟨_,ot⟩ trivial tD));refine aP 2 ?_ (h:=by exact(ek (l:=i) (h:=q.length+1) rfl ot ⟨_,ot⟩ trivial tD));refine jP ?_;refine OD.copy (k:=1) (k2:=1) (od:=eE cap (i+1) 1 0) (oy:=eE cap i 1 0) (new:=(q.flatMap cK).drop i) (cs':=cY ((q.flatMap cK)++replicate (cap*1-(q.flatMap cK).length) D.bU) (i+1) ((q.flatMap cK).drop i)) an rfl rfl underlying90 Du ot rfl rfl ot rfl rfl (by show take (Nat.min (q.length+1-i) (q.length+1-(i+1))) (drop (eE cap i 1 0) ((q.flatMap cK)++replicate (cap*1-(q.flatMap cK).length) D.bU))=_;rw[I,rf,drop_append_of_le_length w4,take_left' U]) (by show _=Nat.min (q.length+1-i) (q.length+1-(i+1));rw[rf,U]) (fun d hd=>jx d (mem_of_mem_drop hd)) (by show eE cap (i+1) 1 0+_≤((q.flatMap cK)++replicate (cap*1-(q.flatMap cK).length) D.bU).length;rw[O,U,length_append,pN,hQ];omega) (by show cY ((q.flatMap cK)++replicate (cap*1-(q.flatMap cK).length) D.bU) (eE cap (i+1) 1 0) _=_;rw[O]) ?_;refine aj 95 [0,1,2] ?_;refine aC 2 ?_;refine bJ (ek (l:=i) (h:=q.length+1) rfl ot ⟨_,ot⟩ trivial tD) ?_;refine aD 1 ?_
  refine OD.copy (k:=1) (k2:=0) (od:=eE cap i 1 0) (new:=cK a) (cs':=cY (cY ((q.flatMap cK)++replicate (cap*1-(q.flatMap cK).length) D.bU) (i+1) ((q.flatMap cK).drop i)) i (cK a)) an rfl rfl underlying90 Du ot rfl rfl ot rfl rfl (by show take (Nat.min 1 (q.length+1-i)) (cK a)=_;rw[show Nat.min 1 (q.length+1-i)=1 from Nat.min_eq_left w4];rfl) (Nat.min_eq_left (by omega:1≤q.length+1-i)).symm (fun d hd=>all_eq_true.1 (oW a) d hd) (by show eE cap i 1 0+1≤(cY ((q.flatMap cK)++replicate (cap*1-(q.flatMap cK).length) D.bU) (i+1) ((q.flatMap cK).drop i)).length;rw[I,xN,length_append,pN,hQ];omega) (by show cY (cY ((q.flatMap cK)++replicate (cap*1-(q.flatMap cK).length) D.bU) (i+1) ((q.flatMap cK).drop i)) (eE cap i 1 0) _=_;rw[I]) ?_;refine aj 95 [0] ?_;refine aC 1 ?_;refine OD.shrink (k:=1) (cs':=(gL q i a).flatMap cK) rfl (by rw[DV fW];show _ <+: cY (cY ((q.flatMap cK)++_) (i+1) ((q.flatMap cK).drop i)) i (cK a);rw[show(q.flatMap cK)++replicate (cap*1-(q.flatMap cK).length) D.bU=((q.flatMap cK).take i++(q.flatMap cK).drop i)++replicate (cap*1-(q.flatMap cK).length) D.bU from by rw[take_append_drop]];exact Rx Z rfl (by rw[pN,hQ];omega)) ?_;refine aj 95 [6] ?_;refine aJ [⟨b,49,cap*1,(gL q i a).flatMap cK⟩] ?_;exact⟨_,_,rfl,bD (by rw[x5 hi];omega) hm⟩
 exact absurd bF (by simp at *)
theorem Dv:(Tryz.prog.info? 3).map (fun i=>i.size)=some 1:=by kernel_rfl
theorem Hw:(Tryz.prog.info? 3).map (fun i=>(i.zero,i.size,i.bytes))=some (some (.int .i64 0),1,8):=by kernel_rfl
theorem Yu(q:List Int)(i:Nat)(a:Int)(cap b bv:Nat)(hi:i≤q.length)(hc:q.length≤cap)(hm:cap≤maxLen)(hs:q.length≤1000):VC Tryz.prog G 117 [.v (.slice (some ⟨b,0,none⟩) q.length cap),.v (.int .i64 (i:Nat)),.v (.slice (some ⟨bv,0,none⟩) 1 1)] [⟨bv,3,1*1,cI a⟩,⟨b,3,cap*1,q.flatMap cI⟩] (fun r S=>∃ad j9,r = .v (.slice ad (q.length+1) j9)∧bu 3 1 ((gL q i a).flatMap cI) (gL q i a).length ad j9 S):=by
 refine VC.body func117 rfl ntmps117 aO fun X0 w0 aX=>?_;refine ae [0,1,2] ?_;refine aC 2 ?_;refine bJ (ek (l:=i) rfl ot ⟨_,ot⟩ trivial tE) ?_;refine aj 95 [0,1,2] ?_;refine ae [0,1,2,7] ?_;refine ae [0,1,2,7,16] ?_;refine aq (fun az aG=>?_) (fun az aG=>?_)
 ·exact absurd az (by simp at *)
 refine ae [0,1,2,7,8] ?_;refine ae [0,1,2,7,8,22] ?_;refine aq (fun aH aU=>?_) (fun aH aU=>?_)
 ·obtain rfl:i=q.length:=(by simp at *;omega)
  refine aC 2 ?_;refine fG 0 24 1 1 ?_;refine OD.en (ls:=q) (new:=[a]) (Sq:=[⟨b,3,cap*1,q.flatMap cI⟩]) ev nf an rfl rfl underlying91 Hw rfl w7 ot (bD hc hm) (dB (A:=[])) ot bw u7 gM (fun xA BU KM KN=>?_);refine OD.perm (dY (S1:=[⟨xA,3,BU*1,flatMap cI (q++[a])⟩]) (A:=[])) ?_;refine aj 95 [6] ?_;refine aJ [⟨xA,3,BU*1,flatMap cI (q++[a])⟩] ?_;exact⟨_,_,by rw[length_append];rfl,by rw[Qc];exact bD KM KN⟩
 have aa:i<q.length:=(by omega)
 have hQ:(q.flatMap cI).length=q.length:=(by rw[cl ev];omega)
 have Z:((q.flatMap cI).take i).length=i:=(by rw[length_take];omega)
 have U:((q.flatMap cI).drop i).length=q.length-i:=(by rw[length_drop];omega)
 have jx:∀d∈(q.flatMap cI),V.one d=true:=sV nf _;refine cM [0,1,2,7,8,31] ?_;refine aP 4 ?_ (h:=by exact(DM rfl rfl ot runUnderlying91));refine bM ?_;refine aq (fun aY bz=>?_) (fun aY bz=>?_)
 ·have I:eE cap (i) 1 0=i:=(by unfold eE;rw[if_neg w4];omega)
  have rf:Nat.min (q.length-i) (q.length+1-(i+1))=q.length-i:=Nat.min_eq_left w4;refine aC 2 ?_;refine bJ (ek (l:=0) (h:=i) rfl ot trivial ⟨_,ot⟩ K4) ?_;refine aD 5 ?_;refine OD.QY (n:=i) (m:=q.length+1-i) (k:=1) an rfl rfl underlying91 underlying3 Hw rfl ot rfl rfl (by show i≤(q.flatMap cI).length;omega) (Eq.trans ot (congrArg (fun z=>D.v (.int .i64 z)) (show((q.length:Int)+(1:Nat)-(i:Int))=((q.length+1-i:Nat):Int) by omega))) w4 w4 Fg w4 (fun F2 E BV KO=>?_);have jO:i+(q.length+1-i)=q.length+1:=(by omega)
  rw[jO] at BV ⊢;refine aj 95 [0,1,2,7,9] ?_;refine aC 2 ?_;refine bJ (ek (l:=i) (h:=q.length+1) rfl ot ⟨_,ot⟩ trivial tE) ?_;have vk:eE E (i) 1 0=i:=(by unfold eE;rw[if_neg w4];omega)
  rw[vk];refine aD 1 ?_;have O:eE E (i+1) 1 0=i+1:=(by unfold eE;rw[if_neg w4];omega)
  refine OD.wk (Wk.toEnd (k:=0) rfl) ?_;refine OD.copy (k:=0) (k2:=1) (od:=i) (new:=cI a) (cs':=cY ((q.flatMap cI).take i++replicate (E*1-((q.flatMap cI).take i).length) D.bU) i (cI a)) an rfl rfl underlying91 Dv ot rfl rfl ot rfl rfl (by show take (Nat.min 1 (q.length+1-i)) (cI a)=_;rw[show Nat.min 1 (q.length+1-i)=1 from Nat.min_eq_left w4];rfl) (Nat.min_eq_left (by omega:1≤q.length+1-i)).symm (fun d hd=>all_eq_true.1 (nf a) d hd) (by show i+1≤((q.flatMap cI).take i++replicate (E*1-((q.flatMap cI).take i).length) D.bU).length;rw[length_append,pN,Z];omega) rfl ?_;refine aj 95 [0,1,7,9] ?_;refine CD.seq ?_;refine lT 8 [9,50,53] ?_;refine aP 4 ?_ (h:=by exact(ek (l:=i+1) (h:=q.length+1) rfl ot ⟨_,ot⟩ trivial tE));refine aP 2 ?_ (h:=by exact(ek (l:=i) (h:=q.length) rfl ot ⟨_,ot⟩ trivial tE));refine jP ?_
  refine OD.copy (k:=0) (k2:=2) (od:=eE E (i+1) 1 0) (oy:=eE cap i 1 0) (new:=(q.flatMap cI).drop i) (cs':=cY (cY ((q.flatMap cI).take i++replicate (E*1-((q.flatMap cI).take i).length) D.bU) i (cI a)) (i+1) ((q.flatMap cI).drop i)) an rfl rfl underlying91 Dv ot rfl rfl ot rfl rfl (by show take (Nat.min (q.length-i) (q.length+1-(i+1))) (drop (eE cap i 1 0) (q.flatMap cI))=_;rw[I,rf,take_of_length_le w4]) (by show _=Nat.min (q.length-i) (q.length+1-(i+1));rw[rf,U]) (fun d hd=>jx d (mem_of_mem_drop hd)) (by show eE E (i+1) 1 0+_≤(cY ((q.flatMap cI).take i++replicate (E*1-((q.flatMap cI).take i).length) D.bU) i (cI a)).length;rw[O,U,xN,length_append,pN,Z];omega) (by show cY (cY ((q.flatMap cI).take i++replicate (E*1-((q.flatMap cI).take i).length) D.bU) i (cI a)) (eE E (i+1) 1 0) _=_;rw[O]) ?_;refine aj 95 [9] ?_;refine aC 1 ?_;refine OD.shrink (k:=0) (cs':=(gL q i a).flatMap cI) rfl (by rw[DV ev];exact Qd Z rfl (by rw[pN,U,Z];omega)) ?_;refine aj 95 [6] ?_;refine aJ [⟨F2,3,E*1,(gL q i a).flatMap cI⟩] ?_;exact⟨_,_,rfl,bD (by rw[x5 hi];exact BV) KO⟩
 have I:eE cap (i) 1 0=i:=(by unfold eE;rw[if_neg w4];omega)
 have O:eE cap (i+1) 1 0=i+1:=(by unfold eE;rw[if_neg w4];omega)
 have rf:Nat.min (q.length+1-i) (q.length+1-(i+1))=q.length-i:=(by rw[show q.length+1-(i+1)=q.length-i from by omega];exact Nat.min_eq_right w4)
 refine cM [0,1,2,7,8] ?_;refine aP 4 ?_ (h:=by exact(ek (l:=0) (h:=q.length+1) rfl ot trivial ⟨_,ot⟩ K4));refine bM ?_;refine aC 5 ?_;refine bJ (ek (l:=i+1) (h:=q.length+1) rfl ot ⟨_,ot⟩ trivial tE) ?_;refine OD.wk (Wk.toEnd (k:=1) rfl) ?_;refine OD.overlaps (r:=4) (k:=0) (k2:=1) an rfl rfl func143 ay ay ay ay underlying91 sizeOf3 ot rfl rfl ot rfl rfl w7 (by show cap*1≠0;omega) ?_;refine aj 95 [0,1,2,7,8,68] ?_;refine aq (fun bF bY=>?_) (fun bF bY=>?_)
 ·refine CD.seq ?_;refine lT 8 [0,1,2,73,76] ?_;refine aP 4 ?_ (h:=by exact(ek (l:=i+1) (h:=q.length+1) rfl ot ⟨_,ot⟩ trivial tE));refine aP 2 ?_ (h:=by exact(ek (l:=i) (h:=q.length+1) rfl ot ⟨_,ot⟩ trivial tE));refine jP ?_;refine OD.copy (k:=1) (k2:=1) (od:=eE cap (i+1) 1 0) (oy:=eE cap i 1 0) (new:=(q.flatMap cI).drop i) (cs':=cY ((q.flatMap cI)++replicate (cap*1-(q.flatMap cI).length) D.bU) (i+1) ((q.flatMap cI).drop i)) an rfl rfl underlying91 Dv ot rfl rfl ot rfl rfl (by show take (Nat.min (q.length+1-i) (q.length+1-(i+1))) (drop (eE cap i 1 0) ((q.flatMap cI)++replicate (cap*1-(q.flatMap cI).length) D.bU))=_;rw[I,rf,drop_append_of_le_length w4,take_left' U]) (by show _=Nat.min (q.length+1-i) (q.length+1-(i+1));rw[rf,U]) (fun d hd=>jx d (mem_of_mem_drop hd)) (by show eE cap (i+1) 1 0+_≤((q.flatMap cI)++replicate (cap*1-(q.flatMap cI).length) D.bU).length;rw[O,U,length_append,pN,hQ];omega) (by show cY ((q.flatMap cI)++replicate (cap*1-(q.flatMap cI).length) D.bU) (eE cap (i+1) 1 0) _=_;rw[O]) ?_;refine aj 95 [0,1,2] ?_;refine aC 2 ?_;refine bJ (ek (l:=i) (h:=q.length+1) rfl ot ⟨_,ot⟩ trivial tE) ?_;refine aD 1 ?_
  refine OD.copy (k:=1) (k2:=0) (od:=eE cap i 1 0) (new:=cI a) (cs':=cY (cY ((q.flatMap cI)++replicate (cap*1-(q.flatMap cI).length) D.bU) (i+1) ((q.flatMap cI).drop i)) i (cI a)) an rfl rfl underlying91 Dv ot rfl rfl ot rfl rfl (by show take (Nat.min 1 (q.length+1-i)) (cI a)=_;rw[show Nat.min 1 (q.length+1-i)=1 from Nat.min_eq_left w4];rfl) (Nat.min_eq_left (by omega:1≤q.length+1-i)).symm (fun d hd=>all_eq_true.1 (nf a) d hd) (by show eE cap i 1 0+1≤(cY ((q.flatMap cI)++replicate (cap*1-(q.flatMap cI).length) D.bU) (i+1) ((q.flatMap cI).drop i)).length;rw[I,xN,length_append,pN,hQ];omega) (by show cY (cY ((q.flatMap cI)++replicate (cap*1-(q.flatMap cI).length) D.bU) (i+1) ((q.flatMap cI).drop i)) (eE cap i 1 0) _=_;rw[I]) ?_;refine aj 95 [0] ?_;refine aC 1 ?_;refine OD.shrink (k:=1) (cs':=(gL q i a).flatMap cI) rfl (by rw[DV ev];show _ <+: cY (cY ((q.flatMap cI)++_) (i+1) ((q.flatMap cI).drop i)) i (cI a);rw[show(q.flatMap cI)++replicate (cap*1-(q.flatMap cI).length) D.bU=((q.flatMap cI).take i++(q.flatMap cI).drop i)++replicate (cap*1-(q.flatMap cI).length) D.bU from by rw[take_append_drop]];exact Rx Z rfl (by rw[pN,hQ];omega)) ?_;refine aj 95 [6] ?_;refine aJ [⟨b,3,cap*1,(gL q i a).flatMap cI⟩] ?_;exact⟨_,_,rfl,bD (by rw[x5 hi];omega) hm⟩
 exact absurd bF (by simp at *)
theorem ZS(a:K)(bv:Nat):VC Tryz.prog G 116 [.v (.slice none 0 0),.v (.int .i64 (0:Nat)),.v (.slice (some ⟨bv,0,none⟩) 1 1)] [⟨bv,49,1*1,cK a⟩] (fun r S=>∃ad E,r = .v (.slice ad 1 E)∧bu 49 1 ((gL ([]:List K) 0 a).flatMap cK) (gL ([]:List K) 0 a).length ad E S):=by
 refine VC.body func116 rfl ntmps116 aO fun X0 w0 aX=>?_;refine ae [0,1,2] ?_;refine aC 2 ?_;refine bJ (Dw rfl ot ⟨_,_,ot,rfl⟩ rfl runUnderlying90 sizeOf49) ?_;refine aj 95 [0,1,2] ?_;refine ae [0,1,2,7] ?_;refine ae [0,1,2,7,16] ?_;refine aq (fun az aG=>?_) (fun az aG=>?_)
 ·exact absurd az (by simp at *)
 refine ae [0,1,2,7,8] ?_;refine ae [0,1,2,7,8,22] ?_;refine aq (fun aH aU=>?_) (fun aH aU=>?_)
 ·refine aC 2 ?_;refine fG 0 24 1 1 ?_;refine OD.en (ls:=([]:List K)) (new:=[a]) (Sq:=[]) fW oW an rfl rfl underlying90 G3 rfl w7 ot iA (dB (A:=[])) ot bw (by simp[maxLen]) bw (fun O I U Z=>?_);refine OD.perm (dY (S1:=[⟨O,49,I*1,flatMap cK (([]:List K)++[a])⟩]) (A:=[])) ?_;refine aj 95 [6] ?_;refine aJ [⟨O,49,I*1,flatMap cK (([]:List K)++[a])⟩] ?_;exact⟨_,_,rfl,bD U Z⟩
 exact absurd aH (by simp at *)
theorem Yv(q:List K)(i:Nat)(a:K)(ad:Option Addr)(cap:Nat)(Sq:List ag)(I:Nat)(hi:i≤q.length)(hs:q.length≤1000)(ho:bu 49 1 (q.flatMap cK) q.length ad cap Sq):VC Tryz.prog G 116 [.v (.slice ad q.length cap),.v (.int .i64 (i:Nat)),.v (.slice (some ⟨I,0,none⟩) 1 1)] (⟨I,49,1*1,cK a⟩::Sq) (fun r S=>∃ad E,r = .v (.slice ad (q.length+1) E)∧bu 49 1 ((gL q i a).flatMap cK) (gL q i a).length ad E S):=by
 rcases ho with ⟨h1,h2,rfl,rfl,rfl⟩|⟨b,rfl,h1,h2,rfl⟩
 ·obtain rfl:=length_eq_zero_iff.1 h1;obtain rfl:i=0:=Nat.le_zero.1 hi;exact ZS a I
 exact Yt q i a cap b I hi h1 h2 hs
theorem ZT(a:Int)(bv:Nat):VC Tryz.prog G 117 [.v (.slice none 0 0),.v (.int .i64 (0:Nat)),.v (.slice (some ⟨bv,0,none⟩) 1 1)] [⟨bv,3,1*1,cI a⟩] (fun r S=>∃ad E,r = .v (.slice ad 1 E)∧bu 3 1 ((gL ([]:List Int) 0 a).flatMap cI) (gL ([]:List Int) 0 a).length ad E S):=by
 refine VC.body func117 rfl ntmps117 aO fun X0 w0 aX=>?_;refine ae [0,1,2] ?_;refine aC 2 ?_;refine bJ (Dw rfl ot ⟨_,_,ot,rfl⟩ rfl runUnderlying91 sizeOf3) ?_;refine aj 95 [0,1,2] ?_;refine ae [0,1,2,7] ?_;refine ae [0,1,2,7,16] ?_;refine aq (fun az aG=>?_) (fun az aG=>?_)
 ·exact absurd az (by simp at *)
 refine ae [0,1,2,7,8] ?_;refine ae [0,1,2,7,8,22] ?_;refine aq (fun aH aU=>?_) (fun aH aU=>?_)
 ·refine aC 2 ?_;refine fG 0 24 1 1 ?_;refine OD.en (ls:=([]:List Int)) (new:=[a]) (Sq:=[]) ev nf an rfl rfl underlying91 Hw rfl w7 ot iA (dB (A:=[])) ot bw (by simp[maxLen]) bw (fun O I U Z=>?_);refine OD.perm (dY (S1:=[⟨O,3,I*1,flatMap cI (([]:List Int)++[a])⟩]) (A:=[])) ?_;refine aj 95 [6] ?_;refine aJ [⟨O,3,I*1,flatMap cI (([]:List Int)++[a])⟩] ?_;exact⟨_,_,rfl,bD U Z⟩
 exact absurd aH (by simp at *)
theorem Yw(q:List Int)(i:Nat)(a:Int)(ad:Option Addr)(cap:Nat)(Sq:List ag)(I:Nat)(hi:i≤q.length)(hs:q.length≤1000)(ho:bu 3 1 (q.flatMap cI) q.length ad cap Sq):VC Tryz.prog G 117 [.v (.slice ad q.length cap),.v (.int .i64 (i:Nat)),.v (.slice (some ⟨I,0,none⟩) 1 1)] (⟨I,3,1*1,cI a⟩::Sq) (fun r S=>∃ad E,r = .v (.slice ad (q.length+1) E)∧bu 3 1 ((gL q i a).flatMap cI) (gL q i a).length ad E S):=by
 rcases ho with ⟨h1,h2,rfl,rfl,rfl⟩|⟨b,rfl,h1,h2,rfl⟩
 ·obtain rfl:=length_eq_zero_iff.1 h1;obtain rfl:i=0:=Nat.le_zero.1 hi;exact ZT a I
 exact Yu q i a cap b I hi h1 h2 hs

end Go.Proofs.YtbcmjoaggammcaaGreatDoor.Tw
