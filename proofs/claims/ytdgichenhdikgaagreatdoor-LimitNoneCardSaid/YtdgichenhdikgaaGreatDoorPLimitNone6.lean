/-
  What the proof of LimitNone leans on, part 6 of 8: walks of the program's functions at the level of values, and plain facts of what they compute.
-/
import Derived.Test.YtdgichenhdikgaaGreatDoorPLimitNone5
set_option linter.unusedVariables false
set_option linter.unusedSimpArgs false
set_option maxRecDepth 100000
set_option maxHeartbeats 4000000
namespace Go.Proofs.YtdgichenhdikgaaGreatDoor.Tw
open List
open Go.Proofs.Tryz
open Go.RowKit V Tr Pk
open Go.Lib (compareBytes)
variable {p:cY}
def ik(t:aG)(k:K)(h:Nat):Bool:=mS (t.pg (aH t k h t.root)).keys k
theorem DT{t:aG}{h:Nat}(v:Valid t h)(k:K):ik t k h=true↔Bi t k h:=by
 unfold ik mS Bi;have hl:=(v.leaf k).2;have fJ:aL (t.pg (aH t k h t.root)) k=gk (t.pg (aH t k h t.root)).keys k:=(by unfold aL;rw[if_pos hl])
 rw[fJ,decide_eq_true_iff,List.getElem?_eq_some_iff]
theorem RM{k:K}(hl:p.leaf=true)(ha:aL p k<p.keys.length):decide (p.keys[aL p k]=k)=mS p.keys k:=by
 unfold mS;have fJ:aL p k=gk p.keys k:=(by unfold aL;rw[if_pos hl])
 simp only[fJ] at ha ⊢;rw[getElem?_eq_getElem ha];simp
theorem RN{k:K}(hl:p.leaf=true)(ha:¬aL p k<p.keys.length):false=mS p.keys k:=by
 unfold mS;have fJ:aL p k=gk p.keys k:=(by unfold aL;rw[if_pos hl])
 rw[fJ] at ha;rw[getElem?_eq_none w4];rfl
theorem adb{t:aG}{k:K}{h:Nat}{i:Int}:∃(hn:(iY t k h i).length-1<(iY t k h i).length),(iY t k h i)[(iY t k h i).length-1]=aH t k h i:=by
 have h1:=OK t k h i;rw[getLast?_eq_getElem?] at h1;exact List.getElem?_eq_some_iff.1 h1
variable {G:List (Nat×List Value)}
theorem Qm{n:Int}(hp:eC p n)(k:K):aL p k≤p.keys.length:=by
 unfold aL;split
 ·exact ym _ _
 exact AT _ _
theorem Es(t:aG)(k:K):∀(h:Nat) (i:Int),(iY t k h i).length=h+1
 | 0,i=>rfl
 | h+1,i=>by rw[iY,length_cons,Es t k h]
theorem qI(t:aG)(h:Nat)(v:Valid t h)(k:K)(dX:k.length≤maxLen)(U:(iY t k h t.root).length≤1000000):VP Tryz.prog G 94 [.agg (cT t),ax 1 cB k] (.dG [ae (aH t k h t.root),ae (aL (t.pg (aH t k h t.root)) k:Nat),bX (ik t k h)]):=by
 refine VC.body func94 rfl ntmps94 aO fun X0 w0 aY=>?_;unfold cT;have dy:=dY;have qt:=ada (G:=G) t h v k;unfold cT at qt;obtain⟨fX,Z⟩:=adb (t:=t) (k:=k) (h:=h) (i:=t.root);obtain⟨q1,J5⟩:=v.leaf k;have aa:(aH t k h t.root).toNat<t.ag.length:=(by omega)
 have I:t.pg (aH t k h t.root)=(t.ag[(aH t k h t.root).toNat]'aa):=uS q1;have po:=v.fA _ (jx q1);have MU:=v.nC;have UN:(iY t k h t.root).length≤1000000:=U;have aiH:=It (G:=G) (t.pg (aH t k h t.root)) k po.jN (by have:=po.eM;omega);have aiI:VP Tryz.prog G 123 [.agg (cP (t.ag[(aH t k h t.root).toNat]'aa)),ax 1 cB k] (ae (aL (t.ag[(aH t k h t.root).toNat]'aa) k:Nat)):=(by rw[←I];exact aiH)
 have aiJ:∀x∈(t.ag[(aH t k h t.root).toNat]'aa).keys,x.length≤maxLen:=fun x hx=>by rw[←I] at hx;have:=(po.lf x hx).2;omega
 have E:(t.ag[(aH t k h t.root).toNat]'aa).leaf=true:=(by rw[←I];exact J5)
 have O:ik t k h=mS (t.ag[(aH t k h t.root).toNat]'aa).keys k:=(by unfold ik;rw[I])
 have nc:=po.eM;have aiK:=(Qm po k)
 rw[I] at nc aiK;refine cf ?_;refine OD.box (ds:=[_,_]) ap rfl rfl ot rfl rfl (fun b2=>?_);refine an 42 [1,2] ?_;refine cW [1,2,7] (qt) ?_;refine cR [1,2,4] ?_;refine aR 4 ?_ (h:=by exact(dF 1 (h:=by first|exact .l (j:=(iY t k h t.root).length-1) w4 fX|exact .r (j:=(iY t k h t.root).length-1) w4 fX)));refine aR 0 ?_ (h:=by exact(cM (mk:=Op.load 3) rfl ot (pZ (d:=ae (aH t k h t.root)) (i:=(iY t k h t.root).length-1) eA isAgg3 fX (by rw[Z];rfl))));refine bH ?_;refine aC 5 ?_;refine OD.alloc (ds:=[_,_,_,_,_]) ap rfl rfl zeroValue153 rfl (fun b8=>?_);refine aK 0 [_,_,_,_,_] sizeOf153 ?_;refine an 42 [1,4,8] ?_;refine cW [1,4,5,8] (aiI) ?_;refine aC 8 ?_;refine bW 33 (fun aiL agn=>?_) (fun aiL agn=>?_)
 ·refine aE 6 ?_;refine OD.gY ic rfl rfl rfl call133 (TP ((t.ag[(aH t k h t.root).toNat]'aa).keys[aL (t.ag[(aH t k h t.root).toNat]'aa) k]'w4) k (aiJ _ (getElem_mem _)) dX) ⟨ot,ot,trivial⟩ ?_;refine an 42 [4,5,6] ?_;refine aI [] ?_;rw[O,I];first|exact⟨by rw[RM E w4],rfl⟩|exact⟨by rw[←RN E w4],rfl⟩
 refine bg [4,5,6] ?_;refine aI [] ?_;rw[O,I];first|exact⟨by rw[RM E w4],rfl⟩|exact⟨by rw[←RN E w4],rfl⟩

end Go.Proofs.YtdgichenhdikgaaGreatDoor.Tw
namespace Go.Proofs.YtdgichenhdikgaaGreatDoor.Tw
open List
open Go.Proofs.Tryz
open Go.RowKit V Tr Pk
abbrev lI(ls:List Int)(ad:Option Addr)(cap:Nat)(S:List ah):Prop:=bw 3 1 (ls.flatMap cI) ls.length ad cap S
abbrev oE(ls:List K)(ad:Option Addr)(cap:Nat)(S:List ah):Prop:=bw 88 1 (ls.flatMap cK) ls.length ad cap S
variable {G:List (Nat×List Value)}
theorem ZY:(Tryz.prog.info? 5).map (fun i=>(i.zero,i.size,i.bytes))=some (some (.int .u8 0),1,1):=by kernel_rfl
theorem jS(a:List UInt8)(ha:a.length≤1000000):VP Tryz.prog G 95 [ax 1 cB a] (ax 1 cB a):=by
 refine VC.body func95 rfl ntmps95 aO fun X0 w0 aY=>?_;have dy:=dY;refine af [0] ?_;refine aC 1 ?_;refine OD.yU ap rfl rfl ot bI underlying88 (fun O xz=>?_);refine an 8 [0,4] ?_;refine au ?_ ?_<;>intro aP bF
 ·exact V0
 refine cf ?_;refine OD.yV ap rfl rfl runUnderlying88 sizeOf5 (fun b5=>?_);refine aE 1 ?_;refine OD.oY (ls:=([]:List UInt8)) (new:=a) (Sq:=[⟨b5,5,0*1,[]⟩]) pi v8 ap rfl rfl underlying88 ZY rfl w7 runUnderlying88 sizeOf5 ot (.inr ⟨b5,rfl,Nat.le_refl _,Nat.zero_le _,rfl⟩) (dI (A:=[])) ot hU hU (fun E I S7 pG=>?_);exact Up
theorem ZZ:(Tryz.prog.info? 3).map (fun i=>(i.zero,i.size,i.bytes))=some (some (.int .i64 0),1,8):=by kernel_rfl
theorem nM(a:List Int)(ha:a.length≤1000000):VC Tryz.prog G 120 [ax 1 cI a] [] (fun r S=>∃ad cap,r=aN ad a.length cap∧lI a ad cap S):=by
 refine VC.body func120 rfl ntmps120 aO fun X0 w0 aY=>?_;have dy:=dY;refine af [0] ?_;refine aC 1 ?_;refine OD.yU ap rfl rfl ot bI underlying67 (fun O xz=>?_);refine an 8 [0,4] ?_;refine au ?_ ?_<;>intro aP bF
 ·exact Gr
 refine cf ?_;refine OD.yV ap rfl rfl runUnderlying67 sizeOf3 (fun b5=>?_);refine aE 1 ?_;refine OD.oY (ls:=([]:List Int)) (new:=a) (Sq:=[⟨b5,3,0*1,[]⟩]) eA nu ap rfl rfl underlying67 ZZ rfl w7 runUnderlying67 sizeOf3 ot (.inr ⟨b5,rfl,Nat.le_refl _,Nat.zero_le _,rfl⟩) (dI (A:=[])) ot hU hU (fun E I S7 pG=>?_);exact Gt
theorem YH:(Tryz.prog.info? 88).map (fun i=>(i.zero,i.size,i.bytes))=some (some (.slice none 0 0),1,24):=by kernel_rfl
theorem vL(a:List K)(ha:a.length≤1000000):VC Tryz.prog G 150 [ax 1 cK a] [] (fun r S=>∃ad cap,r=aN ad a.length cap∧oE a ad cap S):=by
 refine VC.body func150 rfl ntmps150 aO fun X0 w0 aY=>?_;have dy:=dY;refine af [0] ?_;refine aC 1 ?_;refine OD.yU ap rfl rfl ot bI underlying151 (fun O xz=>?_);refine an 8 [0,4] ?_;refine au ?_ ?_<;>intro aP bF
 ·exact Gr
 refine cf ?_;refine OD.yV ap rfl rfl runUnderlying151 sizeOf88 (fun b5=>?_);refine aE 1 ?_;refine OD.oY (ls:=([]:List K)) (new:=a) (Sq:=[⟨b5,88,0*1,[]⟩]) ga pn ap rfl rfl underlying151 YH rfl w7 runUnderlying151 sizeOf88 ot (.inr ⟨b5,rfl,Nat.le_refl _,Nat.zero_le _,rfl⟩) (dI (A:=[])) ot hU hU (fun E I S7 pG=>?_);exact Gt

structure aB where
 p:cY
 ak:Option Addr
 ck:Nat
 sk:List ah
 ai:Option Addr
 ci:Nat
 si:List ah
def gO(o:aB):List D:=[bX o.p.leaf,aN o.ak o.p.keys.length o.ck,aN o.ai o.p.kids.length o.ci,ax 1 cB o.p.high,ae o.p.next]
theorem fZ(o:aB):(gO o).length=5:=rfl
theorem uD(o:aB):(gO o).all V.one=true:=rfl
def bO(o:aB):List ah:=o.sk++o.si
def qA(o:aB):Prop:=oE o.p.keys o.ak o.ck o.sk∧lI o.p.kids o.ai o.ci o.si
theorem RO{S:List ah}:∀{L:List aB},(∀o∈L,qA o)→(∀B∈L.flatMap bO,B∈S)→gq S (L.flatMap gO) ((L.map aB.p).flatMap cP)
 | [],_,_=>trivial
 | o::L,h,hs=>by
  rw[map_cons,flatMap_cons,flatMap_cons];obtain⟨h1,h2⟩:=h o mem_cons_self;refine gq.append ⟨eP,lA h1 (cy ga _) (fun B E=>hs B ?_),lA h2 (cy eA _) (fun B E=>hs B ?_),eP,eP,trivial⟩ (RO (fun o ho=>h o (mem_cons_of_mem _ ho)) fun B E=>hs B ?_)
  ·rw[flatMap_cons];exact mem_append_left _ (mem_append_left _ E)
  ·rw[flatMap_cons];exact mem_append_left _ (mem_append_right _ E)
  rw[flatMap_cons];exact mem_append_right _ E
abbrev tJ(L:List aB)(ad:Option Addr)(cap:Nat)(S:List ah):Prop:=bw 153 5 (L.flatMap gO) L.length ad cap S
theorem JC{S Sx:List ah}{L:List aB}{ad:Option Addr}{cap:Nat}{root:Int}(ho:tJ L ad cap Sx)(h:∀o∈L,qA o)(hs:∀B∈Sx++L.flatMap bO,B∈S) :
  View S (.agg [aN ad L.length cap,ae root]) (.agg (cT ⟨L.map aB.p,root⟩)):=by
 refine uv ⟨?_,eP,trivial⟩;have:=AG ho (RO h fun B E=>hs B (mem_append_right _ E)) (cy E3 _ |>.trans bu) (fun B E=>hs B (mem_append_left _ E));first|rw[length_map]|(show View _ _ (.list _ _ (length _));rw[length_map])|(show View _ _ (.agg [.list _ _ (length _)]);rw[length_map])
 exact this
def FZ(t:aG)(r:D)(S:List ah):Prop:=∃L ad cap Sx,r = .agg [aN ad (length L) cap,ae t.root]∧tJ L ad cap Sx∧(∀o∈L,qA o)∧L.map aB.p=t.ag∧S=Sx++L.flatMap bO
theorem QT(L:List aB)(o:aB):(L++[o]).flatMap bO=L.flatMap bO++bO o:=by simp
theorem pS{α:Type}{l:List α}{j:Nat}(h:j<l.length):take j l++[l[j]]=take (j+1) l:=(take_succ_eq_append_getElem h).symm
theorem YI:(Tryz.prog.info? 88).map (fun i=>(i.zero,i.size,i.bytes))=some (some (.slice none 0 0),1,24):=by kernel_rfl
theorem XX:(Tryz.prog.info? 153).map (fun i=>(i.zero,i.size,i.bytes))=some (some (.agg #[.bool false,.slice none 0 0,.slice none 0 0,.slice none 0 0,.int .i64 0]),5,88):=by kernel_rfl
theorem Nq : ∀ w, ((#[{ name := "Leaf", type := 4, offset := 0, embedded := false, tag := "", pkgPath := "", byteOffset := 0 }, { name := "Keys", type := 151, offset := 1, embedded := false, tag := "", pkgPath := "", byteOffset := 8 }, { name := "Kids", type := 67, offset := 2, embedded := false, tag := "", pkgPath := "", byteOffset := 32 }, { name := "High", type := 88, offset := 3, embedded := false, tag := "", pkgPath := "", byteOffset := 56 }, { name := "Next", type := 3, offset := 4, embedded := false, tag := "", pkgPath := "", byteOffset := 80 }] : Array Field).mapM fun f => do pure (f.offset, ← sizeOf f.type) : Sem (Array (Nat × Nat))).run Tryz.prog w = .ok #[(0, 1), (1, 1), (2, 1), (3, 1), (4, 1)] w := fun w => by simp [sizeOf151, sizeOf3, sizeOf4, sizeOf67, sizeOf88]
theorem E4(t:aG)(h:Nat)(v:Valid t h):VC Tryz.prog G 121 [.agg (cT t)] [] (FZ t):=by
 refine VC.body func121 rfl ntmps121 aO fun X0 w0 aY=>?_;unfold cT;have dy:=dY;have hval:=v;have MU:=v.nC;refine cf ?_;refine OD.box (ds:=[_,_]) ap rfl rfl ot rfl rfl (fun b1=>?_);refine OD.alloc (ds:=[_,_]) ap rfl rfl zeroValue51 rfl (fun b2=>?_);refine an 51 [1,2] ?_;refine aC 3 ?_;refine OD.alloc (ds:=[_,_]) ap rfl rfl zeroValue51 rfl (fun b3=>?_);refine aK 0 [_,_] sizeOf51 ?_;refine an 51 [1,2,3] ?_;refine af [2,3,13,14,15] ?_;refine eL [2,3,13,14] (fun aW _ (E:Nat×List aB×Option Addr×Nat×List ah) aJ=>match E with|(i,L,dW,dK,Sx)=>(i≤t.ag.length)∧(L.map aB.p=t.ag.take i)∧(∀o∈L,qA o)∧(tJ L dW dK Sx)∧aJ=(⟨51,(15,ae (i:Nat))::aW,(⟨b3,51,2,[aN dW L.length dK,ae t.root]⟩::⟨b2,51,2,[bB,ae 0]⟩::(Sx++L.flatMap bO))⟩:St)) (fun (E:Nat×List aB×Option Addr×Nat×List ah)=>match E with|(i,L,dW,dK,Sx)=>t.ag.length-i) (0,([]:List aB),none,0,[]) ⟨(Nat.zero_le _),rfl,(fun o h=>by cases h),iK,rfl⟩ ?_;rintro⟨i,L,dW,dK,Sx⟩ _ ⟨hi,hL,aT,er,rfl⟩;refine af [2,3,13,14,15,16] ?_;refine au ?_ ?_<;>intro aP bF
 ·have aa:i<t.ag.length:=(by omega)
  have po:=v.fA _ (getElem_mem aa);have rE:L.length=i:=(by have:=congrArg length hL;rw[length_map,length_take] at this;omega)
  have nc:=po.eM;have W6:=po.hlen;have Ft:(t.ag[i]'aa).kids.length≤5:=by
      exact V4
  refine aC 2 ?_;refine OD.alloc (ds:=[_,_,_,_,_]) ap rfl rfl zeroValue153 rfl (fun b5=>?_);refine aK 0 [_,_,_,_,_] sizeOf153 ?_;refine an 51 [2,3,5,13,14,15] ?_;refine cf ?_;refine bg [2,3,5,6,13,14,15] ?_;refine af [2,3,5,6,13,14,15,20,21,22] ?_;refine CD.block ?_;refine mM (fun (E:Nat×Option Addr×Nat×List ah) aJ=>match E with|(j,iz,iA,Sy)=>(j≤(t.ag[i]'aa).keys.length)∧(oE (take j (t.ag[i]'aa).keys) iz iA Sy)∧aJ=(⟨51,[(2,dJ b2),(3,dJ b3),(5,dJ b5),(6,aN iz (take j (t.ag[i]'aa).keys).length iA),(13,ax 5 cP t.ag),(14,ae (t.ag.length:Nat)),(15,ae (i:Nat)),(20,.list 1 ((t.ag[i]'aa).keys.flatMap cK) (t.ag[i]'aa).keys.length),(21,ae ((t.ag[i]'aa).keys.length:Nat)),(22,ae (j:Nat))],(⟨b5,153,5,cP (t.ag[i]'aa)⟩::⟨b3,51,2,[aN dW L.length dK,ae t.root]⟩::⟨b2,51,2,[bB,ae 0]⟩::(Sy++(Sx++L.flatMap bO)))⟩:St)) (fun (E:Nat×Option Addr×Nat×List ah)=>match E with|(j,iz,iA,Sy)=>(t.ag[i]'aa).keys.length-j) (0,none,0,[]) ⟨(Nat.zero_le _),iK,rfl⟩ (aM (h:=by repeat (first|exact trivial|refine⟨(by (repeat (first|exact fx|(apply fQ;focus (first|rfl|(simp;done)|(congr 2;omega)|(apply eG;exact pS O)))|(apply fD;focus rfl)));done),?_⟩))) ?_;rintro⟨j,iz,iA,Sy⟩ _ ⟨hj,U,rfl⟩;refine af [2,3,5,6,13,14,15,20,21,22,23] ?_;refine au ?_ ?_<;>intro aX cJ
  ·have O:j<(t.ag[i]'aa).keys.length:=(by omega)
   have KZ:=(po.lf _ (getElem_mem O)).2;refine af [2,3,5,6,8,13,14,15,20,21,22] ?_;refine dQ 2 ?_;refine dO call95 (jS (t.ag[i]'aa).keys[j] w4) ?_;refine en (bZ 0 [_]) [.slice none 0 0] [_] zeroValue88 runUnderlying151 sizeOf88 (fun ue=>?_);refine fB 0 29 1 1 ?_;refine OD.ev (ls:=(take j (t.ag[i]'aa).keys)) (new:=[(t.ag[i]'aa).keys[j]]) (Sq:=Sy) ga pn ap rfl rfl underlying151 YI rfl w7 ot U (Ib (A:=[_,_,_])) ot bu vl hU (fun Z I KT KU=>?_);refine OD.perm (Pz (S1:=[⟨Z,88,I*1,flatMap cK ((take j (t.ag[i]'aa).keys)++[(t.ag[i]'aa).keys[j]])⟩]) (A:=[_,_,_])) ?_;refine an 51 [2,3,5,6,13,14,15,20,21,22] ?_;refine cl [2,3,5,6,13,14,15,20,21,22] ?_;refine⟨((j+1),(some ⟨Z,0,none⟩),I,[⟨Z,88,I*1,flatMap cK ((take j (t.ag[i]'aa).keys)++[(t.ag[i]'aa).keys[j]])⟩]),_,cD,(aM (h:=by repeat (first|exact trivial|refine⟨(by (repeat (first|exact fx|(apply fQ;focus (first|rfl|(simp;done)|(congr 2;omega)|(apply eG;exact pS O)))|(apply fD;focus rfl)));done),?_⟩))),w4,(bw.cast (bJ KT KU) (pS O)),rfl⟩
  have hjt:take j (t.ag[i]'aa).keys=(t.ag[i]'aa).keys:=take_of_length_le w4;rw[hjt] at U ⊢;refine CD.exit ?_;refine fL 16 (aq (take 1 _)) ?_ (fun _ h=>(Sublist.map _ (take_sublist _ _)).subset h);refine az 0 rfl (da 0) ?_;refine az 2 rfl (da 0) ?_;refine az 3 rfl (dD 0) ?_;refine az 4 rfl bj ?_;refine az 5 rfl (da 2) ?_;refine az 6 rfl (dD 0) ?_;refine az 8 rfl (da 3) ?_;refine az 9 rfl (dD 0) ?_;refine az 11 rfl (da 4) ?_;refine az 12 rfl (dD 0) ?_;refine dm.later rfl ?_;refine AD.two (i:=1) (j:=7) aA ?_ ?_
  ·refine at_ rfl (dD 1) ?_;refine AD.one (i:=7) aA ?_;refine aZ.call rfl ap rfl rfl rfl call120 (nM (t.ag[i]'aa).kids w4) ⟨ot,trivial⟩ (eO _) (fun b hb=>by simp[aq,St.put] at hb ⊢;try simp[hb]) ?_;rintro _ Sz ⟨lN,lO,rfl,xT⟩;refine AD.perm (jg (A:=[_,_,_])) ?_;have vp:(L++[(⟨(t.ag[i]'aa),iz,iA,Sy,lN,lO,Sz⟩:aB)]).map aB.p=t.ag.take (i+1):=(by rw[map_append,hL];exact pS aa)
   have jK:∀o∈L++[(⟨(t.ag[i]'aa),iz,iA,Sy,lN,lO,Sz⟩:aB)],qA o:=fun o ho=>by rcases mem_append.1 ho with ho|ho;exact aT o ho;rw[mem_singleton] at ho;subst ho;exact⟨U,xT⟩
   exact z117
  refine aZ.call rfl ap rfl rfl rfl call120 (nM (t.ag[i]'aa).kids w4) ⟨ot,trivial⟩ (eO _) (fun b hb=>by simp[aq,St.put] at hb ⊢;try simp[hb]) ?_;rintro _ Sz ⟨lN,lO,rfl,xT⟩;refine AD.perm (jg (A:=[_,_,_])) ?_;have vp:(L++[(⟨(t.ag[i]'aa),iz,iA,Sy,lN,lO,Sz⟩:aB)]).map aB.p=t.ag.take (i+1):=(by rw[map_append,hL];exact pS aa)
  have jK:∀o∈L++[(⟨(t.ag[i]'aa),iz,iA,Sy,lN,lO,Sz⟩:aB)],qA o:=fun o ho=>by rcases mem_append.1 ho with ho|ho;exact aT o ho;rw[mem_singleton] at ho;subst ho;exact⟨U,xT⟩
  refine AD.two (i:=1) (j:=10) aA ?_ ?_
  ·refine at_ rfl (dD 1) ?_;exact z117
  refine jB call95 (jS (t.ag[i]'aa).high w4) ?_;refine cu 13 rfl (nr (pl:=[(0,_),(1,_),(2,_),(3,_),(4,_)]) (ds:=[_,_,_,_,_]) rfl zeroValue153 runUnderlying153 Nq ⟨rfl,ot,rfl,ot,rfl,ot,rfl,ot,rfl,ot,trivial⟩ rfl rfl) ?_;refine AD.two (i:=1) (j:=14) aA ?_ ?_
  ·refine at_ rfl (dD 1) ?_;refine AD.one (i:=14) aA ?_;refine jo (bZ 0 [_]) [.bool false,.slice none 0 0,.slice none 0 0,.slice none 0 0,.int .i64 0] [_,_,_,_,_] zeroValue153 runUnderlying49 sizeOf153 (fun Ad=>?_);refine jq 0 46 5 1 ?_;exact LO
  refine jo (bZ 0 [_]) [.bool false,.slice none 0 0,.slice none 0 0,.slice none 0 0,.int .i64 0] [_,_,_,_,_] zeroValue153 runUnderlying49 sizeOf153 (fun Ad=>?_);refine jq 0 46 5 1 ?_;refine AD.one (i:=1) aA ?_;refine at_ rfl (dD 1) ?_;exact LO
 refine aC 1 ?_;refine aK 1 [_,_] sizeOf51 ?_;refine an 51 [2] ?_;refine aI (Sx++L.flatMap bO) ?_;exact⟨L,dW,dK,Sx,rfl,er,aT,by rw[hL,take_of_length_le w4],rfl⟩

end Go.Proofs.YtdgichenhdikgaaGreatDoor.Tw

namespace Go.Proofs.YtdgichenhdikgaaGreatDoor.Tw
open List
open Go.Proofs.Tryz
open Go.RowKit V Go.Proofs.YtdgichenhdikgaaGreatDoor.Tr Pk
open Go.Lib (compareBytes)
variable {t:aG} {lv:List (List Int)} {level:Nat} {i:Int}
structure nw (t:aG) (s:jw):Prop where
 nd:s.1.Nodup
 rg:∀x∈s.1,0≤x∧x<t.ag.length
 eM:s.2.length≤s.1.length
 each:∀l∈s.2,l.length≤s.1.length
 el:∀l∈s.2,∀x∈l,0≤x∧x<t.ag.length
theorem aby{n:Nat}{l:List Int}(h:l.Nodup)(hr:∀x∈l,0≤x∧x<n):l.length≤n:=by
 induction n generalizing l with
 | zero =>
  cases l with
  | nil=>simp
  | cons a l=>have:=hr a mem_cons_self;omega
 | succ n ih =>
  have h1:=ih (l:=l.erase (n:Int)) (h.erase _) fun x hx=>by
   have h2:=(h.mem_erase_iff).1 hx;have h3:=hr x h2.2;have:=h2.1;omega
  rw[length_erase] at h1;split at h1<;>omega
theorem nw.nC{s:jw}(h:nw t s):s.1.length≤t.ag.length:=aby h.nd h.rg
theorem Z0{n:Nat}(h:∀l∈lv,l.length≤n):∀l∈kv lv level i,l.length≤n+1:=fun l hl=>by
 obtain⟨j,hj,rfl⟩:=mem_iff_getElem.1 hl;have e:(kv lv level i)[j]=(kv lv level i).getD j []:=(by rw[getD_eq_getElem?_getD,getElem?_eq_getElem hj];rfl)
 rw[e,EL,length_append];have h1:(lv.getD j []).length≤n:=by
  rw[getD_eq_getElem?_getD];rcases Nat.lt_or_ge j lv.length with q|q
  ·rw[getElem?_eq_getElem q];exact h _ (getElem_mem q)
  rw[getElem?_eq_none q];simp
 split
 ·simp only[length_cons,length_nil];omega
 simp only[length_nil];omega
theorem ade{Q:Int→Prop}(h:∀l∈lv,∀x∈l,Q x)(hi:Q i):∀l∈kv lv level i,∀x∈l,Q x:=fun l hl x hx=>by
 obtain⟨j,hj,rfl⟩:=mem_iff_getElem.1 hl;have e:(kv lv level i)[j]=(kv lv level i).getD j []:=(by rw[getD_eq_getElem?_getD,getElem?_eq_getElem hj];rfl)
 rw[e,EL,mem_append] at hx;rcases hx with hx|hx
 ·rw[getD_eq_getElem?_getD] at hx;rcases Nat.lt_or_ge j lv.length with q|q
  ·rw[getElem?_eq_getElem q] at hx;exact h _ (getElem_mem q) x hx
  rw[getElem?_eq_none q] at hx;cases hx
 split at hx
 ·rw[mem_singleton] at hx;subst hx;exact hi
 cases hx
theorem nw.add{s:jw}(h:nw t s)(hi:0≤i∧i<t.ag.length)(hn:i∉s.1)(hl:level≤s.1.length):nw t (s.1++[i],kv s.2 level i):=by
 refine⟨?_,fun x hx=>?_,?_,?_,ade h.el hi⟩
 ·exact nodup_append.2 ⟨h.nd,by simp,fun a ha b hb e=>by rw[mem_singleton] at hb;subst hb;subst e;exact hn ha⟩
 ·rcases mem_append.1 hx with hx|hx
  ·exact h.rg x hx
  rw[mem_singleton] at hx;subst hx;exact hi
 ·show(kv s.2 level i).length≤(s.1++[i]).length;rw[Ir,length_append];have:=h.eM;simp;omega
 show ∀l∈kv s.2 level i,l.length≤(s.1++[i]).length;rw[length_append];exact Z0 h.each
theorem Qn{t:aG}{go:Int→K→K→jw→Option (Nat×jw)}{low:K}{p:cY}{n:Nat}(E:∀(c:Int) lo hi s d s',(0≤c∧c<t.ag.length)→nw t s→n≤s.1.length→go c lo hi s=some (d,s')→nw t s'∧s.1.length≤s'.1.length) :
  ∀(cs:List Int) (k:Nat) (deep:Option Nat) (s:jw) (d:Nat) (s':jw),(∀c∈cs,0≤c∧c<t.ag.length)→nw t s→n≤s.1.length→lF go low p cs k deep s=some (d,s')→nw t s'∧s.1.length≤s'.1.length
 | [],k,deep,s,d,s',_,hs,_,h=>by
  rw[lF] at h;cases deep with
  | none=>cases h
  | some e=>simp at h;rw[←h.2];exact⟨hs,Nat.le_refl _⟩
 | c::cs,k,deep,s,d,s',hc,hs,hn,h=>by
  rw[lF] at h;cases hg:go c (ig low p k) (gM p k) s with
  | none=>rw[hg] at h;cases h
  | some q =>
   obtain⟨d1,s1⟩:=q;rw[hg] at h;obtain⟨h1,h2⟩:=E _ _ _ _ _ _ (hc c mem_cons_self) hs hn hg;change (if deep=none∨deep=some d1 then lF go low p cs (k+1) (some d1) s1 else none)=_ at h;split at h
   ·obtain⟨h3,h4⟩:=Qn E cs _ _ _ _ _ (fun c ud=>hc c (mem_cons_of_mem _ ud)) h1 w4 h;exact⟨h3,by omega⟩
   cases h
theorem OO{p:cY}(hp:eC p t.ag.length)(hl:p.leaf=false):∀c∈p.kids,0≤c∧c<t.ag.length:=fun c hc=>⟨hp.aD c hc,hp.u0 hl c hc⟩
theorem Ja{t:aG}(hp:uB t):∀(f:Nat) (i:Int) (lo hi:K) (level:Nat) (s:jw) (d:Nat) (s':jw),(0≤i∧i<t.ag.length)→nw t s→level≤s.1.length→jm t f i lo hi level s=some (d,s')→nw t s'∧s.1.length≤s'.1.length
 | 0,i,lo,hi,level,s,d,s',_,_,_,h=>by rw[jm] at h;cases h
 | f+1,i,lo,hi,level,s,d,s',hr,hs,hl,h=>by
  rw[jm] at h;split at h
  ·cases h
  rename_i hn;split at h
  ·cases h
  have ha:=hs.add hr hn hl;have hlen:s.1.length+1=(s.1++[i]).length:=(by simp)
  split at h
  ·simp at h;rw[←h.2];exact⟨ha,by show s.1.length≤(s.1++[i]).length;omega⟩
  rename_i fI;have fI:(t.pg i).leaf=false:=(by simpa using fI)
  obtain⟨h1,h2⟩:=Qn (n:=level+1) (fun c lo hi s d s' hc hs hn h=>Ja hp f c lo hi (level+1) s d s' hc hs hn h) _ _ _ _ _ _ (OO (hp _ (jx hr)) fI) ha (by show level+1≤(s.1++[i]).length;omega) h;have h3:(s.1++[i]).length≤s'.1.length:=h2;exact⟨h1,by omega⟩
structure dz where
 l:List Int
 ad:Option Addr
 cp:Nat
 s:List ah
variable {L:List dz}
def gV(o:dz):List D:=[aN o.ad o.l.length o.cp]
theorem we(o:dz):(gV o).length=1:=rfl
theorem aeU(o:dz):(gV o).all V.one=true:=rfl
def mN(o:dz):Prop:=lI o.l o.ad o.cp o.s
def qX:dz:=⟨[],none,0,[]⟩
theorem adf:mN qX:=.inl ⟨rfl,rfl,rfl,rfl,rfl⟩
abbrev zw(L:List dz)(ad:Option Addr)(cap:Nat)(S:List ah):Prop:=bw 67 1 (L.flatMap gV) L.length ad cap S
def UO(t:aG)(b bm:Nat)(n:Nat)(ad:Option Addr)(cap:Nat):ah:=⟨b,159,4,[ax 5 cP t.ag,ae t.root,.v (.map (some bm)),aN ad n cap]⟩
def SW(t:aG)(b bm:Nat)(m:List Int)(L:List dz)(ad:Option Addr)(cap:Nat)(Sx:List ah):List ah:=UO t b bm L.length ad cap::kJ bm m::(Sx++L.flatMap dz.s)
def UP(t:aG)(b bm:Nat):Option (Nat×jw)→D→List ah→Prop
 | none,r,S=>r = .v (.int .i64 (-1))∧S=[]
 | some (d,s),r,S=>r = .v (.int .i64 (d:Nat))∧∃L ad cap Sx,zw L ad cap Sx∧(∀o∈L,mN o)∧L.map dz.l=s.2∧S=SW t b bm s.1 L ad cap Sx
theorem yD{α:Type}(g:α→List ah):∀{L:List α} {j:Nat} (h:j<L.length),(L.flatMap g).Perm (g L[j]++(L.eraseIdx j).flatMap g)
 | a::L,0,_=>by simp
 | a::L,j+1,h=>by
  have E:=yD g (L:=L) (j:=j) oL;simp only[flatMap_cons,getElem_cons_succ,eraseIdx_cons_succ];refine(E.append_left (g a)).trans ?_;rw[←append_assoc,←append_assoc];exact List.perm_append_comm.append_right _
theorem qD{α:Type}(g:α→List ah){L:List α}{j:Nat}(h:j<L.length)(a:α):((L.set j a).flatMap g).Perm (g a++(L.eraseIdx j).flatMap g):=by
 have:=yD g (L:=L.set j a) (j:=j) (by rw[length_set];exact h);rw[getElem_set_self,eraseIdx_set_eq] at this;exact this
def rW:Option Nat→Int
 | none=>-2
 | some d=>d
variable {G:List (Nat×List Value)}

theorem aeV{f:Nat}{low high:K}{s:jw}(h:i∈s.1):jm t (f+1) i low high level s=none:=by rw[jm,if_pos h]
theorem RP{f:Nat}{low high:K}{s:jw}(h:((t.pg i).high≠high∨∃k,(t.pg i).keys.head?=some k∧bN k low)):jm t (f+1) i low high level s=none:=by
 rw[jm];by_cases hi:i∈s.1
 ·rw[if_pos hi]
 rw[if_neg hi,if_pos h]
theorem abz{f:Nat}{low high:K}{s:jw}(h:i∉s.1)(h2:¬((t.pg i).high≠high∨∃k,(t.pg i).keys.head?=some k∧bN k low))(h3:(t.pg i).leaf=true):jm t (f+1) i low high level s=some (level,(s.1++[i],kv s.2 level i)):=by rw[jm,if_neg h,if_neg h2,if_pos h3]
theorem abA{f:Nat}{low high:K}{s:jw}(h:i∉s.1)(h2:¬((t.pg i).high≠high∨∃k,(t.pg i).keys.head?=some k∧bN k low))(h3:(t.pg i).leaf=false):jm t (f+1) i low high level s=lF (fun c lo hi s=>jm t f c lo hi (level+1) s) low (t.pg i) (t.pg i).kids 0 none (s.1++[i],kv s.2 level i):=by rw[jm,if_neg h,if_neg h2,if_neg (by rw[h3];decide)]
section
variable {go:Int→K→K→jw→Option (Nat×jw)} {low:K} {p:cY} {k:Nat} {deep:Option Nat} {s s':jw} {d:Nat}
theorem Z1(hk:k<p.kids.length)(h:go p.kids[k] (ig low p k) (gM p k) s=none):lF go low p (p.kids.drop k) k deep s=none:=by rw[drop_eq_getElem_cons hk,lF,h]
theorem OP(hk:k<p.kids.length)(h:go p.kids[k] (ig low p k) (gM p k) s=some (d,s'))(hd:deep=none∨deep=some d):lF go low p (p.kids.drop k) k deep s=lF go low p (p.kids.drop (k+1)) (k+1) (some d) s':=by
 rw[drop_eq_getElem_cons hk,lF,h];show(if deep=none∨deep=some d then _ else _)=_;rw[if_pos hd]
theorem abB(hk:k<p.kids.length)(h:go p.kids[k] (ig low p k) (gM p k) s=some (d,s'))(hd:¬(deep=none∨deep=some d)):lF go low p (p.kids.drop k) k deep s=none:=by
 rw[drop_eq_getElem_cons hk,lF,h];show(if deep=none∨deep=some d then _ else _)=_;rw[if_neg hd]
theorem abC(hk:p.kids.length≤k):lF go low p (p.kids.drop k) k deep s=deep.map fun d=>(d,s):=by rw[drop_of_length_le hk,lF]
end
theorem Z2:(L++[qX]).flatMap dz.s=L.flatMap dz.s:=by simp[qX]
theorem adg{E:List dz}(h:E.map dz.l=L.map dz.l++replicate (E.length-L.length) [])(h1:L.length≤E.length)(h2:E.length≤max L.length (level+1))(h3:level<E.length):E.map dz.l=so (L.map dz.l) (level+1):=by
 rw[h];unfold so;rw[length_map,show E.length-L.length=level+1-L.length from by omega]
theorem Jb{E:List dz}{o:dz}(h:E.map dz.l=so (L.map dz.l) (level+1))(h3:level<E.length)(ho:o.l=E[level].l++[i]):(E.set level o).map dz.l=kv (L.map dz.l) level i:=by
 rw[map_set,ho];unfold kv;rw[←h,getD_eq_getElem?_getD,getElem?_eq_getElem (by rw[length_map];exact h3),getElem_map];rfl
theorem RQ{j:Nat}{o:dz}(h:∀o∈L,mN o)(ho:mN o):∀x∈L.set j o,mN x:=fun x hx=>by
 rcases mem_or_eq_of_mem_set hx with hx|rfl
 ·exact h x hx
 exact ho
theorem Qo{deep:Option Nat}{d:Nat}(h:rW deep≠-2)(h2:(d:Int)=rW deep):deep=some d:=by
 cases deep with
 | none=>exact absurd rfl h
 | some e=>unfold rW at h2;simp only at h2;rw[show d=e from by omega]
theorem abD{deep:Option Nat}{d:Nat}(h:rW deep≠-2)(h2:¬(d:Int)=rW deep):¬(deep=none∨deep=some d):=by
 rintro(rfl|rfl)
 ·exact h rfl
 exact h2 rfl
theorem OQ{deep:Option Nat}(h:rW deep = -2):deep=none:=by
 cases deep with
 | none=>rfl
 | some e=>unfold rW at h;simp only at h;omega
def TS(G:List (Nat×List Value))(t:aG)(b bm f:Nat):Prop:=∀(i:Int) (low high:K) (level:Nat) (m:List Int) (L:List dz) (ad:Option Addr) (cap:Nat) (Sx:List ah),(0≤i∧i<t.ag.length)→nw t (m,(L.map dz.l))→level≤m.length→t.ag.length+1≤f+m.length→high.length≤100→zw L ad cap Sx→(∀o∈L,mN o) →
 VC Tryz.prog G 92 [dJ b,ae i,ax 1 cB low,ax 1 cB high,ae (level:Nat)] (SW t b bm m L ad cap Sx) (UP t b bm (jm t f i low high level (m,(L.map dz.l))))

theorem OR:(Tryz.prog.info? 3).map (fun i=>(i.zero,i.size,i.bytes))=some (some (.int .i64 0),1,8):=by kernel_rfl

theorem YJ:(Tryz.prog.info? 67).map (fun i=>(i.zero,i.size,i.bytes))=some (some (.slice none 0 0),1,24):=by kernel_rfl

theorem Z3(t:aG)(hp:uB t)(qY:t.ag.length≤4000)(b bm f:Nat)(ih:TS G t b bm f)(i:Int)(low high:K)(level:Nat)(m:List Int)(L:List dz)(ad:Option Addr)(cap:Nat)(Sx:List ah)(hr:0≤i∧i<t.ag.length)(F0:nw t (m,(L.map dz.l)))(hlm:level≤m.length)(hfu:t.ag.length+1≤(f+1)+m.length)(W7:high.length≤100)(mJ:zw L ad cap Sx)(aT:∀o∈L,mN o) :
 VC Tryz.prog G 92 [dJ b,ae i,ax 1 cB low,ax 1 cB high,ae (level:Nat)] (SW t b bm m L ad cap Sx) (UP t b bm (jm t (f+1) i low high level (m,(L.map dz.l)))):=by
 refine VC.body func92 rfl ntmps92 aO fun X0 w0 aY=>?_;unfold SW UO;have dy:=dY;have aa:i.toNat<t.ag.length:=(by omega)
 have pM:t.pg i=(t.ag[i.toNat]'aa):=uS hr;have po:eC (t.ag[i.toNat]'aa) t.ag.length:=hp _ (getElem_mem aa);have W6:=po.hlen;have Ma:=F0.nC;have C1:m.length≤t.ag.length:=Ma;refine af [0,1,2,3,4] ?_;refine aC 5 ?_;refine bQ (Zn (i:=1) rfl ot ot rfl underlying156 underlying3 zeroValue203) ?_;refine aE 3 ?_;refine OD.alloc (ds:=[]) ap rfl rfl zeroValue203 rfl (fun kx=>?_);refine aK 0 [] sizeOf203 ?_;refine an 148 [0,1,2,3,4,12] ?_;refine af [0,1,2,3,4,29] ?_;refine au ?_ ?_<;>intro aP bF
 ·have kP:i∈m:=(by simpa using aP)
  refine af [10] ?_;refine aI [] ?_;rw[aeV (by exact kP)];exact⟨rfl,rfl⟩
 have pI:i∉m:=(by simpa using aP)
 refine aC 6 ?_;refine OD.addKey (i:=2) ap rfl rfl ot ot ot rfl pI underlying156 underlying3 ?_;refine an 148 [0,1,2,3,4] ?_;refine aC 6 ?_;refine bQ (dF 5 (h:=by first|exact .l (j:=i.toNat) (Int.toNat_of_nonneg hr.1).symm aa|exact .r (j:=i.toNat) (Int.toNat_of_nonneg hr.1).symm aa)) ?_;refine aE 1 ?_;refine OD.alloc (ds:=[_,_,_,_,_]) ap rfl rfl zeroValue153 rfl (fun mi=>?_);refine aK 0 [_,_,_,_,_] sizeOf153 ?_;refine an 148 [0,1,2,3,4,13] ?_;refine jQ [0,1,2,3,4] (fun aW _ aJ=>∃(mi:Nat),(¬((t.pg i).high≠high∨∃k,(t.pg i).keys.head?=some k∧bN k low))∧aJ=(⟨148,(13,dJ mi)::aW,(⟨mi,153,5,cP (t.ag[i.toNat]'aa)⟩::⟨b,159,4,[ax 5 cP t.ag,ae t.root,.v (.map (some bm)),aN ad L.length cap]⟩::kJ bm (m++[i])::(Sx++L.flatMap dz.s))⟩:St)) ?_ ?_
 ·refine aC 3 ?_;refine dO call133 (TP (t.ag[i.toNat]'aa).high high w4 w4) ?_;refine aE 2 ?_;refine bW 49 (fun B0 ago=>?_) (fun B0 ago=>?_)
  ·refine an 148 [0,1,2,3,4,13,63] ?_;refine eE ?_;have nW:((t.pg i).high≠high∨∃k,(t.pg i).keys.head?=some k∧bN k low):=(by rw[pM];first|exact .inl (by simpa using B0)|exact .inr ⟨_,head?_eq_getElem? .. ▸ getElem?_eq_getElem w4,of_decide_eq_true aX⟩)
   refine af [10] ?_;refine aI [] ?_;rw[RP nW];exact⟨rfl,rfl⟩
  refine aE 5 ?_;refine bW 54 (fun zh yR=>?_) (fun zh yR=>?_)
  ·refine aE 2 ?_;refine OD.still ic rfl (pW (mk:=Op.indexAddr 151) rfl ot bI (by first|exact qG (j:=0) runUnderlying151 sizeOf88 rfl zP|exact qL (j:=0) runUnderlying151 sizeOf88 rfl zP)) ?_;refine aE 2 ?_;refine OD.gY ic rfl rfl rfl call51 (vY ((t.ag[i.toNat]'aa).keys[0]'w4) low) ⟨ot,ot,trivial⟩ ?_;refine an 148 [0,1,2,3,4,13,63] ?_;refine au ?_ ?_<;>intro aX cJ
   ·have nW:((t.pg i).high≠high∨∃k,(t.pg i).keys.head?=some k∧bN k low):=(by rw[pM];first|exact .inl (by simpa using B0)|exact .inr ⟨_,head?_eq_getElem? .. ▸ getElem?_eq_getElem w4,of_decide_eq_true aX⟩)
    refine af [10] ?_;refine aI [] ?_;rw[RP nW];exact⟨rfl,rfl⟩
   have nT:¬((t.pg i).high≠high∨∃k,(t.pg i).keys.head?=some k∧bN k low):=(by rw[pM];rintro(h|⟨k,hk,uX⟩);exact h (by simpa using B0);first|(rw[head?_eq_getElem?,getElem?_eq_none w4] at hk;cases hk;done)|(rw[head?_eq_getElem?,getElem?_eq_getElem w4] at hk;cases hk;exact of_decide_eq_false aX uX))
   refine CD.skip ?_;refine⟨_,aM,mi,nT,rfl⟩
  refine an 148 [0,1,2,3,4,13,63] ?_;refine fM ?_;have nT:¬((t.pg i).high≠high∨∃k,(t.pg i).keys.head?=some k∧bN k low):=(by rw[pM];rintro(h|⟨k,hk,uX⟩);exact h (by simpa using B0);first|(rw[head?_eq_getElem?,getElem?_eq_none w4] at hk;cases hk;done)|(rw[head?_eq_getElem?,getElem?_eq_getElem w4] at hk;cases hk;exact of_decide_eq_false aX uX))
  refine CD.skip ?_;refine⟨_,aM,mi,nT,rfl⟩
 rintro _ ⟨mi,nT,rfl⟩;refine eL [0,1,2,3,4,13] (fun aW _ (l8:List dz×Option Addr×Nat×List ah) aJ=>match l8 with|(I,GS,Z,C5)=>(zw I GS Z C5)∧(∀o∈I,mN o)∧(I.map dz.l=L.map dz.l++replicate (I.length-L.length) [])∧(L.length≤I.length)∧(I.length≤max L.length (level+1))∧aJ=(⟨148,aW,(⟨mi,153,5,cP (t.ag[i.toNat]'aa)⟩::⟨b,159,4,[ax 5 cP t.ag,ae t.root,.v (.map (some bm)),aN GS I.length Z]⟩::kJ bm (m++[i])::(C5++I.flatMap dz.s))⟩:St)) (fun (l8:List dz×Option Addr×Nat×List ah)=>match l8 with|(I,GS,Z,C5)=>level+1-I.length) (L,ad,cap,Sx) ⟨mJ,aT,bu,(Nat.le_refl _),w4,rfl⟩ ?_;rintro⟨I,GS,Z,C5⟩ _ ⟨UQ,pA,UR,aiM,aiN,rfl⟩;refine af [0,1,2,3,4,13,70] ?_;refine au ?_ ?_<;>intro cr cU
 ·have nc:=F0.eM;have nc:L.length≤m.length:=(by simpa using nc)
  have E:I.length≤level:=(by omega)
  refine dQ 5 ?_;refine en (bZ 0 [_]) [.slice none 0 0] [_] zeroValue67 runUnderlying157 sizeOf67 (fun b76=>?_);refine fB 0 76 1 1 ?_;refine OD.ev (ls:=I) (new:=[qX]) (Sq:=C5) we aeU ap rfl rfl underlying157 YJ rfl w7 ot UQ (ow (A:=[_,_,_])) ot bu Gc Gc (fun MW K0 aiO aiP=>?_);refine OD.perm (jg (S1:=[⟨MW,67,K0*1,flatMap gV (I++[qX])⟩]) (A:=[_,_,_])) ?_;rw[←Z2 (L:=I)];refine aE 2 ?_;refine aK 1 [_,_,_,_] sizeOf157 ?_;refine an 148 [0,1,2,3,4,13] ?_;refine⟨((I++[qX]),(some ⟨MW,0,none⟩),K0,[⟨MW,67,K0*1,flatMap gV (I++[qX])⟩]),_,(by (show level+1-(I++[qX]).length<level+1-I.length;rw[length_append,show[qX].length=1 from rfl];omega)),aM,(bJ aiO aiP),(fun o ho=>by rcases mem_append.1 ho with ho|ho;exact pA o ho;rw[mem_singleton] at ho;subst ho;exact adf),(by rw[map_append,UR,append_assoc,length_append,show[qX].length=1 from rfl,show I.length+1-L.length=I.length-L.length+1 from by omega,replicate_succ'];rfl),vg,(by rw[length_append,show[qX].length=1 from rfl];omega),rfl⟩
 have E:level<I.length:=(by omega)
 have zx:=adg UR aiM aiN E;obtain⟨bv,rfl,BZ,Bv,rfl⟩:=UQ.pos w4;have er:mN (I[level]'E):=pA _ (getElem_mem E);have lU:(I[level]'E).l.length≤m.length:=by
    have hz:(I[level]'E).l=(so (L.map dz.l) (level+1)).getD level []:=(by rw[←zx,getD_eq_getElem?_getD,getElem?_eq_getElem (by rw[length_map];exact E),getElem_map];rfl)
    rw[hz,I9,getD_eq_getElem?_getD];rcases Nat.lt_or_ge level (L.map dz.l).length with q|q
    ·rw[getElem?_eq_getElem q];exact F0.each _ (getElem_mem q)
    rw[getElem?_eq_none q];simp
 refine CD.perm (Perm.cons _ (Perm.cons _ (Perm.cons _ ((yD dz.s E).append_left _)))) ?_;refine CD.exit ?_;refine CD.seq ?_;refine CD.mono (Q:=fun aW aJ=>aW=Exit.normal∧∃(o2:dz),(mN o2)∧(o2.l=(I[level]'E).l++[i])∧Wk aJ (⟨148,[(0,dJ b),(2,ax 1 cB low),(3,ax 1 cB high),(4,ae (level:Nat)),(13,dJ mi)],(⟨mi,153,5,cP (t.ag[i.toNat]'aa)⟩::⟨b,159,4,[ax 5 cP t.ag,ae t.root,.v (.map (some bm)),aN (some ⟨bv,0,none⟩) (I.set level o2).length Z]⟩::kJ bm (m++[i])::([⟨bv,67,Z*1,flatMap gV (I.set level o2)⟩]++(I.set level o2).flatMap dz.s))⟩:St)) ?_ ?_
 ·refine CD.draw (aq (take 3 _)) aA (fun _ h=>(Sublist.map _ (take_sublist _ _)).subset h) ?_;refine az 0 rfl bj ?_;refine az 1 rfl lM ?_;refine az 2 rfl (da 3) ?_;refine az 3 rfl (dD 1) ?_;refine az 4 rfl bj ?_;refine az 5 rfl bj ?_;refine az 6 rfl lM ?_;refine az 7 rfl (da 3) ?_;refine az 8 rfl (dD 1) ?_;refine az 9 rfl bj ?_;refine az 10 rfl (dF 1) ?_;refine az 12 rfl bj ?_;refine dm.later rfl ?_;refine AD.two (i:=11) (j:=13) aA ?_ ?_
  ·refine at_ rfl (cM (mk:=Op.load 67) rfl ot (iU (k:=3) (d:=aN (I[level]'E).ad (I[level]'E).l.length (I[level]'E).cp) (i:=level) we rfl rfl rfl isAgg67 E rfl)) ?_;refine AD.one (i:=13) aA ?_;refine jo (bZ 0 [_]) [.int .i64 0] [_] zeroValue3 runUnderlying67 sizeOf3 (fun WS=>?_);refine jq 0 93 1 1 ?_;refine AD.one (i:=14) aA ?_;refine aZ.ev (ls:=(I[level]'E).l) (new:=[i]) (Sq:=(I[level]'E).s) eA nu rfl ap rfl rfl underlying67 OR rfl w7 ot er (sV (A:=[_,_,_]) (S1:=[⟨bv,67,Z*1,flatMap gV I⟩])) ot bu nF nG (fun U O K1 K2=>?_);refine AD.perm (vP (S2:=[⟨U,3,O*1,flatMap cI ((I[level]'E).l++[i])⟩]) (A:=[_,_,_])) ?_;refine cu 15 rfl (dF 1) ?_;refine AD.one (i:=16) aA ?_;refine aZ.storeAt (k:=3) (cs':=flatMap gV (I.set level (⟨(I[level]'E).l++[i],some ⟨U,0,none⟩,O,[⟨U,3,O*1,flatMap cI ((I[level]'E).l++[i])⟩]⟩:dz))) rfl ap rfl rfl ot rfl rfl ot rfl rfl sizeOf67 rfl (by show 0+level*1+1≤(flatMap gV I).length;rw[cy we];omega) (by rw[Nat.zero_add];exact oA we I (⟨(I[level]'E).l++[i],some ⟨U,0,none⟩,O,[⟨U,3,O*1,flatMap cI ((I[level]'E).l++[i])⟩]⟩:dz) E) iy ?_
   refine AD.wk (y:=⟨148,[(0,_),(2,_),(3,_),(4,_),(13,_)],(⟨mi,153,5,[_,_,_,_,_]⟩::⟨b,159,4,[_,_,_,_]⟩::_::([⟨bv,67,Z*1,flatMap gV (I.set level (⟨(I[level]'E).l++[i],some ⟨U,0,none⟩,O,[⟨U,3,O*1,flatMap cI ((I[level]'E).l++[i])⟩]⟩:dz))⟩]++([⟨U,3,O*1,flatMap cI ((I[level]'E).l++[i])⟩]++((I.eraseIdx level).flatMap dz.s))))⟩) (Wk.dR rfl rfl fi) rfl ?_;refine AD.done aA ?_;exact⟨rfl,(⟨(I[level]'E).l++[i],some ⟨U,0,none⟩,O,[⟨U,3,O*1,flatMap cI ((I[level]'E).l++[i])⟩]⟩:dz),bJ K1 K2,rfl,by rw[length_set];exact Wk.perm (Perm.cons _ (Perm.cons _ (Perm.cons _ ((qD dz.s E (⟨(I[level]'E).l++[i],some ⟨U,0,none⟩,O,[⟨U,3,O*1,flatMap cI ((I[level]'E).l++[i])⟩]⟩:dz)).symm.append_left _))))⟩
  refine jo (bZ 0 [_]) [.int .i64 0] [_] zeroValue3 runUnderlying67 sizeOf3 (fun WS=>?_);refine jq 0 93 1 1 ?_;refine AD.one (i:=11) aA ?_;refine at_ rfl (cM (mk:=Op.load 67) rfl ot (iU (k:=3) (d:=aN (I[level]'E).ad (I[level]'E).l.length (I[level]'E).cp) (i:=level) we rfl rfl rfl isAgg67 E rfl)) ?_;refine AD.one (i:=14) aA ?_;refine aZ.ev (ls:=(I[level]'E).l) (new:=[i]) (Sq:=(I[level]'E).s) eA nu rfl ap rfl rfl underlying67 OR rfl w7 ot er (sV (A:=[_,_,_]) (S1:=[⟨bv,67,Z*1,flatMap gV I⟩])) ot bu nF nG (fun U O K1 K2=>?_);refine AD.perm (vP (S2:=[⟨U,3,O*1,flatMap cI ((I[level]'E).l++[i])⟩]) (A:=[_,_,_])) ?_;refine cu 15 rfl (dF 1) ?_;refine AD.one (i:=16) aA ?_;refine aZ.storeAt (k:=3) (cs':=flatMap gV (I.set level (⟨(I[level]'E).l++[i],some ⟨U,0,none⟩,O,[⟨U,3,O*1,flatMap cI ((I[level]'E).l++[i])⟩]⟩:dz))) rfl ap rfl rfl ot rfl rfl ot rfl rfl sizeOf67 rfl (by show 0+level*1+1≤(flatMap gV I).length;rw[cy we];omega) (by rw[Nat.zero_add];exact oA we I (⟨(I[level]'E).l++[i],some ⟨U,0,none⟩,O,[⟨U,3,O*1,flatMap cI ((I[level]'E).l++[i])⟩]⟩:dz) E) iy ?_
  refine AD.wk (y:=⟨148,[(0,_),(2,_),(3,_),(4,_),(13,_)],(⟨mi,153,5,[_,_,_,_,_]⟩::⟨b,159,4,[_,_,_,_]⟩::_::([⟨bv,67,Z*1,flatMap gV (I.set level (⟨(I[level]'E).l++[i],some ⟨U,0,none⟩,O,[⟨U,3,O*1,flatMap cI ((I[level]'E).l++[i])⟩]⟩:dz))⟩]++([⟨U,3,O*1,flatMap cI ((I[level]'E).l++[i])⟩]++((I.eraseIdx level).flatMap dz.s))))⟩) (Wk.dR rfl rfl fi) rfl ?_;refine AD.done aA ?_;exact⟨rfl,(⟨(I[level]'E).l++[i],some ⟨U,0,none⟩,O,[⟨U,3,O*1,flatMap cI ((I[level]'E).l++[i])⟩]⟩:dz),bJ K1 K2,rfl,by rw[length_set];exact Wk.perm (Perm.cons _ (Perm.cons _ (Perm.cons _ ((qD dz.s E (⟨(I[level]'E).l++[i],some ⟨U,0,none⟩,O,[⟨U,3,O*1,flatMap cI ((I[level]'E).l++[i])⟩]⟩:dz)).symm.append_left _))))⟩
 rintro _ _ ⟨rfl,o2,qB,FY,J6⟩;refine CD.wk J6 ?_;refine af [0,2,3,4,13,97] ?_;refine au ?_ ?_<;>intro cX ec
 ·refine af [10] ?_;refine aI (SW t b bm (m++[i]) (I.set level o2) (some ⟨bv,0,none⟩) Z _) ?_;rw[abz pI nT (by rw[pM];exact cX)];exact⟨rfl,_,_,_,_,bJ (by rw[length_set];exact BZ) Bv,RQ pA qB,Jb zx E FY,rfl⟩
 have fI:(t.pg i).leaf=false:=(by rw[pM];exact cX)
 have Fu:nw t (m++[i],(I.set level o2).map dz.l):=(by rw[Jb zx E FY];exact F0.add hr pI hlm)
 have aiQ:=OO po (by rw[←pM];exact fI);have anK:=(po.node (by rw[←pM];exact fI)).1;have anL:=po.eM;have Bw:(t.ag[i.toNat]'aa).high=high:=(by rw[←pM];exact Classical.byContradiction fun h=>nT (.inl h))
 refine af [0,2,3,4,13,14] ?_;refine af [0,2,3,4,13,14,100,101,102] ?_;refine eL [0,2,3,4,13,100,101] (fun aW _ (l8:Nat×Option Nat×List Int×List dz×Option Addr×Nat×List ah) aJ=>match l8 with|(k,deep,m2,L2,uh,tK,uj)=>(k≤(t.ag[i.toNat]'aa).kids.length)∧(lF (fun c lo hi s=>jm t f c lo hi (level+1) s) low (t.ag[i.toNat]'aa) ((t.ag[i.toNat]'aa).kids.drop k) k deep (m2,(L2.map dz.l))=(jm t (f+1) i low high level (m,(L.map dz.l))))∧(zw L2 uh tK uj)∧(∀o∈L2,mN o)∧(nw t (m2,(L2.map dz.l)))∧(level+1≤m2.length)∧(t.ag.length+1≤f+m2.length)∧((k=0∨deep≠none))∧aJ=(⟨148,(14,ae (rW deep))::(102,ae (k:Nat))::aW,(⟨mi,153,5,cP (t.ag[i.toNat]'aa)⟩::⟨b,159,4,[ax 5 cP t.ag,ae t.root,.v (.map (some bm)),aN uh L2.length tK]⟩::kJ bm m2::(uj++L2.flatMap dz.s))⟩:St)) (fun (l8:Nat×Option Nat×List Int×List dz×Option Addr×Nat×List ah)=>match l8 with|(k,deep,m2,L2,uh,tK,uj)=>(t.ag[i.toNat]'aa).kids.length-k) (0,none,(m++[i]),(I.set level o2),(some ⟨bv,0,none⟩),Z,[⟨bv,67,Z*1,flatMap gV (I.set level o2)⟩]) ⟨(Nat.zero_le _),(by rw[abA pI nT fI,Jb zx E FY,pM];rfl),(bJ (by rw[length_set];exact BZ) Bv),(RQ pA qB),Fu,Gi,Gi,(.inl rfl),rfl⟩ ?_;rintro⟨k,deep,m2,L2,uh,tK,uj⟩ _ ⟨hk,C6,US,jK,Fu,UT,aiR,hdp,rfl⟩;refine af [0,2,3,4,13,14,100,101,102,103] ?_;refine au ?_ ?_<;>intro ew fp
 ·have dX:k<(t.ag[i.toNat]'aa).kids.length:=(by omega)
  have W8:=aiQ _ (getElem_mem dX);have hhk:(gM (t.ag[i.toNat]'aa) k).length≤100:=(by unfold gM;rw[getD_eq_getElem?_getD];rcases Nat.lt_or_ge k (t.ag[i.toNat]'aa).keys.length with q|q;(rw[getElem?_eq_getElem q];exact(po.lf _ (getElem_mem q)).2);(rw[getElem?_eq_none q];exact po.hlen))
  refine af [0,2,3,4,13,14,15,16,100,101,102] ?_;refine af [0,2,3,4,13,14,15,16,17,18,100,101,102] ?_;refine CD.cut (fun aJ=>aJ=(⟨148,[(0,dJ b),(2,ax 1 cB low),(3,ax 1 cB high),(4,ae (level:Nat)),(13,dJ mi),(14,ae (rW deep)),(15,ae (k:Nat)),(16,ae ((t.ag[i.toNat]'aa).kids[k]'dX)),(17,.list 1 ((ig low (t.ag[i.toNat]'aa) k).flatMap cB) (ig low (t.ag[i.toNat]'aa) k).length),(18,ax 1 cB high),(100,.list 1 ((t.ag[i.toNat]'aa).kids.flatMap cI) (t.ag[i.toNat]'aa).kids.length),(101,ae ((t.ag[i.toNat]'aa).kids.length:Nat)),(102,ae (k:Nat))],(⟨mi,153,5,cP (t.ag[i.toNat]'aa)⟩::⟨b,159,4,[ax 5 cP t.ag,ae t.root,.v (.map (some bm)),aN uh L2.length tK]⟩::kJ bm m2::(uj++L2.flatMap dz.s))⟩:St)) ?_ ?_
  ·refine af [0,2,3,4,13,14,15,16,17,18,100,101,102,110] ?_;refine au ?_ ?_<;>intro fm gv
   ·have eR:ig low (t.ag[i.toNat]'aa) k=(t.ag[i.toNat]'aa).keys[k-1]'w4:=(by unfold ig;rw[if_neg w4,getD_eq_getElem?_getD,getElem?_eq_getElem w4];rfl)
    refine iB [0,2,3,4,13,14,15,16,17,18,100,101,102] ?_;refine aR 4 ?_ (h:=by exact(dF 1 (h:=by first|exact .l (j:=k-1) w4 w4|exact .r (j:=k-1) w4 w4)));refine bH ?_;refine⟨_,(aM (h:=by repeat (first|exact trivial|refine⟨(by (repeat (first|exact fx|(apply fQ;focus (first|rfl|(rw[eR];done)|(simp;done)))|(apply fD;focus rfl)));done),?_⟩))),rfl⟩
   have eR:ig low (t.ag[i.toNat]'aa) k=low:=(by unfold ig;rw[if_pos w4])
   refine CD.skip ?_;refine⟨_,(aM (h:=by repeat (first|exact trivial|refine⟨(by (repeat (first|exact fx|(apply fQ;focus (first|rfl|(rw[eR];done)|(simp;done)))|(apply fD;focus rfl)));done),?_⟩))),rfl⟩
  rintro _ ⟨rfl⟩;refine CD.cut (fun aJ=>aJ=(⟨148,[(0,dJ b),(2,ax 1 cB low),(3,ax 1 cB high),(4,ae (level:Nat)),(13,dJ mi),(14,ae (rW deep)),(16,ae ((t.ag[i.toNat]'aa).kids[k]'dX)),(17,.list 1 ((ig low (t.ag[i.toNat]'aa) k).flatMap cB) (ig low (t.ag[i.toNat]'aa) k).length),(18,.list 1 ((gM (t.ag[i.toNat]'aa) k).flatMap cB) (gM (t.ag[i.toNat]'aa) k).length),(100,.list 1 ((t.ag[i.toNat]'aa).kids.flatMap cI) (t.ag[i.toNat]'aa).kids.length),(101,ae ((t.ag[i.toNat]'aa).kids.length:Nat)),(102,ae (k:Nat))],(⟨mi,153,5,cP (t.ag[i.toNat]'aa)⟩::⟨b,159,4,[ax 5 cP t.ag,ae t.root,.v (.map (some bm)),aN uh L2.length tK]⟩::kJ bm m2::(uj++L2.flatMap dz.s))⟩:St)) ?_ ?_
  ·refine af [0,2,3,4,13,14,15,16,17,18,100,101,102,121] ?_;refine au ?_ ?_<;>intro gL kG
   ·have ez:gM (t.ag[i.toNat]'aa) k=(t.ag[i.toNat]'aa).keys[k]'w4:=(by unfold gM;rw[getD_eq_getElem?_getD,getElem?_eq_getElem w4];rfl)
    refine cl [0,2,3,4,13,14,16,17,18,100,101,102] ?_;refine⟨_,(aM (h:=by repeat (first|exact trivial|refine⟨(by (repeat (first|exact fx|(apply fQ;focus (first|rfl|(rw[ez];done)|(simp;done)))|(apply fD;focus rfl)));done),?_⟩))),rfl⟩
   have ez:gM (t.ag[i.toNat]'aa) k=high:=(by unfold gM;rw[getD_eq_getElem?_getD,getElem?_eq_none w4];exact Bw)
   refine CD.skip ?_;refine⟨_,(aM (h:=by repeat (first|exact trivial|refine⟨(by (repeat (first|exact fx|(apply fQ;focus (first|rfl|(rw[ez];done)|(simp;done)))|(apply fD;focus rfl)));done),?_⟩))),rfl⟩
  rintro _ ⟨rfl⟩;refine aC 5 ?_;refine bQ (c9 (r:=.int .i64 ((level+1:Nat):Int)) rfl ot bI (j7 (by rw[show((level:Nat):Int)+1=((level+1:Nat):Int) from rfl];exact wrap_i64 w4 w4))) ?_;refine OD.call ap rfl rfl rfl call92 (ih ((t.ag[i.toNat]'aa).kids[k]'dX) (ig low (t.ag[i.toNat]'aa) k) (gM (t.ag[i.toNat]'aa) k) (level+1) m2 L2 uh tK uj W8 Fu UT aiR hhk US jK) ⟨ot,ot,ot,ot,ot,trivial⟩ (perm_append_singleton _ _).symm ?_;rintro r19 S19 mC;rcases jD:jm t f ((t.ag[i.toNat]'aa).kids[k]'dX) (ig low (t.ag[i.toNat]'aa) k) (gM (t.ag[i.toNat]'aa) k) (level+1) (m2,(L2.map dz.l)) with _|⟨d,m3,lv3⟩
  ·rw[jD] at mC;obtain⟨rfl,rfl⟩:=mC;have agp:=C6.symm.trans (Z1 dX jD);refine an 148 [0,2,3,4,13,14,19,100,101,102] ?_;refine aC 3 ?_;refine bW 136 (fun Bx JD=>?_) (fun Bx JD=>?_)
   ·refine bg [0,2,3,4,13,19,100,101,102,144] ?_;refine eE ?_;refine af [10] ?_;refine aI [] ?_;rw[agp];exact⟨rfl,rfl⟩
   exact absurd Bx w7
  rw[jD] at mC;obtain⟨rfl,L3,GU,F1,GV,UU,wT,rfl,rfl⟩:=mC;obtain⟨TT,Fi⟩:=Ja hp _ _ _ _ _ _ _ _ W8 Fu UT jD;have Fi:m2.length≤m3.length:=Fi;refine OD.perm (perm_append_singleton _ _) ?_;refine an 148 [0,2,3,4,13,14,19,100,101,102] ?_;refine aC 3 ?_;refine bW 136 (fun Bx JD=>?_) (fun Bx JD=>?_)
  ·exact absurd Bx (by intro e;have e:=of_decide_eq_true e;omega)
  refine aE 3 ?_;refine bW 139 (fun y8 aeW=>?_) (fun y8 aeW=>?_)
  ·refine bg [0,2,3,4,13,19,100,101,102,144] ?_;refine au ?_ ?_<;>intro gg k8
   ·refine af [10] ?_;refine aI [] ?_;rw[C6.symm.trans (abB dX jD (abD (by simpa using y8) (by simpa using gg)))];exact⟨rfl,rfl⟩
   refine cl [0,2,3,4,13,14,100,101,102] ?_;refine cl [0,2,3,4,13,14,100,101,102] ?_;refine⟨((k+1),(some d),m3,L3,GU,F1,GV),_,cD,aM,w4,((OP dX jD (by first|exact .inl (OQ (by simpa using y8))|exact .inr (Qo (by simpa using y8) (by simpa using gg)))).symm.trans C6),UU,wT,TT,w4,w4,(.inr (fun e=>by cases e)),rfl⟩
  refine bg [0,2,3,4,13,19,100,101,102,144] ?_;refine fM ?_;refine cl [0,2,3,4,13,14,100,101,102] ?_;refine cl [0,2,3,4,13,14,100,101,102] ?_;refine⟨((k+1),(some d),m3,L3,GU,F1,GV),_,cD,aM,w4,((OP dX jD (by first|exact .inl (OQ (by simpa using y8))|exact .inr (Qo (by simpa using y8) (by simpa using gg)))).symm.trans C6),UU,wT,TT,w4,w4,(.inr (fun e=>by cases e)),rfl⟩
 obtain rfl:k=(t.ag[i.toNat]'aa).kids.length:=(by omega)
 obtain⟨d,rfl⟩:∃d,deep=some d:=(by rcases hdp with h|h;omega;exact Option.ne_none_iff_exists'.1 h)
 refine af [10] ?_;refine aI (SW t b bm m2 L2 uh tK uj) ?_;rw[←C6,abC (Nat.le_refl _)];exact⟨rfl,L2,uh,tK,uj,US,jK,rfl,rfl⟩

end Go.Proofs.YtdgichenhdikgaaGreatDoor.Tw

namespace Go.Proofs.YtdgichenhdikgaaGreatDoor.Tw
open List
open Go.Proofs.Tryz
open Go.RowKit V Go.Proofs.YtdgichenhdikgaaGreatDoor.Tr Pk
theorem Jc{G:List (Nat×List Value)}(t:aG)(hp:uB t)(I:t.ag.length≤4000)(b Z:Nat):∀f,TS G t b Z f
 | 0=>fun i low high level m L ad cap Sx hr E O U _ _ _=>by have h:m.length≤t.ag.length:=E.nC;exfalso;omega
 | f+1=>fun i low high level m L ad cap Sx hr E O U W7 mJ aT=>Z3 t hp I b Z f (Jc t hp I b Z f) i low high level m L ad cap Sx hr E O U W7 mJ aT
theorem yE(t:aG):nw t ([],[]):=⟨nodup_nil,(fun x h=>by cases h),Nat.le_refl _,(fun l h=>by cases h),(fun l h=>by cases h)⟩
theorem Jd{t:aG}{e:Int}:∀{l:List Int},eZ t l e↔∀k (h:k<l.length),(t.pg l[k]).next=l.getD (k+1) e
  | []=>⟨(fun _ k h=>by cases h),fun _=>trivial⟩
  | [i] => ⟨fun h k hk => by obtain rfl : k=0 := by (simp at hk; exact hk)
                             exact h,fun h=>h 0 bu⟩
  | i::j::r=>by
    show(t.pg i).next=j∧eZ t (j::r) e↔_;rw[Jd (l:=j::r)];constructor
    · rintro⟨h1,h2⟩ k hk;cases k with
      | zero=>exact h1
      | succ k=>exact h2 k (by simpa using hk)
    intro h;exact⟨h 0 bu,fun k hk=>h (k+1) (by simpa using hk)⟩
theorem OS{p:cY}{n:Int}:Bt p n=true↔eC p n:=by unfold Bt;simp
section
variable {t:aG}
theorem ND(h:t.ag.length<1∨t.ag.length>4000∨t.root<0∨t.root≥t.ag.length):gm t=11:=by unfold gm;rw[if_pos h]
theorem YK(h:¬uB t):gm t=11:=by
 unfold gm;split
 ·rfl
 first|rfl|rw[if_pos h]
variable {d:Nat} {m:List Int} {lv:List (List Int)}
theorem YL(hw:jm t (t.ag.length+1) t.root [] [] 0 ([],[])=none):gm t=11:=by
 unfold gm;split
 ·rfl
 split
 ·rfl
 rw[hw]
theorem Z4(hw:jm t (t.ag.length+1) t.root [] [] 0 ([],[])=some (d,m,lv))(h:m.length≠t.ag.length):gm t=11:=by
 unfold gm;split
 ·rfl
 split
 ·rfl
 rw[hw];exact if_pos h
open Classical in
theorem Z5(hw:jm t (t.ag.length+1) t.root [] [] 0 ([],[])=some (d,m,lv))(h:¬∀l∈lv,eZ t l (-1)):gm t=11:=by
 unfold gm;split
 ·rfl
 split
 ·rfl
 rw[hw];show(if m.length≠t.ag.length then (11:Int) else if ∀l∈lv,eZ t l (-1) then 0 else 11)=11;split
 ·rfl
 first|rfl|rw[if_neg h]
open Classical in
theorem Z6(h1:¬(t.ag.length<1∨t.ag.length>4000∨t.root<0∨t.root≥t.ag.length))(h2:uB t)(hw:jm t (t.ag.length+1) t.root [] [] 0 ([],[])=some (d,m,lv))(h3:m.length=t.ag.length)(h:∀l∈lv,eZ t l (-1)):gm t=0:=by
 unfold gm;rw[if_neg h1,if_neg (fun hn=>hn h2),hw];show(if m.length≠t.ag.length then (11:Int) else if ∀l∈lv,eZ t l (-1) then 0 else 11)=0;rw[if_neg (fun hn=>hn h3),if_pos h]
end
def xU(l:List Int):List D:=[ax 1 cI l]
theorem adi(l:List Int):(xU l).length=1:=rfl
theorem RR{S:List ah}:∀{L:List dz},(∀o∈L,mN o)→(∀B∈L.flatMap dz.s,B∈S)→gq S (L.flatMap gV) ((L.map dz.l).flatMap xU)
 | [],_,_=>trivial
 | o::L,h,hs=>by
  rw[map_cons,flatMap_cons,flatMap_cons];refine gq.append ⟨lA (h o mem_cons_self) (cy eA _) (fun B E=>hs B ?_),trivial⟩ (RR (fun o ho=>h o (mem_cons_of_mem _ ho)) fun B E=>hs B ?_)
  ·rw[flatMap_cons];exact mem_append_left _ E
  rw[flatMap_cons];exact mem_append_right _ E
theorem aeX{Sx:List ah}{L:List dz}{ad:Option Addr}{cap:Nat}{lv:List (List Int)}(ho:zw L ad cap Sx)(h:∀o∈L,mN o)(hm:L.map dz.l=lv):View (Sx++L.flatMap dz.s) (aN ad L.length cap) (ax 1 xU lv):=by
 subst hm;have:=AG ho (RR (S:=Sx++L.flatMap dz.s) h fun B E=>mem_append_right _ E) (cy adi _ |>.trans bu) (fun B E=>mem_append_left _ E);first|rw[length_map]|(show View _ _ (.list _ _ (length _));rw[length_map])|(show View _ _ (.agg [.list _ _ (length _)]);rw[length_map])
 exact this
variable {G:List (Nat×List Value)}

theorem o8(t:aG)(hb:∀p∈t.ag,p.keys.length≤maxLen∧p.kids.length≤maxLen):VP Tryz.prog G 49 [.agg (cT t)] (ae (gm t)):=by
 refine VC.body func49 rfl ntmps49 aO fun X0 w0 aY=>?_;unfold cT;have dy:=dY;refine cf ?_;refine OD.box (ds:=[_,_]) ap rfl rfl ot rfl rfl (fun b1=>?_);refine an 104 [1] ?_;refine aC 5 ?_;refine bW 15 (fun BJ agq=>?_) (fun BJ agq=>?_)
 ·exact z75
 refine aE 6 ?_;refine bW 21 (fun ql agr=>?_) (fun ql agr=>?_)
 ·exact z75
 refine aE 5 ?_;refine bW 26 (fun aiS J7=>?_) (fun aiS J7=>?_)
 ·exact z75
 refine bg [1,33] ?_;refine au ?_ ?_<;>intro aP bF
 ·refine af [2] ?_;refine eK ?_;exact⟨vi (ND w4).symm,rfl⟩
 refine af [1,35,36,37] ?_;refine eL [1,35,36] (fun aW _ (i:Nat) aJ=>(i≤t.ag.length)∧(∀j (h:j<t.ag.length),j<i→eC t.ag[j] t.ag.length)∧aJ=(⟨104,(37,ae (i:Nat))::aW,[⟨b1,51,2,[ax 5 cP t.ag,ae t.root]⟩]⟩:St)) (fun (i:Nat)=>t.ag.length-i) 0 ⟨(Nat.zero_le _),(fun j h h0=>by omega),rfl⟩ ?_;rintro i _ ⟨hi,pM,rfl⟩;refine af [1,35,36,37,38] ?_;refine au ?_ ?_<;>intro aX cJ
 ·have aa:i<t.ag.length:=(by omega)
  obtain⟨dX,fq⟩:=hb (t.ag[i]'aa) (getElem_mem aa);refine aC 2 ?_;refine OD.alloc (ds:=[_,_,_,_,_]) ap rfl rfl zeroValue153 rfl (fun b4=>?_);refine aK 0 [_,_,_,_,_] sizeOf153 ?_;refine an 104 [1,4,35,36,37] ?_;refine cW [1,35,36,37,46] (ac9 (t.ag[i]'aa) (t.ag.length:Nat) dX fq) ?_;refine au ?_ ?_<;>intro cr cU
  ·have nW:¬uB t:=fun h=>by have:=OS.2 (h (t.ag[i]'aa) (getElem_mem aa));rw[this] at cr;cases cr
   refine af [2] ?_;refine aI [] ?_;exact⟨vi (YK nW).symm,rfl⟩
  have aiT:eC (t.ag[i]'aa) t.ag.length:=OS.1 (by simpa using cr);refine cl [1,35,36,37] ?_;refine⟨(i+1),_,cD,aM,w4,(fun j h h0=>by rcases Nat.lt_or_ge j i with q|q;exact pM j h q;obtain rfl:j=i:=w4;exact aiT),rfl⟩
 have fb:uB t:=fun p h=>by obtain⟨j,hj,rfl⟩:=mem_iff_getElem.1 h;exact pM j hj w4
 have h4:t.ag.length≤4000:=(by omega)
 have E:0≤t.root∧t.root<t.ag.length:=(by omega)
 refine aC 1 ?_;refine OD.acs ap rfl rfl (fun O=>?_);refine aE 1 ?_;refine OD.box (ds:=[_,_,_,_]) ap rfl rfl ot rfl rfl (fun U=>?_);refine an 104 [1,5] ?_;refine CD.seq ?_;refine CD.seq ?_;rcases jD:jm t (t.ag.length+1) t.root [] [] 0 ([],[]) with _|⟨d,m,lv⟩
 ·refine fL 14 (aq (drop 2 _)) ?_ (fun _ h=>(Sublist.map _ (drop_sublist _ _)).subset h);refine az 0 rfl bj ?_;refine az 1 rfl (da 1) ?_;refine az 2 rfl (dD 2) ?_;refine dm.later rfl ?_;refine AD.one (i:=3) aA ?_;refine aZ.call rfl ap rfl rfl rfl call92 (VC.eU (args':=[dJ U,ae t.root,bB,bB,ae 0]) (Jc t fb h4 U O (t.ag.length+1) t.root [] [] 0 [] [] none 0 [] E (yE t) (Nat.le_refl _) (Nat.le_refl _) w7 iK (fun o h=>by cases h)) ⟨.inl rfl,.inl rfl,.inr ⟨1,rfl,rfl⟩,.inr ⟨1,rfl,rfl⟩,.inl rfl,trivial⟩) ⟨ot,ot,bI,bI,bI,trivial⟩ (Perm.refl _) iy ?_;rintro r55 LV mC;rw[show map dz.l []=[] from rfl,jD] at mC;obtain⟨rfl,rfl⟩:=mC;refine cu 4 rfl mK ?_;refine cu 5 rfl bj ?_;refine AD.split (t:=57) lk (fun tG=>?_) (fun tG=>?_)
  ·have Bo:=tG;(try simp only[V.nh,ne_eq] at Bo)
   refine pE 6 rfl ?_;refine pE 7 rfl ?_;refine pE 11 rfl ?_;refine pE 12 rfl ?_;refine pE 13 rfl ?_;refine AD.one (i:=8) aA ?_;refine aZ.skip rfl (mo rfl rfl rfl lk jn) rfl ?_;refine AD.one (i:=9) aA ?_;refine aZ.skip rfl (mo rfl rfl rfl lk jn) rfl ?_;refine AD.one (i:=10) aA ?_;refine aZ.skip rfl (mo rfl rfl rfl lk jn) rfl ?_;refine eD ?_;refine bg [1,5,67] ?_;refine eE ?_;try have I:m.length≠t.ag.length:=by intro e;rw[e] at cX;simp at cX
   refine af [2] ?_;refine eK ?_;exact⟨vi (YL jD).symm,rfl⟩
  exact absurd tG w7
 refine fL 14 (aq (drop 2 _)) ?_ (fun _ h=>(Sublist.map _ (drop_sublist _ _)).subset h);refine az 0 rfl bj ?_;refine az 1 rfl (da 1) ?_;refine az 2 rfl (dD 2) ?_;refine dm.later rfl ?_;refine AD.one (i:=3) aA ?_;refine aZ.call rfl ap rfl rfl rfl call92 (VC.eU (args':=[dJ U,ae t.root,bB,bB,ae 0]) (Jc t fb h4 U O (t.ag.length+1) t.root [] [] 0 [] [] none 0 [] E (yE t) (Nat.le_refl _) (Nat.le_refl _) w7 iK (fun o h=>by cases h)) ⟨.inl rfl,.inl rfl,.inr ⟨1,rfl,rfl⟩,.inr ⟨1,rfl,rfl⟩,.inl rfl,trivial⟩) ⟨ot,ot,bI,bI,bI,trivial⟩ (Perm.refl _) iy ?_;rintro r55 LV mC;rw[show map dz.l []=[] from rfl,jD] at mC;obtain⟨rfl,L,ad,cap,Sx,mJ,aT,zx,rfl⟩:=mC;refine AD.perm (Perm.cons _ (Perm.cons _ (perm_append_singleton _ _))) ?_;refine cu 4 rfl mK ?_;refine cu 5 rfl bj ?_;refine AD.split (t:=57) lk (fun tG=>?_) (fun tG=>?_)
 ·exact absurd tG (by intro e;have e:=of_decide_eq_true e;omega)
 have Bo:=tG;(try simp only[V.nh,ne_eq] at Bo)
 refine cu 6 rfl bj ?_;refine cu 7 rfl lM ?_;refine cu 11 rfl (da 0) ?_;refine cu 12 rfl (dD 2) ?_;refine cu 13 rfl qx ?_;refine AD.one (i:=8) aA ?_;refine at_ rfl (da 2) ?_;refine AD.one (i:=9) aA ?_;refine at_ rfl (dD 0) ?_;refine AD.one (i:=10) aA ?_;refine at_ rfl (Yv (i:=1) rfl rfl ot rfl underlying156) ?_;refine eD ?_;refine bg [1,5,67] ?_;refine au ?_ ?_<;>intro cX ec
 ·try have I:m.length≠t.ag.length:=by intro e;rw[e] at cX;simp at cX
  refine af [2] ?_;refine eK ?_;exact⟨vi (Z4 jD I).symm,rfl⟩
 have I:m.length=t.ag.length:=(by have:=cX;simp at this;omega)
 refine CD.wk (Wk.cover (A:=⟨U,159,4,[ax 5 cP t.ag,ae t.root,.v (.map (some O)),aN ad L.length cap]⟩) (R:=[kJ O m,⟨b1,51,2,[ax 5 cP t.ag,ae t.root]⟩]) (Sd:=Sx++L.flatMap dz.s) (cs':=[ax 5 cP t.ag,ae t.root,.v (.map (some O)),ax 1 xU lv]) (Perm.refl _) ⟨eP,eP,eP,aeX mJ aT zx,trivial⟩) ?_;obtain⟨Z,_⟩:=Ja fb _ _ _ _ _ _ _ _ E (yE t) (Nat.le_refl _) jD;refine af [1,71,72,73] ?_;refine Wt (fun (i:Nat) aJ=>(i≤lv.length)∧(∀j (_:j<i) (h:j<lv.length),eZ t lv[j] (-1))∧aJ=(⟨104,[(1,dJ b1),(71,ax 1 xU lv),(72,ae (lv.length:Nat)),(73,ae (i:Nat))],[⟨b1,51,2,[ax 5 cP t.ag,ae t.root]⟩]⟩:St)) (fun (i:Nat)=>lv.length-i) 0 ⟨(Nat.zero_le _),(fun j h _=>by omega),rfl⟩ ?_;rintro i _ ⟨j3,GW,rfl⟩;refine af [1,71,72,73,74] ?_;refine au ?_ ?_<;>intro ew fp
 ·have fq:i<lv.length:=(by omega)
  have CP:∀x∈(lv[i]'fq),0≤x∧x<t.ag.length:=Z.el _ (getElem_mem fq);have lU:(lv[i]'fq).length≤m.length:=Z.each _ (getElem_mem fq);have W9:lv.length≤m.length:=Z.eM;refine af [1,7,71,72,73] ?_;refine af [1,7,71,72,73,77,78,79] ?_;refine Wt (fun (k:Nat) aJ=>(k≤(lv[i]'fq).length)∧(∀j (_:j<k) (h:j<(lv[i]'fq).length),(t.pg (lv[i]'fq)[j]).next=(lv[i]'fq).getD (j+1) (-1))∧aJ=(⟨104,[(1,dJ b1),(7,.list 1 ((lv[i]'fq).flatMap cI) (lv[i]'fq).length),(71,ax 1 xU lv),(72,ae (lv.length:Nat)),(73,ae (i:Nat)),(77,.list 1 ((lv[i]'fq).flatMap cI) (lv[i]'fq).length),(78,ae ((lv[i]'fq).length:Nat)),(79,ae (k:Nat))],[⟨b1,51,2,[ax 5 cP t.ag,ae t.root]⟩]⟩:St)) (fun (k:Nat)=>(lv[i]'fq).length-k) 0 ⟨(Nat.zero_le _),(fun j h _=>by omega),rfl⟩ ?_;rintro k _ ⟨hk,hn,rfl⟩;refine af [1,7,71,72,73,77,78,79,80] ?_;refine au ?_ ?_<;>intro fm gv
  ·have dX:k<(lv[i]'fq).length:=(by omega)
   have MX:=CP _ (getElem_mem dX);have fU:((lv[i]'fq)[k]'dX).toNat<t.ag.length:=(by omega)
   have Xa:t.pg ((lv[i]'fq)[k]'dX)=t.ag[((lv[i]'fq)[k]'dX).toNat]'fU:=uS MX;refine af [1,7,8,9,71,72,73,77,78,79] ?_;refine af [1,7,8,9,10,71,72,73,77,78,79] ?_;refine CD.cut (fun aJ=>aJ=(⟨104,[(1,dJ b1),(7,.list 1 ((lv[i]'fq).flatMap cI) (lv[i]'fq).length),(9,ae ((lv[i]'fq)[k]'dX)),(10,ae ((lv[i]'fq).getD (k+1) (-1))),(71,ax 1 xU lv),(72,ae (lv.length:Nat)),(73,ae (i:Nat)),(77,.list 1 ((lv[i]'fq).flatMap cI) (lv[i]'fq).length),(78,ae ((lv[i]'fq).length:Nat)),(79,ae (k:Nat))],[⟨b1,51,2,[ax 5 cP t.ag,ae t.root]⟩]⟩:St)) ?_ ?_
   ·refine af [1,7,8,9,10,71,72,73,77,78,79,88] ?_;refine au ?_ ?_<;>intro gL kG
    ·have kN:(lv[i]'fq).getD (k+1) (-1)=(lv[i]'fq)[k+1]'w4:=(by rw[getD_eq_getElem?_getD,getElem?_eq_getElem w4];rfl)
     refine iB [1,7,9,10,71,72,73,77,78,79] ?_;refine aR 3 ?_ (h:=by exact(dF 1 (h:=by first|exact .l (j:=k+1) w4 w4|exact .r (j:=k+1) w4 w4)));refine bH ?_;exact z87
    have kN:(lv[i]'fq).getD (k+1) (-1) = -1:=(by rw[getD_eq_getElem?_getD,getElem?_eq_none w4];rfl)
    refine CD.skip ?_;exact z87
   rintro _ ⟨rfl⟩;refine cR [1,7,71,72,73,77,78,79,101] ?_;refine aR 3 ?_ (h:=by exact(dF 5 (h:=by first|exact .l (j:=((lv[i]'fq)[k]'dX).toNat) (Int.toNat_of_nonneg MX.1).symm fU|exact .r (j:=((lv[i]'fq)[k]'dX).toNat) (Int.toNat_of_nonneg MX.1).symm fU)));refine bH ?_;refine au ?_ ?_<;>intro gg k8
   ·have nW:¬∀l∈lv,eZ t l (-1):=fun h=>by have:=Jd.1 (h (lv[i]'fq) (getElem_mem fq)) k dX;rw[Xa] at this;simp[this] at gg
    refine af [2] ?_;refine aI [] ?_;exact⟨vi (Z5 jD nW).symm,rfl⟩
   have nI:(t.pg ((lv[i]'fq)[k]'dX)).next=(lv[i]'fq).getD (k+1) (-1):=(by rw[Xa];simpa using gg)
   refine cl [1,7,71,72,73,77,78,79] ?_;refine⟨(k+1),_,cD,aM,w4,(fun j h0 h=>by rcases Nat.lt_or_ge j k with q|q;exact hn j q h;obtain rfl:j=k:=w4;exact nI),rfl⟩
  have aiU:eZ t (lv[i]'fq) (-1):=Jd.2 fun j hj=>hn j w4 hj;refine cl [1,71,72,73] ?_;refine⟨(i+1),_,cD,aM,w4,(fun j h0 h=>by rcases Nat.lt_or_ge j i with q|q;exact GW j q h;obtain rfl:j=i:=w4;exact aiU),rfl⟩
 have nY:i=lv.length:=(by omega)
 refine af [2] ?_;refine aI [] ?_;exact⟨vi (Z6 w4 fb jD I fun l hl=>by obtain⟨j,hj,rfl⟩:=mem_iff_getElem.1 hl;exact GW j w4 hj).symm,rfl⟩

end Go.Proofs.YtdgichenhdikgaaGreatDoor.Tw

namespace Go.Proofs.YtdgichenhdikgaaGreatDoor.Tw
open List
open Go.Proofs.Tryz
open Go.RowKit V Tr Pk
variable {t:aG} {k:K}
noncomputable def lg(t:aG)(k:K):Int:=if gm t=0 then (if nZ k=true then 0 else 1) else gm t
theorem Eh(h:¬gm t=0):lg t k=gm t:=by unfold lg;rw[if_neg h]
theorem DX(h:gm t=0)(hk:nZ k=false):lg t k=1:=by unfold lg;rw[if_pos h,hk];rfl
theorem IF(h:gm t=0)(hk:nZ k=true):lg t k=0:=by unfold lg;rw[if_pos h,hk];rfl
def dZ(t:aG)(k:K)(h:Nat):Int:=(t.pg (aH t k h t.root)).kids.getD (aL (t.pg (aH t k h t.root)) k) 0
noncomputable def findF(t:aG)(k:K)(h:Nat):Int×Int:=if lg t k=0 then (if ik t k h=true then (dZ t k h,0) else (0,8)) else (0,lg t k)
theorem abE{h:Nat}(v:Valid t h):∀p∈t.ag,p.keys.length≤maxLen∧p.kids.length≤maxLen:=fun p hp=>by
 have po:=v.fA p hp;have dy:=dY;have h1:=po.eM;cases hl:p.leaf with
 | true=>have:=po.leaf hl;omega
 | false=>have:=(po.node hl).1;omega
theorem DU{h:Nat}(v:Valid t h)(k:K):(iY t k h t.root).length≤1000000:=by
 rw[Es];have:=v.high;have:=v.nC;omega
theorem Iu(h:nZ k=true):0<k.length∧k.length≤100:=of_decide_eq_true h
variable {G:List (Nat×List Value)}
theorem Hs(t:aG)(k:K)(hb:∀p∈t.ag,p.keys.length≤maxLen∧p.kids.length≤maxLen):VP Tryz.prog G 110 [.agg (cT t),ax 1 cB k] (ae (lg t k)):=by
 refine VC.body func110 rfl ntmps110 aO fun X0 w0 aY=>?_;have ff:=o8 (G:=G) t hb;unfold cT at ff;unfold cT;refine cf ?_;refine OD.box (ds:=[_,_]) ap rfl rfl ot rfl rfl (fun b2=>?_);refine an 14 [1,2] ?_;refine cW [1,5] (ff) ?_;refine af [1,5,9] ?_;refine au ?_ ?_<;>intro aP bF
 ·have hn:¬gm t=0:=(by simpa using aP)
  exact V1
 have hz:gm t=0:=(by simpa using aP)
 refine cW [13] (yM k) ?_;refine au ?_ ?_<;>intro aX cJ
 ·exact V1
 refine af [4] ?_;refine aI [] ?_;first|exact⟨vi (Eh hn).symm,rfl⟩|exact⟨vi (DX hz vm).symm,rfl⟩|exact⟨vi (IF hz vm).symm,rfl⟩
theorem aeY(t:aG)(h:Nat)(k:K)(hb:∀p∈t.ag,p.keys.length≤maxLen∧p.kids.length≤maxLen)(hv:gm t=0→Valid t h):VP Tryz.prog G 65 [.agg (cT t),ax 1 cB k] (.dG [ae (findF t k h).1,ae (findF t k h).2]):=by
 refine VC.body func65 rfl ntmps65 aO fun X0 w0 aY=>?_;have ff:=Hs (G:=G) t k hb;unfold cT at ff;unfold cT;have dy:=dY;refine cf ?_;refine OD.box (ds:=[_,_]) ap rfl rfl ot rfl rfl (fun b2=>?_);refine an 34 [1,2] ?_;refine cW [1,2,6] (ff) ?_;refine af [1,2,6,14] ?_;refine au ?_ ?_<;>intro aP bF
 ·have hn:¬lg t k=0:=(by simpa using aP)
  refine af [4,5] ?_;refine aI [] ?_;exact⟨by unfold findF;rw[if_neg hn],rfl⟩
 have hz:lg t k=0:=(by simpa using aP)
 have hc:gm t=0:=Classical.byContradiction fun e=>by rw[Eh e] at hz;exact e hz
 have U:nZ k=true:=(by cases hq:nZ k with|true=>rfl|false=>rw[DX hc hq] at hz;cases hz)
 have v:=hv hc;have dX:=Iu U;have fR:=qI (G:=G) t h v k w4 (DU v k);unfold cT at fR;obtain⟨q1,E⟩:=v.leaf k;have aa:(aH t k h t.root).toNat<t.ag.length:=(by omega)
 have I:t.pg (aH t k h t.root)=(t.ag[(aH t k h t.root).toNat]'aa):=uS q1;refine cW [2,7,8,9] (fR) ?_;refine af [2,7,8,24] ?_;refine au ?_ ?_<;>intro aX cJ
 ·have iQ:ik t k h=false:=(by simpa using aX)
  refine af [4,5] ?_;refine aI [] ?_;exact⟨by unfold findF;rw[if_pos hz,if_neg xo],rfl⟩
 have iQ:ik t k h=true:=(by simpa using aX)
 obtain⟨ha,MF⟩:=(DT v k).1 iQ;have po:=v.fA _ (jx q1);have hle:=po.leaf E;have O:aL (t.pg (aH t k h t.root)) k<(t.pg (aH t k h t.root)).kids.length:=(by omega)
 have Z:aL (t.ag[(aH t k h t.root).toNat]'aa) k<(t.ag[(aH t k h t.root).toNat]'aa).kids.length:=(by rw[←I];exact O)
 rw[I];refine cR [4,5] ?_;refine aR 3 ?_ (h:=by exact(dF 5 (h:=by first|exact .l (j:=(aH t k h t.root).toNat) (Int.toNat_of_nonneg q1.1).symm aa|exact .r (j:=(aH t k h t.root).toNat) (Int.toNat_of_nonneg q1.1).symm aa)));refine bH ?_;refine aI [] ?_;exact⟨by unfold findF dZ;rw[if_pos hz,if_pos iQ,I,sZ Z],rfl⟩
theorem Z7{S:List ah}:gq S [bX true,bB,bB,bB,ae (-1)] (cP (⟨true,[],[],[],-1⟩:cY)):=⟨eP,ye,ye,ye,eP,trivial⟩
theorem aeZ(E:True):VC Tryz.prog G 83 [] [] (fun r S=>∃b,r = .agg [aN (some ⟨b,0,none⟩) 1 1,ae 0]∧S=[⟨b,153,5,[bX true,bB,bB,bB,ae (-1)]⟩]):=by
 refine VC.body func83 rfl ntmps83 aO fun X0 w0 aY=>?_;refine cf ?_;refine OD.alloc (ds:=[_,_]) ap rfl rfl zeroValue51 rfl (fun b0=>?_);refine an 4 [0] ?_;refine aC 1 ?_;refine en (bZ 0 [_]) [.bool false,.slice none 0 0,.slice none 0 0,.slice none 0 0,.int .i64 0] [_,_,_,_,_] zeroValue153 runUnderlying49 sizeOf153 (fun b2=>?_);refine aE 1 ?_;refine aK 1 [_,_] sizeOf51 ?_;refine an 4 [0] ?_;refine aI [_] ?_;exact⟨_,rfl,rfl⟩
theorem ae0:VP Tryz.prog G 83 [] (.agg (cT sg)):=VC.cover (aeZ trivial) fun r S ⟨b,hr,hS⟩=>by
 subst hr;subst hS;exact uv ⟨Oi (cs:=[bX true,bB,bB,bB,ae (-1)]) (e:=153) (size:=5) mem_cons_self Z7 rfl (Nat.le_refl _) w7,eP,trivial⟩

end Go.Proofs.YtdgichenhdikgaaGreatDoor.Tw
namespace Go.Proofs.YtdgichenhdikgaaGreatDoor.Tr
open List
open Go.Proofs.Tryz
open Go.Lib (compareBytes)
variable {t:aG} {k:K} {row:Int}
variable {h m:Nat} {u:aG} {up:K}
def de(t:aG)(k:K):Nat→Int→Nat→Int
 | 0,i,_=>i
 | h+1,i,m=>if m=h+1 then i else de t k h ((t.pg i).kids.getD (aL (t.pg i) k) 0) m
theorem HN:∀(h:Nat) (i:Int),de t k h i h=i
 | 0,_=>rfl
 | h+1,i=>by rw[de,if_pos rfl]
theorem AE:∀{h:Nat} {i:Int} {m:Nat},m<h→de t k h i m=(t.pg (de t k h i (m+1))).kids.getD (aL (t.pg (de t k h i (m+1))) k) 0
 | 0,_,_,hm=>by omega
 | h+1,i,m,hm=>by
  rw[de,if_neg w4,de];by_cases e:m=h
  ·subst e;rw[HN,if_pos rfl]
  rw[if_neg w4];exact AE w4
theorem OT:∀{h:Nat} {i:Int} {m:Nat},m≤h→(iY t k h i)[h-m]?=some (de t k h i m)
 | 0,i,m,_=>by
  obtain rfl:m=0:=(by omega)
  rfl
 | h+1,i,m,hm=>by
  rw[iY,de];by_cases e:m=h+1
  ·subst e;rw[if_pos rfl,Nat.sub_self];rfl
  rw[if_neg e,show h+1-m=(h-m)+1 from by omega,getElem?_cons_succ];exact OT w4
theorem Et{n:Int}(hp:∀p∈t.ag,eC p n):∀{h:Nat} {i:Int} {low high:K},dV t h i low high→(ids t h i).Nodup→lu low high k→(∀x∈ek t h i,x.1≠k)→∀m,m≤h →
  ∃lo hi,dV t m (de t k h i m) lo hi∧(ids t m (de t k h i m)).Nodup∧lu lo hi k∧∀x∈ek t m (de t k h i m),x.1≠k
 | 0,i,low,high,ok,nd,hk,hn,m,hm=>by
  obtain rfl:m=0:=(by omega)
  exact⟨low,high,ok,nd,hk,hn⟩
 | h+1,i,low,high,ok,nd,hk,hn,m,hm=>by
  by_cases e:m=h+1
  ·subst e;rw[HN];exact⟨low,high,ok,nd,hk,hn⟩
  obtain⟨q1,q2,E,O,I⟩:=id ok;have po:=hp _ (jx q1);obtain⟨d1,d2⟩:=down po q2 E hk;have:=Et hp (I _ d1) (vK d1 nd).1 d2 (fun x hx=>hn x LH) m w4;rw[←sZ d1] at this;rw[de,if_neg e];exact this
structure ae1 (u:aG) (i:Int) (up:K) (aD:Int):Prop where
 fA:∀p∈u.ag,eC p u.ag.length
 rg:0≤i∧i<u.ag.length
 out:up∉(u.pg i).keys
 len:1≤up.length∧up.length≤100
 high:(u.pg i).high≠[]→bN up (u.pg i).high
 nn:0≤aD
 nnl:(u.pg i).leaf=false→aD<u.ag.length
def kj(t:aG)(k:K)(row:Int)(h m:Nat):aG×Option (K×Int):=if m=0 then (t,some (k,row)) else gl t k row (m-1) (de t k h t.root (m-1))
theorem Qp(h:Nat):kj t k row h (h+1)=gl t k row h t.root:=by unfold kj;rw[if_neg w4,Nat.add_sub_cancel,HN]
theorem OU(hm:m≤h){aD:Int}(e:kj t k row h m=(u,some (up,aD))):kj t k row h (m+1)=qW u (de t k h t.root m) up aD:=by
 unfold kj at e ⊢;rw[if_neg w4,Nat.add_sub_cancel];cases m with
 | zero=>rw[if_pos rfl] at e;injection e with e1 e2;injection e2 with e2;injection e2 with e2 E;subst e1 e2 E;rw[gl]
 | succ m=>rw[if_neg w4,Nat.add_sub_cancel,AE w4] at e;rw[gl,e]
theorem Z8(h0:0<m)(hm:m≤h)(e:kj t k row h m=(u,none)):kj t k row h (m+1)=(u,none):=by
 unfold kj at e ⊢;rw[if_neg w4,Nat.add_sub_cancel];cases m with
 | zero=>omega
 | succ m=>rw[if_neg w4,Nat.add_sub_cancel,AE w4] at e;rw[gl,e]
theorem OV{h:Nat}{u:aG}:∀(d m:Nat),m+d=h+1→0<m→kj t k row h m=(u,none)→gl t k row h t.root=(u,none)
 | 0,m,hm,_,e=>by
  obtain rfl:m=h+1:=(by omega)
  rw[←Qp];exact e
 | d+1,m,hm,h0,e=>OV d (m+1) w4 w4 (Z8 h0 w4 e)
theorem Qq(v:Valid t h)(hn:∀x∈kL t h,x.1≠k)(hl:1≤k.length∧k.length≤100)(hr:0≤row)(hm:m≤h):∃lo hi,dV t m (de t k h t.root m) lo hi∧lu lo hi k∧oh t (gl t k row m (de t k h t.root m)).1 m (de t k h t.root m) lo hi k row (gl t k row m (de t k h t.root m)).2:=by
 obtain⟨lo,hi,ok,nd,hk,hne⟩:=Et v.fA v.ok v.zv (td k) hn m hm;exact⟨lo,hi,ok,hk,E2 v.fA ok nd hk hne hl hr⟩
theorem HO(v:Valid t h)(hn:∀x∈kL t h,x.1≠k)(hl:1≤k.length∧k.length≤100)(hr:0≤row)(hm:m≤h+1){r:Option (K×Int)}(e:kj t k row h m=(u,r)):u.root=t.root∧u.ag.length≤t.ag.length+m∧t.ag.length≤u.ag.length∧∀p∈u.ag,eC p u.ag.length:=by
 unfold kj at e;cases m with
 | zero=>rw[if_pos rfl] at e;injection e with e1 e2;subst e1;exact⟨rfl,Nat.le_refl _,Nat.le_refl _,v.fA⟩
 | succ m =>
  rw[if_neg w4,Nat.add_sub_cancel] at e;obtain⟨lo,hi,_,_,I⟩:=Qq v hn hl hr (m:=m) w4;rw[e] at I;exact⟨I.root,I.more,I.le,I.fA⟩
theorem adj(v:Valid t h)(hn:∀x∈kL t h,x.1≠k)(hl:1≤k.length∧k.length≤100)(hr:0≤row)(hm:m≤h+1){aD:Int}(e:kj t k row h m=(u,some (up,aD))):up.length≤100:=by
 unfold kj at e;cases m with
 | zero=>rw[if_pos rfl] at e;injection e with e1 e2;injection e2 with e2;injection e2 with e2 E;subst e2;exact hl.2
 | succ m =>
  rw[if_neg w4,Nat.add_sub_cancel] at e;obtain⟨lo,hi,_,_,I⟩:=Qq v hn hl hr (m:=m) w4;rw[e] at I;exact I.ok.1.2
theorem adk(v:Valid t h)(hn:∀x∈kL t h,x.1≠k)(hl:1≤k.length∧k.length≤100)(hr:0≤row)(hm:m≤h){aD:Int}(e:kj t k row h m=(u,some (up,aD))):ae1 u (de t k h t.root m) up aD:=by
 cases m with
 | zero =>
  unfold kj at e;rw[if_pos rfl] at e;injection e with e1 e2;injection e2 with e2;injection e2 with e2 e3;subst e1 e2 e3
  obtain⟨lo,hi,⟨q1,q2,O,q4⟩,nd,hk,hne⟩:=Et v.fA v.ok v.zv (td k) hn 0 hm;refine⟨v.fA,q1,fun hm=>?_,hl,fun E=>?_,hr,fun h=>by rw[q2] at h;cases h⟩
  ·have po:=v.fA _ (jx q1);have hlen:=po.leaf q2;obtain⟨a,ha,he⟩:=mem_iff_getElem.1 hm;exact hne (k,(t.pg (de t k h t.root 0)).kids[a]'w4) ((AK hlen).2 ⟨a,ha,by rw[he]⟩) rfl
  rw[O] at E ⊢;exact hk.2 E
 | succ m =>
  obtain⟨s1,s2,s3,s4⟩:=HO v hn hl hr w4 e;unfold kj at e;rw[if_neg w4,Nat.add_sub_cancel] at e;obtain⟨lo,hi,ok,nd,hk,hne⟩:=Et v.fA v.ok v.zv (td k) hn (m+1) hm;obtain⟨q1,q2,O,q4,q5⟩:=id ok;have po:=v.fA _ (jx q1);obtain⟨d1,d2⟩:=down po q2 O hk;have U:=E2 (row:=row) v.fA (q5 _ d1) (vK d1 nd).1 d2 (fun x hx=>hne x LH) hl hr;rw[←sZ d1,←AE w4,e,AE w4] at U;have M:jv t u m (de t k h t.root (m+1)) lo hi (aL (t.pg (de t k h t.root (m+1))) k) k row (some (up,aD)):=⟨v.fA,ok,nd,d1,d2,U⟩
  obtain⟨m1,m2,m3,m4⟩:=M.place;have Z:=M.same;obtain⟨o1,o2,o3,o4,o5⟩:(1≤up.length∧up.length≤100)∧_∧_∧_∧dV u m aD up _:=U.ok;have I:=o5.idx;refine⟨s4,⟨q1.1,by omega⟩,by rw[Z];exact m2,o1,fun E=>?_,I.1,fun _=>I.2⟩;rw[Z,O] at E ⊢;exact m3.2 E

end Go.Proofs.YtdgichenhdikgaaGreatDoor.Tr
namespace Go.Proofs.YtdgichenhdikgaaGreatDoor.Tr
open List
open Go.Proofs.Tryz
open Go.Lib (compareBytes)
variable {t:aG} {h:Nat} {k:K}
variable {i:Int}
noncomputable def mW(t:aG)(h:Nat)(k:K):List (K×Int):=(kL t h).filter fun x=>decide (¬bN x.1 k)
def iW(t:aG)(ls:List Int):List (K×Int):=ls.flatMap fun l=>eY (t.pg l)
theorem eZ.tail{r:List Int}{e:Int}(h:eZ t (i::r) e):eZ t r e:=by
 cases r with
 | nil=>trivial
 | cons j r=>exact h.2
theorem eZ.next{i:Int}{r:List Int}{e:Int}(h:eZ t (i::r) e):(t.pg i).next=r.headD e:=by
 cases r with
 | nil=>exact h
 | cons j r=>exact h.1
theorem eZ.drop{e:Int}:∀{a b:List Int},eZ t (a++b) e→eZ t b e
 | [],_,h=>h
 | i::a,b,h=>eZ.drop (a:=a) (eZ.tail h)
theorem Qr:∀{h:Nat} {i:Int} {low high:K},dV t h i low high→∀l∈cA t h i,(0≤l∧l<t.ag.length)∧(t.pg l).leaf=true
 | 0,i,low,high,ok,l,hl=>by
  rw[cA,mem_singleton] at hl;subst hl;exact⟨ok.1,ok.2.1⟩
 | h+1,i,low,high,ok,l,hl=>by
  obtain⟨q1,q2,I,O,E⟩:=ok;rw[cA] at hl;obtain⟨c,hc,hl⟩:=mem_flatMap.1 hl;obtain⟨j,hj,rfl⟩:=mem_iff_getElem.1 hc;exact Qr (E j hj) l hl
structure qR (t:aG) (ls:List Int):Prop where
 oV:eZ t ls (-1)
 at_:∀l∈ls,(0≤l∧l<t.ag.length)∧(t.pg l).leaf=true
theorem qR.tail{i:Int}{r:List Int}(h:qR t (i::r)):qR t r:=⟨eZ.tail h.oV,fun l hl=>h.at_ l (mem_cons_of_mem _ hl)⟩
theorem qR.head{ls:List Int}(h:qR t ls):(0≤ls.headD (-1)→∃r,ls=ls.headD (-1)::r)∧(ls.headD (-1)<0→ls=[]):=by
 cases ls with
 | nil=>exact⟨fun h=>by simp at h,fun _=>rfl⟩
 | cons i r=>exact⟨fun _=>⟨r,rfl⟩,fun h0=>by have:=(h.at_ i mem_cons_self).1;simp at h0;omega⟩
theorem N6(v:Valid t h):qR t (cA t h t.root):=⟨v.oV h (Nat.le_refl _),Qr v.ok⟩
theorem D9(v:Valid t h){l:Int}(hl:(0≤l∧l<t.ag.length)∧(t.pg l).leaf=true):(eY (t.pg l)).length=(t.pg l).keys.length:=by
 have:=(v.fA _ (jx hl.1)).leaf hl.2;unfold eY;rw[length_zip];omega
theorem YM(v:Valid t h)(k:K):∃r,qR t (aH t k h t.root::r)∧mW t h k=(iW t (aH t k h t.root::r)).drop (aL (t.pg (aH t k h t.root)) k)∧aL (t.pg (aH t k h t.root)) k≤(t.pg (aH t k h t.root)).keys.length:=by
 obtain⟨pre,post,e,he⟩:=ZM v.fA v.ok (td k);have hL:=N6 v;have hl:=v.leaf k;have fJ:aL (t.pg (aH t k h t.root)) k≤(t.pg (aH t k h t.root)).keys.length:=by
  unfold aL;split
  ·exact ym _ _
  exact AT _ _
 rw[e] at hL;refine⟨post,⟨eZ.drop hL.oV,fun l hl=>hL.at_ l (mem_append_right _ hl)⟩,?_,fJ⟩;unfold mW kL;rw[he];unfold iW;rw[flatMap_cons,drop_append_of_le_length (by rw[D9 v hl];exact fJ)]
theorem Z9(v:Valid t h){r:List Int}(hL:qR t (i::r)){a:Nat}(ha:a<(t.pg i).keys.length)(hk:a<(t.pg i).kids.length) :
  (iW t (i::r)).drop a=((t.pg i).keys[a],(t.pg i).kids[a])::(iW t (i::r)).drop (a+1):=by
 have hi:=hL.at_ i mem_cons_self;have hlen:=D9 v hi;have h1:a<(iW t (i::r)).length:=(by unfold iW;rw[flatMap_cons,length_append];omega)
 rw[drop_eq_getElem_cons h1];congr 1;unfold iW;simp only[flatMap_cons];rw[getElem_append_left w4];unfold eY;rw[getElem_zip]
theorem YN(v:Valid t h){r:List Int}(hL:qR t (i::r)){a:Nat}(ha:a=(t.pg i).keys.length):(iW t (i::r)).drop a=(iW t r).drop 0:=by
 have hi:=hL.at_ i mem_cons_self;have hlen:=D9 v hi;unfold iW;rw[flatMap_cons,drop_zero,drop_append_of_le_length w4,drop_eq_nil_of_le w4];rfl
theorem abF(v:Valid t h):kL t h=iW t (cA t h t.root):=vT t h t.root
theorem HP(v:Valid t h):(kL t h).Pairwise fun x y=>bN x.1 y.1:=(I6 v.fA v.ok).1
theorem aaa(v:Valid t h)(k:K):(mW t h k).Pairwise fun x y=>bN x.1 y.1:=(HP v).filter _
theorem abG(t:aG)(h:Nat):mW t h []=kL t h:=by
 unfold mW;rw[filter_eq_self.2];intro x _;simpa using Jz x.1
theorem abH(v:Valid t h):(kL t h).length≤4*t.ag.length:=by
 have key:∀(ls:List Int),(∀l∈ls,(0≤l∧l<t.ag.length)∧(t.pg l).leaf=true)→(iW t ls).length≤4*ls.length:=by
  intro ls;induction ls with
  | nil=>intro _;simp[iW]
  | cons i r ih =>
   intro hl;have h1:=D9 v (hl i mem_cons_self);have h2:=(v.fA _ (jx (hl i mem_cons_self).1)).eM;have h3:=ih fun l E=>hl l (mem_cons_of_mem _ E);unfold iW at h3 ⊢;rw[flatMap_cons,length_append,length_cons];omega
 have I:(cA t h t.root).length≤(ids t h t.root).length:=by
  have:∀(h:Nat) (i:Int),(cA t h i).length≤(ids t h i).length:=by
   intro h;induction h with
   | zero=>intro i;simp[cA,ids]
   | succ h ih =>
    intro i;rw[cA,ids,length_cons,length_flatMap,length_flatMap];have:∀(l:List Int),(l.map fun a=>(cA t h a).length).sum≤(l.map fun a=>(ids t h a).length).sum:=by
     intro l;induction l with
     | nil=>simp
     | cons a l O=>simp only[map_cons,sum_cons];have:=ih a;omega
    have:=this (t.pg i).kids;omega
  exact this h t.root
 rw[abF v];have:=key _ (N6 v).at_;rw[v.all] at I;omega
theorem Qs(v:Valid t h)(k:K):(mW t h k).length≤16000:=by
 have:=abH v;have h1:=v.nC;have:(mW t h k).length≤(kL t h).length:=(filter_sublist).length_le;omega

end Go.Proofs.YtdgichenhdikgaaGreatDoor.Tr
namespace Go.Proofs.YtdgichenhdikgaaGreatDoor.Tw
open List
open Go.Proofs.Tryz
open Go.RowKit V Tr Pk
def cE(e:K×Int):List D:=[ax 1 cB e.1,ae e.2]
theorem SK(e:K×Int):(cE e).length=2:=rfl
def F2(e:K×Int):List D:=[.agg (cE e)]
theorem ae2(b:UInt8):fH (cB b)=true:=rfl
theorem yN(k:K):fH (k.flatMap cB)=true:=uA ae2 k
theorem yO(e:K×Int):fH (cE e)=true:=by simp[cE,fH,iD,yN]
theorem abI(e:K×Int):fH (F2 e)=true:=by simp[F2,fH,iD,yO]
def J8(t:aG)(k:K):List D:=[.fy [ax 5 cP t.ag,ae t.root] 0,.fy [ax 1 cB k] 0]
variable {G:List (Nat×List Value)}
theorem rJ : ∀ w, ((#[{ name := "Key", type := 88, offset := 0, embedded := false, tag := "", pkgPath := "", byteOffset := 0 }, { name := "Row", type := 3, offset := 1, embedded := false, tag := "", pkgPath := "", byteOffset := 24 }] : Array Field).mapM fun f => do pure (f.offset, ← sizeOf f.type) : Sem (Array (Nat × Nat))).run Tryz.prog w = .ok #[(0, 1), (1, 1)] w := fun w => by simp [sizeOf3, sizeOf88]
theorem abJ(t:aG)(h:Nat)(v:Valid t h)(k:K)(dX:k.length≤maxLen):VI Tryz.prog G 93 (J8 t k) F2 (fun xs=>xs=mW t h k) (fun pre=>pre <+: mW t h k) (mW t h k).length:=by
 refine VI.body func93 rfl ntmps93 aO fun Y X0 w0 aY Sc0 hYe hYN O hY hJ0=>?_;have dy:=dY;have fR:=qI (G:=G) t h v k w4 (DU v k);unfold cT at fR;obtain⟨r0,hL0,aiV,UN⟩:=YM v k;obtain⟨y1,y2,y3⟩:=(by exact⟨hYe,hYN,O⟩:Y.enc=F2∧Y.N=(mW t h k).length∧w0.heap.size≤Y.l)
 refine cW [0,1,4,5] (fR) ?_;refine CD.block ?_;refine mM (fun (U:List Int×Nat×List (K×Int)×List ah) aJ=>match U with|(ls,a,pre,Sc)=>(qR t ls)∧(mW t h k=pre++(iW t ls).drop a)∧((∀x∈head? ls,a≤(t.pg x).keys.length))∧(Y.J pre Sc)∧aJ=(⟨46,[(0,.jZ Y.l Y.os),(1,.fy [ax 5 cP t.ag,ae t.root] 0),(4,ae (headD ls (-1))),(5,ae (a:Nat))],Sc⟩:St)) (fun (U:List Int×Nat×List (K×Int)×List ah)=>match U with|(ls,a,pre,Sc)=>length ls) ((aH t k h t.root::r0),(aL (t.pg (aH t k h t.root)) k),[],Sc0) ⟨hL0,(by rw[nil_append];exact aiV),(fun x hx=>by simp at hx;subst hx;exact UN),hJ0,rfl⟩ (aM (h:=by repeat (first|exact trivial|refine⟨(by (repeat (first|exact fx|(apply fQ;focus (first|rfl|(simp;done)|(rw[←gK,eZ.next hL.oV])))|(apply fD;focus rfl)));done),?_⟩))) ?_;rintro⟨ls,a,pre,Sc⟩ _ ⟨hL,Xb,fJ,hj,rfl⟩;refine af [0,1,4,5,16] ?_;refine au ?_ ?_<;>intro aP bF
 ·have MQ:0≤headD ls (-1):=(by simpa using aP)
  obtain⟨r,hr⟩:=(qR.head hL).1 MQ;obtain⟨i,hi⟩:∃i,i=headD ls (-1):=⟨_,rfl⟩
  rw[←hi] at hr MQ;subst hr;obtain⟨Aq,J5⟩:=hL.at_ i mem_cons_self;have aa:i.toNat<t.ag.length:=(by omega)
  have gK:t.pg i=t.ag[i.toNat]:=uS Aq;have po:=v.fA _ (jx Aq);have KZ:=po.leaf J5;have nc:=po.eM;have UW:=fJ i rfl;have TU:=v.nC;rw[gK] at po KZ nc UW;refine aC 3 ?_;refine bQ (dF 5 (h:=by first|exact .l (j:=i.toNat) (by show headD (i::r) (-1)=_;simp;omega) aa|exact .r (j:=i.toNat) (by show headD (i::r) (-1)=_;simp;omega) aa)) ?_;refine bQ (cM (mk:=Op.load 153) rfl ot (by exact jU (i:=i.toNat) E3 isAgg153 sizeOf153 aa)) ?_;refine OD.alloc (ds:=[_,_,_,_,_]) ap rfl rfl zeroValue153 rfl (fun b7=>?_);refine aK 0 [_,_,_,_,_] sizeOf153 ?_;refine an 46 [0,1,5,7] ?_;refine eL [0,1,7] (fun aW _ (U:Nat×List (K×Int)×List ah) aJ=>match U with|(a,E,I)=>(mW t h k=E++(iW t (i::r)).drop a)∧(a≤((t.ag[i.toNat]'aa)).keys.length)∧(Y.J E I)∧aJ=(⟨46,(5,ae (a:Nat))::aW,(⟨b7,153,5,cP (t.ag[i.toNat]'aa)⟩::I)⟩:St)) (fun (U:Nat×List (K×Int)×List ah)=>match U with|(a,E,I)=>((t.ag[i.toNat]'aa)).keys.length-a) (a,pre,Sc) ⟨Xb,UW,hj,rfl⟩ ?_;rintro⟨a,E,I⟩ _ ⟨pp,aoF,Z,rfl⟩;refine af [0,1,5,7,26] ?_;refine au ?_ ?_<;>intro aX cJ
  ·have rA:a<((t.ag[i.toNat]'aa)).keys.length:=(by have:=aX;simp at this;omega)
   have uk:a<((t.ag[i.toNat]'aa)).kids.length:=(by omega)
   have ji:(iW t (i::r)).drop a=(((t.ag[i.toNat]'aa)).keys[a],((t.ag[i.toNat]'aa)).kids[a])::(iW t (i::r)).drop (a+1):=(by have:=Z9 v hL (a:=a) (by rw[gK];exact rA) (by rw[gK];exact uk);simp only[gK] at this;exact this)
   have lp:((t.ag[i.toNat]'aa)).keys[a].length≤100:=(by have:=(po.lf _ (getElem_mem rA)).2;omega)
   refine CD.skip ?_;refine CD.seq ?_;refine CD.block ?_;refine CD.seq ?_;refine CD.acu aA ?_;refine fO 0 rfl bj ?_;refine fO 1 rfl (da 1) ?_;refine fO 3 rfl bj ?_;refine fO 7 rfl (da 2) ?_;refine fO 9 rfl bj ?_;refine AI.two (i:=2) (j:=8) aA ?_ ?_
   ·refine kz rfl (dD 0) ?_;refine fO 4 rfl (dF 1 (h:=by first|exact .l (j:=a) rfl rA|exact .r (j:=a) rfl rA)) ?_;refine AI.two (i:=5) (j:=8) aA ?_ ?_
    ·refine kz rfl eS ?_;refine AI.two (i:=6) (j:=8) aA ?_ ?_
     ·refine gF.gY rfl ap rfl rfl rfl call95 (jS (((t.ag[i.toNat]'aa)).keys[a]) w4) ⟨ot,trivial⟩ ?_;refine AI.one (i:=8) aA ?_;refine kz rfl (dD 0) ?_;refine fO 10 rfl (dF 1 (h:=by first|exact .l (j:=a) rfl uk|exact .r (j:=a) rfl uk)) ?_;refine AI.one (i:=11) aA ?_;refine kz rfl eS ?_;refine fO 12 rfl (nr (pl:=[(0,_),(1,_)]) (ds:=[_,_]) rfl zeroValue90 runUnderlying90 rJ ⟨rfl,ot,rfl,ot,trivial⟩ rfl rfl) ?_;refine AI.one (i:=13) aA ?_;refine gF.yield (Y:=Y) (pre:=E) (y:=(((t.ag[i.toNat]'aa)).keys[a],((t.ag[i.toNat]'aa)).kids[a])) (Sc:=I) (R:=[⟨b7,153,5,cP (t.ag[i.toNat]'aa)⟩]) rfl ap rfl rfl ot aO lk sD (perm_append_singleton _ _).symm Z sC hY O w7 (fun C7 MY=>?_) (fun C7 MY=>?_)
      ·refine AI.perm (perm_append_singleton _ _) ?_;refine fO 14 rfl kQ ?_;refine AI.wk (y:=⟨46,[(0,_),(1,_),(5,_),(7,_),(43,_)],(⟨b7,153,5,[_,_,_,_,_]⟩::C7)⟩) (Wk.dR rfl rfl fi) ?_;refine AI.done aA ?_;refine fM ?_;refine cl [0,1,5,7] ?_;refine⟨((a+1),(E++[(((t.ag[i.toNat]'aa)).keys[a],((t.ag[i.toNat]'aa)).kids[a])]),C7),_,cD,aM,sB,w4,MY,rfl⟩
      refine fO 14 rfl kQ ?_;refine AI.wk (y:=⟨46,[(0,_),(43,_)],(C7)⟩) (Wk.dR rfl rfl fi) ?_;refine AI.done aA ?_;refine eE ?_;refine CD.ret ?_;refine⟨.inr rfl,⟨_,pU results93⟩,(show 0<46 by decide),C7,Sublist.refl _,?_⟩;exact .inr ⟨E++[(((t.ag[i.toNat]'aa)).keys[a],((t.ag[i.toNat]'aa)).kids[a])],⟨(iW t (i::r)).drop (a+1),by rw[pp,ji,append_assoc];rfl⟩,MY,lk⟩
     refine kz rfl (dD 0) ?_;refine fO 10 rfl (dF 1 (h:=by first|exact .l (j:=a) rfl uk|exact .r (j:=a) rfl uk)) ?_;refine AI.two (i:=6) (j:=11) aA ?_ ?_
     ·refine gF.gY rfl ap rfl rfl rfl call95 (jS (((t.ag[i.toNat]'aa)).keys[a]) w4) ⟨ot,trivial⟩ ?_;refine AI.one (i:=11) aA ?_;refine kz rfl eS ?_;refine fO 12 rfl (nr (pl:=[(0,_),(1,_)]) (ds:=[_,_]) rfl zeroValue90 runUnderlying90 rJ ⟨rfl,ot,rfl,ot,trivial⟩ rfl rfl) ?_;refine AI.one (i:=13) aA ?_;refine gF.yield (Y:=Y) (pre:=E) (y:=(((t.ag[i.toNat]'aa)).keys[a],((t.ag[i.toNat]'aa)).kids[a])) (Sc:=I) (R:=[⟨b7,153,5,cP (t.ag[i.toNat]'aa)⟩]) rfl ap rfl rfl ot aO lk sD (perm_append_singleton _ _).symm Z sC hY O w7 (fun I MZ=>?_) (fun I MZ=>?_)
      ·refine AI.perm (perm_append_singleton _ _) ?_;refine fO 14 rfl kQ ?_;refine AI.wk (y:=⟨46,[(0,_),(1,_),(5,_),(7,_),(43,_)],(⟨b7,153,5,[_,_,_,_,_]⟩::I)⟩) (Wk.dR rfl rfl fi) ?_;refine AI.done aA ?_;refine fM ?_;refine cl [0,1,5,7] ?_;refine⟨((a+1),(E++[(((t.ag[i.toNat]'aa)).keys[a],((t.ag[i.toNat]'aa)).kids[a])]),I),_,cD,aM,sB,w4,MZ,rfl⟩
      refine fO 14 rfl kQ ?_;refine AI.wk (y:=⟨46,[(0,_),(43,_)],(I)⟩) (Wk.dR rfl rfl fi) ?_;refine AI.done aA ?_;refine eE ?_;refine CD.ret ?_;refine⟨.inr rfl,⟨_,pU results93⟩,(show 0<46 by decide),I,Sublist.refl _,?_⟩;exact .inr ⟨E++[(((t.ag[i.toNat]'aa)).keys[a],((t.ag[i.toNat]'aa)).kids[a])],⟨(iW t (i::r)).drop (a+1),by rw[pp,ji,append_assoc];rfl⟩,MZ,lk⟩
     refine kz rfl eS ?_;refine AI.one (i:=6) aA ?_;refine gF.gY rfl ap rfl rfl rfl call95 (jS (((t.ag[i.toNat]'aa)).keys[a]) w4) ⟨ot,trivial⟩ ?_;refine fO 12 rfl (nr (pl:=[(0,_),(1,_)]) (ds:=[_,_]) rfl zeroValue90 runUnderlying90 rJ ⟨rfl,ot,rfl,ot,trivial⟩ rfl rfl) ?_;refine AI.one (i:=13) aA ?_;refine gF.yield (Y:=Y) (pre:=E) (y:=(((t.ag[i.toNat]'aa)).keys[a],((t.ag[i.toNat]'aa)).kids[a])) (Sc:=I) (R:=[⟨b7,153,5,cP (t.ag[i.toNat]'aa)⟩]) rfl ap rfl rfl ot aO lk sD (perm_append_singleton _ _).symm Z sC hY O w7 (fun C8 M1=>?_) (fun C8 M1=>?_)
     ·refine AI.perm (perm_append_singleton _ _) ?_;refine fO 14 rfl kQ ?_;refine AI.wk (y:=⟨46,[(0,_),(1,_),(5,_),(7,_),(43,_)],(⟨b7,153,5,[_,_,_,_,_]⟩::C8)⟩) (Wk.dR rfl rfl fi) ?_;refine AI.done aA ?_;refine fM ?_;refine cl [0,1,5,7] ?_;refine⟨((a+1),(E++[(((t.ag[i.toNat]'aa)).keys[a],((t.ag[i.toNat]'aa)).kids[a])]),C8),_,cD,aM,sB,w4,M1,rfl⟩
     refine fO 14 rfl kQ ?_;refine AI.wk (y:=⟨46,[(0,_),(43,_)],(C8)⟩) (Wk.dR rfl rfl fi) ?_;refine AI.done aA ?_;refine eE ?_;refine CD.ret ?_;refine⟨.inr rfl,⟨_,pU results93⟩,(show 0<46 by decide),C8,Sublist.refl _,?_⟩;exact .inr ⟨E++[(((t.ag[i.toNat]'aa)).keys[a],((t.ag[i.toNat]'aa)).kids[a])],⟨(iW t (i::r)).drop (a+1),by rw[pp,ji,append_assoc];rfl⟩,M1,lk⟩
    refine kz rfl (dD 0) ?_;refine fO 10 rfl (dF 1 (h:=by first|exact .l (j:=a) rfl uk|exact .r (j:=a) rfl uk)) ?_;refine AI.two (i:=5) (j:=11) aA ?_ ?_
    ·refine kz rfl eS ?_;refine AI.two (i:=6) (j:=11) aA ?_ ?_
     ·refine gF.gY rfl ap rfl rfl rfl call95 (jS (((t.ag[i.toNat]'aa)).keys[a]) w4) ⟨ot,trivial⟩ ?_;refine AI.one (i:=11) aA ?_;refine kz rfl eS ?_;refine fO 12 rfl (nr (pl:=[(0,_),(1,_)]) (ds:=[_,_]) rfl zeroValue90 runUnderlying90 rJ ⟨rfl,ot,rfl,ot,trivial⟩ rfl rfl) ?_;refine AI.one (i:=13) aA ?_;refine gF.yield (Y:=Y) (pre:=E) (y:=(((t.ag[i.toNat]'aa)).keys[a],((t.ag[i.toNat]'aa)).kids[a])) (Sc:=I) (R:=[⟨b7,153,5,cP (t.ag[i.toNat]'aa)⟩]) rfl ap rfl rfl ot aO lk sD (perm_append_singleton _ _).symm Z sC hY O w7 (fun C9 M2=>?_) (fun C9 M2=>?_)
      ·refine AI.perm (perm_append_singleton _ _) ?_;refine fO 14 rfl kQ ?_;refine AI.wk (y:=⟨46,[(0,_),(1,_),(5,_),(7,_),(43,_)],(⟨b7,153,5,[_,_,_,_,_]⟩::C9)⟩) (Wk.dR rfl rfl fi) ?_;refine AI.done aA ?_;refine fM ?_;refine cl [0,1,5,7] ?_;refine⟨((a+1),(E++[(((t.ag[i.toNat]'aa)).keys[a],((t.ag[i.toNat]'aa)).kids[a])]),C9),_,cD,aM,sB,w4,M2,rfl⟩
      refine fO 14 rfl kQ ?_;refine AI.wk (y:=⟨46,[(0,_),(43,_)],(C9)⟩) (Wk.dR rfl rfl fi) ?_;refine AI.done aA ?_;refine eE ?_;refine CD.ret ?_;refine⟨.inr rfl,⟨_,pU results93⟩,(show 0<46 by decide),C9,Sublist.refl _,?_⟩;exact .inr ⟨E++[(((t.ag[i.toNat]'aa)).keys[a],((t.ag[i.toNat]'aa)).kids[a])],⟨(iW t (i::r)).drop (a+1),by rw[pp,ji,append_assoc];rfl⟩,M2,lk⟩
     refine kz rfl eS ?_;refine AI.one (i:=6) aA ?_;refine gF.gY rfl ap rfl rfl rfl call95 (jS (((t.ag[i.toNat]'aa)).keys[a]) w4) ⟨ot,trivial⟩ ?_;refine fO 12 rfl (nr (pl:=[(0,_),(1,_)]) (ds:=[_,_]) rfl zeroValue90 runUnderlying90 rJ ⟨rfl,ot,rfl,ot,trivial⟩ rfl rfl) ?_;refine AI.one (i:=13) aA ?_;refine gF.yield (Y:=Y) (pre:=E) (y:=(((t.ag[i.toNat]'aa)).keys[a],((t.ag[i.toNat]'aa)).kids[a])) (Sc:=I) (R:=[⟨b7,153,5,cP (t.ag[i.toNat]'aa)⟩]) rfl ap rfl rfl ot aO lk sD (perm_append_singleton _ _).symm Z sC hY O w7 (fun Da M3=>?_) (fun Da M3=>?_)
     ·refine AI.perm (perm_append_singleton _ _) ?_;refine fO 14 rfl kQ ?_;refine AI.wk (y:=⟨46,[(0,_),(1,_),(5,_),(7,_),(43,_)],(⟨b7,153,5,[_,_,_,_,_]⟩::Da)⟩) (Wk.dR rfl rfl fi) ?_;refine AI.done aA ?_;refine fM ?_;refine cl [0,1,5,7] ?_;refine⟨((a+1),(E++[(((t.ag[i.toNat]'aa)).keys[a],((t.ag[i.toNat]'aa)).kids[a])]),Da),_,cD,aM,sB,w4,M3,rfl⟩
     refine fO 14 rfl kQ ?_;refine AI.wk (y:=⟨46,[(0,_),(43,_)],(Da)⟩) (Wk.dR rfl rfl fi) ?_;refine AI.done aA ?_;refine eE ?_;refine CD.ret ?_;refine⟨.inr rfl,⟨_,pU results93⟩,(show 0<46 by decide),Da,Sublist.refl _,?_⟩;exact .inr ⟨E++[(((t.ag[i.toNat]'aa)).keys[a],((t.ag[i.toNat]'aa)).kids[a])],⟨(iW t (i::r)).drop (a+1),by rw[pp,ji,append_assoc];rfl⟩,M3,lk⟩
    refine kz rfl eS ?_;refine AI.one (i:=5) aA ?_;refine kz rfl eS ?_;refine AI.one (i:=6) aA ?_;refine gF.gY rfl ap rfl rfl rfl call95 (jS (((t.ag[i.toNat]'aa)).keys[a]) w4) ⟨ot,trivial⟩ ?_;refine fO 12 rfl (nr (pl:=[(0,_),(1,_)]) (ds:=[_,_]) rfl zeroValue90 runUnderlying90 rJ ⟨rfl,ot,rfl,ot,trivial⟩ rfl rfl) ?_;refine AI.one (i:=13) aA ?_;refine gF.yield (Y:=Y) (pre:=E) (y:=(((t.ag[i.toNat]'aa)).keys[a],((t.ag[i.toNat]'aa)).kids[a])) (Sc:=I) (R:=[⟨b7,153,5,cP (t.ag[i.toNat]'aa)⟩]) rfl ap rfl rfl ot aO lk sD (perm_append_singleton _ _).symm Z sC hY O w7 (fun Db M4=>?_) (fun Db M4=>?_)
    ·refine AI.perm (perm_append_singleton _ _) ?_;refine fO 14 rfl kQ ?_;refine AI.wk (y:=⟨46,[(0,_),(1,_),(5,_),(7,_),(43,_)],(⟨b7,153,5,[_,_,_,_,_]⟩::Db)⟩) (Wk.dR rfl rfl fi) ?_;refine AI.done aA ?_;refine fM ?_;refine cl [0,1,5,7] ?_;refine⟨((a+1),(E++[(((t.ag[i.toNat]'aa)).keys[a],((t.ag[i.toNat]'aa)).kids[a])]),Db),_,cD,aM,sB,w4,M4,rfl⟩
    refine fO 14 rfl kQ ?_;refine AI.wk (y:=⟨46,[(0,_),(43,_)],(Db)⟩) (Wk.dR rfl rfl fi) ?_;refine AI.done aA ?_;refine eE ?_;refine CD.ret ?_;refine⟨.inr rfl,⟨_,pU results93⟩,(show 0<46 by decide),Db,Sublist.refl _,?_⟩;exact .inr ⟨E++[(((t.ag[i.toNat]'aa)).keys[a],((t.ag[i.toNat]'aa)).kids[a])],⟨(iW t (i::r)).drop (a+1),by rw[pp,ji,append_assoc];rfl⟩,M4,lk⟩
   refine kz rfl (dD 0) ?_;refine fO 10 rfl (dF 1 (h:=by first|exact .l (j:=a) rfl uk|exact .r (j:=a) rfl uk)) ?_;refine AI.two (i:=2) (j:=11) aA ?_ ?_
   ·refine kz rfl (dD 0) ?_;refine fO 4 rfl (dF 1 (h:=by first|exact .l (j:=a) rfl rA|exact .r (j:=a) rfl rA)) ?_;refine AI.two (i:=5) (j:=11) aA ?_ ?_
    ·refine kz rfl eS ?_;refine AI.two (i:=6) (j:=11) aA ?_ ?_
     ·refine gF.gY rfl ap rfl rfl rfl call95 (jS (((t.ag[i.toNat]'aa)).keys[a]) w4) ⟨ot,trivial⟩ ?_;refine AI.one (i:=11) aA ?_;refine kz rfl eS ?_;refine fO 12 rfl (nr (pl:=[(0,_),(1,_)]) (ds:=[_,_]) rfl zeroValue90 runUnderlying90 rJ ⟨rfl,ot,rfl,ot,trivial⟩ rfl rfl) ?_;refine AI.one (i:=13) aA ?_;refine gF.yield (Y:=Y) (pre:=E) (y:=(((t.ag[i.toNat]'aa)).keys[a],((t.ag[i.toNat]'aa)).kids[a])) (Sc:=I) (R:=[⟨b7,153,5,cP (t.ag[i.toNat]'aa)⟩]) rfl ap rfl rfl ot aO lk sD (perm_append_singleton _ _).symm Z sC hY O w7 (fun Dc M5=>?_) (fun Dc M5=>?_)
      ·refine AI.perm (perm_append_singleton _ _) ?_;refine fO 14 rfl kQ ?_;refine AI.wk (y:=⟨46,[(0,_),(1,_),(5,_),(7,_),(43,_)],(⟨b7,153,5,[_,_,_,_,_]⟩::Dc)⟩) (Wk.dR rfl rfl fi) ?_;refine AI.done aA ?_;refine fM ?_;refine cl [0,1,5,7] ?_;refine⟨((a+1),(E++[(((t.ag[i.toNat]'aa)).keys[a],((t.ag[i.toNat]'aa)).kids[a])]),Dc),_,cD,aM,sB,w4,M5,rfl⟩
      refine fO 14 rfl kQ ?_;refine AI.wk (y:=⟨46,[(0,_),(43,_)],(Dc)⟩) (Wk.dR rfl rfl fi) ?_;refine AI.done aA ?_;refine eE ?_;refine CD.ret ?_;refine⟨.inr rfl,⟨_,pU results93⟩,(show 0<46 by decide),Dc,Sublist.refl _,?_⟩;exact .inr ⟨E++[(((t.ag[i.toNat]'aa)).keys[a],((t.ag[i.toNat]'aa)).kids[a])],⟨(iW t (i::r)).drop (a+1),by rw[pp,ji,append_assoc];rfl⟩,M5,lk⟩
     refine kz rfl eS ?_;refine AI.one (i:=6) aA ?_;refine gF.gY rfl ap rfl rfl rfl call95 (jS (((t.ag[i.toNat]'aa)).keys[a]) w4) ⟨ot,trivial⟩ ?_;refine fO 12 rfl (nr (pl:=[(0,_),(1,_)]) (ds:=[_,_]) rfl zeroValue90 runUnderlying90 rJ ⟨rfl,ot,rfl,ot,trivial⟩ rfl rfl) ?_;refine AI.one (i:=13) aA ?_;refine gF.yield (Y:=Y) (pre:=E) (y:=(((t.ag[i.toNat]'aa)).keys[a],((t.ag[i.toNat]'aa)).kids[a])) (Sc:=I) (R:=[⟨b7,153,5,cP (t.ag[i.toNat]'aa)⟩]) rfl ap rfl rfl ot aO lk sD (perm_append_singleton _ _).symm Z sC hY O w7 (fun De M6=>?_) (fun De M6=>?_)
     ·refine AI.perm (perm_append_singleton _ _) ?_;refine fO 14 rfl kQ ?_;refine AI.wk (y:=⟨46,[(0,_),(1,_),(5,_),(7,_),(43,_)],(⟨b7,153,5,[_,_,_,_,_]⟩::De)⟩) (Wk.dR rfl rfl fi) ?_;refine AI.done aA ?_;refine fM ?_;refine cl [0,1,5,7] ?_;refine⟨((a+1),(E++[(((t.ag[i.toNat]'aa)).keys[a],((t.ag[i.toNat]'aa)).kids[a])]),De),_,cD,aM,sB,w4,M6,rfl⟩
     refine fO 14 rfl kQ ?_;refine AI.wk (y:=⟨46,[(0,_),(43,_)],(De)⟩) (Wk.dR rfl rfl fi) ?_;refine AI.done aA ?_;refine eE ?_;refine CD.ret ?_;refine⟨.inr rfl,⟨_,pU results93⟩,(show 0<46 by decide),De,Sublist.refl _,?_⟩;exact .inr ⟨E++[(((t.ag[i.toNat]'aa)).keys[a],((t.ag[i.toNat]'aa)).kids[a])],⟨(iW t (i::r)).drop (a+1),by rw[pp,ji,append_assoc];rfl⟩,M6,lk⟩
    refine kz rfl eS ?_;refine AI.one (i:=5) aA ?_;refine kz rfl eS ?_;refine AI.one (i:=6) aA ?_;refine gF.gY rfl ap rfl rfl rfl call95 (jS (((t.ag[i.toNat]'aa)).keys[a]) w4) ⟨ot,trivial⟩ ?_;refine fO 12 rfl (nr (pl:=[(0,_),(1,_)]) (ds:=[_,_]) rfl zeroValue90 runUnderlying90 rJ ⟨rfl,ot,rfl,ot,trivial⟩ rfl rfl) ?_;refine AI.one (i:=13) aA ?_;refine gF.yield (Y:=Y) (pre:=E) (y:=(((t.ag[i.toNat]'aa)).keys[a],((t.ag[i.toNat]'aa)).kids[a])) (Sc:=I) (R:=[⟨b7,153,5,cP (t.ag[i.toNat]'aa)⟩]) rfl ap rfl rfl ot aO lk sD (perm_append_singleton _ _).symm Z sC hY O w7 (fun Df M7=>?_) (fun Df M7=>?_)
    ·refine AI.perm (perm_append_singleton _ _) ?_;refine fO 14 rfl kQ ?_;refine AI.wk (y:=⟨46,[(0,_),(1,_),(5,_),(7,_),(43,_)],(⟨b7,153,5,[_,_,_,_,_]⟩::Df)⟩) (Wk.dR rfl rfl fi) ?_;refine AI.done aA ?_;refine fM ?_;refine cl [0,1,5,7] ?_;refine⟨((a+1),(E++[(((t.ag[i.toNat]'aa)).keys[a],((t.ag[i.toNat]'aa)).kids[a])]),Df),_,cD,aM,sB,w4,M7,rfl⟩
    refine fO 14 rfl kQ ?_;refine AI.wk (y:=⟨46,[(0,_),(43,_)],(Df)⟩) (Wk.dR rfl rfl fi) ?_;refine AI.done aA ?_;refine eE ?_;refine CD.ret ?_;refine⟨.inr rfl,⟨_,pU results93⟩,(show 0<46 by decide),Df,Sublist.refl _,?_⟩;exact .inr ⟨E++[(((t.ag[i.toNat]'aa)).keys[a],((t.ag[i.toNat]'aa)).kids[a])],⟨(iW t (i::r)).drop (a+1),by rw[pp,ji,append_assoc];rfl⟩,M7,lk⟩
   refine kz rfl eS ?_;refine AI.one (i:=2) aA ?_;refine kz rfl (dD 0) ?_;refine fO 4 rfl (dF 1 (h:=by first|exact .l (j:=a) rfl rA|exact .r (j:=a) rfl rA)) ?_;refine AI.one (i:=5) aA ?_;refine kz rfl eS ?_;refine AI.one (i:=6) aA ?_;refine gF.gY rfl ap rfl rfl rfl call95 (jS (((t.ag[i.toNat]'aa)).keys[a]) w4) ⟨ot,trivial⟩ ?_;refine fO 12 rfl (nr (pl:=[(0,_),(1,_)]) (ds:=[_,_]) rfl zeroValue90 runUnderlying90 rJ ⟨rfl,ot,rfl,ot,trivial⟩ rfl rfl) ?_;refine AI.one (i:=13) aA ?_;refine gF.yield (Y:=Y) (pre:=E) (y:=(((t.ag[i.toNat]'aa)).keys[a],((t.ag[i.toNat]'aa)).kids[a])) (Sc:=I) (R:=[⟨b7,153,5,cP (t.ag[i.toNat]'aa)⟩]) rfl ap rfl rfl ot aO lk sD (perm_append_singleton _ _).symm Z sC hY O w7 (fun B3 K3=>?_) (fun B3 K3=>?_)
   ·refine AI.perm (perm_append_singleton _ _) ?_;refine fO 14 rfl kQ ?_;refine AI.wk (y:=⟨46,[(0,_),(1,_),(5,_),(7,_),(43,_)],(⟨b7,153,5,[_,_,_,_,_]⟩::B3)⟩) (Wk.dR rfl rfl fi) ?_;refine AI.done aA ?_;refine fM ?_;refine cl [0,1,5,7] ?_;refine⟨((a+1),(E++[(((t.ag[i.toNat]'aa)).keys[a],((t.ag[i.toNat]'aa)).kids[a])]),B3),_,cD,aM,sB,w4,K3,rfl⟩
   refine fO 14 rfl kQ ?_;refine AI.wk (y:=⟨46,[(0,_),(43,_)],(B3)⟩) (Wk.dR rfl rfl fi) ?_;refine AI.done aA ?_;refine eE ?_;refine CD.ret ?_;refine⟨.inr rfl,⟨_,pU results93⟩,(show 0<46 by decide),B3,Sublist.refl _,?_⟩;exact .inr ⟨E++[(((t.ag[i.toNat]'aa)).keys[a],((t.ag[i.toNat]'aa)).kids[a])],⟨(iW t (i::r)).drop (a+1),by rw[pp,ji,append_assoc];rfl⟩,K3,lk⟩
  have fh:a=(t.pg i).keys.length:=(by rw[gK];have:=aX;simp at this;omega)
  refine cl [0,1,4,5] ?_;refine⟨(r,0,E,I),_,(by (show length r<length (i::r);simp)),(aM (h:=by repeat (first|exact trivial|refine⟨(by (repeat (first|exact fx|(apply fQ;focus (first|rfl|(simp;done)|(rw[←gK,eZ.next hL.oV])))|(apply fD;focus rfl)));done),?_⟩))),hL.tail,(by rw[pp,YN v hL fh]),(fun x hx=>Nat.zero_le _),Z,rfl⟩
 have aiW:ls=[]:=hL.head.2 xp;refine CD.exit ?_;refine⟨.inl rfl,⟨_,pU results93⟩,(show 0<46 by decide),Sc,Sublist.refl _,?_⟩;exact .inl ⟨pre,by rw[Xb,aiW];simp[iW],hj,lk⟩

open Go.Lib (compareBytes)
theorem aeb(e:K×Int):(cE e).all V.one=true:=rfl
theorem ae3(k:K):fH (cK k)=true:=by simp[cK,fH,iD,yN]
theorem ae4(n:Int):fH (cI n)=true:=rfl
theorem ae5(p:cY):fH (cP p)=true:=by simp[cP,fH,iD,yN,uA ae3,uA ae4]
def TV(t:aG)(k:K):D:=.ey (.func 93) (J8 t k)
noncomputable def uO(eU:K)(x:K×Int):Bool:=decide (0<eU.length∧bN eU x.1)
noncomputable def wB(t:aG)(h:Nat)(f eU:K):List (K×Int):=(mW t h f).takeWhile fun x=>!uO eU x
noncomputable def wo(t:aG)(h:Nat)(f eU:K):List (K×Int)×Int:=if gm t=0 then (if f.length≤100∧eU.length≤100 then (wB t h f eU,0) else ([],1)) else ([],gm t)
theorem HQ{α:Type}{p:α→Bool}:∀{l:List α},(∀x∈l,p x=true)→l.takeWhile p=l
 | [],_=>rfl
 | x::l,h=>by rw[takeWhile_cons,if_pos (h x mem_cons_self),HQ fun y hy=>h y (mem_cons_of_mem _ hy)]
theorem OW{α:Type}{p:α→Bool}{y:α}{r:List α}(hy:p y=false):∀{l:List α},(∀x∈l,p x=true)→(l++y::r).takeWhile p=l
 | [],_=>by rw[nil_append,takeWhile_cons,if_neg (by rw[hy];decide)]
 | x::l,h=>by rw[cons_append,takeWhile_cons,if_pos (h x mem_cons_self),OW hy fun y hy=>h y (mem_cons_of_mem _ hy)]
def wC(b9 b5:Nat)(eU:K)(pre:List (K×Int))(Sc:List ah):Prop:=(∀x∈pre,uO eU x=false)∧∃ad cap So,bw 90 2 (pre.flatMap cE) pre.length ad cap So∧Sc=⟨b9,85,1,[aN ad pre.length cap]⟩::⟨b5,88,1,[ax 1 cB eU]⟩::So
def Fv(b9 b5:Nat)(eU:K)(pre:List (K×Int))(Sc:List ah):Prop:=∃init y,pre=init++[y]∧uO eU y=true∧wC b9 b5 eU init Sc
theorem wC.iD{b9 b5:Nat}{eU:K}{pre:List (K×Int)}{Sc:List ah}(h:wC b9 b5 eU pre Sc):∀B∈Sc,fH B.cs=true:=by
 obtain⟨_,ad,cap,So,ho,rfl⟩:=h;intro B E;rcases mem_cons.1 E with rfl|E
 ·rfl
 rcases mem_cons.1 E with rfl|E
 ·simp[fH,V.iD,yN]
 rcases ho with ⟨_,_,_,_,rfl⟩|⟨b,_,_,_,rfl⟩
 ·cases E
 rw[mem_singleton] at E;subst E;exact uA yO pre
theorem Fv.iD{b9 b5:Nat}{eU:K}{pre:List (K×Int)}{Sc:List ah}(h:Fv b9 b5 eU pre Sc):∀B∈Sc,fH B.cs=true:=by
 obtain⟨init,y,_,_,h⟩:=h;exact h.iD
def J9(b9 b5:Nat)(eU:K)(pre:List (K×Int))(y:K×Int)(Sc:List ah)(z:St):Prop:=wC b9 b5 eU pre Sc∧∃kM,z=⟨43,[(5,dJ b5),(9,dJ b9),(10,dJ kM)],⟨kM,90,2,cE y⟩::Sc⟩
theorem J9.iD{b9 b5:Nat}{eU:K}{pre:List (K×Int)}{y:K×Int}{Sc:List ah}{z:St}(h:J9 b9 b5 eU pre y Sc z):(z.env.all fun p=>V.iD p.2)=true∧∀B∈z.S,fH B.cs=true:=by
 obtain⟨hj,kM,rfl⟩:=h;refine⟨rfl,fun B E=>?_⟩;rcases mem_cons.1 E with rfl|E
 ·exact yO y
 exact hj.iD B E
theorem abK{b9 b5:Nat}{t:aG}{h:Nat}{f eU:K}{Sc:List ah}{c d:Code}(he:(∃xs,xs=mW t h f∧wC b9 b5 eU xs Sc)∨(c=d∧∃pre,pre <+: mW t h f∧Fv b9 b5 eU pre Sc)):∃I,I=wB t h f eU∧wC b9 b5 eU I Sc:=by
 rcases he with ⟨xs,rfl,hj⟩|⟨_,pre,⟨r,hr⟩,E,y,rfl,hy,hj⟩
 ·exact⟨_,(HQ fun x hx=>by rw[hj.1 x hx];rfl).symm,hj⟩
 refine⟨E,?_,hj⟩;unfold wB;rw[←hr,append_assoc,singleton_append];exact(OW (by rw[hy];rfl) fun x hx=>by rw[hj.1 x hx];rfl).symm
theorem adm(t:aG)(k:K):VC Tryz.prog G 50 [.agg (cT t),ax 1 cB k] [] (fun r S=>∃b2 b3,r = .ey (.func 93) [dJ b2,dJ b3]∧S=[⟨b3,88,1,[ax 1 cB k]⟩,⟨b2,51,2,cT t⟩]):=by
 refine VC.body func50 rfl ntmps50 aO fun X0 w0 aY=>?_;unfold cT;refine cf ?_;refine OD.box (ds:=[_,_]) ap rfl rfl ot rfl rfl (fun b2=>?_);refine OD.box (ds:=[_]) ap rfl rfl ot rfl rfl (fun b3=>?_);refine an 6 [2,3] ?_;refine cR [4] ?_;refine aR 0 ?_ (h:=by exact(oZ (ds:=[_,_]) rfl ⟨ot,ot,trivial⟩));refine bH ?_;refine aI [_,_] ?_;exact⟨_,_,rfl,rfl⟩
theorem adn(t:aG)(k:K):VP Tryz.prog G 50 [.agg (cT t),ax 1 cB k] (TV t k):=VC.cover (adm t k) fun r S ⟨b2,b3,hr,hS⟩=>by
 subst hr;subst hS;exact aaW ⟨PI (e:=51) (size:=2) (cs:=cT t) (mem_cons_of_mem _ mem_cons_self) gq.same,PI (e:=88) (size:=1) mem_cons_self gq.same,trivial⟩
theorem Ym:(Tryz.prog.info? 90).map (fun i=>(i.zero,i.size,i.bytes))=some (some (.agg #[.slice none 0 0,.int .i64 0]),2,32):=by kernel_rfl
theorem adp(t:aG)(h:Nat)(hb:∀p∈t.ag,p.keys.length≤maxLen∧p.kids.length≤maxLen)(hv:gm t=0→Valid t h)(f eU:K):VP Tryz.prog G 30 [.agg (cT t),ax 1 cB f,ax 1 cB eU] (.dG [.list 2 ((wo t h f eU).1.flatMap cE) (wo t h f eU).1.length,ae (wo t h f eU).2]):=by
 refine VC.yZ func30 rfl ntmps30 aO fun X0 w0 aY=>?_;have dy:=dY;have ff:=o8 (G:=G) t hb;have U:=adn (G:=G) t f;unfold cT at ff U;unfold cT;refine cf ?_;refine OD.box (ds:=[_,_]) ap rfl rfl ot rfl rfl (fun b3=>?_);refine OD.box (ds:=[_]) ap rfl rfl ot rfl rfl (fun b5=>?_);refine an 43 [1,3,5] ?_;refine cW [1,3,5,8] (ff) ?_;refine af [1,3,5,8,14] ?_;refine au ?_ ?_<;>intro aP bF
 ·have hn:¬gm t=0:=(by simpa using aP)
  refine af [6,7] ?_;refine CD.wk (Wk.uy (t:=6) (sz:=2) lk) ?_;refine aI [] ?_;exact⟨by unfold wo;rw[if_neg hn];rfl,rfl⟩
 have hz:gm t=0:=(by simpa using aP)
 have v:=hv hz;have TU:=Qs v f;refine aC 4 ?_;refine bW 19 (fun Z O=>?_) (fun Z O=>?_)
 ·refine bg [1,3,5,23] ?_;refine eE ?_;exact z80
 refine bg [1,3,5,23] ?_;refine au ?_ ?_<;>intro aX cJ
 ·exact z80
 have anh:f.length≤100∧eU.length≤100:=(by simp_all;omega)
 have hf1:f.length≤maxLen:=(by omega)
 refine cf ?_;refine OD.alloc (ds:=[_]) ap rfl rfl zeroValue85 rfl (fun b9=>?_);refine an 43 [1,3,5,9] ?_;refine CD.ahj ?_;refine dQ 2 ?_;refine dO call50 (U) ?_;refine an 43 [5,9,26] ?_;refine vu.wk (Wk.drop _ _ _ [⟨b9,85,1,[bB]⟩,⟨b5,88,1,[ax 1 cB eU]⟩] (Sublist.cons_cons _ (Sublist.cons_cons _ (Sublist.cons _ (Sublist.refl _))))) ?_;refine vu.range ot call93 (abJ t h v f hf1) (fun _=>rfl) abI (.exit 0) (.inr rfl) (wC b9 b5 eU) (Fv b9 b5 eU) (fun _ _ h=>h.iD) (fun _ _ h=>h.iD) ⟨(fun _ h=>by cases h),none,0,[],iK,rfl⟩ (J9 b9 b5 eU) (fun _ _ _ _ h=>h.iD) ?_ ?_ ?_ (fun h=>by cases h)
 ·intro X1 W1 S1 l1 pre y Sc hJ hN;refine CI.region LI rfl ?_;refine OD.alloc (ds:=[_,_]) ap rfl rfl zeroValue90 rfl (fun kM=>?_);refine aK 0 [_,_] sizeOf90 ?_;refine OD.wk (Wk.dR (n:=43) (l':=[(5,_),(9,_),(10,_)]) (S':=(⟨kM,90,2,[_,_]⟩::Sc)) rfl rfl fi) ?_;refine OD.nil ?_;exact⟨rfl,hJ,kM,rfl⟩
 ·intro X1 W1 S1 l1 pre y Sc z hJ hN hz;obtain⟨⟨aT,ad,cap,So,ho,rfl⟩,kM,rfl⟩:=hz;unfold cE;refine CI.block ?_;refine CI.seq ?_;refine CI.seq ?_;refine CI.region LI rfl ?_;refine bQ (dD 2) ?_;refine bQ qx ?_;refine bQ mK ?_;refine om_ ?_;refine OD.split (t:=31) lk (fun I=>?_) (fun I=>?_)
  ·have E:=I;(try simp only[V.nh,ne_eq] at E)
   refine bQ (da 0) ?_;refine bQ (dD 0) ?_;refine bQ (dD 2) ?_;refine OD.gY ic rfl rfl rfl call51 (vY y.1 eU) ⟨ot,ot,trivial⟩ ?_;refine bQ mK ?_;refine bQ wL ?_;refine OD.wk (Wk.dR (n:=43) (l':=[(9,_),(10,_),(37,_)]) (S':=(⟨kM,90,2,[_,_]⟩::⟨b9,85,1,[_]⟩::⟨b5,88,1,[_]⟩::So)) rfl rfl fi) ?_;refine OD.nil ?_;refine CI.cond ot (fun cr=>?_) (fun cr=>?_)
   ·have cU:=cr
    (try simp only[V.nh,ne_eq] at cU)
    have fC:uO eU y=true:=(by unfold uO;simp_all[SJ])
    refine CI.exit ?_;exact⟨rfl,_,Sublist.cons _ (Sublist.refl _),pre,y,rfl,fC,aT,ad,cap,So,ho,rfl⟩
   have cU:=cr
   (try simp only[V.nh,ne_eq] at cU)
   exact Vr
  have E:=I;(try simp only[V.nh,ne_eq] at E)
  refine CA ?_;refine CA ?_;refine CA ?_;refine CA ?_;refine CA ?_;refine bQ uV ?_;refine V9 [9,10,37] ?_;refine CI.JV ot jn ?_;exact Vr
 intro W1 S1 D1 Sc fh;obtain⟨es,hes,aT,ad,cap,So,ho,rfl⟩:=abK fh;refine af [6,7] ?_;refine CD.iq (t:=6) (Sq:=So) lk ho (cy SK _) (dI (A:=[_,_])) ?_;refine CD.ret ?_;refine⟨rfl,(by simp[iD,fH,uA yO,yN,yO,uA ae5,TV,J8]),(by intro B hB;simp only[mem_cons,not_mem_nil,or_false] at hB;rcases hB with rfl|rfl<;>simp[iD,fH,yN]),_,[],nil_sublist _,II results30 (yw aO lk) (yw aO lk),(by simp[iD,fH,uA yO]),?_⟩;rw[hes];exact⟨by unfold wo;rw[if_pos hz,if_pos ⟨by omega,by omega⟩],rfl⟩

end Go.Proofs.YtdgichenhdikgaaGreatDoor.Tw
namespace Go.Proofs.YtdgichenhdikgaaGreatDoor.Tw

open List
open Go.Proofs.Tryz
open Go.RowKit V Tr Pk
variable {α:Type} {i:Nat} {t:aG} {J:List D}
theorem RS{g:α→List D}(hg:∀a,(g a).length=1){q:List α}{cap:Nat}(hi:i<q.length)(hc:q.length≤cap):((q.flatMap g).drop (eI cap (i+1) 1 0)).take ((q.length-(i+1))*1)=(q.drop (i+1)).flatMap g:=by
 unfold eI;by_cases h:cap=i+1
 ·have e:q.length=i+1:=(by omega)
  have e2:q.drop (i+1)=[]:=drop_of_length_le w4;rw[if_pos h,show q.length-(i+1)=0 from by omega,e2];simp
 rw[if_neg h,Nat.zero_add,uz hg,take_of_length_le];rw[cy hg,length_drop];exact Nat.le_refl _
theorem Tc{g:α→List D}(hg:∀a,(g a).length=1){q:List α}(hi:i<q.length):dc (q.flatMap g) (i*1) ((q.drop (i+1)).flatMap g)=(q.eraseIdx i).flatMap g++(q.flatMap g).drop (i*1+((q.drop (i+1)).flatMap g).length):=by
 rw[vI _ _ _ (by rw[cy hg,cy hg,length_drop];omega),tc hg,eraseIdx_eq_take_drop_succ,flatMap_append]
variable {G:List (Nat×List Value)}
theorem Xz:(Tryz.prog.info? 88).map (fun i=>i.size)=some 1:=by kernel_rfl
theorem Ht(q:List K)(i cap b:Nat)(hi:i<q.length)(hc:q.length≤cap)(hm:cap≤maxLen)(hs:q.length≤1000):VC Tryz.prog G 130 [aN (some ⟨b,0,none⟩) q.length cap,ae (i:Nat),ae ((i+1:Nat):Int)] [⟨b,88,cap*1,q.flatMap cK⟩] (fun r S=>r=aN (some ⟨b,0,none⟩) (q.length-1) cap∧S=[⟨b,88,cap*1,(q.eraseIdx i).flatMap cK⟩]):=by
 refine VC.body func130 rfl ntmps130 aO fun X0 w0 aY=>?_;refine af [0,1,2] ?_;refine cR [0,1,2] ?_;refine aR 5 ?_ (h:=by exact(Nv rfl ot ot ot ot runUnderlying151 sizeOf88 w4 w4 hc));refine jX ?_;refine af [0,1,2,16] ?_;refine au ?_ ?_<;>intro aP bF
 ·exact absurd aP tP
 refine af [0,1,2,7] ?_;refine CD.seq ?_;refine fL 7 (aq (eraseIdx _ 0)) ?_ (fun _ h=>(Sublist.map _ (eraseIdx_sublist _ 0)).subset h);refine az 0 rfl bj ?_;refine az 1 rfl bj ?_;refine az 2 rfl (eu (l:=0) (h:=i) rfl ot trivial ⟨_,ot⟩ Lm) ?_;refine az 3 rfl bj ?_;refine az 4 rfl bj ?_;refine az 5 rfl (eu (l:=i+1) rfl ot ⟨_,ot⟩ trivial tN) ?_;refine dm.later rfl ?_;refine AD.one (i:=6) aA ?_;refine aZ.Py (n:=i) (m:=q.length-(i+1)) (k:=0) (new:=(q.drop (i+1)).flatMap cK) (cs':=(q.eraseIdx i).flatMap cK++(q.flatMap cK).drop (i*1+((q.drop (i+1)).flatMap cK).length)) rfl ap rfl rfl underlying151 Xz ot rfl rfl ot (RS ga hi hc) (by rw[cy ga,length_drop]) (tq pn _) w4 (by show _≤(q.flatMap cK).length;rw[cy ga];omega) (Tc ga hi) iy ?_;rw[show i+(q.length-(i+1))=q.length-1 from by omega];refine eD ?_;refine bg [0,7] ?_;refine aC 4 ?_;refine bQ (eu (l:=q.length-1) (h:=q.length) rfl ot ⟨_,ot⟩ ⟨_,ot⟩ (by first|exact oB (fun h=>by cases h) runUnderlying151 sizeOf88 w4|exact yq (fun h=>by cases h) (fun h=>by cases h) runUnderlying151 sizeOf88 w4 w4|exact nO (fun h=>by cases h) (fun h=>by cases h) runUnderlying151 sizeOf88 w4 w4)) ?_;refine OD.shrink (k:=0) (cs':=(q.eraseIdx i).flatMap cK) rfl (prefix_append _ _) ?_;refine OD.clear (k:=0) (sz:=1) ap rfl rfl underlying151 zeroValue88 rfl aA ot rfl rfl (fun h0=>?_) ?_
 ·have h3:eI cap (q.length-1) 1 0=(q.length-1)*1:=(by unfold eI;rw[if_neg w4];omega)
  rw[h3];refine⟨?_,?_⟩
  ·show((q.eraseIdx i).flatMap cK).length≤_;rw[cy ga,length_eraseIdx_of_lt hi];exact Nat.le_refl _
  show _≤cap*1;omega
 refine an 33 [0] ?_;refine af [6] ?_;refine aI [_] ?_;exact⟨rfl,rfl⟩
theorem XA:(Tryz.prog.info? 3).map (fun i=>i.size)=some 1:=by kernel_rfl
theorem NK(q:List Int)(i cap b:Nat)(hi:i<q.length)(hc:q.length≤cap)(hm:cap≤maxLen)(hs:q.length≤1000):VC Tryz.prog G 131 [aN (some ⟨b,0,none⟩) q.length cap,ae (i:Nat),ae ((i+1:Nat):Int)] [⟨b,3,cap*1,q.flatMap cI⟩] (fun r S=>r=aN (some ⟨b,0,none⟩) (q.length-1) cap∧S=[⟨b,3,cap*1,(q.eraseIdx i).flatMap cI⟩]):=by
 refine VC.body func131 rfl ntmps131 aO fun X0 w0 aY=>?_;refine af [0,1,2] ?_;refine cR [0,1,2] ?_;refine aR 5 ?_ (h:=by exact(Nv rfl ot ot ot ot runUnderlying67 sizeOf3 w4 w4 hc));refine jX ?_;refine af [0,1,2,16] ?_;refine au ?_ ?_<;>intro aP bF
 ·exact absurd aP tP
 refine af [0,1,2,7] ?_;refine CD.seq ?_;refine fL 7 (aq (eraseIdx _ 0)) ?_ (fun _ h=>(Sublist.map _ (eraseIdx_sublist _ 0)).subset h);refine az 0 rfl bj ?_;refine az 1 rfl bj ?_;refine az 2 rfl (eu (l:=0) (h:=i) rfl ot trivial ⟨_,ot⟩ Ln) ?_;refine az 3 rfl bj ?_;refine az 4 rfl bj ?_;refine az 5 rfl (eu (l:=i+1) rfl ot ⟨_,ot⟩ trivial tO) ?_;refine dm.later rfl ?_;refine AD.one (i:=6) aA ?_;refine aZ.Py (n:=i) (m:=q.length-(i+1)) (k:=0) (new:=(q.drop (i+1)).flatMap cI) (cs':=(q.eraseIdx i).flatMap cI++(q.flatMap cI).drop (i*1+((q.drop (i+1)).flatMap cI).length)) rfl ap rfl rfl underlying67 XA ot rfl rfl ot (RS eA hi hc) (by rw[cy eA,length_drop]) (tq nu _) w4 (by show _≤(q.flatMap cI).length;rw[cy eA];omega) (Tc eA hi) iy ?_;rw[show i+(q.length-(i+1))=q.length-1 from by omega];refine eD ?_;refine bg [0,7] ?_;refine aC 4 ?_;refine bQ (eu (l:=q.length-1) (h:=q.length) rfl ot ⟨_,ot⟩ ⟨_,ot⟩ (by first|exact oB (fun h=>by cases h) runUnderlying67 sizeOf3 w4|exact yq (fun h=>by cases h) (fun h=>by cases h) runUnderlying67 sizeOf3 w4 w4|exact nO (fun h=>by cases h) (fun h=>by cases h) runUnderlying67 sizeOf3 w4 w4)) ?_;refine OD.shrink (k:=0) (cs':=(q.eraseIdx i).flatMap cI) rfl (prefix_append _ _) ?_;refine OD.clear (k:=0) (sz:=1) ap rfl rfl underlying67 zeroValue3 rfl aA ot rfl rfl (fun h0=>?_) ?_
 ·have h3:eI cap (q.length-1) 1 0=(q.length-1)*1:=(by unfold eI;rw[if_neg w4];omega)
  rw[h3];refine⟨?_,?_⟩
  ·show((q.eraseIdx i).flatMap cI).length≤_;rw[cy eA,length_eraseIdx_of_lt hi];exact Nat.le_refl _
  show _≤cap*1;omega
 refine an 33 [0] ?_;refine af [6] ?_;refine aI [_] ?_;exact⟨rfl,rfl⟩

theorem vG{α:Type}{g:α→List D}{sz:Nat}(hg:∀a,(g a).length=sz){a':α}{c:Nat}{d:D}(hc:c<sz):∀{L:List α} {j:Nat} (hj:j<L.length),g a'=(g L[j]).set c d→(L.flatMap g).set (j*sz+c) d=(L.set j a').flatMap g
 | a::L,0,_,h=>by
  simp only[getElem_cons_zero] at h;rw[flatMap_cons,set_cons_zero,flatMap_cons,h,set_append_left _ _ (by rw[hg];omega),Nat.zero_mul,Nat.zero_add]
 | a::L,j+1,hj,h=>by
  have E:=vG hg hc (L:=L) (j:=j) (by simpa using hj) oL;have e:(j+1)*sz+c=sz+(j*sz+c):=(by rw[Nat.succ_mul];omega)
  rw[flatMap_cons,set_cons_succ,flatMap_cons,←E,set_append_right _ _ (by rw[hg];omega),hg,e,show sz+(j*sz+c)-sz=j*sz+c from by omega]
theorem Td{L:List aB}(hL:L.map aB.p=t.ag){i:Int}(hi:0≤i∧i<t.ag.length)(hj:i.toNat<L.length):L[i.toNat].p=t.pg i:=by
 rw[uS hi];have h:(L.map aB.p)[i.toNat]?=some L[i.toNat].p:=(by rw[getElem?_map,getElem?_eq_getElem hj];rfl)
 rw[hL,getElem?_eq_getElem w4] at h;exact(Option.some.inj h).symm
def vz:aG:=⟨[],0⟩
def B4(te:aG×Int)(r:D)(S:List ah):Prop:=∃r',r = .dG [r',ae te.2]∧FZ te.1 r' S
theorem yF(e:Int):B4 (vz,e) (.dG [.agg [bB,ae 0],ae e]) []:=⟨_,rfl,[],none,0,[],rfl,iK,(fun o h=>by cases h),rfl,rfl⟩
theorem FZ.view{r:D}{S:List ah}(h:FZ t r S):View S r (.agg (cT t)):=by
 obtain⟨L,ad,cap,Sx,rfl,ho,aT,hL,rfl⟩:=h;have:=JC (root:=t.root) ho aT (fun B E=>E);rw[hL] at this;exact this
theorem B4.view{te:aG×Int}{r:D}{S:List ah}(h:B4 te r S):View S r (.dG [.agg (cT te.1),ae te.2]):=by
 obtain⟨r',rfl,h⟩:=h;exact Ek ⟨h.view,eP,trivial⟩
noncomputable def qS(t:aG)(k:K)(h:Nat):aG×Int:=if lg t k=0 then (if ik t k h=true then (gC t h k,0) else (vz,8)) else (vz,lg t k)
theorem OX{k:K}(h:lg t k=0):gm t=0∧nZ k=true:=by
 have hc:gm t=0:=Classical.byContradiction fun e=>by rw[Eh e] at h;exact e h
 refine⟨hc,?_⟩;cases hq:nZ k with
 | true=>rfl
 | false=>rw[DX hc hq] at h;cases h
theorem aab(t:aG)(h:Nat)(k:K)(hb:∀p∈t.ag,p.keys.length≤maxLen∧p.kids.length≤maxLen)(hv:gm t=0→Valid t h):VC Tryz.prog G 90 [.agg [ax 5 cP t.ag,ae t.root],ax 1 cB k] [] (B4 (qS t k h)):=by
 refine VC.body func90 rfl ntmps90 aO fun X0 w0 aY=>?_;have ff:=Hs (G:=G) t k hb;unfold cT at ff;have hcT:cT t=[ax 5 cP t.ag,ae t.root]:=rfl;have dy:=dY;refine cf ?_;refine OD.box (ds:=[_,_]) ap rfl rfl ot rfl rfl (fun b2=>?_);refine OD.alloc (ds:=[_,_]) ap rfl rfl zeroValue51 rfl (fun b4=>?_);refine an 58 [1,2,4] ?_;refine cW [1,2,4,6] (ff) ?_;refine af [1,2,4,6,16] ?_;refine au ?_ ?_<;>intro aP bF
 ·have hn:¬lg t k=0:=(by simpa using aP)
  refine aC 2 ?_;refine aK 0 [_,_] sizeOf51 ?_;refine an 58 [4,5] ?_;refine aI [] ?_;unfold qS;rw[if_neg hn];exact yF _
 have hz:lg t k=0:=(by simpa using aP)
 obtain⟨hc,M8⟩:=OX hz;have v:=hv hc;have B5:=Iu M8;have fR:=qI (G:=G) t h v k w4 (DU v k);obtain⟨q1,E⟩:=v.leaf k;refine aC 1 ?_;refine OD.call ap rfl rfl rfl call121 (E4 t h v) ⟨ot,trivial⟩ (eO _) ?_;rintro _ _ ⟨L,ad,cap,Sx,rfl,er,aT,hL,rfl⟩;refine OD.perm (ee (A:=[_,_])) ?_;refine OD.alloc (ds:=[_,_]) ap rfl rfl zeroValue51 rfl (fun b7=>?_);refine aK 0 [_,_] sizeOf51 ?_;refine an 58 [1,4,7] ?_;refine cR [4,7,8,9,10] ?_;refine nj 2 ?_;refine zk (fR) (ha:=by exact⟨⟨_,ot,by have:=JC (root:=t.root) er aT (fun B hB=>mem_cons_of_mem ⟨b7,51,2,[aN ad L.length cap,ae t.root]⟩ (mem_cons_of_mem ⟨b4,51,2,[bB,ae 0]⟩ (mem_cons_of_mem ⟨b2,51,2,[ax 5 cP t.ag,ae t.root]⟩ hB)));rw[hL] at this;exact this⟩,⟨_,ot,eP⟩,trivial⟩) (K:=?_);refine bH ?_;refine af [4,7,8,9,29] ?_;refine au ?_ ?_<;>intro aX cJ
 ·have iQ:ik t k h=false:=(by simpa using aX)
  refine aC 1 ?_;refine aK 1 [_,_] sizeOf51 ?_;refine an 58 [4,5] ?_;refine aI [] ?_;unfold qS;rw[if_pos hz,if_neg xo];exact yF _
 have iQ:ik t k h=true:=(by simpa using aX)
 obtain⟨ha,MF⟩:=(DT v k).1 iQ;have po:=v.fA _ (jx q1);have hle:=po.leaf E;have W9:=po.eM;have rE:L.length=t.ag.length:=(by rw[←hL,length_map])
 have hj:(aH t k h t.root).toNat<L.length:=(by omega)
 have O:=Td hL q1 hj;obtain⟨bx,rfl,fU,rj,rfl⟩:=er.pos w4;have U:=aT _ (getElem_mem hj);obtain⟨o,ho⟩:∃o,o=L[(aH t k h t.root).toNat]:=⟨_,rfl⟩
 rw[←ho] at U O;rcases o with ⟨p,ak,ck,sk,ai,ci,si⟩
 have gK:p=t.pg (aH t k h t.root):=O;obtain⟨dM,Z⟩:oE p.keys ak ck sk∧lI p.kids ai ci si:=U;rw[←gK] at ha hle W9;obtain⟨bk,rfl,dX,xw,rfl⟩:=dM.pos w4;obtain⟨bi,rfl,fq,Gk,rfl⟩:=Z.pos w4;have I:(L.flatMap bO).Perm (⟨bk,88,ck*1,flatMap cK p.keys⟩::⟨bi,3,ci*1,flatMap cI p.kids⟩::((L.eraseIdx (aH t k h t.root).toNat).flatMap bO)):=(by have:=yD bO hj;rw[←ho] at this;exact this)
 refine CD.perm (Perm.cons _ (Perm.cons _ (Perm.cons _ (Perm.cons _ I)))) ?_;rw[gK] at ha;have ha:(aL (t.pg (aH t k h t.root)) k)<p.keys.length:=(by rw[gK];exact ha)
 have pD:(aL (t.pg (aH t k h t.root)) k)<p.kids.length:=(by omega)
 have hid:=dX;clear dM Z;refine cR [4,7,9,11] ?_;refine aR 3 ?_ (h:=by exact(dF 5 (h:=by first|exact .l (j:=(aH t k h t.root).toNat) (Int.toNat_of_nonneg q1.1).symm hj|exact .r (j:=(aH t k h t.root).toNat) (Int.toNat_of_nonneg q1.1).symm hj)));refine bH ?_;refine CD.seq ?_;refine fL 21 (aq (take 3 _)) ?_ (fun _ h=>(Sublist.map _ (take_sublist _ _)).subset h);refine az 0 rfl bj ?_;refine az 1 rfl bj ?_;refine az 2 rfl bj ?_;refine az 3 rfl lM ?_;refine az 4 rfl (da 1) ?_;refine az 6 rfl bj ?_;refine az 7 rfl bj ?_;refine az 8 rfl (c9 (r:=.int .i64 (((aL (t.pg (aH t k h t.root)) k)+1:Nat):Int)) rfl ot bI (j7 (by rw[show(((aL (t.pg (aH t k h t.root)) k):Nat):Int)+1=(((aL (t.pg (aH t k h t.root)) k)+1:Nat):Int) from rfl];exact wrap_i64 w4 w4))) ?_;refine az 10 rfl bj ?_;refine az 11 rfl lM ?_;refine az 12 rfl (da 2) ?_;refine az 14 rfl bj ?_;refine az 15 rfl bj ?_;refine az 16 rfl (c9 (r:=.int .i64 (((aL (t.pg (aH t k h t.root)) k)+1:Nat):Int)) rfl ot bI (j7 (by rw[show(((aL (t.pg (aH t k h t.root)) k):Nat):Int)+1=(((aL (t.pg (aH t k h t.root)) k)+1:Nat):Int) from rfl];exact wrap_i64 w4 w4))) ?_;refine dm.later rfl ?_;refine AD.two (i:=5) (j:=13) aA ?_ ?_
 ·first|refine at_ rfl (cM (mk:=Op.load 151) rfl ot (kX (k:=3) (j:=1) (d:=aN (some ⟨bk,0,none⟩) p.keys.length ck) (ls:=L) fZ rfl rfl rfl isAgg151 hj rh)) ?_|refine at_ rfl (cM (mk:=Op.load 151) rfl ot (kX (k:=4) (j:=1) (d:=aN (some ⟨bk,0,none⟩) p.keys.length ck) (ls:=L) fZ rfl rfl rfl isAgg151 hj rh)) ?_
  refine AD.two (i:=9) (j:=13) aA ?_ ?_
  ·refine aZ.call rfl ap rfl rfl rfl call130 (Ht p.keys (aL (t.pg (aH t k h t.root)) k) ck bk ha dX xw w4) ⟨ot,ot,ot,trivial⟩ (j5 (k:=4) rfl) iy ?_;rintro _ _ ⟨rfl,rfl⟩;refine AD.perm (perm_middle (l₁:=[_,_,_,_])).symm ?_;refine AD.one (i:=13) aA ?_;first|refine at_ rfl (cM (mk:=Op.load 67) rfl ot (kX (k:=3) (j:=2) (d:=aN (some ⟨bi,0,none⟩) p.kids.length ci) (ls:=L) fZ rfl rfl rfl isAgg67 hj rh)) ?_|refine at_ rfl (cM (mk:=Op.load 67) rfl ot (kX (k:=4) (j:=2) (d:=aN (some ⟨bi,0,none⟩) p.kids.length ci) (ls:=L) fZ rfl rfl rfl isAgg67 hj rh)) ?_
   exact z8
  first|refine at_ rfl (cM (mk:=Op.load 67) rfl ot (kX (k:=3) (j:=2) (d:=aN (some ⟨bi,0,none⟩) p.kids.length ci) (ls:=L) fZ rfl rfl rfl isAgg67 hj rh)) ?_|refine at_ rfl (cM (mk:=Op.load 67) rfl ot (kX (k:=4) (j:=2) (d:=aN (some ⟨bi,0,none⟩) p.kids.length ci) (ls:=L) fZ rfl rfl rfl isAgg67 hj rh)) ?_
  refine AD.one (i:=9) aA ?_;refine aZ.call rfl ap rfl rfl rfl call130 (Ht p.keys (aL (t.pg (aH t k h t.root)) k) ck bk ha dX xw w4) ⟨ot,ot,ot,trivial⟩ (j5 (k:=4) rfl) iy ?_;rintro _ _ ⟨rfl,rfl⟩;refine AD.perm (perm_middle (l₁:=[_,_,_,_])).symm ?_;exact z8
 first|refine at_ rfl (cM (mk:=Op.load 67) rfl ot (kX (k:=3) (j:=2) (d:=aN (some ⟨bi,0,none⟩) p.kids.length ci) (ls:=L) fZ rfl rfl rfl isAgg67 hj rh)) ?_|refine at_ rfl (cM (mk:=Op.load 67) rfl ot (kX (k:=4) (j:=2) (d:=aN (some ⟨bi,0,none⟩) p.kids.length ci) (ls:=L) fZ rfl rfl rfl isAgg67 hj rh)) ?_
 refine AD.one (i:=5) aA ?_;first|refine at_ rfl (cM (mk:=Op.load 151) rfl ot (kX (k:=3) (j:=1) (d:=aN (some ⟨bk,0,none⟩) p.keys.length ck) (ls:=L) fZ rfl rfl rfl isAgg151 hj rh)) ?_|refine at_ rfl (cM (mk:=Op.load 151) rfl ot (kX (k:=4) (j:=1) (d:=aN (some ⟨bk,0,none⟩) p.keys.length ck) (ls:=L) fZ rfl rfl rfl isAgg151 hj rh)) ?_
 refine AD.one (i:=9) aA ?_;refine aZ.call rfl ap rfl rfl rfl call130 (Ht p.keys (aL (t.pg (aH t k h t.root)) k) ck bk ha dX xw w4) ⟨ot,ot,ot,trivial⟩ (j5 (k:=4) rfl) iy ?_;rintro _ _ ⟨rfl,rfl⟩;refine AD.perm (perm_middle (l₁:=[_,_,_,_])).symm ?_;refine AD.one (i:=17) aA ?_;refine aZ.call rfl ap rfl rfl rfl call131 (NK p.kids (aL (t.pg (aH t k h t.root)) k) ci bi pD fq Gk w4) ⟨ot,ot,ot,trivial⟩ (j5 (k:=5) rfl) iy ?_;rintro _ _ ⟨rfl,rfl⟩;refine AD.perm (perm_middle (l₁:=[_,_,_,_,_])).symm ?_;refine cu 18 rfl lM ?_;refine cu 19 rfl (da 1) ?_;refine AD.one (i:=20) aA ?_
 refine aZ.storeAt (k:=3) (cs':=flatMap gO (L.set (aH t k h t.root).toNat (⟨{p with keys:=(p.keys.eraseIdx (aL (t.pg (aH t k h t.root)) k))},some ⟨bk,0,none⟩,ck,[⟨bk,88,ck*1,flatMap cK (p.keys.eraseIdx (aL (t.pg (aH t k h t.root)) k))⟩],some ⟨bi,0,none⟩,ci,[⟨bi,3,ci*1,flatMap cI p.kids⟩]⟩:aB))) rfl ap rfl rfl ot rfl rfl ot rfl rfl sizeOf151 rfl (by show 0+(aH t k h t.root).toNat*5+1+1≤(flatMap gO L).length;rw[cy fZ];omega) (by show(L.flatMap gO).set (0+(aH t k h t.root).toNat*5+1) _=_;rw[Nat.zero_add];exact vG fZ w7 hj (by rw[←ho];show gO (⟨{p with keys:=(p.keys.eraseIdx (aL (t.pg (aH t k h t.root)) k))},some ⟨bk,0,none⟩,ck,[⟨bk,88,ck*1,flatMap cK (p.keys.eraseIdx (aL (t.pg (aH t k h t.root)) k))⟩],some ⟨bi,0,none⟩,ci,[⟨bi,3,ci*1,flatMap cI p.kids⟩]⟩:aB)=(gO (⟨p,some ⟨bk,0,none⟩,ck,[⟨bk,88,ck*1,flatMap cK p.keys⟩],some ⟨bi,0,none⟩,ci,[⟨bi,3,ci*1,flatMap cI p.kids⟩]⟩:aB)).set 1 _;unfold gO;rw[length_eraseIdx_of_lt ha];rfl)) iy ?_;refine eD ?_;refine aE 2 ?_
 refine OD.storeAt (k:=3) (cs':=flatMap gO (L.set (aH t k h t.root).toNat (⟨(kp p (aL (t.pg (aH t k h t.root)) k)),some ⟨bk,0,none⟩,ck,[⟨bk,88,ck*1,flatMap cK (p.keys.eraseIdx (aL (t.pg (aH t k h t.root)) k))⟩],some ⟨bi,0,none⟩,ci,[⟨bi,3,ci*1,flatMap cI (p.kids.eraseIdx (aL (t.pg (aH t k h t.root)) k))⟩]⟩:aB))) ap rfl rfl ot rfl rfl ot rfl rfl sizeOf67 rfl (by show 0+(aH t k h t.root).toNat*5+2+1≤(flatMap gO (L.set (aH t k h t.root).toNat (⟨{p with keys:=(p.keys.eraseIdx (aL (t.pg (aH t k h t.root)) k))},some ⟨bk,0,none⟩,ck,[⟨bk,88,ck*1,flatMap cK (p.keys.eraseIdx (aL (t.pg (aH t k h t.root)) k))⟩],some ⟨bi,0,none⟩,ci,[⟨bi,3,ci*1,flatMap cI p.kids⟩]⟩:aB))).length;rw[cy fZ,length_set];omega) (by show(flatMap gO (L.set (aH t k h t.root).toNat (⟨{p with keys:=(p.keys.eraseIdx (aL (t.pg (aH t k h t.root)) k))},some ⟨bk,0,none⟩,ck,[⟨bk,88,ck*1,flatMap cK (p.keys.eraseIdx (aL (t.pg (aH t k h t.root)) k))⟩],some ⟨bi,0,none⟩,ci,[⟨bi,3,ci*1,flatMap cI p.kids⟩]⟩:aB))).set (0+(aH t k h t.root).toNat*5+2) _=_;rw[Nat.zero_add,vG fZ (a':=(⟨(kp p (aL (t.pg (aH t k h t.root)) k)),some ⟨bk,0,none⟩,ck,[⟨bk,88,ck*1,flatMap cK (p.keys.eraseIdx (aL (t.pg (aH t k h t.root)) k))⟩],some ⟨bi,0,none⟩,ci,[⟨bi,3,ci*1,flatMap cI (p.kids.eraseIdx (aL (t.pg (aH t k h t.root)) k))⟩]⟩:aB)) w7 xj (by rw[getElem_set_self];show gO (⟨(kp p (aL (t.pg (aH t k h t.root)) k)),some ⟨bk,0,none⟩,ck,[⟨bk,88,ck*1,flatMap cK (p.keys.eraseIdx (aL (t.pg (aH t k h t.root)) k))⟩],some ⟨bi,0,none⟩,ci,[⟨bi,3,ci*1,flatMap cI (p.kids.eraseIdx (aL (t.pg (aH t k h t.root)) k))⟩]⟩:aB)=(gO (⟨{p with keys:=(p.keys.eraseIdx (aL (t.pg (aH t k h t.root)) k))},some ⟨bk,0,none⟩,ck,[⟨bk,88,ck*1,flatMap cK (p.keys.eraseIdx (aL (t.pg (aH t k h t.root)) k))⟩],some ⟨bi,0,none⟩,ci,[⟨bi,3,ci*1,flatMap cI p.kids⟩]⟩:aB)).set 2 _;unfold gO kp;simp only[];rw[length_eraseIdx_of_lt pD];rfl),set_set]) ?_
 have vo:(⟨bk,88,ck*1,flatMap cK (p.keys.eraseIdx (aL (t.pg (aH t k h t.root)) k))⟩::⟨bi,3,ci*1,flatMap cI (p.kids.eraseIdx (aL (t.pg (aH t k h t.root)) k))⟩::((L.eraseIdx (aH t k h t.root).toNat).flatMap bO)).Perm ((L.set (aH t k h t.root).toNat (⟨(kp p (aL (t.pg (aH t k h t.root)) k)),some ⟨bk,0,none⟩,ck,[⟨bk,88,ck*1,flatMap cK (p.keys.eraseIdx (aL (t.pg (aH t k h t.root)) k))⟩],some ⟨bi,0,none⟩,ci,[⟨bi,3,ci*1,flatMap cI (p.kids.eraseIdx (aL (t.pg (aH t k h t.root)) k))⟩]⟩:aB)).flatMap bO):=(qD bO hj (⟨(kp p (aL (t.pg (aH t k h t.root)) k)),some ⟨bk,0,none⟩,ck,[⟨bk,88,ck*1,flatMap cK (p.keys.eraseIdx (aL (t.pg (aH t k h t.root)) k))⟩],some ⟨bi,0,none⟩,ci,[⟨bi,3,ci*1,flatMap cI (p.kids.eraseIdx (aL (t.pg (aH t k h t.root)) k))⟩]⟩:aB)).symm;refine OD.perm (Perm.cons _ (Perm.cons _ (Perm.cons _ (Perm.cons _ vo)))) ?_;refine an 58 [4,7] ?_;refine aC 1 ?_;refine aK 1 [_,_] sizeOf51 ?_;refine an 58 [4,5] ?_
 refine aI ([⟨bx,153,cap*5,flatMap gO (L.set (aH t k h t.root).toNat (⟨(kp p (aL (t.pg (aH t k h t.root)) k)),some ⟨bk,0,none⟩,ck,[⟨bk,88,ck*1,flatMap cK (p.keys.eraseIdx (aL (t.pg (aH t k h t.root)) k))⟩],some ⟨bi,0,none⟩,ci,[⟨bi,3,ci*1,flatMap cI (p.kids.eraseIdx (aL (t.pg (aH t k h t.root)) k))⟩]⟩:aB))⟩]++(L.set (aH t k h t.root).toNat (⟨(kp p (aL (t.pg (aH t k h t.root)) k)),some ⟨bk,0,none⟩,ck,[⟨bk,88,ck*1,flatMap cK (p.keys.eraseIdx (aL (t.pg (aH t k h t.root)) k))⟩],some ⟨bi,0,none⟩,ci,[⟨bi,3,ci*1,flatMap cI (p.kids.eraseIdx (aL (t.pg (aH t k h t.root)) k))⟩]⟩:aB)).flatMap bO) ?_;unfold qS;rw[if_pos hz,if_pos iQ];refine⟨_,rfl,L.set (aH t k h t.root).toNat (⟨(kp p (aL (t.pg (aH t k h t.root)) k)),some ⟨bk,0,none⟩,ck,[⟨bk,88,ck*1,flatMap cK (p.keys.eraseIdx (aL (t.pg (aH t k h t.root)) k))⟩],some ⟨bi,0,none⟩,ci,[⟨bi,3,ci*1,flatMap cI (p.kids.eraseIdx (aL (t.pg (aH t k h t.root)) k))⟩]⟩:aB),some ⟨bx,0,none⟩,cap,_,by rw[length_set];rfl,bJ rf rj,fun x hx=>?_,?_,rfl⟩
 ·rcases mem_or_eq_of_mem_set hx with hx|rfl
  ·exact aT x hx
  exact⟨bJ (by show(p.keys.eraseIdx (aL (t.pg (aH t k h t.root)) k)).length≤ck;rw[length_eraseIdx_of_lt ha];omega) xw,bJ (by show(p.kids.eraseIdx (aL (t.pg (aH t k h t.root)) k)).length≤ci;rw[length_eraseIdx_of_lt pD];omega) Gk⟩
 rw[map_set,hL];show _=t.ag.set (aH t k h t.root).toNat (kp (t.pg (aH t k h t.root)) (aL (t.pg (aH t k h t.root)) k));rw[←gK]
theorem aac(t:aG)(h:Nat)(k:K)(hb:∀p∈t.ag,p.keys.length≤maxLen∧p.kids.length≤maxLen)(E:gm t=0→Valid t h):VP Tryz.prog G 90 [.agg (cT t),ax 1 cB k] (.dG [.agg (cT (qS t k h).1),ae (qS t k h).2]):=(aab t h k hb E).cover fun r S hr=>hr.view

def UX(L:List aB)(b:Nat)(root:Int)(j:Nat)(p:cY)(r:D)(S:List ah):Prop:=r = .dG [.list 1 ((je p).flatMap cB) (je p).length,ae (L.length:Nat)]∧∃L' ad cap Sx,tJ L' ad cap Sx∧(∀o∈L',qA o)∧L'.map aB.p=(L.map aB.p).set j (bn p L.length)++[bq p]∧S=⟨b,51,2,[aN ad (length L') cap,ae root]⟩::(Sx++L'.flatMap bO)
theorem x8:(Tryz.prog.info? 153).map (fun i=>(i.zero,i.size,i.bytes))=some (some (.agg #[.bool false,.slice none 0 0,.slice none 0 0,.slice none 0 0,.int .i64 0]),5,88):=by kernel_rfl
theorem abL(L:List aB)(b:Nat)(root i:Int)(ad:Option Addr)(cap:Nat)(Sx:List ah)(hi:0≤i∧i<L.length)(hn:L.length≤10000)(er:tJ L ad cap Sx)(aT:∀o∈L,qA o)(h5:(L[i.toNat]'w4).p.keys.length=5)(dX:(L[i.toNat]'w4).p.leaf=true→(L[i.toNat]'w4).p.kids.length=5)(xV:(L[i.toNat]'w4).p.leaf=false→(L[i.toNat]'w4).p.kids.length=6)(GX:∀k∈(L[i.toNat]'w4).p.keys,k.length≤100)(hh:(L[i.toNat]'w4).p.high.length≤100) :
 VC Tryz.prog G 126 [dJ b,ae i] (⟨b,51,2,[aN ad L.length cap,ae root]⟩::(Sx++L.flatMap bO)) (UX L b root i.toNat (L[i.toNat]'w4).p):=by
 refine VC.body func126 rfl ntmps126 aO fun X0 w0 aY=>?_;have dy:=dY;have hj:i.toNat<L.length:=(by omega)
 obtain⟨bx,rfl,fU,rj,rfl⟩:=er.pos w4;have xK:=aT _ (getElem_mem hj);obtain⟨o,ho⟩:∃o,o=L[i.toNat]:=⟨_,rfl⟩
 rw[←ho] at xK h5 dX xV GX hh ⊢;rcases o with ⟨p,ak,ck,sk,ai,ci,si⟩
 obtain⟨dM,j3⟩:oE p.keys ak ck sk∧lI p.kids ai ci si:=xK;change p.keys.length=5 at h5;change p.leaf=true→p.kids.length=5 at dX;change p.leaf=false→p.kids.length=6 at xV;change ∀k∈p.keys,k.length≤100 at GX;change p.high.length≤100 at hh;have Ka:(L.flatMap bO).Perm (sk++(si++((L.eraseIdx i.toNat).flatMap bO))):=(by have:=yD bO hj;rw[←ho] at this;exact this.trans (by rw[show bO ⟨p,ak,ck,sk,ai,ci,si⟩=sk++si from rfl,append_assoc]))
 refine CD.perm (Perm.cons _ (Perm.cons _ Ka)) ?_;have wZ:je p=p.keys[2]'w4:=yL h5;have Xc:(p.keys[2]'w4).length≤100:=GX _ (getElem_mem _);refine af [0,1] ?_;refine aC 5 ?_;refine bQ (dF 5 (h:=by first|exact .l (j:=i.toNat) (Int.toNat_of_nonneg hi.1).symm hj|exact .r (j:=i.toNat) (Int.toNat_of_nonneg hi.1).symm hj)) ?_;refine bQ (cM (mk:=Op.load 153) rfl ot (dN (k:=1) (ls:=L) (i:=i.toNat) fZ rfl rfl rfl isAgg153 sizeOf153 hj)) ?_;refine OD.alloc (ds:=[_,_,_,_,_]) ap rfl rfl zeroValue153 rfl (fun b6=>?_);refine aK 0 [_,_,_,_,_] sizeOf153 ?_;refine an 98 [0,1,6] ?_;refine CD.seq ?_;refine CD.wk (Wk.cover (A:=⟨b6,153,5,gO L[i.toNat]⟩) (R:=⟨b,51,2,[aN (some ⟨bx,0,none⟩) L.length cap,ae root]⟩::⟨bx,153,cap*5,flatMap gO L⟩::((L.eraseIdx i.toNat).flatMap bO)) (Sd:=sk++si) (cs':=cP p) (Perm.cons _ (Perm.cons _ (Perm.cons _ (by rw[←append_assoc];exact perm_append_comm)))) (by show gq _ (gO L[i.toNat]) _;rw[←ho];exact⟨eP,lA dM (cy ga _) (fun B hB=>mem_append_left _ hB),lA j3 (cy eA _) (fun B hB=>mem_append_right _ hB),eP,eP,trivial⟩)) ?_;refine dQ 7 ?_;refine OD.alloc (ds:=[_,_,_,_,_]) ap rfl rfl zeroValue153 rfl (fun b7=>?_);refine aK 0 [_,_,_,_,_] sizeOf153 ?_;refine an 98 [0,1,6,7] ?_;refine cR [0,1,6,7,8] ?_
 refine aR 2 ?_ (h:=by exact(pW (mk:=Op.indexAddr 151) rfl ot bI (by first|exact qG runUnderlying151 sizeOf88 (j:=2) rfl w4|exact qL runUnderlying151 sizeOf88 (j:=2) rfl w4)));refine bH ?_;refine CD.cut (fun aJ=>∃(b7:Nat),∃(dg:Option Addr),∃(dh:Nat),∃(cG:List ah),∃(di:Option Addr),∃(dj:Nat),∃(cH:List ah),∃(bK:Option Addr),∃(bL:Nat),∃(bA:List ah),(oE (bq p).keys dg dh cG)∧(lI (bq p).kids di dj cH)∧(lI (bn p L.length).kids bK bL bA)∧aJ=(⟨98,[(0,dJ b),(1,ae i),(6,dJ b6),(7,dJ b7),(8,.list 1 ((je p).flatMap cB) (je p).length)],(⟨b7,153,5,[bX p.leaf,aN dg (bq p).keys.length dh,aN di (bq p).kids.length dj,ax 1 cB p.high,ae p.next]⟩::⟨b6,153,5,[bX p.leaf,ax 1 cK p.keys,aN bK (bn p L.length).kids.length bL,ax 1 cB p.high,ae p.next]⟩::⟨b,51,2,[aN (some ⟨bx,0,none⟩) L.length cap,ae root]⟩::⟨bx,153,cap*5,flatMap gO L⟩::(bA++(cH++(cG++((L.eraseIdx i.toNat).flatMap bO)))))⟩:St)) ?_ ?_
 ·refine af [0,1,6,7,8,28] ?_;refine au ?_ ?_<;>intro aP bF
  ·have fI:p.leaf=true:=aP;have dX:=dX fI;refine CD.seq ?_;refine fL 10 (aq (take 2 (drop 1 _))) ?_ (fun _ h=>(Sublist.map _ ((take_sublist _ _).trans (drop_sublist _ _))).subset h);refine az 0 rfl (da 1) ?_;refine az 4 rfl (da 2) ?_;refine dm.later rfl ?_;refine AD.two (i:=1) (j:=5) aA ?_ ?_
   ·refine at_ rfl (dD 1) ?_;refine cu 2 rfl (eu (l:=2) rfl ot ⟨_,bI⟩ trivial Gf) ?_;refine AD.two (i:=3) (j:=5) aA ?_ ?_
    ·have By:VC Tryz.prog G 150 [.list 1 ((p.keys.drop 2).flatMap cK) (p.keys.drop 2).length] [] (fun r S=>∃ad cap,r=aN ad (bq p).keys.length cap∧oE (bq p).keys ad cap S):=(by rw[show(p.keys.drop 2)=(bq p).keys from vf];exact vL _ Lw)
     refine aZ.call rfl ap rfl rfl rfl call150 By ⟨ot,trivial⟩ (eO _) iy ?_;rintro _ Dg ⟨Dh,sP,rfl,B6⟩;refine AD.perm (jg (A:=[_,_,_,_])) ?_;refine cu 8 rfl (da 1) ?_;refine AD.one (i:=5) aA ?_;refine at_ rfl (dD 1) ?_;refine cu 6 rfl (eu (l:=2) rfl ot ⟨_,bI⟩ trivial zL) ?_;refine AD.one (i:=7) aA ?_;have Bz:VC Tryz.prog G 120 [.list 1 ((p.kids.drop 2).flatMap cI) (p.kids.drop 2).length] [] (fun r S=>∃ad cap,r=aN ad (bq p).kids.length cap∧lI (bq p).kids ad cap S):=(by rw[show(p.kids.drop 2)=(bq p).kids from ve];exact nM _ Lu)
     refine aZ.call rfl ap rfl rfl rfl call120 Bz ⟨ot,trivial⟩ (eO _) iy ?_;rintro _ Di ⟨Dj,xW,rfl,B7⟩;refine AD.perm (jg (A:=[_,_,_,_])) ?_;refine AD.one (i:=9) aA ?_;refine dR 0 [_,_,_,_,_] sizeOf151 ?_;refine eD ?_;refine aE 1 ?_;refine aK 0 [_,_,_,_,_] sizeOf67 ?_;refine an 98 [0,1,6,7,8] ?_;refine dQ 2 ?_;refine bQ (eu (l:=0) (h:=2) rfl ot trivial ⟨_,bI⟩ zM) ?_;have BA:VC Tryz.prog G 120 [.list 1 ((p.kids.take 2).flatMap cI) (p.kids.take 2).length] [] (fun r S=>∃ad cap,r=aN ad (bn p L.length).kids.length cap∧lI (bn p L.length).kids ad cap S):=(by rw[show(p.kids.take 2)=(bn p L.length).kids from vc];exact nM _ Lr)
     refine OD.call ap rfl rfl rfl call120 BA ⟨ot,trivial⟩ (eO _) ?_;rintro _ Dk ⟨Dl,Dm,rfl,B8⟩;refine OD.perm (jg (A:=[_,_,_,_])) ?_;refine aE 1 ?_;refine aK 1 [_,_,_,_,_] sizeOf67 ?_;refine an 98 [0,1,6,7,8] ?_;refine⟨_,(aM (h:=by repeat (first|exact trivial|refine⟨zD,?_⟩))),b7,Dh,sP,Dg,Dj,xW,Di,Dl,Dm,Dk,B6,B7,B8,rfl⟩
    refine at_ rfl (dD 1) ?_;refine cu 6 rfl (eu (l:=2) rfl ot ⟨_,bI⟩ trivial zL) ?_;refine AD.one (i:=3) aA ?_;have By:VC Tryz.prog G 150 [.list 1 ((p.keys.drop 2).flatMap cK) (p.keys.drop 2).length] [] (fun r S=>∃ad cap,r=aN ad (bq p).keys.length cap∧oE (bq p).keys ad cap S):=(by rw[show(p.keys.drop 2)=(bq p).keys from vf];exact vL _ Lw)
    refine aZ.call rfl ap rfl rfl rfl call150 By ⟨ot,trivial⟩ (eO _) iy ?_;rintro _ Dg ⟨Dh,sP,rfl,B6⟩;refine AD.perm (jg (A:=[_,_,_,_])) ?_;refine cu 8 rfl (da 1) ?_;refine AD.one (i:=7) aA ?_;have Bz:VC Tryz.prog G 120 [.list 1 ((p.kids.drop 2).flatMap cI) (p.kids.drop 2).length] [] (fun r S=>∃ad cap,r=aN ad (bq p).kids.length cap∧lI (bq p).kids ad cap S):=(by rw[show(p.kids.drop 2)=(bq p).kids from ve];exact nM _ Lu)
    refine aZ.call rfl ap rfl rfl rfl call120 Bz ⟨ot,trivial⟩ (eO _) iy ?_;rintro _ Di ⟨Dj,xW,rfl,B7⟩;refine AD.perm (jg (A:=[_,_,_,_])) ?_;refine AD.one (i:=9) aA ?_;refine dR 0 [_,_,_,_,_] sizeOf151 ?_;refine eD ?_;refine aE 1 ?_;refine aK 0 [_,_,_,_,_] sizeOf67 ?_;refine an 98 [0,1,6,7,8] ?_;refine dQ 2 ?_;refine bQ (eu (l:=0) (h:=2) rfl ot trivial ⟨_,bI⟩ zM) ?_;have BA:VC Tryz.prog G 120 [.list 1 ((p.kids.take 2).flatMap cI) (p.kids.take 2).length] [] (fun r S=>∃ad cap,r=aN ad (bn p L.length).kids.length cap∧lI (bn p L.length).kids ad cap S):=(by rw[show(p.kids.take 2)=(bn p L.length).kids from vc];exact nM _ Lr)
    refine OD.call ap rfl rfl rfl call120 BA ⟨ot,trivial⟩ (eO _) ?_;rintro _ Dk ⟨Dl,Dm,rfl,B8⟩;refine OD.perm (jg (A:=[_,_,_,_])) ?_;refine aE 1 ?_;refine aK 1 [_,_,_,_,_] sizeOf67 ?_;refine an 98 [0,1,6,7,8] ?_;refine⟨_,(aM (h:=by repeat (first|exact trivial|refine⟨zD,?_⟩))),b7,Dh,sP,Dg,Dj,xW,Di,Dl,Dm,Dk,B6,B7,B8,rfl⟩
   refine at_ rfl (dD 1) ?_;refine cu 6 rfl (eu (l:=2) rfl ot ⟨_,bI⟩ trivial zL) ?_;refine AD.one (i:=1) aA ?_;refine at_ rfl (dD 1) ?_;refine cu 2 rfl (eu (l:=2) rfl ot ⟨_,bI⟩ trivial Gf) ?_;refine AD.one (i:=3) aA ?_;have By:VC Tryz.prog G 150 [.list 1 ((p.keys.drop 2).flatMap cK) (p.keys.drop 2).length] [] (fun r S=>∃ad cap,r=aN ad (bq p).keys.length cap∧oE (bq p).keys ad cap S):=(by rw[show(p.keys.drop 2)=(bq p).keys from vf];exact vL _ Lw)
   refine aZ.call rfl ap rfl rfl rfl call150 By ⟨ot,trivial⟩ (eO _) iy ?_;rintro _ Dg ⟨Dh,sP,rfl,B6⟩;refine AD.perm (jg (A:=[_,_,_,_])) ?_;refine cu 8 rfl (da 1) ?_;refine AD.one (i:=7) aA ?_;have Bz:VC Tryz.prog G 120 [.list 1 ((p.kids.drop 2).flatMap cI) (p.kids.drop 2).length] [] (fun r S=>∃ad cap,r=aN ad (bq p).kids.length cap∧lI (bq p).kids ad cap S):=(by rw[show(p.kids.drop 2)=(bq p).kids from ve];exact nM _ Lu)
   refine aZ.call rfl ap rfl rfl rfl call120 Bz ⟨ot,trivial⟩ (eO _) iy ?_;rintro _ Di ⟨Dj,xW,rfl,B7⟩;refine AD.perm (jg (A:=[_,_,_,_])) ?_;refine AD.one (i:=9) aA ?_;refine dR 0 [_,_,_,_,_] sizeOf151 ?_;refine eD ?_;refine aE 1 ?_;refine aK 0 [_,_,_,_,_] sizeOf67 ?_;refine an 98 [0,1,6,7,8] ?_;refine dQ 2 ?_;refine bQ (eu (l:=0) (h:=2) rfl ot trivial ⟨_,bI⟩ zM) ?_;have BA:VC Tryz.prog G 120 [.list 1 ((p.kids.take 2).flatMap cI) (p.kids.take 2).length] [] (fun r S=>∃ad cap,r=aN ad (bn p L.length).kids.length cap∧lI (bn p L.length).kids ad cap S):=(by rw[show(p.kids.take 2)=(bn p L.length).kids from vc];exact nM _ Lr)
   refine OD.call ap rfl rfl rfl call120 BA ⟨ot,trivial⟩ (eO _) ?_;rintro _ Dk ⟨Dl,Dm,rfl,B8⟩;refine OD.perm (jg (A:=[_,_,_,_])) ?_;refine aE 1 ?_;refine aK 1 [_,_,_,_,_] sizeOf67 ?_;refine an 98 [0,1,6,7,8] ?_;refine⟨_,(aM (h:=by repeat (first|exact trivial|refine⟨zD,?_⟩))),b7,Dh,sP,Dg,Dj,xW,Di,Dl,Dm,Dk,B6,B7,B8,rfl⟩
  have fI:p.leaf=false:=aP;have xV:=xV fI;refine CD.seq ?_;refine fL 10 (aq (take 2 (drop 1 _))) ?_ (fun _ h=>(Sublist.map _ ((take_sublist _ _).trans (drop_sublist _ _))).subset h);refine az 0 rfl (da 1) ?_;refine az 4 rfl (da 2) ?_;refine dm.later rfl ?_;refine AD.two (i:=1) (j:=5) aA ?_ ?_
  ·refine at_ rfl (dD 1) ?_;refine cu 2 rfl (eu (l:=3) rfl ot ⟨_,bI⟩ trivial Gf) ?_;refine AD.two (i:=3) (j:=5) aA ?_ ?_
   ·have BB:VC Tryz.prog G 150 [.list 1 ((p.keys.drop 3).flatMap cK) (p.keys.drop 3).length] [] (fun r S=>∃ad cap,r=aN ad (bq p).keys.length cap∧oE (bq p).keys ad cap S):=(by rw[show(p.keys.drop 3)=(bq p).keys from vf];exact vL _ Lv)
    refine aZ.call rfl ap rfl rfl rfl call150 BB ⟨ot,trivial⟩ (eO _) iy ?_;rintro _ Dn ⟨Dp,Dq,rfl,B9⟩;refine AD.perm (jg (A:=[_,_,_,_])) ?_;refine cu 8 rfl (da 1) ?_;refine AD.one (i:=5) aA ?_;refine at_ rfl (dD 1) ?_;refine cu 6 rfl (eu (l:=3) rfl ot ⟨_,bI⟩ trivial zL) ?_;refine AD.one (i:=7) aA ?_;have BC:VC Tryz.prog G 120 [.list 1 ((p.kids.drop 3).flatMap cI) (p.kids.drop 3).length] [] (fun r S=>∃ad cap,r=aN ad (bq p).kids.length cap∧lI (bq p).kids ad cap S):=(by rw[show(p.kids.drop 3)=(bq p).kids from ve];exact nM _ Ls)
    refine aZ.call rfl ap rfl rfl rfl call120 BC ⟨ot,trivial⟩ (eO _) iy ?_;rintro _ Dr ⟨a51,Ds,rfl,Ca⟩;refine AD.perm (jg (A:=[_,_,_,_])) ?_;refine AD.one (i:=9) aA ?_;refine dR 0 [_,_,_,_,_] sizeOf151 ?_;refine eD ?_;refine aE 1 ?_;refine aK 0 [_,_,_,_,_] sizeOf67 ?_;refine an 98 [0,1,6,7,8] ?_;refine dQ 2 ?_;refine bQ (eu (l:=0) (h:=3) rfl ot trivial ⟨_,bI⟩ zM) ?_;have BD:VC Tryz.prog G 120 [.list 1 ((p.kids.take 3).flatMap cI) (p.kids.take 3).length] [] (fun r S=>∃ad cap,r=aN ad (bn p L.length).kids.length cap∧lI (bn p L.length).kids ad cap S):=(by rw[show(p.kids.take 3)=(bn p L.length).kids from vc];exact nM _ Lq)
    refine OD.call ap rfl rfl rfl call120 BD ⟨ot,trivial⟩ (eO _) ?_;rintro _ vy ⟨Dt,Du,rfl,uZ⟩;refine OD.perm (jg (A:=[_,_,_,_])) ?_;refine aE 1 ?_;refine aK 1 [_,_,_,_,_] sizeOf67 ?_;refine an 98 [0,1,6,7,8] ?_;refine⟨_,(aM (h:=by repeat (first|exact trivial|refine⟨zD,?_⟩))),b7,Dp,Dq,Dn,a51,Ds,Dr,Dt,Du,vy,B9,Ca,uZ,rfl⟩
   refine at_ rfl (dD 1) ?_;refine cu 6 rfl (eu (l:=3) rfl ot ⟨_,bI⟩ trivial zL) ?_;refine AD.one (i:=3) aA ?_;have BB:VC Tryz.prog G 150 [.list 1 ((p.keys.drop 3).flatMap cK) (p.keys.drop 3).length] [] (fun r S=>∃ad cap,r=aN ad (bq p).keys.length cap∧oE (bq p).keys ad cap S):=(by rw[show(p.keys.drop 3)=(bq p).keys from vf];exact vL _ Lv)
   refine aZ.call rfl ap rfl rfl rfl call150 BB ⟨ot,trivial⟩ (eO _) iy ?_;rintro _ Dn ⟨Dp,Dq,rfl,B9⟩;refine AD.perm (jg (A:=[_,_,_,_])) ?_;refine cu 8 rfl (da 1) ?_;refine AD.one (i:=7) aA ?_;have BC:VC Tryz.prog G 120 [.list 1 ((p.kids.drop 3).flatMap cI) (p.kids.drop 3).length] [] (fun r S=>∃ad cap,r=aN ad (bq p).kids.length cap∧lI (bq p).kids ad cap S):=(by rw[show(p.kids.drop 3)=(bq p).kids from ve];exact nM _ Ls)
   refine aZ.call rfl ap rfl rfl rfl call120 BC ⟨ot,trivial⟩ (eO _) iy ?_;rintro _ Dr ⟨a51,Ds,rfl,Ca⟩;refine AD.perm (jg (A:=[_,_,_,_])) ?_;refine AD.one (i:=9) aA ?_;refine dR 0 [_,_,_,_,_] sizeOf151 ?_;refine eD ?_;refine aE 1 ?_;refine aK 0 [_,_,_,_,_] sizeOf67 ?_;refine an 98 [0,1,6,7,8] ?_;refine dQ 2 ?_;refine bQ (eu (l:=0) (h:=3) rfl ot trivial ⟨_,bI⟩ zM) ?_;have BD:VC Tryz.prog G 120 [.list 1 ((p.kids.take 3).flatMap cI) (p.kids.take 3).length] [] (fun r S=>∃ad cap,r=aN ad (bn p L.length).kids.length cap∧lI (bn p L.length).kids ad cap S):=(by rw[show(p.kids.take 3)=(bn p L.length).kids from vc];exact nM _ Lq)
   refine OD.call ap rfl rfl rfl call120 BD ⟨ot,trivial⟩ (eO _) ?_;rintro _ vy ⟨Dt,Du,rfl,uZ⟩;refine OD.perm (jg (A:=[_,_,_,_])) ?_;refine aE 1 ?_;refine aK 1 [_,_,_,_,_] sizeOf67 ?_;refine an 98 [0,1,6,7,8] ?_;refine⟨_,(aM (h:=by repeat (first|exact trivial|refine⟨zD,?_⟩))),b7,Dp,Dq,Dn,a51,Ds,Dr,Dt,Du,vy,B9,Ca,uZ,rfl⟩
  refine at_ rfl (dD 1) ?_;refine cu 6 rfl (eu (l:=3) rfl ot ⟨_,bI⟩ trivial zL) ?_;refine AD.one (i:=1) aA ?_;refine at_ rfl (dD 1) ?_;refine cu 2 rfl (eu (l:=3) rfl ot ⟨_,bI⟩ trivial Gf) ?_;refine AD.one (i:=3) aA ?_;have BB:VC Tryz.prog G 150 [.list 1 ((p.keys.drop 3).flatMap cK) (p.keys.drop 3).length] [] (fun r S=>∃ad cap,r=aN ad (bq p).keys.length cap∧oE (bq p).keys ad cap S):=(by rw[show(p.keys.drop 3)=(bq p).keys from vf];exact vL _ Lv)
  refine aZ.call rfl ap rfl rfl rfl call150 BB ⟨ot,trivial⟩ (eO _) iy ?_;rintro _ Dn ⟨Dp,Dq,rfl,B9⟩;refine AD.perm (jg (A:=[_,_,_,_])) ?_;refine cu 8 rfl (da 1) ?_;refine AD.one (i:=7) aA ?_;have BC:VC Tryz.prog G 120 [.list 1 ((p.kids.drop 3).flatMap cI) (p.kids.drop 3).length] [] (fun r S=>∃ad cap,r=aN ad (bq p).kids.length cap∧lI (bq p).kids ad cap S):=(by rw[show(p.kids.drop 3)=(bq p).kids from ve];exact nM _ Ls)
  refine aZ.call rfl ap rfl rfl rfl call120 BC ⟨ot,trivial⟩ (eO _) iy ?_;rintro _ Dr ⟨a51,Ds,rfl,Ca⟩;refine AD.perm (jg (A:=[_,_,_,_])) ?_;refine AD.one (i:=9) aA ?_;refine dR 0 [_,_,_,_,_] sizeOf151 ?_;refine eD ?_;refine aE 1 ?_;refine aK 0 [_,_,_,_,_] sizeOf67 ?_;refine an 98 [0,1,6,7,8] ?_;refine dQ 2 ?_;refine bQ (eu (l:=0) (h:=3) rfl ot trivial ⟨_,bI⟩ zM) ?_;have BD:VC Tryz.prog G 120 [.list 1 ((p.kids.take 3).flatMap cI) (p.kids.take 3).length] [] (fun r S=>∃ad cap,r=aN ad (bn p L.length).kids.length cap∧lI (bn p L.length).kids ad cap S):=(by rw[show(p.kids.take 3)=(bn p L.length).kids from vc];exact nM _ Lq)
  refine OD.call ap rfl rfl rfl call120 BD ⟨ot,trivial⟩ (eO _) ?_;rintro _ vy ⟨Dt,Du,rfl,uZ⟩;refine OD.perm (jg (A:=[_,_,_,_])) ?_;refine aE 1 ?_;refine aK 1 [_,_,_,_,_] sizeOf67 ?_;refine an 98 [0,1,6,7,8] ?_;refine⟨_,(aM (h:=by repeat (first|exact trivial|refine⟨zD,?_⟩))),b7,Dp,Dq,Dn,a51,Ds,Dr,Dt,Du,vy,B9,Ca,uZ,rfl⟩
 rintro _ ⟨b7,dg,dh,cG,di,dj,cH,bK,bL,bA,pA,zy,zz,rfl⟩;refine aC 2 ?_;refine bQ (eu (l:=0) (h:=2) rfl ot trivial ⟨_,bI⟩ (by first|exact ox ga (fun h=>by cases h) runUnderlying151 sizeOf88 w4|exact ox eA (fun h=>by cases h) runUnderlying151 sizeOf88 w4|exact oB (fun h=>by cases h) runUnderlying151 sizeOf88 w4|exact nO (fun _=>rfl) (fun h=>by cases h) runUnderlying151 sizeOf88 w4 w4)) ?_;have ags:VC Tryz.prog G 150 [.list 1 ((p.keys.take 2).flatMap cK) (p.keys.take 2).length] [] (fun r S=>∃ad cap,r=aN ad (bn p L.length).keys.length cap∧oE (bn p L.length).keys ad cap S):=(by rw[show(p.keys.take 2)=(bn p L.length).keys from rfl];exact vL _ (by rw[←show(p.keys.take 2)=(bn p L.length).keys from rfl];simp only[length_take,length_drop];omega))
 refine OD.call ap rfl rfl rfl call150 ags ⟨ot,trivial⟩ (eO _) ?_;rintro _ cc ⟨cn,cq,rfl,zA⟩;refine OD.perm (jg (A:=[_,_,_,_])) ?_;refine aE 1 ?_;refine aK 1 [_,_,_,_,_] sizeOf151 ?_;refine an 98 [0,1,6,7,8] ?_;refine CD.seq ?_;refine fL 9 (aq (take 1 (drop 0 _))) ?_ (fun _ h=>(Sublist.map _ ((take_sublist _ _).trans (drop_sublist _ _))).subset h);refine az 0 rfl bj ?_;refine az 2 rfl bj ?_;refine az 3 rfl lM ?_;refine az 4 rfl (da 0) ?_;refine dm.later rfl ?_;refine AD.two (i:=1) (j:=5) aA ?_ ?_
 ·refine jB call95 (jS (je p) vn) ?_;refine cu 7 rfl (da 3) ?_;refine AD.two (i:=5) (j:=8) aA ?_ ?_
  ·refine at_ rfl (dD 2) ?_;refine cu 6 rfl qx ?_;refine AD.one (i:=8) aA ?_;refine dR 1 [_,_,_,_,_] sizeOf88 ?_;refine eD ?_;refine aE 1 ?_;refine aK 1 [_,_,_,_,_] sizeOf3 ?_;refine an 98 [0,1,6,7,8] ?_;refine CD.seq ?_;refine l9 6 [0,7,8,76,77,78] ?_;refine bH ?_;refine bQ (dF 5 (h:=by first|exact .l (j:=i.toNat) (Int.toNat_of_nonneg hi.1).symm hj|exact .r (j:=i.toNat) (Int.toNat_of_nonneg hi.1).symm hj)) ?_;refine OD.storeAt (k:=3) (cs':=flatMap gO (L.set i.toNat (⟨bn p L.length,cn,cq,cc,bK,bL,bA⟩:aB))) ap rfl rfl ot rfl rfl ot rfl rfl sizeOf153 rfl Ly Lj ?_;refine an 98 [0,7,8] ?_;refine CD.seq ?_;refine fL 8 (aq (take 2 _)) ?_ (fun _ h=>(Sublist.map _ (take_sublist _ _)).subset h);refine az 0 rfl bj ?_;refine az 1 rfl bj ?_;refine az 2 rfl lM ?_;refine az 3 rfl (da 0) ?_;refine az 5 rfl (BI 0 [_,_,_,_,_]) ?_;refine dm.later rfl ?_;refine AD.two (i:=4) (j:=6) aA ?_ ?_
   ·refine at_ rfl (cM (mk:=Op.load 49) rfl ot (rP (k:=2) (d:=aN (some ⟨bx,0,none⟩) (L.set i.toNat (⟨bn p L.length,cn,cq,cc,bK,bL,bA⟩:aB)).length cap) rfl rfl isAgg49 zO)) ?_;refine AD.one (i:=6) aA ?_;refine jo (bZ 0 [_]) [.bool false,.slice none 0 0,.slice none 0 0,.slice none 0 0,.int .i64 0] [_,_,_,_,_] zeroValue153 runUnderlying49 sizeOf153 (fun Dv=>?_);refine jq 0 86 5 1 ?_;refine AD.one (i:=7) aA ?_;refine aZ.ev (ls:=(L.set i.toNat (⟨bn p L.length,cn,cq,cc,bK,bL,bA⟩:aB))) (new:=[(⟨bq p,dg,dh,cG,di,dj,cH⟩:aB)]) (Sq:=[⟨bx,153,cap*5,flatMap gO (L.set i.toNat (⟨bn p L.length,cn,cq,cc,bK,bL,bA⟩:aB))⟩]) fZ uD rfl ap rfl rfl underlying49 x8 rfl w7 ot (bJ rf rj) (j5 (k:=3) rfl) ot bu zI zJ (hT:=by intro x0 O;have O:x0∈[b7,b6]:=O;show x0∈(b7::b6::_:List Nat);simp only[mem_cons,not_mem_nil,or_false] at O ⊢;omega) (fun I E U Z=>?_);refine eD ?_;refine aE 2 ?_;refine aK 3 [_,_] sizeOf49 ?_;refine an 98 [0,8] ?_;refine CD.seq ?_;refine fL 9 (aq _) ?_ (fun _ h=>h);refine az 0 rfl bj ?_;refine az 2 rfl bj ?_;refine az 3 rfl lM ?_;refine az 4 rfl (da 0) ?_;refine az 5 rfl (dD 3) ?_;refine az 6 rfl qx ?_;refine az 7 rfl (c9 (r:=.int .i64 (L.length:Nat)) rfl ot bI (fY zK)) ?_;refine dm.later rfl ?_;refine AD.one (i:=1) aA ?_;refine jB call95 (jS (je p) vn) ?_
    have oI:(cc++(bA++(cH++(cG++((L.eraseIdx i.toNat).flatMap bO))))).Perm (((L.set i.toNat (⟨bn p L.length,cn,cq,cc,bK,bL,bA⟩:aB))++[(⟨bq p,dg,dh,cG,di,dj,cH⟩:aB)]).flatMap bO):=iE fun ja=>by have hq:=yf (qD bO hj (⟨bn p L.length,cn,cq,cc,bK,bL,bA⟩:aB)) ja;rw[flatMap_append,show[(⟨bq p,dg,dh,cG,di,dj,cH⟩:aB)].flatMap bO=cG++(cH++[]) from by simp[bO]];simp only[show bO (⟨bn p L.length,cn,cq,cc,bK,bL,bA⟩:aB)=cc++bA from rfl,map_append,map_cons,map_nil,sum_append,sum_cons,sum_nil] at *;omega
    refine AD.perm (S':=⟨b7,153,5,gO (⟨bq p,dg,dh,cG,di,dj,cH⟩:aB)⟩::⟨b6,153,5,gO (⟨bn p L.length,cn,cq,cc,bK,bL,bA⟩:aB)⟩::⟨b,51,2,[aN (some ⟨I,0,none⟩) ((L.set i.toNat (⟨bn p L.length,cn,cq,cc,bK,bL,bA⟩:aB))++[(⟨bq p,dg,dh,cG,di,dj,cH⟩:aB)]).length E,ae root]⟩::(([⟨I,153,E*5,flatMap gO ((L.set i.toNat (⟨bn p L.length,cn,cq,cc,bK,bL,bA⟩:aB))++[(⟨bq p,dg,dh,cG,di,dj,cH⟩:aB)])⟩]:List ah)++((L.set i.toNat (⟨bn p L.length,cn,cq,cc,bK,bL,bA⟩:aB))++[(⟨bq p,dg,dh,cG,di,dj,cH⟩:aB)]).flatMap bO)) zE ?_;refine cu 8 rfl bj ?_;refine eD ?_;refine bg [4,5] ?_;refine aI (⟨b,51,2,[aN (some ⟨I,0,none⟩) ((L.set i.toNat (⟨bn p L.length,cn,cq,cc,bK,bL,bA⟩:aB))++[(⟨bq p,dg,dh,cG,di,dj,cH⟩:aB)]).length E,ae root]⟩::([⟨I,153,E*5,flatMap gO ((L.set i.toNat (⟨bn p L.length,cn,cq,cc,bK,bL,bA⟩:aB))++[(⟨bq p,dg,dh,cG,di,dj,cH⟩:aB)])⟩]++((L.set i.toNat (⟨bn p L.length,cn,cq,cc,bK,bL,bA⟩:aB))++[(⟨bq p,dg,dh,cG,di,dj,cH⟩:aB)]).flatMap bO)) ?_;refine⟨rfl,((L.set i.toNat (⟨bn p L.length,cn,cq,cc,bK,bL,bA⟩:aB))++[(⟨bq p,dg,dh,cG,di,dj,cH⟩:aB)]),some ⟨I,0,none⟩,E,[⟨I,153,E*5,flatMap gO ((L.set i.toNat (⟨bn p L.length,cn,cq,cc,bK,bL,bA⟩:aB))++[(⟨bq p,dg,dh,cG,di,dj,cH⟩:aB)])⟩],bJ U Z,fun x hx=>?_,?_,rfl⟩
    ·rcases mem_append.1 hx with hx|hx
     ·rcases mem_or_eq_of_mem_set hx with hx|rfl
      ·exact aT x hx
      exact⟨zA,zz⟩
     rw[mem_singleton] at hx;subst hx;exact⟨pA,zy⟩
    rw[map_append,map_set];rfl
   refine jo (bZ 0 [_]) [.bool false,.slice none 0 0,.slice none 0 0,.slice none 0 0,.int .i64 0] [_,_,_,_,_] zeroValue153 runUnderlying49 sizeOf153 (fun Dv=>?_);refine jq 0 86 5 1 ?_;refine AD.one (i:=4) aA ?_;refine at_ rfl (cM (mk:=Op.load 49) rfl ot (rP (k:=2) (d:=aN (some ⟨bx,0,none⟩) (L.set i.toNat (⟨bn p L.length,cn,cq,cc,bK,bL,bA⟩:aB)).length cap) rfl rfl isAgg49 zO)) ?_;refine AD.one (i:=7) aA ?_;refine aZ.ev (ls:=(L.set i.toNat (⟨bn p L.length,cn,cq,cc,bK,bL,bA⟩:aB))) (new:=[(⟨bq p,dg,dh,cG,di,dj,cH⟩:aB)]) (Sq:=[⟨bx,153,cap*5,flatMap gO (L.set i.toNat (⟨bn p L.length,cn,cq,cc,bK,bL,bA⟩:aB))⟩]) fZ uD rfl ap rfl rfl underlying49 x8 rfl w7 ot (bJ rf rj) (j5 (k:=3) rfl) ot bu zI zJ (hT:=by intro x0 O;have O:x0∈[b7,b6]:=O;show x0∈(b7::b6::_:List Nat);simp only[mem_cons,not_mem_nil,or_false] at O ⊢;omega) (fun I E U Z=>?_);refine eD ?_;refine aE 2 ?_;refine aK 3 [_,_] sizeOf49 ?_;refine an 98 [0,8] ?_;refine CD.seq ?_;refine fL 9 (aq _) ?_ (fun _ h=>h);refine az 0 rfl bj ?_;refine az 2 rfl bj ?_;refine az 3 rfl lM ?_;refine az 4 rfl (da 0) ?_;refine az 5 rfl (dD 3) ?_;refine az 6 rfl qx ?_;refine az 7 rfl (c9 (r:=.int .i64 (L.length:Nat)) rfl ot bI (fY zK)) ?_;refine dm.later rfl ?_;refine AD.one (i:=1) aA ?_;refine jB call95 (jS (je p) vn) ?_
   have oI:(cc++(bA++(cH++(cG++((L.eraseIdx i.toNat).flatMap bO))))).Perm (((L.set i.toNat (⟨bn p L.length,cn,cq,cc,bK,bL,bA⟩:aB))++[(⟨bq p,dg,dh,cG,di,dj,cH⟩:aB)]).flatMap bO):=iE fun ja=>by have hq:=yf (qD bO hj (⟨bn p L.length,cn,cq,cc,bK,bL,bA⟩:aB)) ja;rw[flatMap_append,show[(⟨bq p,dg,dh,cG,di,dj,cH⟩:aB)].flatMap bO=cG++(cH++[]) from by simp[bO]];simp only[show bO (⟨bn p L.length,cn,cq,cc,bK,bL,bA⟩:aB)=cc++bA from rfl,map_append,map_cons,map_nil,sum_append,sum_cons,sum_nil] at *;omega
   refine AD.perm (S':=⟨b7,153,5,gO (⟨bq p,dg,dh,cG,di,dj,cH⟩:aB)⟩::⟨b6,153,5,gO (⟨bn p L.length,cn,cq,cc,bK,bL,bA⟩:aB)⟩::⟨b,51,2,[aN (some ⟨I,0,none⟩) ((L.set i.toNat (⟨bn p L.length,cn,cq,cc,bK,bL,bA⟩:aB))++[(⟨bq p,dg,dh,cG,di,dj,cH⟩:aB)]).length E,ae root]⟩::(([⟨I,153,E*5,flatMap gO ((L.set i.toNat (⟨bn p L.length,cn,cq,cc,bK,bL,bA⟩:aB))++[(⟨bq p,dg,dh,cG,di,dj,cH⟩:aB)])⟩]:List ah)++((L.set i.toNat (⟨bn p L.length,cn,cq,cc,bK,bL,bA⟩:aB))++[(⟨bq p,dg,dh,cG,di,dj,cH⟩:aB)]).flatMap bO)) zE ?_;refine cu 8 rfl bj ?_;refine eD ?_;refine bg [4,5] ?_;refine aI (⟨b,51,2,[aN (some ⟨I,0,none⟩) ((L.set i.toNat (⟨bn p L.length,cn,cq,cc,bK,bL,bA⟩:aB))++[(⟨bq p,dg,dh,cG,di,dj,cH⟩:aB)]).length E,ae root]⟩::([⟨I,153,E*5,flatMap gO ((L.set i.toNat (⟨bn p L.length,cn,cq,cc,bK,bL,bA⟩:aB))++[(⟨bq p,dg,dh,cG,di,dj,cH⟩:aB)])⟩]++((L.set i.toNat (⟨bn p L.length,cn,cq,cc,bK,bL,bA⟩:aB))++[(⟨bq p,dg,dh,cG,di,dj,cH⟩:aB)]).flatMap bO)) ?_;refine⟨rfl,((L.set i.toNat (⟨bn p L.length,cn,cq,cc,bK,bL,bA⟩:aB))++[(⟨bq p,dg,dh,cG,di,dj,cH⟩:aB)]),some ⟨I,0,none⟩,E,[⟨I,153,E*5,flatMap gO ((L.set i.toNat (⟨bn p L.length,cn,cq,cc,bK,bL,bA⟩:aB))++[(⟨bq p,dg,dh,cG,di,dj,cH⟩:aB)])⟩],bJ U Z,fun x hx=>?_,?_,rfl⟩
   ·rcases mem_append.1 hx with hx|hx
    ·rcases mem_or_eq_of_mem_set hx with hx|rfl
     ·exact aT x hx
     exact⟨zA,zz⟩
    rw[mem_singleton] at hx;subst hx;exact⟨pA,zy⟩
   rw[map_append,map_set];rfl
  refine dR 1 [_,_,_,_,_] sizeOf88 ?_;refine AD.one (i:=5) aA ?_;refine at_ rfl (dD 2) ?_;refine cu 6 rfl qx ?_;refine eD ?_;refine aE 1 ?_;refine aK 1 [_,_,_,_,_] sizeOf3 ?_;refine an 98 [0,1,6,7,8] ?_;refine CD.seq ?_;refine l9 6 [0,7,8,76,77,78] ?_;refine bH ?_;refine bQ (dF 5 (h:=by first|exact .l (j:=i.toNat) (Int.toNat_of_nonneg hi.1).symm hj|exact .r (j:=i.toNat) (Int.toNat_of_nonneg hi.1).symm hj)) ?_;refine OD.storeAt (k:=3) (cs':=flatMap gO (L.set i.toNat (⟨bn p L.length,cn,cq,cc,bK,bL,bA⟩:aB))) ap rfl rfl ot rfl rfl ot rfl rfl sizeOf153 rfl Ly Lj ?_;refine an 98 [0,7,8] ?_;refine CD.seq ?_;refine fL 8 (aq (take 2 _)) ?_ (fun _ h=>(Sublist.map _ (take_sublist _ _)).subset h);refine az 0 rfl bj ?_;refine az 1 rfl bj ?_;refine az 2 rfl lM ?_;refine az 3 rfl (da 0) ?_;refine az 5 rfl (BI 0 [_,_,_,_,_]) ?_;refine dm.later rfl ?_;refine AD.two (i:=4) (j:=6) aA ?_ ?_
  ·refine at_ rfl (cM (mk:=Op.load 49) rfl ot (rP (k:=2) (d:=aN (some ⟨bx,0,none⟩) (L.set i.toNat (⟨bn p L.length,cn,cq,cc,bK,bL,bA⟩:aB)).length cap) rfl rfl isAgg49 zO)) ?_;refine AD.one (i:=6) aA ?_;refine jo (bZ 0 [_]) [.bool false,.slice none 0 0,.slice none 0 0,.slice none 0 0,.int .i64 0] [_,_,_,_,_] zeroValue153 runUnderlying49 sizeOf153 (fun Dv=>?_);refine jq 0 86 5 1 ?_;refine AD.one (i:=7) aA ?_;refine aZ.ev (ls:=(L.set i.toNat (⟨bn p L.length,cn,cq,cc,bK,bL,bA⟩:aB))) (new:=[(⟨bq p,dg,dh,cG,di,dj,cH⟩:aB)]) (Sq:=[⟨bx,153,cap*5,flatMap gO (L.set i.toNat (⟨bn p L.length,cn,cq,cc,bK,bL,bA⟩:aB))⟩]) fZ uD rfl ap rfl rfl underlying49 x8 rfl w7 ot (bJ rf rj) (j5 (k:=3) rfl) ot bu zI zJ (hT:=by intro x0 O;have O:x0∈[b7,b6]:=O;show x0∈(b7::b6::_:List Nat);simp only[mem_cons,not_mem_nil,or_false] at O ⊢;omega) (fun I E U Z=>?_);refine eD ?_;refine aE 2 ?_;refine aK 3 [_,_] sizeOf49 ?_;refine an 98 [0,8] ?_;refine CD.seq ?_;refine fL 9 (aq _) ?_ (fun _ h=>h);refine az 0 rfl bj ?_;refine az 2 rfl bj ?_;refine az 3 rfl lM ?_;refine az 4 rfl (da 0) ?_;refine az 5 rfl (dD 3) ?_;refine az 6 rfl qx ?_;refine az 7 rfl (c9 (r:=.int .i64 (L.length:Nat)) rfl ot bI (fY zK)) ?_;refine dm.later rfl ?_;refine AD.one (i:=1) aA ?_;refine jB call95 (jS (je p) vn) ?_
   have oI:(cc++(bA++(cH++(cG++((L.eraseIdx i.toNat).flatMap bO))))).Perm (((L.set i.toNat (⟨bn p L.length,cn,cq,cc,bK,bL,bA⟩:aB))++[(⟨bq p,dg,dh,cG,di,dj,cH⟩:aB)]).flatMap bO):=iE fun ja=>by have hq:=yf (qD bO hj (⟨bn p L.length,cn,cq,cc,bK,bL,bA⟩:aB)) ja;rw[flatMap_append,show[(⟨bq p,dg,dh,cG,di,dj,cH⟩:aB)].flatMap bO=cG++(cH++[]) from by simp[bO]];simp only[show bO (⟨bn p L.length,cn,cq,cc,bK,bL,bA⟩:aB)=cc++bA from rfl,map_append,map_cons,map_nil,sum_append,sum_cons,sum_nil] at *;omega
   refine AD.perm (S':=⟨b7,153,5,gO (⟨bq p,dg,dh,cG,di,dj,cH⟩:aB)⟩::⟨b6,153,5,gO (⟨bn p L.length,cn,cq,cc,bK,bL,bA⟩:aB)⟩::⟨b,51,2,[aN (some ⟨I,0,none⟩) ((L.set i.toNat (⟨bn p L.length,cn,cq,cc,bK,bL,bA⟩:aB))++[(⟨bq p,dg,dh,cG,di,dj,cH⟩:aB)]).length E,ae root]⟩::(([⟨I,153,E*5,flatMap gO ((L.set i.toNat (⟨bn p L.length,cn,cq,cc,bK,bL,bA⟩:aB))++[(⟨bq p,dg,dh,cG,di,dj,cH⟩:aB)])⟩]:List ah)++((L.set i.toNat (⟨bn p L.length,cn,cq,cc,bK,bL,bA⟩:aB))++[(⟨bq p,dg,dh,cG,di,dj,cH⟩:aB)]).flatMap bO)) zE ?_;refine cu 8 rfl bj ?_;refine eD ?_;refine bg [4,5] ?_;refine aI (⟨b,51,2,[aN (some ⟨I,0,none⟩) ((L.set i.toNat (⟨bn p L.length,cn,cq,cc,bK,bL,bA⟩:aB))++[(⟨bq p,dg,dh,cG,di,dj,cH⟩:aB)]).length E,ae root]⟩::([⟨I,153,E*5,flatMap gO ((L.set i.toNat (⟨bn p L.length,cn,cq,cc,bK,bL,bA⟩:aB))++[(⟨bq p,dg,dh,cG,di,dj,cH⟩:aB)])⟩]++((L.set i.toNat (⟨bn p L.length,cn,cq,cc,bK,bL,bA⟩:aB))++[(⟨bq p,dg,dh,cG,di,dj,cH⟩:aB)]).flatMap bO)) ?_;refine⟨rfl,((L.set i.toNat (⟨bn p L.length,cn,cq,cc,bK,bL,bA⟩:aB))++[(⟨bq p,dg,dh,cG,di,dj,cH⟩:aB)]),some ⟨I,0,none⟩,E,[⟨I,153,E*5,flatMap gO ((L.set i.toNat (⟨bn p L.length,cn,cq,cc,bK,bL,bA⟩:aB))++[(⟨bq p,dg,dh,cG,di,dj,cH⟩:aB)])⟩],bJ U Z,fun x hx=>?_,?_,rfl⟩
   ·rcases mem_append.1 hx with hx|hx
    ·rcases mem_or_eq_of_mem_set hx with hx|rfl
     ·exact aT x hx
     exact⟨zA,zz⟩
    rw[mem_singleton] at hx;subst hx;exact⟨pA,zy⟩
   rw[map_append,map_set];rfl
  refine jo (bZ 0 [_]) [.bool false,.slice none 0 0,.slice none 0 0,.slice none 0 0,.int .i64 0] [_,_,_,_,_] zeroValue153 runUnderlying49 sizeOf153 (fun Dv=>?_);refine jq 0 86 5 1 ?_;refine AD.one (i:=4) aA ?_;refine at_ rfl (cM (mk:=Op.load 49) rfl ot (rP (k:=2) (d:=aN (some ⟨bx,0,none⟩) (L.set i.toNat (⟨bn p L.length,cn,cq,cc,bK,bL,bA⟩:aB)).length cap) rfl rfl isAgg49 zO)) ?_;refine AD.one (i:=7) aA ?_;refine aZ.ev (ls:=(L.set i.toNat (⟨bn p L.length,cn,cq,cc,bK,bL,bA⟩:aB))) (new:=[(⟨bq p,dg,dh,cG,di,dj,cH⟩:aB)]) (Sq:=[⟨bx,153,cap*5,flatMap gO (L.set i.toNat (⟨bn p L.length,cn,cq,cc,bK,bL,bA⟩:aB))⟩]) fZ uD rfl ap rfl rfl underlying49 x8 rfl w7 ot (bJ rf rj) (j5 (k:=3) rfl) ot bu zI zJ (hT:=by intro x0 O;have O:x0∈[b7,b6]:=O;show x0∈(b7::b6::_:List Nat);simp only[mem_cons,not_mem_nil,or_false] at O ⊢;omega) (fun I E U Z=>?_);refine eD ?_;refine aE 2 ?_;refine aK 3 [_,_] sizeOf49 ?_;refine an 98 [0,8] ?_;refine CD.seq ?_;refine fL 9 (aq _) ?_ (fun _ h=>h);refine az 0 rfl bj ?_;refine az 2 rfl bj ?_;refine az 3 rfl lM ?_;refine az 4 rfl (da 0) ?_;refine az 5 rfl (dD 3) ?_;refine az 6 rfl qx ?_;refine az 7 rfl (c9 (r:=.int .i64 (L.length:Nat)) rfl ot bI (fY zK)) ?_;refine dm.later rfl ?_;refine AD.one (i:=1) aA ?_;refine jB call95 (jS (je p) vn) ?_
  have oI:(cc++(bA++(cH++(cG++((L.eraseIdx i.toNat).flatMap bO))))).Perm (((L.set i.toNat (⟨bn p L.length,cn,cq,cc,bK,bL,bA⟩:aB))++[(⟨bq p,dg,dh,cG,di,dj,cH⟩:aB)]).flatMap bO):=iE fun ja=>by have hq:=yf (qD bO hj (⟨bn p L.length,cn,cq,cc,bK,bL,bA⟩:aB)) ja;rw[flatMap_append,show[(⟨bq p,dg,dh,cG,di,dj,cH⟩:aB)].flatMap bO=cG++(cH++[]) from by simp[bO]];simp only[show bO (⟨bn p L.length,cn,cq,cc,bK,bL,bA⟩:aB)=cc++bA from rfl,map_append,map_cons,map_nil,sum_append,sum_cons,sum_nil] at *;omega
  refine AD.perm (S':=⟨b7,153,5,gO (⟨bq p,dg,dh,cG,di,dj,cH⟩:aB)⟩::⟨b6,153,5,gO (⟨bn p L.length,cn,cq,cc,bK,bL,bA⟩:aB)⟩::⟨b,51,2,[aN (some ⟨I,0,none⟩) ((L.set i.toNat (⟨bn p L.length,cn,cq,cc,bK,bL,bA⟩:aB))++[(⟨bq p,dg,dh,cG,di,dj,cH⟩:aB)]).length E,ae root]⟩::(([⟨I,153,E*5,flatMap gO ((L.set i.toNat (⟨bn p L.length,cn,cq,cc,bK,bL,bA⟩:aB))++[(⟨bq p,dg,dh,cG,di,dj,cH⟩:aB)])⟩]:List ah)++((L.set i.toNat (⟨bn p L.length,cn,cq,cc,bK,bL,bA⟩:aB))++[(⟨bq p,dg,dh,cG,di,dj,cH⟩:aB)]).flatMap bO)) zE ?_;refine cu 8 rfl bj ?_;refine eD ?_;refine bg [4,5] ?_;refine aI (⟨b,51,2,[aN (some ⟨I,0,none⟩) ((L.set i.toNat (⟨bn p L.length,cn,cq,cc,bK,bL,bA⟩:aB))++[(⟨bq p,dg,dh,cG,di,dj,cH⟩:aB)]).length E,ae root]⟩::([⟨I,153,E*5,flatMap gO ((L.set i.toNat (⟨bn p L.length,cn,cq,cc,bK,bL,bA⟩:aB))++[(⟨bq p,dg,dh,cG,di,dj,cH⟩:aB)])⟩]++((L.set i.toNat (⟨bn p L.length,cn,cq,cc,bK,bL,bA⟩:aB))++[(⟨bq p,dg,dh,cG,di,dj,cH⟩:aB)]).flatMap bO)) ?_;refine⟨rfl,((L.set i.toNat (⟨bn p L.length,cn,cq,cc,bK,bL,bA⟩:aB))++[(⟨bq p,dg,dh,cG,di,dj,cH⟩:aB)]),some ⟨I,0,none⟩,E,[⟨I,153,E*5,flatMap gO ((L.set i.toNat (⟨bn p L.length,cn,cq,cc,bK,bL,bA⟩:aB))++[(⟨bq p,dg,dh,cG,di,dj,cH⟩:aB)])⟩],bJ U Z,fun x hx=>?_,?_,rfl⟩
  ·rcases mem_append.1 hx with hx|hx
   ·rcases mem_or_eq_of_mem_set hx with hx|rfl
    ·exact aT x hx
    exact⟨zA,zz⟩
   rw[mem_singleton] at hx;subst hx;exact⟨pA,zy⟩
  rw[map_append,map_set];rfl
 refine at_ rfl (dD 2) ?_;refine cu 6 rfl qx ?_;refine AD.one (i:=1) aA ?_;refine jB call95 (jS (je p) vn) ?_;refine cu 7 rfl (da 3) ?_;refine AD.one (i:=8) aA ?_;refine dR 1 [_,_,_,_,_] sizeOf88 ?_;refine eD ?_;refine aE 1 ?_;refine aK 1 [_,_,_,_,_] sizeOf3 ?_;refine an 98 [0,1,6,7,8] ?_;refine CD.seq ?_;refine l9 6 [0,7,8,76,77,78] ?_;refine bH ?_;refine bQ (dF 5 (h:=by first|exact .l (j:=i.toNat) (Int.toNat_of_nonneg hi.1).symm hj|exact .r (j:=i.toNat) (Int.toNat_of_nonneg hi.1).symm hj)) ?_;refine OD.storeAt (k:=3) (cs':=flatMap gO (L.set i.toNat (⟨bn p L.length,cn,cq,cc,bK,bL,bA⟩:aB))) ap rfl rfl ot rfl rfl ot rfl rfl sizeOf153 rfl Ly Lj ?_;refine an 98 [0,7,8] ?_;refine CD.seq ?_;refine fL 8 (aq (take 2 _)) ?_ (fun _ h=>(Sublist.map _ (take_sublist _ _)).subset h);refine az 0 rfl bj ?_;refine az 1 rfl bj ?_;refine az 2 rfl lM ?_;refine az 3 rfl (da 0) ?_;refine az 5 rfl (BI 0 [_,_,_,_,_]) ?_;refine dm.later rfl ?_;refine AD.two (i:=4) (j:=6) aA ?_ ?_
 ·refine at_ rfl (cM (mk:=Op.load 49) rfl ot (rP (k:=2) (d:=aN (some ⟨bx,0,none⟩) (L.set i.toNat (⟨bn p L.length,cn,cq,cc,bK,bL,bA⟩:aB)).length cap) rfl rfl isAgg49 zO)) ?_;refine AD.one (i:=6) aA ?_;refine jo (bZ 0 [_]) [.bool false,.slice none 0 0,.slice none 0 0,.slice none 0 0,.int .i64 0] [_,_,_,_,_] zeroValue153 runUnderlying49 sizeOf153 (fun Dv=>?_);refine jq 0 86 5 1 ?_;refine AD.one (i:=7) aA ?_;refine aZ.ev (ls:=(L.set i.toNat (⟨bn p L.length,cn,cq,cc,bK,bL,bA⟩:aB))) (new:=[(⟨bq p,dg,dh,cG,di,dj,cH⟩:aB)]) (Sq:=[⟨bx,153,cap*5,flatMap gO (L.set i.toNat (⟨bn p L.length,cn,cq,cc,bK,bL,bA⟩:aB))⟩]) fZ uD rfl ap rfl rfl underlying49 x8 rfl w7 ot (bJ rf rj) (j5 (k:=3) rfl) ot bu zI zJ (hT:=by intro x0 O;have O:x0∈[b7,b6]:=O;show x0∈(b7::b6::_:List Nat);simp only[mem_cons,not_mem_nil,or_false] at O ⊢;omega) (fun I E U Z=>?_);refine eD ?_;refine aE 2 ?_;refine aK 3 [_,_] sizeOf49 ?_;refine an 98 [0,8] ?_;refine CD.seq ?_;refine fL 9 (aq _) ?_ (fun _ h=>h);refine az 0 rfl bj ?_;refine az 2 rfl bj ?_;refine az 3 rfl lM ?_;refine az 4 rfl (da 0) ?_;refine az 5 rfl (dD 3) ?_;refine az 6 rfl qx ?_;refine az 7 rfl (c9 (r:=.int .i64 (L.length:Nat)) rfl ot bI (fY zK)) ?_;refine dm.later rfl ?_;refine AD.one (i:=1) aA ?_;refine jB call95 (jS (je p) vn) ?_
  have oI:(cc++(bA++(cH++(cG++((L.eraseIdx i.toNat).flatMap bO))))).Perm (((L.set i.toNat (⟨bn p L.length,cn,cq,cc,bK,bL,bA⟩:aB))++[(⟨bq p,dg,dh,cG,di,dj,cH⟩:aB)]).flatMap bO):=iE fun ja=>by have hq:=yf (qD bO hj (⟨bn p L.length,cn,cq,cc,bK,bL,bA⟩:aB)) ja;rw[flatMap_append,show[(⟨bq p,dg,dh,cG,di,dj,cH⟩:aB)].flatMap bO=cG++(cH++[]) from by simp[bO]];simp only[show bO (⟨bn p L.length,cn,cq,cc,bK,bL,bA⟩:aB)=cc++bA from rfl,map_append,map_cons,map_nil,sum_append,sum_cons,sum_nil] at *;omega
  refine AD.perm (S':=⟨b7,153,5,gO (⟨bq p,dg,dh,cG,di,dj,cH⟩:aB)⟩::⟨b6,153,5,gO (⟨bn p L.length,cn,cq,cc,bK,bL,bA⟩:aB)⟩::⟨b,51,2,[aN (some ⟨I,0,none⟩) ((L.set i.toNat (⟨bn p L.length,cn,cq,cc,bK,bL,bA⟩:aB))++[(⟨bq p,dg,dh,cG,di,dj,cH⟩:aB)]).length E,ae root]⟩::(([⟨I,153,E*5,flatMap gO ((L.set i.toNat (⟨bn p L.length,cn,cq,cc,bK,bL,bA⟩:aB))++[(⟨bq p,dg,dh,cG,di,dj,cH⟩:aB)])⟩]:List ah)++((L.set i.toNat (⟨bn p L.length,cn,cq,cc,bK,bL,bA⟩:aB))++[(⟨bq p,dg,dh,cG,di,dj,cH⟩:aB)]).flatMap bO)) zE ?_;refine cu 8 rfl bj ?_;refine eD ?_;refine bg [4,5] ?_;refine aI (⟨b,51,2,[aN (some ⟨I,0,none⟩) ((L.set i.toNat (⟨bn p L.length,cn,cq,cc,bK,bL,bA⟩:aB))++[(⟨bq p,dg,dh,cG,di,dj,cH⟩:aB)]).length E,ae root]⟩::([⟨I,153,E*5,flatMap gO ((L.set i.toNat (⟨bn p L.length,cn,cq,cc,bK,bL,bA⟩:aB))++[(⟨bq p,dg,dh,cG,di,dj,cH⟩:aB)])⟩]++((L.set i.toNat (⟨bn p L.length,cn,cq,cc,bK,bL,bA⟩:aB))++[(⟨bq p,dg,dh,cG,di,dj,cH⟩:aB)]).flatMap bO)) ?_;refine⟨rfl,((L.set i.toNat (⟨bn p L.length,cn,cq,cc,bK,bL,bA⟩:aB))++[(⟨bq p,dg,dh,cG,di,dj,cH⟩:aB)]),some ⟨I,0,none⟩,E,[⟨I,153,E*5,flatMap gO ((L.set i.toNat (⟨bn p L.length,cn,cq,cc,bK,bL,bA⟩:aB))++[(⟨bq p,dg,dh,cG,di,dj,cH⟩:aB)])⟩],bJ U Z,fun x hx=>?_,?_,rfl⟩
  ·rcases mem_append.1 hx with hx|hx
   ·rcases mem_or_eq_of_mem_set hx with hx|rfl
    ·exact aT x hx
    exact⟨zA,zz⟩
   rw[mem_singleton] at hx;subst hx;exact⟨pA,zy⟩
  rw[map_append,map_set];rfl
 refine jo (bZ 0 [_]) [.bool false,.slice none 0 0,.slice none 0 0,.slice none 0 0,.int .i64 0] [_,_,_,_,_] zeroValue153 runUnderlying49 sizeOf153 (fun Dv=>?_);refine jq 0 86 5 1 ?_;refine AD.one (i:=4) aA ?_;refine at_ rfl (cM (mk:=Op.load 49) rfl ot (rP (k:=2) (d:=aN (some ⟨bx,0,none⟩) (L.set i.toNat (⟨bn p L.length,cn,cq,cc,bK,bL,bA⟩:aB)).length cap) rfl rfl isAgg49 zO)) ?_;refine AD.one (i:=7) aA ?_;refine aZ.ev (ls:=(L.set i.toNat (⟨bn p L.length,cn,cq,cc,bK,bL,bA⟩:aB))) (new:=[(⟨bq p,dg,dh,cG,di,dj,cH⟩:aB)]) (Sq:=[⟨bx,153,cap*5,flatMap gO (L.set i.toNat (⟨bn p L.length,cn,cq,cc,bK,bL,bA⟩:aB))⟩]) fZ uD rfl ap rfl rfl underlying49 x8 rfl w7 ot (bJ rf rj) (j5 (k:=3) rfl) ot bu zI zJ (hT:=by intro x0 O;have O:x0∈[b7,b6]:=O;show x0∈(b7::b6::_:List Nat);simp only[mem_cons,not_mem_nil,or_false] at O ⊢;omega) (fun I E U Z=>?_);refine eD ?_;refine aE 2 ?_;refine aK 3 [_,_] sizeOf49 ?_;refine an 98 [0,8] ?_;refine CD.seq ?_;refine fL 9 (aq _) ?_ (fun _ h=>h);refine az 0 rfl bj ?_;refine az 2 rfl bj ?_;refine az 3 rfl lM ?_;refine az 4 rfl (da 0) ?_;refine az 5 rfl (dD 3) ?_;refine az 6 rfl qx ?_;refine az 7 rfl (c9 (r:=.int .i64 (L.length:Nat)) rfl ot bI (fY zK)) ?_;refine dm.later rfl ?_;refine AD.one (i:=1) aA ?_;refine jB call95 (jS (je p) vn) ?_
 have oI:(cc++(bA++(cH++(cG++((L.eraseIdx i.toNat).flatMap bO))))).Perm (((L.set i.toNat (⟨bn p L.length,cn,cq,cc,bK,bL,bA⟩:aB))++[(⟨bq p,dg,dh,cG,di,dj,cH⟩:aB)]).flatMap bO):=iE fun ja=>by have hq:=yf (qD bO hj (⟨bn p L.length,cn,cq,cc,bK,bL,bA⟩:aB)) ja;rw[flatMap_append,show[(⟨bq p,dg,dh,cG,di,dj,cH⟩:aB)].flatMap bO=cG++(cH++[]) from by simp[bO]];simp only[show bO (⟨bn p L.length,cn,cq,cc,bK,bL,bA⟩:aB)=cc++bA from rfl,map_append,map_cons,map_nil,sum_append,sum_cons,sum_nil] at *;omega
 refine AD.perm (S':=⟨b7,153,5,gO (⟨bq p,dg,dh,cG,di,dj,cH⟩:aB)⟩::⟨b6,153,5,gO (⟨bn p L.length,cn,cq,cc,bK,bL,bA⟩:aB)⟩::⟨b,51,2,[aN (some ⟨I,0,none⟩) ((L.set i.toNat (⟨bn p L.length,cn,cq,cc,bK,bL,bA⟩:aB))++[(⟨bq p,dg,dh,cG,di,dj,cH⟩:aB)]).length E,ae root]⟩::(([⟨I,153,E*5,flatMap gO ((L.set i.toNat (⟨bn p L.length,cn,cq,cc,bK,bL,bA⟩:aB))++[(⟨bq p,dg,dh,cG,di,dj,cH⟩:aB)])⟩]:List ah)++((L.set i.toNat (⟨bn p L.length,cn,cq,cc,bK,bL,bA⟩:aB))++[(⟨bq p,dg,dh,cG,di,dj,cH⟩:aB)]).flatMap bO)) zE ?_;refine cu 8 rfl bj ?_;refine eD ?_;refine bg [4,5] ?_;refine aI (⟨b,51,2,[aN (some ⟨I,0,none⟩) ((L.set i.toNat (⟨bn p L.length,cn,cq,cc,bK,bL,bA⟩:aB))++[(⟨bq p,dg,dh,cG,di,dj,cH⟩:aB)]).length E,ae root]⟩::([⟨I,153,E*5,flatMap gO ((L.set i.toNat (⟨bn p L.length,cn,cq,cc,bK,bL,bA⟩:aB))++[(⟨bq p,dg,dh,cG,di,dj,cH⟩:aB)])⟩]++((L.set i.toNat (⟨bn p L.length,cn,cq,cc,bK,bL,bA⟩:aB))++[(⟨bq p,dg,dh,cG,di,dj,cH⟩:aB)]).flatMap bO)) ?_;refine⟨rfl,((L.set i.toNat (⟨bn p L.length,cn,cq,cc,bK,bL,bA⟩:aB))++[(⟨bq p,dg,dh,cG,di,dj,cH⟩:aB)]),some ⟨I,0,none⟩,E,[⟨I,153,E*5,flatMap gO ((L.set i.toNat (⟨bn p L.length,cn,cq,cc,bK,bL,bA⟩:aB))++[(⟨bq p,dg,dh,cG,di,dj,cH⟩:aB)])⟩],bJ U Z,fun x hx=>?_,?_,rfl⟩
 ·rcases mem_append.1 hx with hx|hx
  ·rcases mem_or_eq_of_mem_set hx with hx|rfl
   ·exact aT x hx
   exact⟨zA,zz⟩
  rw[mem_singleton] at hx;subst hx;exact⟨pA,zy⟩
 rw[map_append,map_set];rfl

def gZ(q:List α)(i:Nat)(a:α):List α:=q.take i++a::q.drop i
theorem yn{q:List α}{a:α}(hi:i≤q.length):(gZ q i a).length=q.length+1:=by unfold gZ;rw[length_append,length_take,length_cons,length_drop];omega
theorem Qt{q:List α}{a:α}:gZ q q.length a=q++[a]:=by unfold gZ;rw[take_length,drop_length]
theorem Ea{g:α→List D}(hg:∀a,(g a).length=1){q:List α}{a:α}:(gZ q i a).flatMap g=(q.flatMap g).take i++(g a++(q.flatMap g).drop i):=by
 have h1:=tc hg q i;have h2:=uz hg q i;rw[Nat.mul_one] at h1 h2;unfold gZ;rw[flatMap_append,flatMap_cons,h1,h2]
theorem DV{A ds:List D}{off:Nat}(hA:A.length=off)(hl:ds.length≤J.length):dc (A++J) off ds=A++(ds++J.drop ds.length):=by
 rw[vI _ _ _ vg,take_left' hA,append_assoc,←drop_drop,drop_left' hA]
theorem Qu{T R c:List D}(hT:T.length=i)(hc:c.length=1)(E:R.length+1≤J.length):T++(c++R) <+: dc (dc (T++J) i c) (i+1) R:=by
 rw[DV hT w4,show T++(c++J.drop c.length)=(T++c)++J.drop c.length from(append_assoc _ _ _).symm,DV (A:=T++c) vg (by rw[length_drop];omega)];exact⟨_,by simp only[append_assoc];rfl⟩
theorem RT{T R c:List D}(hT:T.length=i)(hc:c.length=1)(O:1≤J.length):T++(c++R) <+: dc (dc ((T++R)++J) (i+1) R) i c:=by
 obtain⟨E,I,hX,h1⟩:∃E I,R++J=E++I∧E.length=1:=⟨(R++J).take 1,(R++J).drop 1,(take_append_drop 1 _).symm,by rw[length_take,length_append];omega⟩
 have h2:R.length≤I.length:=(by have:=congrArg length hX;rw[length_append,length_append] at this;omega)
 have e1:(T++R)++J=(T++E)++I:=(by rw[append_assoc,hX,←append_assoc])
 have e2:(T++E)++(R++I.drop R.length)=T++(E++(R++I.drop R.length)):=append_assoc _ _ _;rw[e1,DV (A:=T++E) vg h2,e2,DV hT vg,drop_left' w4];exact⟨I.drop R.length,by simp only[append_assoc]⟩
theorem pX(n:Nat)(x:α):(replicate n x).length=n:=length_replicate
theorem DI:(Tryz.prog.info? 88).map (fun i=>i.size)=some 1:=by kernel_rfl
theorem Hu:(Tryz.prog.info? 88).map (fun i=>(i.zero,i.size,i.bytes))=some (some (.slice none 0 0),1,24):=by kernel_rfl
theorem YO(q:List K)(i:Nat)(a:K)(cap b bv:Nat)(hi:i≤q.length)(hc:q.length≤cap)(hm:cap≤maxLen)(hs:q.length≤1000):VC Tryz.prog G 124 [aN (some ⟨b,0,none⟩) q.length cap,ae (i:Nat),aN (some ⟨bv,0,none⟩) 1 1] [⟨bv,88,1*1,cK a⟩,⟨b,88,cap*1,q.flatMap cK⟩] (fun r S=>∃ad ku,r=aN ad (q.length+1) ku∧bw 88 1 ((gZ q i a).flatMap cK) (gZ q i a).length ad ku S):=by
 refine VC.body func124 rfl ntmps124 aO fun X0 w0 aY=>?_;refine af [0,1,2] ?_;refine aC 2 ?_;refine bQ (eu (l:=i) rfl ot ⟨_,ot⟩ trivial tN) ?_;refine an 95 [0,1,2] ?_;refine af [0,1,2,7] ?_;refine af [0,1,2,7,16] ?_;refine au ?_ ?_<;>intro aP bF
 ·exact absurd aP (by simp at *)
 refine af [0,1,2,7,8] ?_;refine af [0,1,2,7,8,22] ?_;refine au ?_ ?_<;>intro aX cJ
 ·obtain rfl:i=q.length:=(by simp at *;omega)
  refine aC 2 ?_;refine fB 0 24 1 1 ?_;refine OD.ev (ls:=q) (new:=[a]) (Sq:=[⟨b,88,cap*1,q.flatMap cK⟩]) ga pn ap rfl rfl underlying151 Hu rfl w7 ot (bJ hc hm) (dI (A:=[])) ot bu vl hU (fun xO Cb K4 K5=>?_);refine OD.perm (ee (S1:=[⟨xO,88,Cb*1,flatMap cK (q++[a])⟩]) (A:=[])) ?_;refine an 95 [6] ?_;refine aI [⟨xO,88,Cb*1,flatMap cK (q++[a])⟩] ?_;exact⟨_,_,by rw[length_append];rfl,by rw[Qt];exact bJ K4 K5⟩
 have aa:i<q.length:=(by omega)
 have hQ:(q.flatMap cK).length=q.length:=(by rw[cy ga];omega)
 have Z:((q.flatMap cK).take i).length=i:=(by rw[length_take];omega)
 have U:((q.flatMap cK).drop i).length=q.length-i:=(by rw[length_drop];omega)
 have jF:∀d∈(q.flatMap cK),V.one d=true:=tq pn _;refine cR [0,1,2,7,8,31] ?_;refine aR 4 ?_ (h:=by exact(D2 rfl rfl ot runUnderlying151));refine bH ?_;refine au ?_ ?_<;>intro cr cU
 ·have I:eI cap (i) 1 0=i:=(by unfold eI;rw[if_neg w4];omega)
  have rF:Nat.min (q.length-i) (q.length+1-(i+1))=q.length-i:=Nat.min_eq_left w4;refine aC 2 ?_;refine bQ (eu (l:=0) (h:=i) rfl ot trivial ⟨_,ot⟩ Lm) ?_;refine aE 5 ?_;refine OD.Rl (n:=i) (m:=q.length+1-i) (k:=1) ap rfl rfl underlying151 underlying3 Hu rfl ot rfl rfl (by show i≤(q.flatMap cK).length;omega) (Eq.trans ot (congrArg (fun z=>D.v (.int .i64 z)) (show((q.length:Int)+(1:Nat)-(i:Int))=((q.length+1-i:Nat):Int) by omega))) w4 w4 FD w4 (fun Cp E Cc K6=>?_);have jW:i+(q.length+1-i)=q.length+1:=(by omega)
  rw[jW] at Cc ⊢;refine an 95 [0,1,2,7,9] ?_;refine aC 2 ?_;refine bQ (eu (l:=i) (h:=q.length+1) rfl ot ⟨_,ot⟩ trivial tN) ?_;have vv:eI E (i) 1 0=i:=(by unfold eI;rw[if_neg w4];omega)
  rw[vv];refine aE 1 ?_;have O:eI E (i+1) 1 0=i+1:=(by unfold eI;rw[if_neg w4];omega)
  refine OD.wk (Wk.toEnd (k:=0) rfl) ?_;refine OD.copy (k:=0) (k2:=1) (od:=i) (new:=cK a) (cs':=dc ((q.flatMap cK).take i++replicate (E*1-((q.flatMap cK).take i).length) D.bV) i (cK a)) ap rfl rfl underlying151 DI ot rfl rfl ot rfl rfl (by show take (Nat.min 1 (q.length+1-i)) (cK a)=_;rw[show Nat.min 1 (q.length+1-i)=1 from Nat.min_eq_left w4];rfl) (Nat.min_eq_left (by omega:1≤q.length+1-i)).symm (fun d hd=>all_eq_true.1 (pn a) d hd) (by show i+1≤((q.flatMap cK).take i++replicate (E*1-((q.flatMap cK).take i).length) D.bV).length;rw[length_append,pX,Z];omega) rfl ?_;refine an 95 [0,1,7,9] ?_;refine CD.seq ?_;refine l9 8 [9,50,53] ?_;refine aR 4 ?_ (h:=by exact(eu (l:=i+1) (h:=q.length+1) rfl ot ⟨_,ot⟩ trivial tN));refine aR 2 ?_ (h:=by exact(eu (l:=i) (h:=q.length) rfl ot ⟨_,ot⟩ trivial tN));refine jX ?_
  refine OD.copy (k:=0) (k2:=2) (od:=eI E (i+1) 1 0) (oy:=eI cap i 1 0) (new:=(q.flatMap cK).drop i) (cs':=dc (dc ((q.flatMap cK).take i++replicate (E*1-((q.flatMap cK).take i).length) D.bV) i (cK a)) (i+1) ((q.flatMap cK).drop i)) ap rfl rfl underlying151 DI ot rfl rfl ot rfl rfl (by show take (Nat.min (q.length-i) (q.length+1-(i+1))) (drop (eI cap i 1 0) (q.flatMap cK))=_;rw[I,rF,take_of_length_le w4]) (by show _=Nat.min (q.length-i) (q.length+1-(i+1));rw[rF,U]) (fun d hd=>jF d (mem_of_mem_drop hd)) (by show eI E (i+1) 1 0+_≤(dc ((q.flatMap cK).take i++replicate (E*1-((q.flatMap cK).take i).length) D.bV) i (cK a)).length;rw[O,U,x6,length_append,pX,Z];omega) (by show dc (dc ((q.flatMap cK).take i++replicate (E*1-((q.flatMap cK).take i).length) D.bV) i (cK a)) (eI E (i+1) 1 0) _=_;rw[O]) ?_;refine an 95 [9] ?_;refine aC 1 ?_;refine OD.shrink (k:=0) (cs':=(gZ q i a).flatMap cK) rfl (by rw[Ea ga];exact Qu Z rfl (by rw[pX,U,Z];omega)) ?_;refine an 95 [6] ?_;refine aI [⟨Cp,88,E*1,(gZ q i a).flatMap cK⟩] ?_;exact⟨_,_,rfl,bJ (by rw[yn hi];exact Cc) K6⟩
 have I:eI cap (i) 1 0=i:=(by unfold eI;rw[if_neg w4];omega)
 have O:eI cap (i+1) 1 0=i+1:=(by unfold eI;rw[if_neg w4];omega)
 have rF:Nat.min (q.length+1-i) (q.length+1-(i+1))=q.length-i:=(by rw[show q.length+1-(i+1)=q.length-i from by omega];exact Nat.min_eq_right w4)
 refine cR [0,1,2,7,8] ?_;refine aR 4 ?_ (h:=by exact(eu (l:=0) (h:=q.length+1) rfl ot trivial ⟨_,ot⟩ Lm));refine bH ?_;refine aC 5 ?_;refine bQ (eu (l:=i+1) (h:=q.length+1) rfl ot ⟨_,ot⟩ trivial tN) ?_;refine OD.wk (Wk.toEnd (k:=1) rfl) ?_;refine OD.overlaps (r:=4) (k:=0) (k2:=1) ap rfl rfl func146 aA aA aA aA underlying151 sizeOf88 ot rfl rfl ot rfl rfl w7 (by show cap*1≠0;omega) ?_;refine an 95 [0,1,2,7,8,68] ?_;refine au ?_ ?_<;>intro cX ec
 ·refine CD.seq ?_;refine l9 8 [0,1,2,73,76] ?_;refine aR 4 ?_ (h:=by exact(eu (l:=i+1) (h:=q.length+1) rfl ot ⟨_,ot⟩ trivial tN));refine aR 2 ?_ (h:=by exact(eu (l:=i) (h:=q.length+1) rfl ot ⟨_,ot⟩ trivial tN));refine jX ?_;refine OD.copy (k:=1) (k2:=1) (od:=eI cap (i+1) 1 0) (oy:=eI cap i 1 0) (new:=(q.flatMap cK).drop i) (cs':=dc ((q.flatMap cK)++replicate (cap*1-(q.flatMap cK).length) D.bV) (i+1) ((q.flatMap cK).drop i)) ap rfl rfl underlying151 DI ot rfl rfl ot rfl rfl (by show take (Nat.min (q.length+1-i) (q.length+1-(i+1))) (drop (eI cap i 1 0) ((q.flatMap cK)++replicate (cap*1-(q.flatMap cK).length) D.bV))=_;rw[I,rF,drop_append_of_le_length w4,take_left' U]) (by show _=Nat.min (q.length+1-i) (q.length+1-(i+1));rw[rF,U]) (fun d hd=>jF d (mem_of_mem_drop hd)) (by show eI cap (i+1) 1 0+_≤((q.flatMap cK)++replicate (cap*1-(q.flatMap cK).length) D.bV).length;rw[O,U,length_append,pX,hQ];omega) (by show dc ((q.flatMap cK)++replicate (cap*1-(q.flatMap cK).length) D.bV) (eI cap (i+1) 1 0) _=_;rw[O]) ?_;refine an 95 [0,1,2] ?_;refine aC 2 ?_;refine bQ (eu (l:=i) (h:=q.length+1) rfl ot ⟨_,ot⟩ trivial tN) ?_;refine aE 1 ?_
  refine OD.copy (k:=1) (k2:=0) (od:=eI cap i 1 0) (new:=cK a) (cs':=dc (dc ((q.flatMap cK)++replicate (cap*1-(q.flatMap cK).length) D.bV) (i+1) ((q.flatMap cK).drop i)) i (cK a)) ap rfl rfl underlying151 DI ot rfl rfl ot rfl rfl (by show take (Nat.min 1 (q.length+1-i)) (cK a)=_;rw[show Nat.min 1 (q.length+1-i)=1 from Nat.min_eq_left w4];rfl) (Nat.min_eq_left (by omega:1≤q.length+1-i)).symm (fun d hd=>all_eq_true.1 (pn a) d hd) (by show eI cap i 1 0+1≤(dc ((q.flatMap cK)++replicate (cap*1-(q.flatMap cK).length) D.bV) (i+1) ((q.flatMap cK).drop i)).length;rw[I,x6,length_append,pX,hQ];omega) (by show dc (dc ((q.flatMap cK)++replicate (cap*1-(q.flatMap cK).length) D.bV) (i+1) ((q.flatMap cK).drop i)) (eI cap i 1 0) _=_;rw[I]) ?_;refine an 95 [0] ?_;refine aC 1 ?_;refine OD.shrink (k:=1) (cs':=(gZ q i a).flatMap cK) rfl (by rw[Ea ga];show _ <+: dc (dc ((q.flatMap cK)++_) (i+1) ((q.flatMap cK).drop i)) i (cK a);rw[show(q.flatMap cK)++replicate (cap*1-(q.flatMap cK).length) D.bV=((q.flatMap cK).take i++(q.flatMap cK).drop i)++replicate (cap*1-(q.flatMap cK).length) D.bV from by rw[take_append_drop]];exact RT Z rfl (by rw[pX,hQ];omega)) ?_;refine an 95 [6] ?_;refine aI [⟨b,88,cap*1,(gZ q i a).flatMap cK⟩] ?_;exact⟨_,_,rfl,bJ (by rw[yn hi];omega) hm⟩
 exact absurd cX (by simp at *)
theorem DJ:(Tryz.prog.info? 3).map (fun i=>i.size)=some 1:=by kernel_rfl
theorem HR:(Tryz.prog.info? 3).map (fun i=>(i.zero,i.size,i.bytes))=some (some (.int .i64 0),1,8):=by kernel_rfl
theorem YP(q:List Int)(i:Nat)(a:Int)(cap b bv:Nat)(hi:i≤q.length)(hc:q.length≤cap)(hm:cap≤maxLen)(hs:q.length≤1000):VC Tryz.prog G 125 [aN (some ⟨b,0,none⟩) q.length cap,ae (i:Nat),aN (some ⟨bv,0,none⟩) 1 1] [⟨bv,3,1*1,cI a⟩,⟨b,3,cap*1,q.flatMap cI⟩] (fun r S=>∃ad ku,r=aN ad (q.length+1) ku∧bw 3 1 ((gZ q i a).flatMap cI) (gZ q i a).length ad ku S):=by
 refine VC.body func125 rfl ntmps125 aO fun X0 w0 aY=>?_;refine af [0,1,2] ?_;refine aC 2 ?_;refine bQ (eu (l:=i) rfl ot ⟨_,ot⟩ trivial tO) ?_;refine an 95 [0,1,2] ?_;refine af [0,1,2,7] ?_;refine af [0,1,2,7,16] ?_;refine au ?_ ?_<;>intro aP bF
 ·exact absurd aP (by simp at *)
 refine af [0,1,2,7,8] ?_;refine af [0,1,2,7,8,22] ?_;refine au ?_ ?_<;>intro aX cJ
 ·obtain rfl:i=q.length:=(by simp at *;omega)
  refine aC 2 ?_;refine fB 0 24 1 1 ?_;refine OD.ev (ls:=q) (new:=[a]) (Sq:=[⟨b,3,cap*1,q.flatMap cI⟩]) eA nu ap rfl rfl underlying67 HR rfl w7 ot (bJ hc hm) (dI (A:=[])) ot bu vl hU (fun xO Cb K4 K5=>?_);refine OD.perm (ee (S1:=[⟨xO,3,Cb*1,flatMap cI (q++[a])⟩]) (A:=[])) ?_;refine an 95 [6] ?_;refine aI [⟨xO,3,Cb*1,flatMap cI (q++[a])⟩] ?_;exact⟨_,_,by rw[length_append];rfl,by rw[Qt];exact bJ K4 K5⟩
 have aa:i<q.length:=(by omega)
 have hQ:(q.flatMap cI).length=q.length:=(by rw[cy eA];omega)
 have Z:((q.flatMap cI).take i).length=i:=(by rw[length_take];omega)
 have U:((q.flatMap cI).drop i).length=q.length-i:=(by rw[length_drop];omega)
 have jF:∀d∈(q.flatMap cI),V.one d=true:=tq nu _;refine cR [0,1,2,7,8,31] ?_;refine aR 4 ?_ (h:=by exact(D2 rfl rfl ot runUnderlying67));refine bH ?_;refine au ?_ ?_<;>intro cr cU
 ·have I:eI cap (i) 1 0=i:=(by unfold eI;rw[if_neg w4];omega)
  have rF:Nat.min (q.length-i) (q.length+1-(i+1))=q.length-i:=Nat.min_eq_left w4;refine aC 2 ?_;refine bQ (eu (l:=0) (h:=i) rfl ot trivial ⟨_,ot⟩ Ln) ?_;refine aE 5 ?_;refine OD.Rl (n:=i) (m:=q.length+1-i) (k:=1) ap rfl rfl underlying67 underlying3 HR rfl ot rfl rfl (by show i≤(q.flatMap cI).length;omega) (Eq.trans ot (congrArg (fun z=>D.v (.int .i64 z)) (show((q.length:Int)+(1:Nat)-(i:Int))=((q.length+1-i:Nat):Int) by omega))) w4 w4 FD w4 (fun Cp E Cc K6=>?_);have jW:i+(q.length+1-i)=q.length+1:=(by omega)
  rw[jW] at Cc ⊢;refine an 95 [0,1,2,7,9] ?_;refine aC 2 ?_;refine bQ (eu (l:=i) (h:=q.length+1) rfl ot ⟨_,ot⟩ trivial tO) ?_;have vv:eI E (i) 1 0=i:=(by unfold eI;rw[if_neg w4];omega)
  rw[vv];refine aE 1 ?_;have O:eI E (i+1) 1 0=i+1:=(by unfold eI;rw[if_neg w4];omega)
  refine OD.wk (Wk.toEnd (k:=0) rfl) ?_;refine OD.copy (k:=0) (k2:=1) (od:=i) (new:=cI a) (cs':=dc ((q.flatMap cI).take i++replicate (E*1-((q.flatMap cI).take i).length) D.bV) i (cI a)) ap rfl rfl underlying67 DJ ot rfl rfl ot rfl rfl (by show take (Nat.min 1 (q.length+1-i)) (cI a)=_;rw[show Nat.min 1 (q.length+1-i)=1 from Nat.min_eq_left w4];rfl) (Nat.min_eq_left (by omega:1≤q.length+1-i)).symm (fun d hd=>all_eq_true.1 (nu a) d hd) (by show i+1≤((q.flatMap cI).take i++replicate (E*1-((q.flatMap cI).take i).length) D.bV).length;rw[length_append,pX,Z];omega) rfl ?_;refine an 95 [0,1,7,9] ?_;refine CD.seq ?_;refine l9 8 [9,50,53] ?_;refine aR 4 ?_ (h:=by exact(eu (l:=i+1) (h:=q.length+1) rfl ot ⟨_,ot⟩ trivial tO));refine aR 2 ?_ (h:=by exact(eu (l:=i) (h:=q.length) rfl ot ⟨_,ot⟩ trivial tO));refine jX ?_
  refine OD.copy (k:=0) (k2:=2) (od:=eI E (i+1) 1 0) (oy:=eI cap i 1 0) (new:=(q.flatMap cI).drop i) (cs':=dc (dc ((q.flatMap cI).take i++replicate (E*1-((q.flatMap cI).take i).length) D.bV) i (cI a)) (i+1) ((q.flatMap cI).drop i)) ap rfl rfl underlying67 DJ ot rfl rfl ot rfl rfl (by show take (Nat.min (q.length-i) (q.length+1-(i+1))) (drop (eI cap i 1 0) (q.flatMap cI))=_;rw[I,rF,take_of_length_le w4]) (by show _=Nat.min (q.length-i) (q.length+1-(i+1));rw[rF,U]) (fun d hd=>jF d (mem_of_mem_drop hd)) (by show eI E (i+1) 1 0+_≤(dc ((q.flatMap cI).take i++replicate (E*1-((q.flatMap cI).take i).length) D.bV) i (cI a)).length;rw[O,U,x6,length_append,pX,Z];omega) (by show dc (dc ((q.flatMap cI).take i++replicate (E*1-((q.flatMap cI).take i).length) D.bV) i (cI a)) (eI E (i+1) 1 0) _=_;rw[O]) ?_;refine an 95 [9] ?_;refine aC 1 ?_;refine OD.shrink (k:=0) (cs':=(gZ q i a).flatMap cI) rfl (by rw[Ea eA];exact Qu Z rfl (by rw[pX,U,Z];omega)) ?_;refine an 95 [6] ?_;refine aI [⟨Cp,3,E*1,(gZ q i a).flatMap cI⟩] ?_;exact⟨_,_,rfl,bJ (by rw[yn hi];exact Cc) K6⟩
 have I:eI cap (i) 1 0=i:=(by unfold eI;rw[if_neg w4];omega)
 have O:eI cap (i+1) 1 0=i+1:=(by unfold eI;rw[if_neg w4];omega)
 have rF:Nat.min (q.length+1-i) (q.length+1-(i+1))=q.length-i:=(by rw[show q.length+1-(i+1)=q.length-i from by omega];exact Nat.min_eq_right w4)
 refine cR [0,1,2,7,8] ?_;refine aR 4 ?_ (h:=by exact(eu (l:=0) (h:=q.length+1) rfl ot trivial ⟨_,ot⟩ Ln));refine bH ?_;refine aC 5 ?_;refine bQ (eu (l:=i+1) (h:=q.length+1) rfl ot ⟨_,ot⟩ trivial tO) ?_;refine OD.wk (Wk.toEnd (k:=1) rfl) ?_;refine OD.overlaps (r:=4) (k:=0) (k2:=1) ap rfl rfl func148 aA aA aA aA underlying67 sizeOf3 ot rfl rfl ot rfl rfl w7 (by show cap*1≠0;omega) ?_;refine an 95 [0,1,2,7,8,68] ?_;refine au ?_ ?_<;>intro cX ec
 ·refine CD.seq ?_;refine l9 8 [0,1,2,73,76] ?_;refine aR 4 ?_ (h:=by exact(eu (l:=i+1) (h:=q.length+1) rfl ot ⟨_,ot⟩ trivial tO));refine aR 2 ?_ (h:=by exact(eu (l:=i) (h:=q.length+1) rfl ot ⟨_,ot⟩ trivial tO));refine jX ?_;refine OD.copy (k:=1) (k2:=1) (od:=eI cap (i+1) 1 0) (oy:=eI cap i 1 0) (new:=(q.flatMap cI).drop i) (cs':=dc ((q.flatMap cI)++replicate (cap*1-(q.flatMap cI).length) D.bV) (i+1) ((q.flatMap cI).drop i)) ap rfl rfl underlying67 DJ ot rfl rfl ot rfl rfl (by show take (Nat.min (q.length+1-i) (q.length+1-(i+1))) (drop (eI cap i 1 0) ((q.flatMap cI)++replicate (cap*1-(q.flatMap cI).length) D.bV))=_;rw[I,rF,drop_append_of_le_length w4,take_left' U]) (by show _=Nat.min (q.length+1-i) (q.length+1-(i+1));rw[rF,U]) (fun d hd=>jF d (mem_of_mem_drop hd)) (by show eI cap (i+1) 1 0+_≤((q.flatMap cI)++replicate (cap*1-(q.flatMap cI).length) D.bV).length;rw[O,U,length_append,pX,hQ];omega) (by show dc ((q.flatMap cI)++replicate (cap*1-(q.flatMap cI).length) D.bV) (eI cap (i+1) 1 0) _=_;rw[O]) ?_;refine an 95 [0,1,2] ?_;refine aC 2 ?_;refine bQ (eu (l:=i) (h:=q.length+1) rfl ot ⟨_,ot⟩ trivial tO) ?_;refine aE 1 ?_
  refine OD.copy (k:=1) (k2:=0) (od:=eI cap i 1 0) (new:=cI a) (cs':=dc (dc ((q.flatMap cI)++replicate (cap*1-(q.flatMap cI).length) D.bV) (i+1) ((q.flatMap cI).drop i)) i (cI a)) ap rfl rfl underlying67 DJ ot rfl rfl ot rfl rfl (by show take (Nat.min 1 (q.length+1-i)) (cI a)=_;rw[show Nat.min 1 (q.length+1-i)=1 from Nat.min_eq_left w4];rfl) (Nat.min_eq_left (by omega:1≤q.length+1-i)).symm (fun d hd=>all_eq_true.1 (nu a) d hd) (by show eI cap i 1 0+1≤(dc ((q.flatMap cI)++replicate (cap*1-(q.flatMap cI).length) D.bV) (i+1) ((q.flatMap cI).drop i)).length;rw[I,x6,length_append,pX,hQ];omega) (by show dc (dc ((q.flatMap cI)++replicate (cap*1-(q.flatMap cI).length) D.bV) (i+1) ((q.flatMap cI).drop i)) (eI cap i 1 0) _=_;rw[I]) ?_;refine an 95 [0] ?_;refine aC 1 ?_;refine OD.shrink (k:=1) (cs':=(gZ q i a).flatMap cI) rfl (by rw[Ea eA];show _ <+: dc (dc ((q.flatMap cI)++_) (i+1) ((q.flatMap cI).drop i)) i (cI a);rw[show(q.flatMap cI)++replicate (cap*1-(q.flatMap cI).length) D.bV=((q.flatMap cI).take i++(q.flatMap cI).drop i)++replicate (cap*1-(q.flatMap cI).length) D.bV from by rw[take_append_drop]];exact RT Z rfl (by rw[pX,hQ];omega)) ?_;refine an 95 [6] ?_;refine aI [⟨b,3,cap*1,(gZ q i a).flatMap cI⟩] ?_;exact⟨_,_,rfl,bJ (by rw[yn hi];omega) hm⟩
 exact absurd cX (by simp at *)
theorem aad(a:K)(bv:Nat):VC Tryz.prog G 124 [bB,ae (0:Nat),aN (some ⟨bv,0,none⟩) 1 1] [⟨bv,88,1*1,cK a⟩] (fun r S=>∃ad E,r=aN ad 1 E∧bw 88 1 ((gZ ([]:List K) 0 a).flatMap cK) (gZ ([]:List K) 0 a).length ad E S):=by
 refine VC.body func124 rfl ntmps124 aO fun X0 w0 aY=>?_;refine af [0,1,2] ?_;refine aC 2 ?_;refine bQ (DL rfl ot ⟨_,_,ot,rfl⟩ rfl runUnderlying151 sizeOf88) ?_;refine an 95 [0,1,2] ?_;refine af [0,1,2,7] ?_;refine af [0,1,2,7,16] ?_;refine au ?_ ?_<;>intro aP bF
 ·exact absurd aP (by simp at *)
 refine af [0,1,2,7,8] ?_;refine af [0,1,2,7,8,22] ?_;refine au ?_ ?_<;>intro aX cJ
 ·refine aC 2 ?_;refine fB 0 24 1 1 ?_;refine OD.ev (ls:=([]:List K)) (new:=[a]) (Sq:=[]) ga pn ap rfl rfl underlying151 Hu rfl w7 ot iK (dI (A:=[])) ot bu (by simp[maxLen]) bu (fun O I U Z=>?_);refine OD.perm (ee (S1:=[⟨O,88,I*1,flatMap cK (([]:List K)++[a])⟩]) (A:=[])) ?_;refine an 95 [6] ?_;refine aI [⟨O,88,I*1,flatMap cK (([]:List K)++[a])⟩] ?_;exact⟨_,_,rfl,bJ U Z⟩
 exact absurd aX (by simp at *)
theorem YQ(q:List K)(i:Nat)(a:K)(ad:Option Addr)(cap:Nat)(Sq:List ah)(I:Nat)(hi:i≤q.length)(hs:q.length≤1000)(ho:bw 88 1 (q.flatMap cK) q.length ad cap Sq):VC Tryz.prog G 124 [aN ad q.length cap,ae (i:Nat),aN (some ⟨I,0,none⟩) 1 1] (⟨I,88,1*1,cK a⟩::Sq) (fun r S=>∃ad E,r=aN ad (q.length+1) E∧bw 88 1 ((gZ q i a).flatMap cK) (gZ q i a).length ad E S):=by
 rcases ho with ⟨h1,h2,rfl,rfl,rfl⟩|⟨b,rfl,h1,h2,rfl⟩
 ·obtain rfl:=length_eq_zero_iff.1 h1;obtain rfl:i=0:=Nat.le_zero.1 hi;exact aad a I
 exact YO q i a cap b I hi h1 h2 hs
theorem aae(a:Int)(bv:Nat):VC Tryz.prog G 125 [bB,ae (0:Nat),aN (some ⟨bv,0,none⟩) 1 1] [⟨bv,3,1*1,cI a⟩] (fun r S=>∃ad E,r=aN ad 1 E∧bw 3 1 ((gZ ([]:List Int) 0 a).flatMap cI) (gZ ([]:List Int) 0 a).length ad E S):=by
 refine VC.body func125 rfl ntmps125 aO fun X0 w0 aY=>?_;refine af [0,1,2] ?_;refine aC 2 ?_;refine bQ (DL rfl ot ⟨_,_,ot,rfl⟩ rfl runUnderlying67 sizeOf3) ?_;refine an 95 [0,1,2] ?_;refine af [0,1,2,7] ?_;refine af [0,1,2,7,16] ?_;refine au ?_ ?_<;>intro aP bF
 ·exact absurd aP (by simp at *)
 refine af [0,1,2,7,8] ?_;refine af [0,1,2,7,8,22] ?_;refine au ?_ ?_<;>intro aX cJ
 ·refine aC 2 ?_;refine fB 0 24 1 1 ?_;refine OD.ev (ls:=([]:List Int)) (new:=[a]) (Sq:=[]) eA nu ap rfl rfl underlying67 HR rfl w7 ot iK (dI (A:=[])) ot bu (by simp[maxLen]) bu (fun O I U Z=>?_);refine OD.perm (ee (S1:=[⟨O,3,I*1,flatMap cI (([]:List Int)++[a])⟩]) (A:=[])) ?_;refine an 95 [6] ?_;refine aI [⟨O,3,I*1,flatMap cI (([]:List Int)++[a])⟩] ?_;exact⟨_,_,rfl,bJ U Z⟩
 exact absurd aX (by simp at *)
theorem YR(q:List Int)(i:Nat)(a:Int)(ad:Option Addr)(cap:Nat)(Sq:List ah)(I:Nat)(hi:i≤q.length)(hs:q.length≤1000)(ho:bw 3 1 (q.flatMap cI) q.length ad cap Sq):VC Tryz.prog G 125 [aN ad q.length cap,ae (i:Nat),aN (some ⟨I,0,none⟩) 1 1] (⟨I,3,1*1,cI a⟩::Sq) (fun r S=>∃ad E,r=aN ad (q.length+1) E∧bw 3 1 ((gZ q i a).flatMap cI) (gZ q i a).length ad E S):=by
 rcases ho with ⟨h1,h2,rfl,rfl,rfl⟩|⟨b,rfl,h1,h2,rfl⟩
 ·obtain rfl:=length_eq_zero_iff.1 h1;obtain rfl:i=0:=Nat.le_zero.1 hi;exact aae a I
 exact YP q i a cap b I hi h1 h2 hs

end Go.Proofs.YtdgichenhdikgaaGreatDoor.Tw
