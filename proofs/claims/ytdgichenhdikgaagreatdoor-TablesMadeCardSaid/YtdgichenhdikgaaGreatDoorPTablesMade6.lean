/-
  What the proof of TablesMade leans on, part 6 of 9: walks of the program's functions at the level of values, and plain facts of what they compute.
-/
import Derived.Test.YtdgichenhdikgaaGreatDoorPTablesMade5
set_option linter.unusedVariables false
set_option linter.unusedSimpArgs false
set_option maxRecDepth 100000
set_option maxHeartbeats 4000000
namespace Go.Proofs.YtdgichenhdikgaaGreatDoor.Tw
open List
open Go.Proofs.Tryz
open Go.RowKit V Tr Pk
open Go.Lib (compareBytes)
variable {p:cX}
def iy(t:aF)(k:K)(h:Nat):Bool:=mZ (t.pg (aH t k h t.root)).keys k
theorem D3{t:aF}{h:Nat}(v:Valid t h)(k:K):iy t k h=true↔Bh t k h:=by
 unfold iy mZ Bh;have hl:=(v.leaf k).2;have fQ:aO (t.pg (aH t k h t.root)) k=gB (t.pg (aH t k h t.root)).keys k:=(by unfold aO;rw[if_pos hl])
 rw[fQ,decide_eq_true_iff,List.getElem?_eq_some_iff]
theorem SC{k:K}(hl:p.leaf=true)(ha:aO p k<p.keys.length):decide (p.keys[aO p k]=k)=mZ p.keys k:=by
 unfold mZ;have fQ:aO p k=gB p.keys k:=(by unfold aO;rw[if_pos hl])
 simp only[fQ] at ha ⊢;rw[getElem?_eq_getElem ha];simp
theorem SD{k:K}(hl:p.leaf=true)(ha:¬aO p k<p.keys.length):false=mZ p.keys k:=by
 unfold mZ;have fQ:aO p k=gB p.keys k:=(by unfold aO;rw[if_pos hl])
 rw[fQ] at ha;rw[getElem?_eq_none w4];rfl
theorem adP{t:aF}{k:K}{h:Nat}{i:Int}:∃(hn:(jf t k h i).length-1<(jf t k h i).length),(jf t k h i)[(jf t k h i).length-1]=aH t k h i:=by
 have h1:=Pb t k h i;rw[getLast?_eq_getElem?] at h1;exact List.getElem?_eq_some_iff.1 h1
variable {G:List (Nat×List Value)}
theorem QO{n:Int}(hp:eL p n)(k:K):aO p k≤p.keys.length:=by
 unfold aO;split
 ·exact yx _ _
 exact AT _ _
theorem ED(t:aF)(k:K):∀(h:Nat) (i:Int),(jf t k h i).length=h+1
 | 0,i=>rfl
 | h+1,i=>by rw[jf,length_cons,ED t k h]
theorem pu(t:aF)(h:Nat)(v:Valid t h)(k:K)(dY:k.length≤maxLen)(U:(jf t k h t.root).length≤1000000):VP Tryz.prog G 94 [.agg (cT t),av 1 cB k] (.dF [ae (aH t k h t.root),ae (aO (t.pg (aH t k h t.root)) k:Nat),cg (iy t k h)]):=by
 refine VC.body func94 rfl ntmps94 aS fun X0 w0 aZ=>?_;unfold cT;have da:=dW;have qA:=adO (G:=G) t h v k;unfold cT at qA;obtain⟨gj,Z⟩:=adP (t:=t) (k:=k) (h:=h) (i:=t.root);obtain⟨q1,Kl⟩:=v.leaf k;have aa:(aH t k h t.root).toNat<t.ag.length:=(by omega)
 have I:t.pg (aH t k h t.root)=(t.ag[(aH t k h t.root).toNat]'aa):=u6 q1;have po:=v.fF _ (jB q1);have Nn:=v.nJ;have Vu:(jf t k h t.root).length≤1000000:=U;have aji:=IG (G:=G) (t.pg (aH t k h t.root)) k po.jS (by have:=po.eD;omega);have ajj:VP Tryz.prog G 123 [.agg (cP (t.ag[(aH t k h t.root).toNat]'aa)),av 1 cB k] (ae (aO (t.ag[(aH t k h t.root).toNat]'aa) k:Nat)):=(by rw[←I];exact aji)
 have ajk:∀x∈(t.ag[(aH t k h t.root).toNat]'aa).keys,x.length≤maxLen:=fun x hx=>by rw[←I] at hx;have:=(po.lq x hx).2;omega
 have E:(t.ag[(aH t k h t.root).toNat]'aa).leaf=true:=(by rw[←I];exact Kl)
 have O:iy t k h=mZ (t.ag[(aH t k h t.root).toNat]'aa).keys k:=(by unfold iy;rw[I])
 have mI:=po.eD;have ajl:=(QO po k)
 rw[I] at mI ajl;refine bY ?_;refine OD.box (ds:=[_,_]) ap rfl rfl ot rfl rfl (fun b2=>?_);refine an 42 [1,2] ?_;refine cH [1,2,7] (qA) ?_;refine cQ [1,2,4] ?_;refine aU 4 ?_ (h:=by exact(dm 1 (h:=by first|exact .l (j:=(jf t k h t.root).length-1) w4 gj|exact .r (j:=(jf t k h t.root).length-1) w4 gj)));refine aU 0 ?_ (h:=by exact(cR (mk:=Op.load 3) rfl ot (qf (d:=ae (aH t k h t.root)) (i:=(jf t k h t.root).length-1) eI isAgg3 gj (by rw[Z];rfl))));refine bG ?_;refine aD 5 ?_;refine OD.alloc (ds:=[_,_,_,_,_]) ap rfl rfl zeroValue153 rfl (fun b8=>?_);refine aP 0 [_,_,_,_,_] sizeOf153 ?_;refine an 42 [1,4,8] ?_;refine cH [1,4,5,8] (ajj) ?_;refine aD 8 ?_;refine bX 33 (fun ajm agW=>?_) (fun ajm agW=>?_)
 ·refine aE 6 ?_;refine OD.gZ iu rfl rfl rfl call133 (Us ((t.ag[(aH t k h t.root).toNat]'aa).keys[aO (t.ag[(aH t k h t.root).toNat]'aa) k]'w4) k (ajk _ (getElem_mem _)) dY) ⟨ot,ot,trivial⟩ ?_;refine an 42 [4,5,6] ?_;refine aJ [] ?_;rw[O,I];first|exact⟨by rw[SC E w4],rfl⟩|exact⟨by rw[←SD E w4],rfl⟩
 refine bg [4,5,6] ?_;refine aJ [] ?_;rw[O,I];first|exact⟨by rw[SC E w4],rfl⟩|exact⟨by rw[←SD E w4],rfl⟩

end Go.Proofs.YtdgichenhdikgaaGreatDoor.Tw
namespace Go.Proofs.YtdgichenhdikgaaGreatDoor.Tw
open List
open Go.Proofs.Tryz
open Go.RowKit V Tr Pk
abbrev lM(ls:List Int)(ad:Option Addr)(cap:Nat)(S:List ah):Prop:=bz 3 1 (ls.flatMap cI) ls.length ad cap S
abbrev oL(ls:List K)(ad:Option Addr)(cap:Nat)(S:List ah):Prop:=bz 88 1 (ls.flatMap cK) ls.length ad cap S
variable {G:List (Nat×List Value)}
theorem aay:(Tryz.prog.info? 5).map (fun i=>(i.zero,i.size,i.bytes))=some (some (.int .u8 0),1,1):=by kernel_rfl
theorem jW(a:List UInt8)(ha:a.length≤1000000):VP Tryz.prog G 95 [av 1 cB a] (av 1 cB a):=by
 refine VC.body func95 rfl ntmps95 aS fun X0 w0 aZ=>?_;have da:=dW;refine af [0] ?_;refine aD 1 ?_;refine OD.yX ap rfl rfl ot bL underlying88 (fun O xE=>?_);refine an 8 [0,4] ?_;refine au ?_ ?_<;>intro aN bC
 ·exact WG
 refine bY ?_;refine OD.yY ap rfl rfl runUnderlying88 sizeOf5 (fun b5=>?_);refine aE 1 ?_;refine OD.ph (ls:=([]:List UInt8)) (new:=a) (Sq:=[⟨b5,5,0*1,[]⟩]) pz wz ap rfl rfl underlying88 aay rfl w7 runUnderlying88 sizeOf5 ot (.inr ⟨b5,rfl,Nat.le_refl _,Nat.zero_le _,rfl⟩) (dD (A:=[])) ot iq iq (fun E I S7 pR=>?_);exact z138
theorem aaz:(Tryz.prog.info? 3).map (fun i=>(i.zero,i.size,i.bytes))=some (some (.int .i64 0),1,8):=by kernel_rfl
theorem nU(a:List Int)(ha:a.length≤1000000):VC Tryz.prog G 120 [av 1 cI a] [] (fun r S=>∃ad cap,r=aR ad a.length cap∧lM a ad cap S):=by
 refine VC.body func120 rfl ntmps120 aS fun X0 w0 aZ=>?_;have da:=dW;refine af [0] ?_;refine aD 1 ?_;refine OD.yX ap rfl rfl ot bL underlying67 (fun O xE=>?_);refine an 8 [0,4] ?_;refine au ?_ ?_<;>intro aN bC
 ·exact GD
 refine bY ?_;refine OD.yY ap rfl rfl runUnderlying67 sizeOf3 (fun b5=>?_);refine aE 1 ?_;refine OD.ph (ls:=([]:List Int)) (new:=a) (Sq:=[⟨b5,3,0*1,[]⟩]) eI nD ap rfl rfl underlying67 aaz rfl w7 runUnderlying67 sizeOf3 ot (.inr ⟨b5,rfl,Nat.le_refl _,Nat.zero_le _,rfl⟩) (dD (A:=[])) ot iq iq (fun E I S7 pR=>?_);exact GG
theorem Zg:(Tryz.prog.info? 88).map (fun i=>(i.zero,i.size,i.bytes))=some (some (.slice none 0 0),1,24):=by kernel_rfl
theorem vV(a:List K)(ha:a.length≤1000000):VC Tryz.prog G 150 [av 1 cK a] [] (fun r S=>∃ad cap,r=aR ad a.length cap∧oL a ad cap S):=by
 refine VC.body func150 rfl ntmps150 aS fun X0 w0 aZ=>?_;have da:=dW;refine af [0] ?_;refine aD 1 ?_;refine OD.yX ap rfl rfl ot bL underlying151 (fun O xE=>?_);refine an 8 [0,4] ?_;refine au ?_ ?_<;>intro aN bC
 ·exact GD
 refine bY ?_;refine OD.yY ap rfl rfl runUnderlying151 sizeOf88 (fun b5=>?_);refine aE 1 ?_;refine OD.ph (ls:=([]:List K)) (new:=a) (Sq:=[⟨b5,88,0*1,[]⟩]) gm pA ap rfl rfl underlying151 Zg rfl w7 runUnderlying151 sizeOf88 ot (.inr ⟨b5,rfl,Nat.le_refl _,Nat.zero_le _,rfl⟩) (dD (A:=[])) ot iq iq (fun E I S7 pR=>?_);exact GG

structure aB where
 p:cX
 ak:Option Addr
 ck:Nat
 sk:List ah
 ai:Option Addr
 ci:Nat
 si:List ah
def gO(o:aB):List D:=[cg o.p.leaf,aR o.ak o.p.keys.length o.ck,aR o.ai o.p.kids.length o.ci,av 1 cB o.p.high,ae o.p.next]
theorem gl(o:aB):(gO o).length=5:=rfl
theorem uQ(o:aB):(gO o).all V.one=true:=rfl
def bO(o:aB):List ah:=o.sk++o.si
def qI(o:aB):Prop:=oL o.p.keys o.ak o.ck o.sk∧lM o.p.kids o.ai o.ci o.si
theorem SE{S:List ah}:∀{L:List aB},(∀o∈L,qI o)→(∀B∈L.flatMap bO,B∈S)→gF S (L.flatMap gO) ((L.map aB.p).flatMap cP)
 | [],_,_=>trivial
 | o::L,h,hs=>by
  rw[map_cons,flatMap_cons,flatMap_cons];obtain⟨h1,h2⟩:=h o mem_cons_self;refine gF.append ⟨eU,lE h1 (cn gm _) (fun B E=>hs B ?_),lE h2 (cn eI _) (fun B E=>hs B ?_),eU,eU,trivial⟩ (SE (fun o ho=>h o (mem_cons_of_mem _ ho)) fun B E=>hs B ?_)
  ·rw[flatMap_cons];exact mem_append_left _ (mem_append_left _ E)
  ·rw[flatMap_cons];exact mem_append_left _ (mem_append_right _ E)
  rw[flatMap_cons];exact mem_append_right _ E
abbrev tW(L:List aB)(ad:Option Addr)(cap:Nat)(S:List ah):Prop:=bz 153 5 (L.flatMap gO) L.length ad cap S
theorem JP{S Sx:List ah}{L:List aB}{ad:Option Addr}{cap:Nat}{root:Int}(ho:tW L ad cap Sx)(h:∀o∈L,qI o)(hs:∀B∈Sx++L.flatMap bO,B∈S) :
  View S (.agg [aR ad L.length cap,ae root]) (.agg (cT ⟨L.map aB.p,root⟩)):=by
 refine uI ⟨?_,eU,trivial⟩;have:=AG ho (SE h fun B E=>hs B (mem_append_right _ E)) (cn Fh _ |>.trans bu) (fun B E=>hs B (mem_append_left _ E));first|rw[length_map]|(show View _ _ (.list _ _ (length _));rw[length_map])|(show View _ _ (.agg [.list _ _ (length _)]);rw[length_map])
 exact this
def F7(t:aF)(r:D)(S:List ah):Prop:=∃L ad cap Sx,r = .agg [aR ad (length L) cap,ae t.root]∧tW L ad cap Sx∧(∀o∈L,qI o)∧L.map aB.p=t.ag∧S=Sx++L.flatMap bO
theorem Rp(L:List aB)(o:aB):(L++[o]).flatMap bO=L.flatMap bO++bO o:=by simp
theorem pc{α:Type}{l:List α}{j:Nat}(h:j<l.length):take j l++[l[j]]=take (j+1) l:=(take_succ_eq_append_getElem h).symm
theorem Zh:(Tryz.prog.info? 88).map (fun i=>(i.zero,i.size,i.bytes))=some (some (.slice none 0 0),1,24):=by kernel_rfl
theorem Yz:(Tryz.prog.info? 153).map (fun i=>(i.zero,i.size,i.bytes))=some (some (.agg #[.bool false,.slice none 0 0,.slice none 0 0,.slice none 0 0,.int .i64 0]),5,88):=by kernel_rfl
theorem NU : ∀ w, ((#[{ name := "Leaf", type := 4, offset := 0, embedded := false, tag := "", pkgPath := "", byteOffset := 0 }, { name := "Keys", type := 151, offset := 1, embedded := false, tag := "", pkgPath := "", byteOffset := 8 }, { name := "Kids", type := 67, offset := 2, embedded := false, tag := "", pkgPath := "", byteOffset := 32 }, { name := "High", type := 88, offset := 3, embedded := false, tag := "", pkgPath := "", byteOffset := 56 }, { name := "Next", type := 3, offset := 4, embedded := false, tag := "", pkgPath := "", byteOffset := 80 }] : Array Field).mapM fun f => do pure (f.offset, ← sizeOf f.type) : Sem (Array (Nat × Nat))).run Tryz.prog w = .ok #[(0, 1), (1, 1), (2, 1), (3, 1), (4, 1)] w := fun w => by simp [sizeOf151, sizeOf3, sizeOf4, sizeOf67, sizeOf88]
theorem Fi(t:aF)(h:Nat)(v:Valid t h):VC Tryz.prog G 121 [.agg (cT t)] [] (F7 t):=by
 refine VC.body func121 rfl ntmps121 aS fun X0 w0 aZ=>?_;unfold cT;have da:=dW;have hval:=v;have Nn:=v.nJ;refine bY ?_;refine OD.box (ds:=[_,_]) ap rfl rfl ot rfl rfl (fun b1=>?_);refine OD.alloc (ds:=[_,_]) ap rfl rfl zeroValue51 rfl (fun b2=>?_);refine an 51 [1,2] ?_;refine aD 3 ?_;refine OD.alloc (ds:=[_,_]) ap rfl rfl zeroValue51 rfl (fun b3=>?_);refine aP 0 [_,_] sizeOf51 ?_;refine an 51 [1,2,3] ?_;refine af [2,3,13,14,15] ?_;refine eK [2,3,13,14] (fun aW _ (E:Nat×List aB×Option Addr×Nat×List ah) aI=>match E with|(i,L,dQ,dc,Sx)=>(i≤t.ag.length)∧(L.map aB.p=t.ag.take i)∧(∀o∈L,qI o)∧(tW L dQ dc Sx)∧aI=(⟨51,(15,ae (i:Nat))::aW,(⟨b3,51,2,[aR dQ L.length dc,ae t.root]⟩::⟨b2,51,2,[bS,ae 0]⟩::(Sx++L.flatMap bO))⟩:St)) (fun (E:Nat×List aB×Option Addr×Nat×List ah)=>match E with|(i,L,dQ,dc,Sx)=>t.ag.length-i) (0,([]:List aB),none,0,[]) ⟨(Nat.zero_le _),rfl,(fun o h=>by cases h),iI,rfl⟩ ?_;rintro⟨i,L,dQ,dc,Sx⟩ _ ⟨hi,hL,aT,ec,rfl⟩;refine af [2,3,13,14,15,16] ?_;refine au ?_ ?_<;>intro aN bC
 ·have aa:i<t.ag.length:=(by omega)
  have po:=v.fF _ (getElem_mem aa);have rH:L.length=i:=(by have:=congrArg length hL;rw[length_map,length_take] at this;omega)
  have mI:=po.eD;have XI:=po.hlen;have FE:(t.ag[i]'aa).kids.length≤5:=by
      exact WK
  refine aD 2 ?_;refine OD.alloc (ds:=[_,_,_,_,_]) ap rfl rfl zeroValue153 rfl (fun b5=>?_);refine aP 0 [_,_,_,_,_] sizeOf153 ?_;refine an 51 [2,3,5,13,14,15] ?_;refine bY ?_;refine bg [2,3,5,6,13,14,15] ?_;refine af [2,3,5,6,13,14,15,20,21,22] ?_;refine CD.block ?_;refine mR (fun (E:Nat×Option Addr×Nat×List ah) aI=>match E with|(j,iD,iE,Sy)=>(j≤(t.ag[i]'aa).keys.length)∧(oL (take j (t.ag[i]'aa).keys) iD iE Sy)∧aI=(⟨51,[(2,dI b2),(3,dI b3),(5,dI b5),(6,aR iD (take j (t.ag[i]'aa).keys).length iE),(13,av 5 cP t.ag),(14,ae (t.ag.length:Nat)),(15,ae (i:Nat)),(20,.list 1 ((t.ag[i]'aa).keys.flatMap cK) (t.ag[i]'aa).keys.length),(21,ae ((t.ag[i]'aa).keys.length:Nat)),(22,ae (j:Nat))],(⟨b5,153,5,cP (t.ag[i]'aa)⟩::⟨b3,51,2,[aR dQ L.length dc,ae t.root]⟩::⟨b2,51,2,[bS,ae 0]⟩::(Sy++(Sx++L.flatMap bO)))⟩:St)) (fun (E:Nat×Option Addr×Nat×List ah)=>match E with|(j,iD,iE,Sy)=>(t.ag[i]'aa).keys.length-j) (0,none,0,[]) ⟨(Nat.zero_le _),iI,rfl⟩ (aQ (h:=by repeat (first|exact trivial|refine⟨(by (repeat (first|exact fD|(apply fX;focus (first|rfl|(simp;done)|(congr 2;omega)|(apply eO;exact pc O)))|(apply fH;focus rfl)));done),?_⟩))) ?_;rintro⟨j,iD,iE,Sy⟩ _ ⟨hj,U,rfl⟩;refine af [2,3,5,6,13,14,15,20,21,22,23] ?_;refine au ?_ ?_<;>intro aY cz
  ·have O:j<(t.ag[i]'aa).keys.length:=(by omega)
   have Li:=(po.lq _ (getElem_mem O)).2;refine af [2,3,5,6,8,13,14,15,20,21,22] ?_;refine dN 2 ?_;refine dS call95 (jW (t.ag[i]'aa).keys[j] w4) ?_;refine ez (cf 0 [_]) [.slice none 0 0] [_] zeroValue88 runUnderlying151 sizeOf88 (fun uv=>?_);refine fP 0 29 1 1 ?_;refine OD.ew (ls:=(take j (t.ag[i]'aa).keys)) (new:=[(t.ag[i]'aa).keys[j]]) (Sq:=Sy) gm pA ap rfl rfl underlying151 Zh rfl w7 ot U (Iq (A:=[_,_,_])) ot bu vy iq (fun Z I Lc Ld=>?_);refine OD.perm (P7 (S1:=[⟨Z,88,I*1,flatMap cK ((take j (t.ag[i]'aa).keys)++[(t.ag[i]'aa).keys[j]])⟩]) (A:=[_,_,_])) ?_;refine an 51 [2,3,5,6,13,14,15,20,21,22] ?_;refine cm [2,3,5,6,13,14,15,20,21,22] ?_;refine⟨((j+1),(some ⟨Z,0,none⟩),I,[⟨Z,88,I*1,flatMap cK ((take j (t.ag[i]'aa).keys)++[(t.ag[i]'aa).keys[j]])⟩]),_,cD,(aQ (h:=by repeat (first|exact trivial|refine⟨(by (repeat (first|exact fD|(apply fX;focus (first|rfl|(simp;done)|(congr 2;omega)|(apply eO;exact pc O)))|(apply fH;focus rfl)));done),?_⟩))),w4,(bz.cast (bF Lc Ld) (pc O)),rfl⟩
  have hjt:take j (t.ag[i]'aa).keys=(t.ag[i]'aa).keys:=take_of_length_le w4;rw[hjt] at U ⊢;refine CD.exit ?_;refine fO 16 (aq (take 1 _)) ?_ (fun _ h=>(Sublist.map _ (take_sublist _ _)).subset h);refine ay 0 rfl (dj 0) ?_;refine ay 2 rfl (dj 0) ?_;refine ay 3 rfl (dJ 0) ?_;refine ay 4 rfl bf ?_;refine ay 5 rfl (dj 2) ?_;refine ay 6 rfl (dJ 0) ?_;refine ay 8 rfl (dj 3) ?_;refine ay 9 rfl (dJ 0) ?_;refine ay 11 rfl (dj 4) ?_;refine ay 12 rfl (dJ 0) ?_;refine di.later rfl ?_;refine AD.two (i:=1) (j:=7) aA ?_ ?_
  ·refine at_ rfl (dJ 1) ?_;refine AD.one (i:=7) aA ?_;refine bj.call rfl ap rfl rfl rfl call120 (nU (t.ag[i]'aa).kids w4) ⟨ot,trivial⟩ (eT _) (fun b hb=>by simp[aq,St.put] at hb ⊢;try simp[hb]) ?_;rintro _ Sz ⟨lP,lQ,rfl,xZ⟩;refine AD.perm (jj (A:=[_,_,_])) ?_;have vC:(L++[(⟨(t.ag[i]'aa),iD,iE,Sy,lP,lQ,Sz⟩:aB)]).map aB.p=t.ag.take (i+1):=(by rw[map_append,hL];exact pc aa)
   have jQ:∀o∈L++[(⟨(t.ag[i]'aa),iD,iE,Sy,lP,lQ,Sz⟩:aB)],qI o:=fun o ho=>by rcases mem_append.1 ho with ho|ho;exact aT o ho;rw[mem_singleton] at ho;subst ho;exact⟨U,xZ⟩
   exact U0
  refine bj.call rfl ap rfl rfl rfl call120 (nU (t.ag[i]'aa).kids w4) ⟨ot,trivial⟩ (eT _) (fun b hb=>by simp[aq,St.put] at hb ⊢;try simp[hb]) ?_;rintro _ Sz ⟨lP,lQ,rfl,xZ⟩;refine AD.perm (jj (A:=[_,_,_])) ?_;have vC:(L++[(⟨(t.ag[i]'aa),iD,iE,Sy,lP,lQ,Sz⟩:aB)]).map aB.p=t.ag.take (i+1):=(by rw[map_append,hL];exact pc aa)
  have jQ:∀o∈L++[(⟨(t.ag[i]'aa),iD,iE,Sy,lP,lQ,Sz⟩:aB)],qI o:=fun o ho=>by rcases mem_append.1 ho with ho|ho;exact aT o ho;rw[mem_singleton] at ho;subst ho;exact⟨U,xZ⟩
  refine AD.two (i:=1) (j:=10) aA ?_ ?_
  ·refine at_ rfl (dJ 1) ?_;exact U0
  refine jG call95 (jW (t.ag[i]'aa).high w4) ?_;refine cy 13 rfl (nC (pl:=[(0,_),(1,_),(2,_),(3,_),(4,_)]) (ds:=[_,_,_,_,_]) rfl zeroValue153 runUnderlying153 NU ⟨rfl,ot,rfl,ot,rfl,ot,rfl,ot,rfl,ot,trivial⟩ rfl rfl) ?_;refine AD.two (i:=1) (j:=14) aA ?_ ?_
  ·refine at_ rfl (dJ 1) ?_;refine AD.one (i:=14) aA ?_;refine jt (cf 0 [_]) [.bool false,.slice none 0 0,.slice none 0 0,.slice none 0 0,.int .i64 0] [_,_,_,_,_] zeroValue153 runUnderlying49 sizeOf153 (fun Ae=>?_);refine ju 0 46 5 1 ?_;exact Md
  refine jt (cf 0 [_]) [.bool false,.slice none 0 0,.slice none 0 0,.slice none 0 0,.int .i64 0] [_,_,_,_,_] zeroValue153 runUnderlying49 sizeOf153 (fun Ae=>?_);refine ju 0 46 5 1 ?_;refine AD.one (i:=1) aA ?_;refine at_ rfl (dJ 1) ?_;exact Md
 refine aD 1 ?_;refine aP 1 [_,_] sizeOf51 ?_;refine an 51 [2] ?_;refine aJ (Sx++L.flatMap bO) ?_;exact⟨L,dQ,dc,Sx,rfl,ec,aT,by rw[hL,take_of_length_le w4],rfl⟩

end Go.Proofs.YtdgichenhdikgaaGreatDoor.Tw

namespace Go.Proofs.YtdgichenhdikgaaGreatDoor.Tw
open List
open Go.Proofs.Tryz
open Go.RowKit V Go.Proofs.YtdgichenhdikgaaGreatDoor.Tr Pk
open Go.Lib (compareBytes)
variable {t:aF} {lv:List (List Int)} {level:Nat} {i:Int}
structure nF (t:aF) (s:jA):Prop where
 nd:s.1.Nodup
 rg:∀x∈s.1,0≤x∧x<t.ag.length
 eD:s.2.length≤s.1.length
 each:∀l∈s.2,l.length≤s.1.length
 el:∀l∈s.2,∀x∈l,0≤x∧x<t.ag.length
theorem ab4{n:Nat}{l:List Int}(h:l.Nodup)(hr:∀x∈l,0≤x∧x<n):l.length≤n:=by
 induction n generalizing l with
 | zero =>
  cases l with
  | nil=>simp
  | cons a l=>have:=hr a mem_cons_self;omega
 | succ n ih =>
  have h1:=ih (l:=l.erase (n:Int)) (h.erase _) fun x hx=>by
   have h2:=(h.mem_erase_iff).1 hx;have h3:=hr x h2.2;have:=h2.1;omega
  rw[length_erase] at h1;split at h1<;>omega
theorem nF.nJ{s:jA}(h:nF t s):s.1.length≤t.ag.length:=ab4 h.nd h.rg
theorem aaA{n:Nat}(h:∀l∈lv,l.length≤n):∀l∈kH lv level i,l.length≤n+1:=fun l hl=>by
 obtain⟨j,hj,rfl⟩:=mem_iff_getElem.1 hl;have e:(kH lv level i)[j]=(kH lv level i).getD j []:=(by rw[getD_eq_getElem?_getD,getElem?_eq_getElem hj];rfl)
 rw[e,EZ,length_append];have h1:(lv.getD j []).length≤n:=by
  rw[getD_eq_getElem?_getD];rcases Nat.lt_or_ge j lv.length with q|q
  ·rw[getElem?_eq_getElem q];exact h _ (getElem_mem q)
  rw[getElem?_eq_none q];simp
 split
 ·simp only[length_cons,length_nil];omega
 simp only[length_nil];omega
theorem adQ{Q:Int→Prop}(h:∀l∈lv,∀x∈l,Q x)(hi:Q i):∀l∈kH lv level i,∀x∈l,Q x:=fun l hl x hx=>by
 obtain⟨j,hj,rfl⟩:=mem_iff_getElem.1 hl;have e:(kH lv level i)[j]=(kH lv level i).getD j []:=(by rw[getD_eq_getElem?_getD,getElem?_eq_getElem hj];rfl)
 rw[e,EZ,mem_append] at hx;rcases hx with hx|hx
 ·rw[getD_eq_getElem?_getD] at hx;rcases Nat.lt_or_ge j lv.length with q|q
  ·rw[getElem?_eq_getElem q] at hx;exact h _ (getElem_mem q) x hx
  rw[getElem?_eq_none q] at hx;cases hx
 split at hx
 ·rw[mem_singleton] at hx;subst hx;exact hi
 cases hx
theorem nF.add{s:jA}(h:nF t s)(hi:0≤i∧i<t.ag.length)(hn:i∉s.1)(hl:level≤s.1.length):nF t (s.1++[i],kH s.2 level i):=by
 refine⟨?_,fun x hx=>?_,?_,?_,adQ h.el hi⟩
 ·exact nodup_append.2 ⟨h.nd,by simp,fun a ha b hb e=>by rw[mem_singleton] at hb;subst hb;subst e;exact hn ha⟩
 ·rcases mem_append.1 hx with hx|hx
  ·exact h.rg x hx
  rw[mem_singleton] at hx;subst hx;exact hi
 ·show(kH s.2 level i).length≤(s.1++[i]).length;rw[IE,length_append];have:=h.eD;simp;omega
 show ∀l∈kH s.2 level i,l.length≤(s.1++[i]).length;rw[length_append];exact aaA h.each
theorem QR{t:aF}{go:Int→K→K→jA→Option (Nat×jA)}{low:K}{p:cX}{n:Nat}(E:∀(c:Int) lo hi s d s',(0≤c∧c<t.ag.length)→nF t s→n≤s.1.length→go c lo hi s=some (d,s')→nF t s'∧s.1.length≤s'.1.length) :
  ∀(cs:List Int) (k:Nat) (deep:Option Nat) (s:jA) (d:Nat) (s':jA),(∀c∈cs,0≤c∧c<t.ag.length)→nF t s→n≤s.1.length→lJ go low p cs k deep s=some (d,s')→nF t s'∧s.1.length≤s'.1.length
 | [],k,deep,s,d,s',_,hs,_,h=>by
  rw[lJ] at h;cases deep with
  | none=>cases h
  | some e=>simp at h;rw[←h.2];exact⟨hs,Nat.le_refl _⟩
 | c::cs,k,deep,s,d,s',hc,hs,hn,h=>by
  rw[lJ] at h;cases hg:go c (iw low p k) (gY p k) s with
  | none=>rw[hg] at h;cases h
  | some q =>
   obtain⟨d1,s1⟩:=q;rw[hg] at h;obtain⟨h1,h2⟩:=E _ _ _ _ _ _ (hc c mem_cons_self) hs hn hg;change (if deep=none∨deep=some d1 then lJ go low p cs (k+1) (some d1) s1 else none)=_ at h;split at h
   ·obtain⟨h3,h4⟩:=QR E cs _ _ _ _ _ (fun c uu=>hc c (mem_cons_of_mem _ uu)) h1 w4 h;exact⟨h3,by omega⟩
   cases h
theorem Pg{p:cX}(hp:eL p t.ag.length)(hl:p.leaf=false):∀c∈p.kids,0≤c∧c<t.ag.length:=fun c hc=>⟨hp.aC c hc,hp.vk hl c hc⟩
theorem Jm{t:aF}(hp:uP t):∀(f:Nat) (i:Int) (lo hi:K) (level:Nat) (s:jA) (d:Nat) (s':jA),(0≤i∧i<t.ag.length)→nF t s→level≤s.1.length→jr t f i lo hi level s=some (d,s')→nF t s'∧s.1.length≤s'.1.length
 | 0,i,lo,hi,level,s,d,s',_,_,_,h=>by rw[jr] at h;cases h
 | f+1,i,lo,hi,level,s,d,s',hr,hs,hl,h=>by
  rw[jr] at h;split at h
  ·cases h
  rename_i hn;split at h
  ·cases h
  have ha:=hs.add hr hn hl;have hlen:s.1.length+1=(s.1++[i]).length:=(by simp)
  split at h
  ·simp at h;rw[←h.2];exact⟨ha,by show s.1.length≤(s.1++[i]).length;omega⟩
  rename_i fN;have fN:(t.pg i).leaf=false:=(by simpa using fN)
  obtain⟨h1,h2⟩:=QR (n:=level+1) (fun c lo hi s d s' hc hs hn h=>Jm hp f c lo hi (level+1) s d s' hc hs hn h) _ _ _ _ _ _ (Pg (hp _ (jB hr)) fN) ha (by show level+1≤(s.1++[i]).length;omega) h;have h3:(s.1++[i]).length≤s'.1.length:=h2;exact⟨h1,by omega⟩
structure dG where
 l:List Int
 ad:Option Addr
 cp:Nat
 s:List ah
variable {L:List dG}
def gV(o:dG):List D:=[aR o.ad o.l.length o.cp]
theorem wB(o:dG):(gV o).length=1:=rfl
theorem afs(o:dG):(gV o).all V.one=true:=rfl
def mT(o:dG):Prop:=lM o.l o.ad o.cp o.s
def rf:dG:=⟨[],none,0,[]⟩
theorem adR:mT rf:=.inl ⟨rfl,rfl,rfl,rfl,rfl⟩
abbrev zy(L:List dG)(ad:Option Addr)(cap:Nat)(S:List ah):Prop:=bz 67 1 (L.flatMap gV) L.length ad cap S
def Vv(t:aF)(b bm:Nat)(n:Nat)(ad:Option Addr)(cap:Nat):ah:=⟨b,159,4,[av 5 cP t.ag,ae t.root,.v (.map (some bm)),aR ad n cap]⟩
def SW(t:aF)(b bm:Nat)(m:List Int)(L:List dG)(ad:Option Addr)(cap:Nat)(Sx:List ah):List ah:=Vv t b bm L.length ad cap::kR bm m::(Sx++L.flatMap dG.s)
def Vw(t:aF)(b bm:Nat):Option (Nat×jA)→D→List ah→Prop
 | none,r,S=>r = .v (.int .i64 (-1))∧S=[]
 | some (d,s),r,S=>r = .v (.int .i64 (d:Nat))∧∃L ad cap Sx,zy L ad cap Sx∧(∀o∈L,mT o)∧L.map dG.l=s.2∧S=SW t b bm s.1 L ad cap Sx
theorem yH{α:Type}(g:α→List ah):∀{L:List α} {j:Nat} (h:j<L.length),(L.flatMap g).Perm (g L[j]++(L.eraseIdx j).flatMap g)
 | a::L,0,_=>by simp
 | a::L,j+1,h=>by
  have E:=yH g (L:=L) (j:=j) oR;simp only[flatMap_cons,getElem_cons_succ,eraseIdx_cons_succ];refine(E.append_left (g a)).trans ?_;rw[←append_assoc,←append_assoc];exact List.perm_append_comm.append_right _
theorem qL{α:Type}(g:α→List ah){L:List α}{j:Nat}(h:j<L.length)(a:α):((L.set j a).flatMap g).Perm (g a++(L.eraseIdx j).flatMap g):=by
 have:=yH g (L:=L.set j a) (j:=j) (by rw[length_set];exact h);rw[getElem_set_self,eraseIdx_set_eq] at this;exact this
def sg:Option Nat→Int
 | none=>-2
 | some d=>d
variable {G:List (Nat×List Value)}

theorem aft{f:Nat}{low high:K}{s:jA}(h:i∈s.1):jr t (f+1) i low high level s=none:=by rw[jr,if_pos h]
theorem SF{f:Nat}{low high:K}{s:jA}(h:((t.pg i).high≠high∨∃k,(t.pg i).keys.head?=some k∧bN k low)):jr t (f+1) i low high level s=none:=by
 rw[jr];by_cases hi:i∈s.1
 ·rw[if_pos hi]
 rw[if_neg hi,if_pos h]
theorem ab5{f:Nat}{low high:K}{s:jA}(h:i∉s.1)(h2:¬((t.pg i).high≠high∨∃k,(t.pg i).keys.head?=some k∧bN k low))(h3:(t.pg i).leaf=true):jr t (f+1) i low high level s=some (level,(s.1++[i],kH s.2 level i)):=by rw[jr,if_neg h,if_neg h2,if_pos h3]
theorem ab6{f:Nat}{low high:K}{s:jA}(h:i∉s.1)(h2:¬((t.pg i).high≠high∨∃k,(t.pg i).keys.head?=some k∧bN k low))(h3:(t.pg i).leaf=false):jr t (f+1) i low high level s=lJ (fun c lo hi s=>jr t f c lo hi (level+1) s) low (t.pg i) (t.pg i).kids 0 none (s.1++[i],kH s.2 level i):=by rw[jr,if_neg h,if_neg h2,if_neg (by rw[h3];decide)]
section
variable {go:Int→K→K→jA→Option (Nat×jA)} {low:K} {p:cX} {k:Nat} {deep:Option Nat} {s s':jA} {d:Nat}
theorem aaB(hk:k<p.kids.length)(h:go p.kids[k] (iw low p k) (gY p k) s=none):lJ go low p (p.kids.drop k) k deep s=none:=by rw[drop_eq_getElem_cons hk,lJ,h]
theorem Pj(hk:k<p.kids.length)(h:go p.kids[k] (iw low p k) (gY p k) s=some (d,s'))(hd:deep=none∨deep=some d):lJ go low p (p.kids.drop k) k deep s=lJ go low p (p.kids.drop (k+1)) (k+1) (some d) s':=by
 rw[drop_eq_getElem_cons hk,lJ,h];show(if deep=none∨deep=some d then _ else _)=_;rw[if_pos hd]
theorem ab7(hk:k<p.kids.length)(h:go p.kids[k] (iw low p k) (gY p k) s=some (d,s'))(hd:¬(deep=none∨deep=some d)):lJ go low p (p.kids.drop k) k deep s=none:=by
 rw[drop_eq_getElem_cons hk,lJ,h];show(if deep=none∨deep=some d then _ else _)=_;rw[if_neg hd]
theorem ab8(hk:p.kids.length≤k):lJ go low p (p.kids.drop k) k deep s=deep.map fun d=>(d,s):=by rw[drop_of_length_le hk,lJ]
end
theorem aaC:(L++[rf]).flatMap dG.s=L.flatMap dG.s:=by simp[rf]
theorem adS{E:List dG}(h:E.map dG.l=L.map dG.l++replicate (E.length-L.length) [])(h1:L.length≤E.length)(h2:E.length≤max L.length (level+1))(h3:level<E.length):E.map dG.l=sF (L.map dG.l) (level+1):=by
 rw[h];unfold sF;rw[length_map,show E.length-L.length=level+1-L.length from by omega]
theorem Jn{E:List dG}{o:dG}(h:E.map dG.l=sF (L.map dG.l) (level+1))(h3:level<E.length)(ho:o.l=E[level].l++[i]):(E.set level o).map dG.l=kH (L.map dG.l) level i:=by
 rw[map_set,ho];unfold kH;rw[←h,getD_eq_getElem?_getD,getElem?_eq_getElem (by rw[length_map];exact h3),getElem_map];rfl
theorem SG{j:Nat}{o:dG}(h:∀o∈L,mT o)(ho:mT o):∀x∈L.set j o,mT x:=fun x hx=>by
 rcases mem_or_eq_of_mem_set hx with hx|rfl
 ·exact h x hx
 exact ho
theorem QS{deep:Option Nat}{d:Nat}(h:sg deep≠-2)(h2:(d:Int)=sg deep):deep=some d:=by
 cases deep with
 | none=>exact absurd rfl h
 | some e=>unfold sg at h2;simp only at h2;rw[show d=e from by omega]
theorem ab9{deep:Option Nat}{d:Nat}(h:sg deep≠-2)(h2:¬(d:Int)=sg deep):¬(deep=none∨deep=some d):=by
 rintro(rfl|rfl)
 ·exact h rfl
 exact h2 rfl
theorem Pm{deep:Option Nat}(h:sg deep = -2):deep=none:=by
 cases deep with
 | none=>rfl
 | some e=>unfold sg at h;simp only at h;omega
def Uv(G:List (Nat×List Value))(t:aF)(b bm f:Nat):Prop:=∀(i:Int) (low high:K) (level:Nat) (m:List Int) (L:List dG) (ad:Option Addr) (cap:Nat) (Sx:List ah),(0≤i∧i<t.ag.length)→nF t (m,(L.map dG.l))→level≤m.length→t.ag.length+1≤f+m.length→high.length≤100→zy L ad cap Sx→(∀o∈L,mT o) →
 VC Tryz.prog G 92 [dI b,ae i,av 1 cB low,av 1 cB high,ae (level:Nat)] (SW t b bm m L ad cap Sx) (Vw t b bm (jr t f i low high level (m,(L.map dG.l))))

theorem Pn:(Tryz.prog.info? 3).map (fun i=>(i.zero,i.size,i.bytes))=some (some (.int .i64 0),1,8):=by kernel_rfl

theorem Zi:(Tryz.prog.info? 67).map (fun i=>(i.zero,i.size,i.bytes))=some (some (.slice none 0 0),1,24):=by kernel_rfl

theorem aaD(t:aF)(hp:uP t)(rh:t.ag.length≤4000)(b bm f:Nat)(ih:Uv G t b bm f)(i:Int)(low high:K)(level:Nat)(m:List Int)(L:List dG)(ad:Option Addr)(cap:Nat)(Sx:List ah)(hr:0≤i∧i<t.ag.length)(F8:nF t (m,(L.map dG.l)))(hlm:level≤m.length)(hfu:t.ag.length+1≤(f+1)+m.length)(XJ:high.length≤100)(mO:zy L ad cap Sx)(aT:∀o∈L,mT o) :
 VC Tryz.prog G 92 [dI b,ae i,av 1 cB low,av 1 cB high,ae (level:Nat)] (SW t b bm m L ad cap Sx) (Vw t b bm (jr t (f+1) i low high level (m,(L.map dG.l)))):=by
 refine VC.body func92 rfl ntmps92 aS fun X0 w0 aZ=>?_;unfold SW Vv;have da:=dW;have aa:i.toNat<t.ag.length:=(by omega)
 have pX:t.pg i=(t.ag[i.toNat]'aa):=u6 hr;have po:eL (t.ag[i.toNat]'aa) t.ag.length:=hp _ (getElem_mem aa);have XI:=po.hlen;have MB:=F8.nJ;have C8:m.length≤t.ag.length:=MB;refine af [0,1,2,3,4] ?_;refine aD 5 ?_;refine bH (ZX (i:=1) rfl ot ot rfl underlying156 underlying3 zeroValue203) ?_;refine aE 3 ?_;refine OD.alloc (ds:=[]) ap rfl rfl zeroValue203 rfl (fun kI=>?_);refine aP 0 [] sizeOf203 ?_;refine an 148 [0,1,2,3,4,12] ?_;refine af [0,1,2,3,4,29] ?_;refine au ?_ ?_<;>intro aN bC
 ·have j9:i∈m:=(by simpa using aN)
  refine af [10] ?_;refine aJ [] ?_;rw[aft (by exact j9)];exact⟨rfl,rfl⟩
 have pT:i∉m:=(by simpa using aN)
 refine aD 6 ?_;refine OD.addKey (i:=2) ap rfl rfl ot ot ot rfl pT underlying156 underlying3 ?_;refine an 148 [0,1,2,3,4] ?_;refine aD 6 ?_;refine bH (dm 5 (h:=by first|exact .l (j:=i.toNat) (Int.toNat_of_nonneg hr.1).symm aa|exact .r (j:=i.toNat) (Int.toNat_of_nonneg hr.1).symm aa)) ?_;refine aE 1 ?_;refine OD.alloc (ds:=[_,_,_,_,_]) ap rfl rfl zeroValue153 rfl (fun mr=>?_);refine aP 0 [_,_,_,_,_] sizeOf153 ?_;refine an 148 [0,1,2,3,4,13] ?_;refine jV [0,1,2,3,4] (fun aW _ aI=>∃(mr:Nat),(¬((t.pg i).high≠high∨∃k,(t.pg i).keys.head?=some k∧bN k low))∧aI=(⟨148,(13,dI mr)::aW,(⟨mr,153,5,cP (t.ag[i.toNat]'aa)⟩::⟨b,159,4,[av 5 cP t.ag,ae t.root,.v (.map (some bm)),aR ad L.length cap]⟩::kR bm (m++[i])::(Sx++L.flatMap dG.s))⟩:St)) ?_ ?_
 ·refine aD 3 ?_;refine dS call133 (Us (t.ag[i.toNat]'aa).high high w4 w4) ?_;refine aE 2 ?_;refine bX 49 (fun B4 agX=>?_) (fun B4 agX=>?_)
  ·refine an 148 [0,1,2,3,4,13,63] ?_;refine eM ?_;have oh:((t.pg i).high≠high∨∃k,(t.pg i).keys.head?=some k∧bN k low):=(by rw[pX];first|exact .inl (by simpa using B4)|exact .inr ⟨_,head?_eq_getElem? .. ▸ getElem?_eq_getElem w4,of_decide_eq_true aY⟩)
   refine af [10] ?_;refine aJ [] ?_;rw[SF oh];exact⟨rfl,rfl⟩
  refine aE 5 ?_;refine bX 54 (fun zk yU=>?_) (fun zk yU=>?_)
  ·refine aE 2 ?_;refine OD.still iu rfl (rS (mk:=Op.indexAddr 151) rfl ot bL (by first|exact tE (j:=0) runUnderlying151 sizeOf88 rfl zR|exact tI (j:=0) runUnderlying151 sizeOf88 rfl zR)) ?_;refine aE 2 ?_;refine OD.gZ iu rfl rfl rfl call51 (wo ((t.ag[i.toNat]'aa).keys[0]'w4) low) ⟨ot,ot,trivial⟩ ?_;refine an 148 [0,1,2,3,4,13,63] ?_;refine au ?_ ?_<;>intro aY cz
   ·have oh:((t.pg i).high≠high∨∃k,(t.pg i).keys.head?=some k∧bN k low):=(by rw[pX];first|exact .inl (by simpa using B4)|exact .inr ⟨_,head?_eq_getElem? .. ▸ getElem?_eq_getElem w4,of_decide_eq_true aY⟩)
    refine af [10] ?_;refine aJ [] ?_;rw[SF oh];exact⟨rfl,rfl⟩
   have oc:¬((t.pg i).high≠high∨∃k,(t.pg i).keys.head?=some k∧bN k low):=(by rw[pX];rintro(h|⟨k,hk,vf⟩);exact h (by simpa using B4);first|(rw[head?_eq_getElem?,getElem?_eq_none w4] at hk;cases hk;done)|(rw[head?_eq_getElem?,getElem?_eq_getElem w4] at hk;cases hk;exact of_decide_eq_false aY vf))
   refine CD.skip ?_;refine⟨_,aQ,mr,oc,rfl⟩
  refine an 148 [0,1,2,3,4,13,63] ?_;refine fT ?_;have oc:¬((t.pg i).high≠high∨∃k,(t.pg i).keys.head?=some k∧bN k low):=(by rw[pX];rintro(h|⟨k,hk,vf⟩);exact h (by simpa using B4);first|(rw[head?_eq_getElem?,getElem?_eq_none w4] at hk;cases hk;done)|(rw[head?_eq_getElem?,getElem?_eq_getElem w4] at hk;cases hk;exact of_decide_eq_false aY vf))
  refine CD.skip ?_;refine⟨_,aQ,mr,oc,rfl⟩
 rintro _ ⟨mr,oc,rfl⟩;refine eK [0,1,2,3,4,13] (fun aW _ (me:List dG×Option Addr×Nat×List ah) aI=>match me with|(I,G4,Z,Dc)=>(zy I G4 Z Dc)∧(∀o∈I,mT o)∧(I.map dG.l=L.map dG.l++replicate (I.length-L.length) [])∧(L.length≤I.length)∧(I.length≤max L.length (level+1))∧aI=(⟨148,aW,(⟨mr,153,5,cP (t.ag[i.toNat]'aa)⟩::⟨b,159,4,[av 5 cP t.ag,ae t.root,.v (.map (some bm)),aR G4 I.length Z]⟩::kR bm (m++[i])::(Dc++I.flatMap dG.s))⟩:St)) (fun (me:List dG×Option Addr×Nat×List ah)=>match me with|(I,G4,Z,Dc)=>level+1-I.length) (L,ad,cap,Sx) ⟨mO,aT,bu,(Nat.le_refl _),w4,rfl⟩ ?_;rintro⟨I,G4,Z,Dc⟩ _ ⟨Vx,pM,Vy,ajn,ajo,rfl⟩;refine af [0,1,2,3,4,13,70] ?_;refine au ?_ ?_<;>intro bZ cM
 ·have mI:=F8.eD;have mI:L.length≤m.length:=(by simpa using mI)
  have E:I.length≤level:=(by omega)
  refine dN 5 ?_;refine ez (cf 0 [_]) [.slice none 0 0] [_] zeroValue67 runUnderlying157 sizeOf67 (fun b76=>?_);refine fP 0 76 1 1 ?_;refine OD.ew (ls:=I) (new:=[rf]) (Sq:=Dc) wB afs ap rfl rfl underlying157 Zi rfl w7 ot Vx (oH (A:=[_,_,_])) ot bu Gl Gl (fun Np Lj ajp ajq=>?_);refine OD.perm (jj (S1:=[⟨Np,67,Lj*1,flatMap gV (I++[rf])⟩]) (A:=[_,_,_])) ?_;rw[←aaC (L:=I)];refine aE 2 ?_;refine aP 1 [_,_,_,_] sizeOf157 ?_;refine an 148 [0,1,2,3,4,13] ?_;refine⟨((I++[rf]),(some ⟨Np,0,none⟩),Lj,[⟨Np,67,Lj*1,flatMap gV (I++[rf])⟩]),_,(by (show level+1-(I++[rf]).length<level+1-I.length;rw[length_append,show[rf].length=1 from rfl];omega)),aQ,(bF ajp ajq),(fun o ho=>by rcases mem_append.1 ho with ho|ho;exact pM o ho;rw[mem_singleton] at ho;subst ho;exact adR),(by rw[map_append,Vy,append_assoc,length_append,show[rf].length=1 from rfl,show I.length+1-L.length=I.length-L.length+1 from by omega,replicate_succ'];rfl),vu,(by rw[length_append,show[rf].length=1 from rfl];omega),rfl⟩
 have E:level<I.length:=(by omega)
 have zz:=adS Vy ajn ajo E;obtain⟨bv,rfl,B3,Bv,rfl⟩:=Vx.pos w4;have ec:mT (I[level]'E):=pM _ (getElem_mem E);have lW:(I[level]'E).l.length≤m.length:=by
    have hz:(I[level]'E).l=(sF (L.map dG.l) (level+1)).getD level []:=(by rw[←zz,getD_eq_getElem?_getD,getElem?_eq_getElem (by rw[length_map];exact E),getElem_map];rfl)
    rw[hz,Jl,getD_eq_getElem?_getD];rcases Nat.lt_or_ge level (L.map dG.l).length with q|q
    ·rw[getElem?_eq_getElem q];exact F8.each _ (getElem_mem q)
    rw[getElem?_eq_none q];simp
 refine CD.perm (Perm.cons _ (Perm.cons _ (Perm.cons _ ((yH dG.s E).append_left _)))) ?_;refine CD.exit ?_;refine CD.seq ?_;refine CD.mono (Q:=fun aW aI=>aW=Exit.normal∧∃(o2:dG),(mT o2)∧(o2.l=(I[level]'E).l++[i])∧Wk aI (⟨148,[(0,dI b),(2,av 1 cB low),(3,av 1 cB high),(4,ae (level:Nat)),(13,dI mr)],(⟨mr,153,5,cP (t.ag[i.toNat]'aa)⟩::⟨b,159,4,[av 5 cP t.ag,ae t.root,.v (.map (some bm)),aR (some ⟨bv,0,none⟩) (I.set level o2).length Z]⟩::kR bm (m++[i])::([⟨bv,67,Z*1,flatMap gV (I.set level o2)⟩]++(I.set level o2).flatMap dG.s))⟩:St)) ?_ ?_
 ·refine CD.draw (aq (take 3 _)) aA (fun _ h=>(Sublist.map _ (take_sublist _ _)).subset h) ?_;refine ay 0 rfl bf ?_;refine ay 1 rfl lO ?_;refine ay 2 rfl (dj 3) ?_;refine ay 3 rfl (dJ 1) ?_;refine ay 4 rfl bf ?_;refine ay 5 rfl bf ?_;refine ay 6 rfl lO ?_;refine ay 7 rfl (dj 3) ?_;refine ay 8 rfl (dJ 1) ?_;refine ay 9 rfl bf ?_;refine ay 10 rfl (dm 1) ?_;refine ay 12 rfl bf ?_;refine di.later rfl ?_;refine AD.two (i:=11) (j:=13) aA ?_ ?_
  ·refine at_ rfl (cR (mk:=Op.load 67) rfl ot (ja (k:=3) (d:=aR (I[level]'E).ad (I[level]'E).l.length (I[level]'E).cp) (i:=level) wB rfl rfl rfl isAgg67 E rfl)) ?_;refine AD.one (i:=13) aA ?_;refine jt (cf 0 [_]) [.int .i64 0] [_] zeroValue3 runUnderlying67 sizeOf3 (fun Xx=>?_);refine ju 0 93 1 1 ?_;refine AD.one (i:=14) aA ?_;refine bj.ew (ls:=(I[level]'E).l) (new:=[i]) (Sq:=(I[level]'E).s) eI nD rfl ap rfl rfl underlying67 Pn rfl w7 ot ec (s8 (A:=[_,_,_]) (S1:=[⟨bv,67,Z*1,flatMap gV I⟩])) ot bu nq nr (fun U O Ll Lm=>?_);refine AD.perm (vY (S2:=[⟨U,3,O*1,flatMap cI ((I[level]'E).l++[i])⟩]) (A:=[_,_,_])) ?_;refine cy 15 rfl (dm 1) ?_;refine AD.one (i:=16) aA ?_;refine bj.storeAt (k:=3) (cs':=flatMap gV (I.set level (⟨(I[level]'E).l++[i],some ⟨U,0,none⟩,O,[⟨U,3,O*1,flatMap cI ((I[level]'E).l++[i])⟩]⟩:dG))) rfl ap rfl rfl ot rfl rfl ot rfl rfl sizeOf67 rfl (by show 0+level*1+1≤(flatMap gV I).length;rw[cn wB];omega) (by rw[Nat.zero_add];exact oI wB I (⟨(I[level]'E).l++[i],some ⟨U,0,none⟩,O,[⟨U,3,O*1,flatMap cI ((I[level]'E).l++[i])⟩]⟩:dG) E) ir ?_
   refine AD.wk (y:=⟨148,[(0,_),(2,_),(3,_),(4,_),(13,_)],(⟨mr,153,5,[_,_,_,_,_]⟩::⟨b,159,4,[_,_,_,_]⟩::_::([⟨bv,67,Z*1,flatMap gV (I.set level (⟨(I[level]'E).l++[i],some ⟨U,0,none⟩,O,[⟨U,3,O*1,flatMap cI ((I[level]'E).l++[i])⟩]⟩:dG))⟩]++([⟨U,3,O*1,flatMap cI ((I[level]'E).l++[i])⟩]++((I.eraseIdx level).flatMap dG.s))))⟩) (Wk.dU rfl rfl fp) rfl ?_;refine AD.done aA ?_;exact⟨rfl,(⟨(I[level]'E).l++[i],some ⟨U,0,none⟩,O,[⟨U,3,O*1,flatMap cI ((I[level]'E).l++[i])⟩]⟩:dG),bF Ll Lm,rfl,by rw[length_set];exact Wk.perm (Perm.cons _ (Perm.cons _ (Perm.cons _ ((qL dG.s E (⟨(I[level]'E).l++[i],some ⟨U,0,none⟩,O,[⟨U,3,O*1,flatMap cI ((I[level]'E).l++[i])⟩]⟩:dG)).symm.append_left _))))⟩
  refine jt (cf 0 [_]) [.int .i64 0] [_] zeroValue3 runUnderlying67 sizeOf3 (fun Xx=>?_);refine ju 0 93 1 1 ?_;refine AD.one (i:=11) aA ?_;refine at_ rfl (cR (mk:=Op.load 67) rfl ot (ja (k:=3) (d:=aR (I[level]'E).ad (I[level]'E).l.length (I[level]'E).cp) (i:=level) wB rfl rfl rfl isAgg67 E rfl)) ?_;refine AD.one (i:=14) aA ?_;refine bj.ew (ls:=(I[level]'E).l) (new:=[i]) (Sq:=(I[level]'E).s) eI nD rfl ap rfl rfl underlying67 Pn rfl w7 ot ec (s8 (A:=[_,_,_]) (S1:=[⟨bv,67,Z*1,flatMap gV I⟩])) ot bu nq nr (fun U O Ll Lm=>?_);refine AD.perm (vY (S2:=[⟨U,3,O*1,flatMap cI ((I[level]'E).l++[i])⟩]) (A:=[_,_,_])) ?_;refine cy 15 rfl (dm 1) ?_;refine AD.one (i:=16) aA ?_;refine bj.storeAt (k:=3) (cs':=flatMap gV (I.set level (⟨(I[level]'E).l++[i],some ⟨U,0,none⟩,O,[⟨U,3,O*1,flatMap cI ((I[level]'E).l++[i])⟩]⟩:dG))) rfl ap rfl rfl ot rfl rfl ot rfl rfl sizeOf67 rfl (by show 0+level*1+1≤(flatMap gV I).length;rw[cn wB];omega) (by rw[Nat.zero_add];exact oI wB I (⟨(I[level]'E).l++[i],some ⟨U,0,none⟩,O,[⟨U,3,O*1,flatMap cI ((I[level]'E).l++[i])⟩]⟩:dG) E) ir ?_
  refine AD.wk (y:=⟨148,[(0,_),(2,_),(3,_),(4,_),(13,_)],(⟨mr,153,5,[_,_,_,_,_]⟩::⟨b,159,4,[_,_,_,_]⟩::_::([⟨bv,67,Z*1,flatMap gV (I.set level (⟨(I[level]'E).l++[i],some ⟨U,0,none⟩,O,[⟨U,3,O*1,flatMap cI ((I[level]'E).l++[i])⟩]⟩:dG))⟩]++([⟨U,3,O*1,flatMap cI ((I[level]'E).l++[i])⟩]++((I.eraseIdx level).flatMap dG.s))))⟩) (Wk.dU rfl rfl fp) rfl ?_;refine AD.done aA ?_;exact⟨rfl,(⟨(I[level]'E).l++[i],some ⟨U,0,none⟩,O,[⟨U,3,O*1,flatMap cI ((I[level]'E).l++[i])⟩]⟩:dG),bF Ll Lm,rfl,by rw[length_set];exact Wk.perm (Perm.cons _ (Perm.cons _ (Perm.cons _ ((qL dG.s E (⟨(I[level]'E).l++[i],some ⟨U,0,none⟩,O,[⟨U,3,O*1,flatMap cI ((I[level]'E).l++[i])⟩]⟩:dG)).symm.append_left _))))⟩
 rintro _ _ ⟨rfl,o2,qJ,F5,Km⟩;refine CD.wk Km ?_;refine af [0,2,3,4,13,97] ?_;refine au ?_ ?_<;>intro cW ek
 ·refine af [10] ?_;refine aJ (SW t b bm (m++[i]) (I.set level o2) (some ⟨bv,0,none⟩) Z _) ?_;rw[ab5 pT oc (by rw[pX];exact cW)];exact⟨rfl,_,_,_,_,bF (by rw[length_set];exact B3) Bv,SG pM qJ,Jn zz E F5,rfl⟩
 have fN:(t.pg i).leaf=false:=(by rw[pX];exact cW)
 have FF:nF t (m++[i],(I.set level o2).map dG.l):=(by rw[Jn zz E F5];exact F8.add hr pT hlm)
 have ajr:=Pg po (by rw[←pX];exact fN);have an8:=(po.node (by rw[←pX];exact fN)).1;have an9:=po.eD;have Bw:(t.ag[i.toNat]'aa).high=high:=(by rw[←pX];exact Classical.byContradiction fun h=>oc (.inl h))
 refine af [0,2,3,4,13,14] ?_;refine af [0,2,3,4,13,14,100,101,102] ?_;refine eK [0,2,3,4,13,100,101] (fun aW _ (me:Nat×Option Nat×List Int×List dG×Option Addr×Nat×List ah) aI=>match me with|(k,deep,m2,L2,uy,tX,uz)=>(k≤(t.ag[i.toNat]'aa).kids.length)∧(lJ (fun c lo hi s=>jr t f c lo hi (level+1) s) low (t.ag[i.toNat]'aa) ((t.ag[i.toNat]'aa).kids.drop k) k deep (m2,(L2.map dG.l))=(jr t (f+1) i low high level (m,(L.map dG.l))))∧(zy L2 uy tX uz)∧(∀o∈L2,mT o)∧(nF t (m2,(L2.map dG.l)))∧(level+1≤m2.length)∧(t.ag.length+1≤f+m2.length)∧((k=0∨deep≠none))∧aI=(⟨148,(14,ae (sg deep))::(102,ae (k:Nat))::aW,(⟨mr,153,5,cP (t.ag[i.toNat]'aa)⟩::⟨b,159,4,[av 5 cP t.ag,ae t.root,.v (.map (some bm)),aR uy L2.length tX]⟩::kR bm m2::(uz++L2.flatMap dG.s))⟩:St)) (fun (me:Nat×Option Nat×List Int×List dG×Option Addr×Nat×List ah)=>match me with|(k,deep,m2,L2,uy,tX,uz)=>(t.ag[i.toNat]'aa).kids.length-k) (0,none,(m++[i]),(I.set level o2),(some ⟨bv,0,none⟩),Z,[⟨bv,67,Z*1,flatMap gV (I.set level o2)⟩]) ⟨(Nat.zero_le _),(by rw[ab6 pT oc fN,Jn zz E F5,pX];rfl),(bF (by rw[length_set];exact B3) Bv),(SG pM qJ),FF,Gs,Gs,(.inl rfl),rfl⟩ ?_;rintro⟨k,deep,m2,L2,uy,tX,uz⟩ _ ⟨hk,De,Vz,jQ,FF,VA,ajs,hdp,rfl⟩;refine af [0,2,3,4,13,14,100,101,102,103] ?_;refine au ?_ ?_<;>intro eA fA
 ·have dY:k<(t.ag[i.toNat]'aa).kids.length:=(by omega)
  have XK:=ajr _ (getElem_mem dY);have hhk:(gY (t.ag[i.toNat]'aa) k).length≤100:=(by unfold gY;rw[getD_eq_getElem?_getD];rcases Nat.lt_or_ge k (t.ag[i.toNat]'aa).keys.length with q|q;(rw[getElem?_eq_getElem q];exact(po.lq _ (getElem_mem q)).2);(rw[getElem?_eq_none q];exact po.hlen))
  refine af [0,2,3,4,13,14,15,16,100,101,102] ?_;refine af [0,2,3,4,13,14,15,16,17,18,100,101,102] ?_;refine CD.cut (fun aI=>aI=(⟨148,[(0,dI b),(2,av 1 cB low),(3,av 1 cB high),(4,ae (level:Nat)),(13,dI mr),(14,ae (sg deep)),(15,ae (k:Nat)),(16,ae ((t.ag[i.toNat]'aa).kids[k]'dY)),(17,.list 1 ((iw low (t.ag[i.toNat]'aa) k).flatMap cB) (iw low (t.ag[i.toNat]'aa) k).length),(18,av 1 cB high),(100,.list 1 ((t.ag[i.toNat]'aa).kids.flatMap cI) (t.ag[i.toNat]'aa).kids.length),(101,ae ((t.ag[i.toNat]'aa).kids.length:Nat)),(102,ae (k:Nat))],(⟨mr,153,5,cP (t.ag[i.toNat]'aa)⟩::⟨b,159,4,[av 5 cP t.ag,ae t.root,.v (.map (some bm)),aR uy L2.length tX]⟩::kR bm m2::(uz++L2.flatMap dG.s))⟩:St)) ?_ ?_
  ·refine af [0,2,3,4,13,14,15,16,17,18,100,101,102,110] ?_;refine au ?_ ?_<;>intro fx gG
   ·have eX:iw low (t.ag[i.toNat]'aa) k=(t.ag[i.toNat]'aa).keys[k-1]'w4:=(by unfold iw;rw[if_neg w4,getD_eq_getElem?_getD,getElem?_eq_getElem w4];rfl)
    refine iF [0,2,3,4,13,14,15,16,17,18,100,101,102] ?_;refine aU 4 ?_ (h:=by exact(dm 1 (h:=by first|exact .l (j:=k-1) w4 w4|exact .r (j:=k-1) w4 w4)));refine bG ?_;refine⟨_,(aQ (h:=by repeat (first|exact trivial|refine⟨(by (repeat (first|exact fD|(apply fX;focus (first|rfl|(rw[eX];done)|(simp;done)))|(apply fH;focus rfl)));done),?_⟩))),rfl⟩
   have eX:iw low (t.ag[i.toNat]'aa) k=low:=(by unfold iw;rw[if_pos w4])
   refine CD.skip ?_;refine⟨_,(aQ (h:=by repeat (first|exact trivial|refine⟨(by (repeat (first|exact fD|(apply fX;focus (first|rfl|(rw[eX];done)|(simp;done)))|(apply fH;focus rfl)));done),?_⟩))),rfl⟩
  rintro _ ⟨rfl⟩;refine CD.cut (fun aI=>aI=(⟨148,[(0,dI b),(2,av 1 cB low),(3,av 1 cB high),(4,ae (level:Nat)),(13,dI mr),(14,ae (sg deep)),(16,ae ((t.ag[i.toNat]'aa).kids[k]'dY)),(17,.list 1 ((iw low (t.ag[i.toNat]'aa) k).flatMap cB) (iw low (t.ag[i.toNat]'aa) k).length),(18,.list 1 ((gY (t.ag[i.toNat]'aa) k).flatMap cB) (gY (t.ag[i.toNat]'aa) k).length),(100,.list 1 ((t.ag[i.toNat]'aa).kids.flatMap cI) (t.ag[i.toNat]'aa).kids.length),(101,ae ((t.ag[i.toNat]'aa).kids.length:Nat)),(102,ae (k:Nat))],(⟨mr,153,5,cP (t.ag[i.toNat]'aa)⟩::⟨b,159,4,[av 5 cP t.ag,ae t.root,.v (.map (some bm)),aR uy L2.length tX]⟩::kR bm m2::(uz++L2.flatMap dG.s))⟩:St)) ?_ ?_
  ·refine af [0,2,3,4,13,14,15,16,17,18,100,101,102,121] ?_;refine au ?_ ?_<;>intro gX kO
   ·have eH:gY (t.ag[i.toNat]'aa) k=(t.ag[i.toNat]'aa).keys[k]'w4:=(by unfold gY;rw[getD_eq_getElem?_getD,getElem?_eq_getElem w4];rfl)
    refine cm [0,2,3,4,13,14,16,17,18,100,101,102] ?_;refine⟨_,(aQ (h:=by repeat (first|exact trivial|refine⟨(by (repeat (first|exact fD|(apply fX;focus (first|rfl|(rw[eH];done)|(simp;done)))|(apply fH;focus rfl)));done),?_⟩))),rfl⟩
   have eH:gY (t.ag[i.toNat]'aa) k=high:=(by unfold gY;rw[getD_eq_getElem?_getD,getElem?_eq_none w4];exact Bw)
   refine CD.skip ?_;refine⟨_,(aQ (h:=by repeat (first|exact trivial|refine⟨(by (repeat (first|exact fD|(apply fX;focus (first|rfl|(rw[eH];done)|(simp;done)))|(apply fH;focus rfl)));done),?_⟩))),rfl⟩
  rintro _ ⟨rfl⟩;refine aD 5 ?_;refine bH (c8 (r:=.int .i64 ((level+1:Nat):Int)) rfl ot bL (ko (by rw[show((level:Nat):Int)+1=((level+1:Nat):Int) from rfl];exact wrap_i64 w4 w4))) ?_;refine OD.call ap rfl rfl rfl call92 (ih ((t.ag[i.toNat]'aa).kids[k]'dY) (iw low (t.ag[i.toNat]'aa) k) (gY (t.ag[i.toNat]'aa) k) (level+1) m2 L2 uy tX uz XK FF VA ajs hhk Vz jQ) ⟨ot,ot,ot,ot,ot,trivial⟩ (perm_append_singleton _ _).symm ?_;rintro r19 S19 mG;rcases jI:jr t f ((t.ag[i.toNat]'aa).kids[k]'dY) (iw low (t.ag[i.toNat]'aa) k) (gY (t.ag[i.toNat]'aa) k) (level+1) (m2,(L2.map dG.l)) with _|⟨d,m3,lv3⟩
  ·rw[jI] at mG;obtain⟨rfl,rfl⟩:=mG;have agY:=De.symm.trans (aaB dY jI);refine an 148 [0,2,3,4,13,14,19,100,101,102] ?_;refine aD 3 ?_;refine bX 136 (fun Bx JQ=>?_) (fun Bx JQ=>?_)
   ·refine bg [0,2,3,4,13,19,100,101,102,144] ?_;refine eM ?_;refine af [10] ?_;refine aJ [] ?_;rw[agY];exact⟨rfl,rfl⟩
   exact absurd Bx w7
  rw[jI] at mG;obtain⟨rfl,L3,G5,F9,G6,VB,xm,rfl,rfl⟩:=mG;obtain⟨Uw,Fv⟩:=Jm hp _ _ _ _ _ _ _ _ XK FF VA jI;have Fv:m2.length≤m3.length:=Fv;refine OD.perm (perm_append_singleton _ _) ?_;refine an 148 [0,2,3,4,13,14,19,100,101,102] ?_;refine aD 3 ?_;refine bX 136 (fun Bx JQ=>?_) (fun Bx JQ=>?_)
  ·exact absurd Bx (by intro e;have e:=of_decide_eq_true e;omega)
  refine aE 3 ?_;refine bX 139 (fun zb afu=>?_) (fun zb afu=>?_)
  ·refine bg [0,2,3,4,13,19,100,101,102,144] ?_;refine au ?_ ?_<;>intro gv lp
   ·refine af [10] ?_;refine aJ [] ?_;rw[De.symm.trans (ab7 dY jI (ab9 (by simpa using zb) (by simpa using gv)))];exact⟨rfl,rfl⟩
   refine cm [0,2,3,4,13,14,100,101,102] ?_;refine cm [0,2,3,4,13,14,100,101,102] ?_;refine⟨((k+1),(some d),m3,L3,G5,F9,G6),_,cD,aQ,w4,((Pj dY jI (by first|exact .inl (Pm (by simpa using zb))|exact .inr (QS (by simpa using zb) (by simpa using gv)))).symm.trans De),VB,xm,Uw,w4,w4,(.inr (fun e=>by cases e)),rfl⟩
  refine bg [0,2,3,4,13,19,100,101,102,144] ?_;refine fT ?_;refine cm [0,2,3,4,13,14,100,101,102] ?_;refine cm [0,2,3,4,13,14,100,101,102] ?_;refine⟨((k+1),(some d),m3,L3,G5,F9,G6),_,cD,aQ,w4,((Pj dY jI (by first|exact .inl (Pm (by simpa using zb))|exact .inr (QS (by simpa using zb) (by simpa using gv)))).symm.trans De),VB,xm,Uw,w4,w4,(.inr (fun e=>by cases e)),rfl⟩
 obtain rfl:k=(t.ag[i.toNat]'aa).kids.length:=(by omega)
 obtain⟨d,rfl⟩:∃d,deep=some d:=(by rcases hdp with h|h;omega;exact Option.ne_none_iff_exists'.1 h)
 refine af [10] ?_;refine aJ (SW t b bm m2 L2 uy tX uz) ?_;rw[←De,ab8 (Nat.le_refl _)];exact⟨rfl,L2,uy,tX,uz,Vz,jQ,rfl,rfl⟩

end Go.Proofs.YtdgichenhdikgaaGreatDoor.Tw

namespace Go.Proofs.YtdgichenhdikgaaGreatDoor.Tw
open List
open Go.Proofs.Tryz
open Go.RowKit V Go.Proofs.YtdgichenhdikgaaGreatDoor.Tr Pk
theorem Jo{G:List (Nat×List Value)}(t:aF)(hp:uP t)(I:t.ag.length≤4000)(b Z:Nat):∀f,Uv G t b Z f
 | 0=>fun i low high level m L ad cap Sx hr E O U _ _ _=>by have h:m.length≤t.ag.length:=E.nJ;exfalso;omega
 | f+1=>fun i low high level m L ad cap Sx hr E O U XJ mO aT=>aaD t hp I b Z f (Jo t hp I b Z f) i low high level m L ad cap Sx hr E O U XJ mO aT
theorem Jp(t:aF):nF t ([],[]):=⟨nodup_nil,(fun x h=>by cases h),Nat.le_refl _,(fun l h=>by cases h),(fun l h=>by cases h)⟩
theorem Jq{t:aF}{e:Int}:∀{l:List Int},fh t l e↔∀k (h:k<l.length),(t.pg l[k]).next=l.getD (k+1) e
  | []=>⟨(fun _ k h=>by cases h),fun _=>trivial⟩
  | [i] => ⟨fun h k hk => by obtain rfl : k=0 := by (simp at hk; exact hk)
                             exact h,fun h=>h 0 bu⟩
  | i::j::r=>by
    show(t.pg i).next=j∧fh t (j::r) e↔_;rw[Jq (l:=j::r)];constructor
    · rintro⟨h1,h2⟩ k hk;cases k with
      | zero=>exact h1
      | succ k=>exact h2 k (by simpa using hk)
    intro h;exact⟨h 0 bu,fun k hk=>h (k+1) (by simpa using hk)⟩
theorem Po{p:cX}{n:Int}:Bt p n=true↔eL p n:=by unfold Bt;simp
section
variable {t:aF}
theorem N6(h:t.ag.length<1∨t.ag.length>4000∨t.root<0∨t.root≥t.ag.length):gE t=11:=by unfold gE;rw[if_pos h]
theorem Zj(h:¬uP t):gE t=11:=by
 unfold gE;split
 ·rfl
 first|rfl|rw[if_pos h]
variable {d:Nat} {m:List Int} {lv:List (List Int)}
theorem Zk(hw:jr t (t.ag.length+1) t.root [] [] 0 ([],[])=none):gE t=11:=by
 unfold gE;split
 ·rfl
 split
 ·rfl
 rw[hw]
theorem aaE(hw:jr t (t.ag.length+1) t.root [] [] 0 ([],[])=some (d,m,lv))(h:m.length≠t.ag.length):gE t=11:=by
 unfold gE;split
 ·rfl
 split
 ·rfl
 rw[hw];exact if_pos h
open Classical in
theorem aaF(hw:jr t (t.ag.length+1) t.root [] [] 0 ([],[])=some (d,m,lv))(h:¬∀l∈lv,fh t l (-1)):gE t=11:=by
 unfold gE;split
 ·rfl
 split
 ·rfl
 rw[hw];show(if m.length≠t.ag.length then (11:Int) else if ∀l∈lv,fh t l (-1) then 0 else 11)=11;split
 ·rfl
 first|rfl|rw[if_neg h]
open Classical in
theorem aaG(h1:¬(t.ag.length<1∨t.ag.length>4000∨t.root<0∨t.root≥t.ag.length))(h2:uP t)(hw:jr t (t.ag.length+1) t.root [] [] 0 ([],[])=some (d,m,lv))(h3:m.length=t.ag.length)(h:∀l∈lv,fh t l (-1)):gE t=0:=by
 unfold gE;rw[if_neg h1,if_neg (fun hn=>hn h2),hw];show(if m.length≠t.ag.length then (11:Int) else if ∀l∈lv,fh t l (-1) then 0 else 11)=0;rw[if_neg (fun hn=>hn h3),if_pos h]
end
def x4(l:List Int):List D:=[av 1 cI l]
theorem adT(l:List Int):(x4 l).length=1:=rfl
theorem SH{S:List ah}:∀{L:List dG},(∀o∈L,mT o)→(∀B∈L.flatMap dG.s,B∈S)→gF S (L.flatMap gV) ((L.map dG.l).flatMap x4)
 | [],_,_=>trivial
 | o::L,h,hs=>by
  rw[map_cons,flatMap_cons,flatMap_cons];refine gF.append ⟨lE (h o mem_cons_self) (cn eI _) (fun B E=>hs B ?_),trivial⟩ (SH (fun o ho=>h o (mem_cons_of_mem _ ho)) fun B E=>hs B ?_)
  ·rw[flatMap_cons];exact mem_append_left _ E
  rw[flatMap_cons];exact mem_append_right _ E
theorem afv{Sx:List ah}{L:List dG}{ad:Option Addr}{cap:Nat}{lv:List (List Int)}(ho:zy L ad cap Sx)(h:∀o∈L,mT o)(hm:L.map dG.l=lv):View (Sx++L.flatMap dG.s) (aR ad L.length cap) (av 1 x4 lv):=by
 subst hm;have:=AG ho (SH (S:=Sx++L.flatMap dG.s) h fun B E=>mem_append_right _ E) (cn adT _ |>.trans bu) (fun B E=>mem_append_left _ E);first|rw[length_map]|(show View _ _ (.list _ _ (length _));rw[length_map])|(show View _ _ (.agg [.list _ _ (length _)]);rw[length_map])
 exact this
variable {G:List (Nat×List Value)}

theorem pn(t:aF)(hb:∀p∈t.ag,p.keys.length≤maxLen∧p.kids.length≤maxLen):VP Tryz.prog G 49 [.agg (cT t)] (ae (gE t)):=by
 refine VC.body func49 rfl ntmps49 aS fun X0 w0 aZ=>?_;unfold cT;have da:=dW;refine bY ?_;refine OD.box (ds:=[_,_]) ap rfl rfl ot rfl rfl (fun b1=>?_);refine an 104 [1] ?_;refine aD 5 ?_;refine bX 15 (fun BL agZ=>?_) (fun BL agZ=>?_)
 ·exact Mm
 refine aE 6 ?_;refine bX 21 (fun qs ag0=>?_) (fun qs ag0=>?_)
 ·exact Mm
 refine aE 5 ?_;refine bX 26 (fun ajt Kn=>?_) (fun ajt Kn=>?_)
 ·exact Mm
 refine bg [1,33] ?_;refine au ?_ ?_<;>intro aN bC
 ·refine af [2] ?_;refine eR ?_;exact⟨vi (N6 w4).symm,rfl⟩
 refine af [1,35,36,37] ?_;refine eK [1,35,36] (fun aW _ (i:Nat) aI=>(i≤t.ag.length)∧(∀j (h:j<t.ag.length),j<i→eL t.ag[j] t.ag.length)∧aI=(⟨104,(37,ae (i:Nat))::aW,[⟨b1,51,2,[av 5 cP t.ag,ae t.root]⟩]⟩:St)) (fun (i:Nat)=>t.ag.length-i) 0 ⟨(Nat.zero_le _),(fun j h h0=>by omega),rfl⟩ ?_;rintro i _ ⟨hi,pX,rfl⟩;refine af [1,35,36,37,38] ?_;refine au ?_ ?_<;>intro aY cz
 ·have aa:i<t.ag.length:=(by omega)
  obtain⟨dY,fB⟩:=hb (t.ag[i]'aa) (getElem_mem aa);refine aD 2 ?_;refine OD.alloc (ds:=[_,_,_,_,_]) ap rfl rfl zeroValue153 rfl (fun b4=>?_);refine aP 0 [_,_,_,_,_] sizeOf153 ?_;refine an 104 [1,4,35,36,37] ?_;refine cH [1,35,36,37,46] (adN (t.ag[i]'aa) (t.ag.length:Nat) dY fB) ?_;refine au ?_ ?_<;>intro bZ cM
  ·have oh:¬uP t:=fun h=>by have:=Po.2 (h (t.ag[i]'aa) (getElem_mem aa));rw[this] at bZ;cases bZ
   refine af [2] ?_;refine aJ [] ?_;exact⟨vi (Zj oh).symm,rfl⟩
  have aju:eL (t.ag[i]'aa) t.ag.length:=Po.1 (by simpa using bZ);refine cm [1,35,36,37] ?_;refine⟨(i+1),_,cD,aQ,w4,(fun j h h0=>by rcases Nat.lt_or_ge j i with q|q;exact pX j h q;obtain rfl:j=i:=w4;exact aju),rfl⟩
 have fk:uP t:=fun p h=>by obtain⟨j,hj,rfl⟩:=mem_iff_getElem.1 h;exact pX j hj w4
 have h4:t.ag.length≤4000:=(by omega)
 have E:0≤t.root∧t.root<t.ag.length:=(by omega)
 refine aD 1 ?_;refine OD.acZ ap rfl rfl (fun O=>?_);refine aE 1 ?_;refine OD.box (ds:=[_,_,_,_]) ap rfl rfl ot rfl rfl (fun U=>?_);refine an 104 [1,5] ?_;refine CD.seq ?_;refine CD.seq ?_;rcases jI:jr t (t.ag.length+1) t.root [] [] 0 ([],[]) with _|⟨d,m,lv⟩
 ·refine fO 14 (aq (drop 2 _)) ?_ (fun _ h=>(Sublist.map _ (drop_sublist _ _)).subset h);refine ay 0 rfl bf ?_;refine ay 1 rfl (dj 1) ?_;refine ay 2 rfl (dJ 2) ?_;refine di.later rfl ?_;refine AD.one (i:=3) aA ?_;refine bj.call rfl ap rfl rfl rfl call92 (VC.e9 (args':=[dI U,ae t.root,bS,bS,ae 0]) (Jo t fk h4 U O (t.ag.length+1) t.root [] [] 0 [] [] none 0 [] E (Jp t) (Nat.le_refl _) (Nat.le_refl _) w7 iI (fun o h=>by cases h)) ⟨.inl rfl,.inl rfl,.inr ⟨1,rfl,rfl⟩,.inr ⟨1,rfl,rfl⟩,.inl rfl,trivial⟩) ⟨ot,ot,bL,bL,bL,trivial⟩ (Perm.refl _) ir ?_;rintro r55 Mh mG;rw[show map dG.l []=[] from rfl,jI] at mG;obtain⟨rfl,rfl⟩:=mG;refine cy 4 rfl mP ?_;refine cy 5 rfl bf ?_;refine AD.split (t:=57) lk (fun tT=>?_) (fun tT=>?_)
  ·have Bo:=tT;(try simp only[V.nv,ne_eq] at Bo)
   refine pP 6 rfl ?_;refine pP 7 rfl ?_;refine pP 11 rfl ?_;refine pP 12 rfl ?_;refine pP 13 rfl ?_;refine AD.one (i:=8) aA ?_;refine bj.skip rfl (mw rfl rfl rfl lk js) rfl ?_;refine AD.one (i:=9) aA ?_;refine bj.skip rfl (mw rfl rfl rfl lk js) rfl ?_;refine AD.one (i:=10) aA ?_;refine bj.skip rfl (mw rfl rfl rfl lk js) rfl ?_;refine eJ ?_;refine bg [1,5,67] ?_;refine eM ?_;try have I:m.length≠t.ag.length:=by intro e;rw[e] at cW;simp at cW
   refine af [2] ?_;refine eR ?_;exact⟨vi (Zk jI).symm,rfl⟩
  exact absurd tT w7
 refine fO 14 (aq (drop 2 _)) ?_ (fun _ h=>(Sublist.map _ (drop_sublist _ _)).subset h);refine ay 0 rfl bf ?_;refine ay 1 rfl (dj 1) ?_;refine ay 2 rfl (dJ 2) ?_;refine di.later rfl ?_;refine AD.one (i:=3) aA ?_;refine bj.call rfl ap rfl rfl rfl call92 (VC.e9 (args':=[dI U,ae t.root,bS,bS,ae 0]) (Jo t fk h4 U O (t.ag.length+1) t.root [] [] 0 [] [] none 0 [] E (Jp t) (Nat.le_refl _) (Nat.le_refl _) w7 iI (fun o h=>by cases h)) ⟨.inl rfl,.inl rfl,.inr ⟨1,rfl,rfl⟩,.inr ⟨1,rfl,rfl⟩,.inl rfl,trivial⟩) ⟨ot,ot,bL,bL,bL,trivial⟩ (Perm.refl _) ir ?_;rintro r55 Mh mG;rw[show map dG.l []=[] from rfl,jI] at mG;obtain⟨rfl,L,ad,cap,Sx,mO,aT,zz,rfl⟩:=mG;refine AD.perm (Perm.cons _ (Perm.cons _ (perm_append_singleton _ _))) ?_;refine cy 4 rfl mP ?_;refine cy 5 rfl bf ?_;refine AD.split (t:=57) lk (fun tT=>?_) (fun tT=>?_)
 ·exact absurd tT (by intro e;have e:=of_decide_eq_true e;omega)
 have Bo:=tT;(try simp only[V.nv,ne_eq] at Bo)
 refine cy 6 rfl bf ?_;refine cy 7 rfl lO ?_;refine cy 11 rfl (dj 0) ?_;refine cy 12 rfl (dJ 2) ?_;refine cy 13 rfl qE ?_;refine AD.one (i:=8) aA ?_;refine at_ rfl (dj 2) ?_;refine AD.one (i:=9) aA ?_;refine at_ rfl (dJ 0) ?_;refine AD.one (i:=10) aA ?_;refine at_ rfl (Y4 (i:=1) rfl rfl ot rfl underlying156) ?_;refine eJ ?_;refine bg [1,5,67] ?_;refine au ?_ ?_<;>intro cW ek
 ·try have I:m.length≠t.ag.length:=by intro e;rw[e] at cW;simp at cW
  refine af [2] ?_;refine eR ?_;exact⟨vi (aaE jI I).symm,rfl⟩
 have I:m.length=t.ag.length:=(by have:=cW;simp at this;omega)
 refine CD.wk (Wk.cover (A:=⟨U,159,4,[av 5 cP t.ag,ae t.root,.v (.map (some O)),aR ad L.length cap]⟩) (R:=[kR O m,⟨b1,51,2,[av 5 cP t.ag,ae t.root]⟩]) (Sd:=Sx++L.flatMap dG.s) (cs':=[av 5 cP t.ag,ae t.root,.v (.map (some O)),av 1 x4 lv]) (Perm.refl _) ⟨eU,eU,eU,afv mO aT zz,trivial⟩) ?_;obtain⟨Z,_⟩:=Jm fk _ _ _ _ _ _ _ _ E (Jp t) (Nat.le_refl _) jI;refine af [1,71,72,73] ?_;refine W9 (fun (i:Nat) aI=>(i≤lv.length)∧(∀j (_:j<i) (h:j<lv.length),fh t lv[j] (-1))∧aI=(⟨104,[(1,dI b1),(71,av 1 x4 lv),(72,ae (lv.length:Nat)),(73,ae (i:Nat))],[⟨b1,51,2,[av 5 cP t.ag,ae t.root]⟩]⟩:St)) (fun (i:Nat)=>lv.length-i) 0 ⟨(Nat.zero_le _),(fun j h _=>by omega),rfl⟩ ?_;rintro i _ ⟨j8,G7,rfl⟩;refine af [1,71,72,73,74] ?_;refine au ?_ ?_<;>intro eA fA
 ·have fB:i<lv.length:=(by omega)
  have CV:∀x∈(lv[i]'fB),0≤x∧x<t.ag.length:=Z.el _ (getElem_mem fB);have lW:(lv[i]'fB).length≤m.length:=Z.each _ (getElem_mem fB);have XL:lv.length≤m.length:=Z.eD;refine af [1,7,71,72,73] ?_;refine af [1,7,71,72,73,77,78,79] ?_;refine W9 (fun (k:Nat) aI=>(k≤(lv[i]'fB).length)∧(∀j (_:j<k) (h:j<(lv[i]'fB).length),(t.pg (lv[i]'fB)[j]).next=(lv[i]'fB).getD (j+1) (-1))∧aI=(⟨104,[(1,dI b1),(7,.list 1 ((lv[i]'fB).flatMap cI) (lv[i]'fB).length),(71,av 1 x4 lv),(72,ae (lv.length:Nat)),(73,ae (i:Nat)),(77,.list 1 ((lv[i]'fB).flatMap cI) (lv[i]'fB).length),(78,ae ((lv[i]'fB).length:Nat)),(79,ae (k:Nat))],[⟨b1,51,2,[av 5 cP t.ag,ae t.root]⟩]⟩:St)) (fun (k:Nat)=>(lv[i]'fB).length-k) 0 ⟨(Nat.zero_le _),(fun j h _=>by omega),rfl⟩ ?_;rintro k _ ⟨hk,hn,rfl⟩;refine af [1,7,71,72,73,77,78,79,80] ?_;refine au ?_ ?_<;>intro fx gG
  ·have dY:k<(lv[i]'fB).length:=(by omega)
   have Nq:=CV _ (getElem_mem dY);have gd:((lv[i]'fB)[k]'dY).toNat<t.ag.length:=(by omega)
   have XM:t.pg ((lv[i]'fB)[k]'dY)=t.ag[((lv[i]'fB)[k]'dY).toNat]'gd:=u6 Nq;refine af [1,7,8,9,71,72,73,77,78,79] ?_;refine af [1,7,8,9,10,71,72,73,77,78,79] ?_;refine CD.cut (fun aI=>aI=(⟨104,[(1,dI b1),(7,.list 1 ((lv[i]'fB).flatMap cI) (lv[i]'fB).length),(9,ae ((lv[i]'fB)[k]'dY)),(10,ae ((lv[i]'fB).getD (k+1) (-1))),(71,av 1 x4 lv),(72,ae (lv.length:Nat)),(73,ae (i:Nat)),(77,.list 1 ((lv[i]'fB).flatMap cI) (lv[i]'fB).length),(78,ae ((lv[i]'fB).length:Nat)),(79,ae (k:Nat))],[⟨b1,51,2,[av 5 cP t.ag,ae t.root]⟩]⟩:St)) ?_ ?_
   ·refine af [1,7,8,9,10,71,72,73,77,78,79,88] ?_;refine au ?_ ?_<;>intro gX kO
    ·have kW:(lv[i]'fB).getD (k+1) (-1)=(lv[i]'fB)[k+1]'w4:=(by rw[getD_eq_getElem?_getD,getElem?_eq_getElem w4];rfl)
     refine iF [1,7,9,10,71,72,73,77,78,79] ?_;refine aU 3 ?_ (h:=by exact(dm 1 (h:=by first|exact .l (j:=k+1) w4 w4|exact .r (j:=k+1) w4 w4)));refine bG ?_;exact z91
    have kW:(lv[i]'fB).getD (k+1) (-1) = -1:=(by rw[getD_eq_getElem?_getD,getElem?_eq_none w4];rfl)
    refine CD.skip ?_;exact z91
   rintro _ ⟨rfl⟩;refine cQ [1,7,71,72,73,77,78,79,101] ?_;refine aU 3 ?_ (h:=by exact(dm 5 (h:=by first|exact .l (j:=((lv[i]'fB)[k]'dY).toNat) (Int.toNat_of_nonneg Nq.1).symm gd|exact .r (j:=((lv[i]'fB)[k]'dY).toNat) (Int.toNat_of_nonneg Nq.1).symm gd)));refine bG ?_;refine au ?_ ?_<;>intro gv lp
   ·have oh:¬∀l∈lv,fh t l (-1):=fun h=>by have:=Jq.1 (h (lv[i]'fB) (getElem_mem fB)) k dY;rw[XM] at this;simp[this] at gv
    refine af [2] ?_;refine aJ [] ?_;exact⟨vi (aaF jI oh).symm,rfl⟩
   have nO:(t.pg ((lv[i]'fB)[k]'dY)).next=(lv[i]'fB).getD (k+1) (-1):=(by rw[XM];simpa using gv)
   refine cm [1,7,71,72,73,77,78,79] ?_;refine⟨(k+1),_,cD,aQ,w4,(fun j h0 h=>by rcases Nat.lt_or_ge j k with q|q;exact hn j q h;obtain rfl:j=k:=w4;exact nO),rfl⟩
  have ajv:fh t (lv[i]'fB) (-1):=Jq.2 fun j hj=>hn j w4 hj;refine cm [1,71,72,73] ?_;refine⟨(i+1),_,cD,aQ,w4,(fun j h0 h=>by rcases Nat.lt_or_ge j i with q|q;exact G7 j q h;obtain rfl:j=i:=w4;exact ajv),rfl⟩
 have nk:i=lv.length:=(by omega)
 refine af [2] ?_;refine aJ [] ?_;exact⟨vi (aaG w4 fk jI I fun l hl=>by obtain⟨j,hj,rfl⟩:=mem_iff_getElem.1 hl;exact G7 j w4 hj).symm,rfl⟩

end Go.Proofs.YtdgichenhdikgaaGreatDoor.Tw

namespace Go.Proofs.YtdgichenhdikgaaGreatDoor.Tw
open List
open Go.Proofs.Tryz
open Go.RowKit V Tr Pk
variable {t:aF} {k:K}
noncomputable def lu(t:aF)(k:K):Int:=if gE t=0 then (if oo k=true then 0 else 1) else gE t
theorem Es(h:¬gE t=0):lu t k=gE t:=by unfold lu;rw[if_neg h]
theorem D7(h:gE t=0)(hk:oo k=false):lu t k=1:=by unfold lu;rw[if_pos h,hk];rfl
theorem IU(h:gE t=0)(hk:oo k=true):lu t k=0:=by unfold lu;rw[if_pos h,hk];rfl
def en(t:aF)(k:K)(h:Nat):Int:=(t.pg (aH t k h t.root)).kids.getD (aO (t.pg (aH t k h t.root)) k) 0
noncomputable def findF(t:aF)(k:K)(h:Nat):Int×Int:=if lu t k=0 then (if iy t k h=true then (en t k h,0) else (0,8)) else (0,lu t k)
theorem acd{h:Nat}(v:Valid t h):∀p∈t.ag,p.keys.length≤maxLen∧p.kids.length≤maxLen:=fun p hp=>by
 have po:=v.fF p hp;have da:=dW;have h1:=po.eD;cases hl:p.leaf with
 | true=>have:=po.leaf hl;omega
 | false=>have:=(po.node hl).1;omega
theorem D4{h:Nat}(v:Valid t h)(k:K):(jf t k h t.root).length≤1000000:=by
 rw[ED];have:=v.high;have:=v.nJ;omega
theorem II(h:oo k=true):0<k.length∧k.length≤100:=of_decide_eq_true h
variable {G:List (Nat×List Value)}
theorem HA(t:aF)(k:K)(hb:∀p∈t.ag,p.keys.length≤maxLen∧p.kids.length≤maxLen):VP Tryz.prog G 110 [.agg (cT t),av 1 cB k] (ae (lu t k)):=by
 refine VC.body func110 rfl ntmps110 aS fun X0 w0 aZ=>?_;have fg:=pn (G:=G) t hb;unfold cT at fg;unfold cT;refine bY ?_;refine OD.box (ds:=[_,_]) ap rfl rfl ot rfl rfl (fun b2=>?_);refine an 14 [1,2] ?_;refine cH [1,5] (fg) ?_;refine af [1,5,9] ?_;refine au ?_ ?_<;>intro aN bC
 ·have hn:¬gE t=0:=(by simpa using aN)
  exact z93
 have hz:gE t=0:=(by simpa using aN)
 refine cH [13] (yQ k) ?_;refine au ?_ ?_<;>intro aY cz
 ·exact z93
 refine af [4] ?_;refine aJ [] ?_;first|exact⟨vi (Es hn).symm,rfl⟩|exact⟨vi (D7 hz vz).symm,rfl⟩|exact⟨vi (IU hz vz).symm,rfl⟩
theorem afw(t:aF)(h:Nat)(k:K)(hb:∀p∈t.ag,p.keys.length≤maxLen∧p.kids.length≤maxLen)(hv:gE t=0→Valid t h):VP Tryz.prog G 65 [.agg (cT t),av 1 cB k] (.dF [ae (findF t k h).1,ae (findF t k h).2]):=by
 refine VC.body func65 rfl ntmps65 aS fun X0 w0 aZ=>?_;have fg:=HA (G:=G) t k hb;unfold cT at fg;unfold cT;have da:=dW;refine bY ?_;refine OD.box (ds:=[_,_]) ap rfl rfl ot rfl rfl (fun b2=>?_);refine an 34 [1,2] ?_;refine cH [1,2,6] (fg) ?_;refine af [1,2,6,14] ?_;refine au ?_ ?_<;>intro aN bC
 ·have hn:¬lu t k=0:=(by simpa using aN)
  refine af [4,5] ?_;refine aJ [] ?_;exact⟨by unfold findF;rw[if_neg hn],rfl⟩
 have hz:lu t k=0:=(by simpa using aN)
 have hc:gE t=0:=Classical.byContradiction fun e=>by rw[Es e] at hz;exact e hz
 have U:oo k=true:=(by cases hq:oo k with|true=>rfl|false=>rw[D7 hc hq] at hz;cases hz)
 have v:=hv hc;have dY:=II U;have fy:=pu (G:=G) t h v k w4 (D4 v k);unfold cT at fy;obtain⟨q1,E⟩:=v.leaf k;have aa:(aH t k h t.root).toNat<t.ag.length:=(by omega)
 have I:t.pg (aH t k h t.root)=(t.ag[(aH t k h t.root).toNat]'aa):=u6 q1;refine cH [2,7,8,9] (fy) ?_;refine af [2,7,8,24] ?_;refine au ?_ ?_<;>intro aY cz
 ·have iW:iy t k h=false:=(by simpa using aY)
  refine af [4,5] ?_;refine aJ [] ?_;exact⟨by unfold findF;rw[if_pos hz,if_neg xy],rfl⟩
 have iW:iy t k h=true:=(by simpa using aY)
 obtain⟨ha,M6⟩:=(D3 v k).1 iW;have po:=v.fF _ (jB q1);have hle:=po.leaf E;have O:aO (t.pg (aH t k h t.root)) k<(t.pg (aH t k h t.root)).kids.length:=(by omega)
 have Z:aO (t.ag[(aH t k h t.root).toNat]'aa) k<(t.ag[(aH t k h t.root).toNat]'aa).kids.length:=(by rw[←I];exact O)
 rw[I];refine cQ [4,5] ?_;refine aU 3 ?_ (h:=by exact(dm 5 (h:=by first|exact .l (j:=(aH t k h t.root).toNat) (Int.toNat_of_nonneg q1.1).symm aa|exact .r (j:=(aH t k h t.root).toNat) (Int.toNat_of_nonneg q1.1).symm aa)));refine bG ?_;refine aJ [] ?_;exact⟨by unfold findF en;rw[if_pos hz,if_pos iW,I,tg Z],rfl⟩
theorem aaH{S:List ah}:gF S [cg true,bS,bS,bS,ae (-1)] (cP (⟨true,[],[],[],-1⟩:cX)):=⟨eU,yo,yo,yo,eU,trivial⟩
theorem afx(E:True):VC Tryz.prog G 83 [] [] (fun r S=>∃b,r = .agg [aR (some ⟨b,0,none⟩) 1 1,ae 0]∧S=[⟨b,153,5,[cg true,bS,bS,bS,ae (-1)]⟩]):=by
 refine VC.body func83 rfl ntmps83 aS fun X0 w0 aZ=>?_;refine bY ?_;refine OD.alloc (ds:=[_,_]) ap rfl rfl zeroValue51 rfl (fun b0=>?_);refine an 4 [0] ?_;refine aD 1 ?_;refine ez (cf 0 [_]) [.bool false,.slice none 0 0,.slice none 0 0,.slice none 0 0,.int .i64 0] [_,_,_,_,_] zeroValue153 runUnderlying49 sizeOf153 (fun b2=>?_);refine aE 1 ?_;refine aP 1 [_,_] sizeOf51 ?_;refine an 4 [0] ?_;refine aJ [_] ?_;exact⟨_,rfl,rfl⟩
theorem afy:VP Tryz.prog G 83 [] (.agg (cT oM)):=VC.cover (afx trivial) fun r S ⟨b,hr,hS⟩=>by
 subst hr;subst hS;exact uI ⟨OP (cs:=[cg true,bS,bS,bS,ae (-1)]) (e:=153) (size:=5) mem_cons_self aaH rfl (Nat.le_refl _) w7,eU,trivial⟩

end Go.Proofs.YtdgichenhdikgaaGreatDoor.Tw
namespace Go.Proofs.YtdgichenhdikgaaGreatDoor.Tr
open List
open Go.Proofs.Tryz
open Go.Lib (compareBytes)
variable {t:aF} {k:K} {row:Int}
variable {h m:Nat} {u:aF} {up:K}
def dr(t:aF)(k:K):Nat→Int→Nat→Int
 | 0,i,_=>i
 | h+1,i,m=>if m=h+1 then i else dr t k h ((t.pg i).kids.getD (aO (t.pg i) k) 0) m
theorem HX:∀(h:Nat) (i:Int),dr t k h i h=i
 | 0,_=>rfl
 | h+1,i=>by rw[dr,if_pos rfl]
theorem AE:∀{h:Nat} {i:Int} {m:Nat},m<h→dr t k h i m=(t.pg (dr t k h i (m+1))).kids.getD (aO (t.pg (dr t k h i (m+1))) k) 0
 | 0,_,_,hm=>by omega
 | h+1,i,m,hm=>by
  rw[dr,if_neg w4,dr];by_cases e:m=h
  ·subst e;rw[HX,if_pos rfl]
  rw[if_neg w4];exact AE w4
theorem Pp:∀{h:Nat} {i:Int} {m:Nat},m≤h→(jf t k h i)[h-m]?=some (dr t k h i m)
 | 0,i,m,_=>by
  obtain rfl:m=0:=(by omega)
  rfl
 | h+1,i,m,hm=>by
  rw[jf,dr];by_cases e:m=h+1
  ·subst e;rw[if_pos rfl,Nat.sub_self];rfl
  rw[if_neg e,show h+1-m=(h-m)+1 from by omega,getElem?_cons_succ];exact Pp w4
theorem EE{n:Int}(hp:∀p∈t.ag,eL p n):∀{h:Nat} {i:Int} {low high:K},dX t h i low high→(ids t h i).Nodup→lD low high k→(∀x∈ev t h i,x.1≠k)→∀m,m≤h →
  ∃lo hi,dX t m (dr t k h i m) lo hi∧(ids t m (dr t k h i m)).Nodup∧lD lo hi k∧∀x∈ev t m (dr t k h i m),x.1≠k
 | 0,i,low,high,ok,nd,hk,hn,m,hm=>by
  obtain rfl:m=0:=(by omega)
  exact⟨low,high,ok,nd,hk,hn⟩
 | h+1,i,low,high,ok,nd,hk,hn,m,hm=>by
  by_cases e:m=h+1
  ·subst e;rw[HX];exact⟨low,high,ok,nd,hk,hn⟩
  obtain⟨q1,q2,E,O,I⟩:=id ok;have po:=hp _ (jB q1);obtain⟨d1,d2⟩:=down po q2 E hk;have:=EE hp (I _ d1) (vU d1 nd).1 d2 (fun x hx=>hn x L8) m w4;rw[←tg d1] at this;rw[dr,if_neg e];exact this
structure afz (u:aF) (i:Int) (up:K) (aC:Int):Prop where
 fF:∀p∈u.ag,eL p u.ag.length
 rg:0≤i∧i<u.ag.length
 out:up∉(u.pg i).keys
 len:1≤up.length∧up.length≤100
 high:(u.pg i).high≠[]→bN up (u.pg i).high
 nn:0≤aC
 nnl:(u.pg i).leaf=false→aC<u.ag.length
def kz(t:aF)(k:K)(row:Int)(h m:Nat):aF×Option (K×Int):=if m=0 then (t,some (k,row)) else gC t k row (m-1) (dr t k h t.root (m-1))
theorem QT(h:Nat):kz t k row h (h+1)=gC t k row h t.root:=by unfold kz;rw[if_neg w4,Nat.add_sub_cancel,HX]
theorem Pq(hm:m≤h){aC:Int}(e:kz t k row h m=(u,some (up,aC))):kz t k row h (m+1)=q9 u (dr t k h t.root m) up aC:=by
 unfold kz at e ⊢;rw[if_neg w4,Nat.add_sub_cancel];cases m with
 | zero=>rw[if_pos rfl] at e;injection e with e1 e2;injection e2 with e2;injection e2 with e2 E;subst e1 e2 E;rw[gC]
 | succ m=>rw[if_neg w4,Nat.add_sub_cancel,AE w4] at e;rw[gC,e]
theorem aaI(h0:0<m)(hm:m≤h)(e:kz t k row h m=(u,none)):kz t k row h (m+1)=(u,none):=by
 unfold kz at e ⊢;rw[if_neg w4,Nat.add_sub_cancel];cases m with
 | zero=>omega
 | succ m=>rw[if_neg w4,Nat.add_sub_cancel,AE w4] at e;rw[gC,e]
theorem Pr{h:Nat}{u:aF}:∀(d m:Nat),m+d=h+1→0<m→kz t k row h m=(u,none)→gC t k row h t.root=(u,none)
 | 0,m,hm,_,e=>by
  obtain rfl:m=h+1:=(by omega)
  rw[←QT];exact e
 | d+1,m,hm,h0,e=>Pr d (m+1) w4 w4 (aaI h0 w4 e)
theorem QU(v:Valid t h)(hn:∀x∈kU t h,x.1≠k)(hl:1≤k.length∧k.length≤100)(hr:0≤row)(hm:m≤h):∃lo hi,dX t m (dr t k h t.root m) lo hi∧lD lo hi k∧oC t (gC t k row m (dr t k h t.root m)).1 m (dr t k h t.root m) lo hi k row (gC t k row m (dr t k h t.root m)).2:=by
 obtain⟨lo,hi,ok,nd,hk,hne⟩:=EE v.fF v.ok v.zx (tF k) hn m hm;exact⟨lo,hi,ok,hk,Fg v.fF ok nd hk hne hl hr⟩
theorem HY(v:Valid t h)(hn:∀x∈kU t h,x.1≠k)(hl:1≤k.length∧k.length≤100)(hr:0≤row)(hm:m≤h+1){r:Option (K×Int)}(e:kz t k row h m=(u,r)):u.root=t.root∧u.ag.length≤t.ag.length+m∧t.ag.length≤u.ag.length∧∀p∈u.ag,eL p u.ag.length:=by
 unfold kz at e;cases m with
 | zero=>rw[if_pos rfl] at e;injection e with e1 e2;subst e1;exact⟨rfl,Nat.le_refl _,Nat.le_refl _,v.fF⟩
 | succ m =>
  rw[if_neg w4,Nat.add_sub_cancel] at e;obtain⟨lo,hi,_,_,I⟩:=QU v hn hl hr (m:=m) w4;rw[e] at I;exact⟨I.root,I.more,I.le,I.fF⟩
theorem adU(v:Valid t h)(hn:∀x∈kU t h,x.1≠k)(hl:1≤k.length∧k.length≤100)(hr:0≤row)(hm:m≤h+1){aC:Int}(e:kz t k row h m=(u,some (up,aC))):up.length≤100:=by
 unfold kz at e;cases m with
 | zero=>rw[if_pos rfl] at e;injection e with e1 e2;injection e2 with e2;injection e2 with e2 E;subst e2;exact hl.2
 | succ m =>
  rw[if_neg w4,Nat.add_sub_cancel] at e;obtain⟨lo,hi,_,_,I⟩:=QU v hn hl hr (m:=m) w4;rw[e] at I;exact I.ok.1.2
theorem adV(v:Valid t h)(hn:∀x∈kU t h,x.1≠k)(hl:1≤k.length∧k.length≤100)(hr:0≤row)(hm:m≤h){aC:Int}(e:kz t k row h m=(u,some (up,aC))):afz u (dr t k h t.root m) up aC:=by
 cases m with
 | zero =>
  unfold kz at e;rw[if_pos rfl] at e;injection e with e1 e2;injection e2 with e2;injection e2 with e2 e3;subst e1 e2 e3
  obtain⟨lo,hi,⟨q1,q2,O,q4⟩,nd,hk,hne⟩:=EE v.fF v.ok v.zx (tF k) hn 0 hm;refine⟨v.fF,q1,fun hm=>?_,hl,fun E=>?_,hr,fun h=>by rw[q2] at h;cases h⟩
  ·have po:=v.fF _ (jB q1);have hlen:=po.leaf q2;obtain⟨a,ha,he⟩:=mem_iff_getElem.1 hm;exact hne (k,(t.pg (dr t k h t.root 0)).kids[a]'w4) ((AK hlen).2 ⟨a,ha,by rw[he]⟩) rfl
  rw[O] at E ⊢;exact hk.2 E
 | succ m =>
  obtain⟨s1,s2,s3,s4⟩:=HY v hn hl hr w4 e;unfold kz at e;rw[if_neg w4,Nat.add_sub_cancel] at e;obtain⟨lo,hi,ok,nd,hk,hne⟩:=EE v.fF v.ok v.zx (tF k) hn (m+1) hm;obtain⟨q1,q2,O,q4,q5⟩:=id ok;have po:=v.fF _ (jB q1);obtain⟨d1,d2⟩:=down po q2 O hk;have U:=Fg (row:=row) v.fF (q5 _ d1) (vU d1 nd).1 d2 (fun x hx=>hne x L8) hl hr;rw[←tg d1,←AE w4,e,AE w4] at U;have M:jz t u m (dr t k h t.root (m+1)) lo hi (aO (t.pg (dr t k h t.root (m+1))) k) k row (some (up,aC)):=⟨v.fF,ok,nd,d1,d2,U⟩
  obtain⟨m1,m2,m3,m4⟩:=M.place;have Z:=M.same;obtain⟨o1,o2,o3,o4,o5⟩:(1≤up.length∧up.length≤100)∧_∧_∧_∧dX u m aC up _:=U.ok;have I:=o5.idx;refine⟨s4,⟨q1.1,by omega⟩,by rw[Z];exact m2,o1,fun E=>?_,I.1,fun _=>I.2⟩;rw[Z,O] at E ⊢;exact m3.2 E

end Go.Proofs.YtdgichenhdikgaaGreatDoor.Tr
namespace Go.Proofs.YtdgichenhdikgaaGreatDoor.Tr
open List
open Go.Proofs.Tryz
open Go.Lib (compareBytes)
variable {t:aF} {h:Nat} {k:K}
variable {i:Int}
noncomputable def nh(t:aF)(h:Nat)(k:K):List (K×Int):=(kU t h).filter fun x=>decide (¬bN x.1 k)
def jd(t:aF)(ls:List Int):List (K×Int):=ls.flatMap fun l=>fb (t.pg l)
theorem fh.tail{r:List Int}{e:Int}(h:fh t (i::r) e):fh t r e:=by
 cases r with
 | nil=>trivial
 | cons j r=>exact h.2
theorem fh.next{i:Int}{r:List Int}{e:Int}(h:fh t (i::r) e):(t.pg i).next=r.headD e:=by
 cases r with
 | nil=>exact h
 | cons j r=>exact h.1
theorem fh.drop{e:Int}:∀{a b:List Int},fh t (a++b) e→fh t b e
 | [],_,h=>h
 | i::a,b,h=>fh.drop (a:=a) (fh.tail h)
theorem QV:∀{h:Nat} {i:Int} {low high:K},dX t h i low high→∀l∈cG t h i,(0≤l∧l<t.ag.length)∧(t.pg l).leaf=true
 | 0,i,low,high,ok,l,hl=>by
  rw[cG,mem_singleton] at hl;subst hl;exact⟨ok.1,ok.2.1⟩
 | h+1,i,low,high,ok,l,hl=>by
  obtain⟨q1,q2,I,O,E⟩:=ok;rw[cG] at hl;obtain⟨c,hc,hl⟩:=mem_flatMap.1 hl;obtain⟨j,hj,rfl⟩:=mem_iff_getElem.1 hc;exact QV (E j hj) l hl
structure qU (t:aF) (ls:List Int):Prop where
 oZ:fh t ls (-1)
 at_:∀l∈ls,(0≤l∧l<t.ag.length)∧(t.pg l).leaf=true
theorem qU.tail{i:Int}{r:List Int}(h:qU t (i::r)):qU t r:=⟨fh.tail h.oZ,fun l hl=>h.at_ l (mem_cons_of_mem _ hl)⟩
theorem qU.head{ls:List Int}(h:qU t ls):(0≤ls.headD (-1)→∃r,ls=ls.headD (-1)::r)∧(ls.headD (-1)<0→ls=[]):=by
 cases ls with
 | nil=>exact⟨fun h=>by simp at h,fun _=>rfl⟩
 | cons i r=>exact⟨fun _=>⟨r,rfl⟩,fun h0=>by have:=(h.at_ i mem_cons_self).1;simp at h0;omega⟩
theorem OB(v:Valid t h):qU t (cG t h t.root):=⟨v.oZ h (Nat.le_refl _),QV v.ok⟩
theorem Ej(v:Valid t h){l:Int}(hl:(0≤l∧l<t.ag.length)∧(t.pg l).leaf=true):(fb (t.pg l)).length=(t.pg l).keys.length:=by
 have:=(v.fF _ (jB hl.1)).leaf hl.2;unfold fb;rw[length_zip];omega
theorem Zl(v:Valid t h)(k:K):∃r,qU t (aH t k h t.root::r)∧nh t h k=(jd t (aH t k h t.root::r)).drop (aO (t.pg (aH t k h t.root)) k)∧aO (t.pg (aH t k h t.root)) k≤(t.pg (aH t k h t.root)).keys.length:=by
 obtain⟨pre,post,e,he⟩:=aam v.fF v.ok (tF k);have hL:=OB v;have hl:=v.leaf k;have fQ:aO (t.pg (aH t k h t.root)) k≤(t.pg (aH t k h t.root)).keys.length:=by
  unfold aO;split
  ·exact yx _ _
  exact AT _ _
 rw[e] at hL;refine⟨post,⟨fh.drop hL.oZ,fun l hl=>hL.at_ l (mem_append_right _ hl)⟩,?_,fQ⟩;unfold nh kU;rw[he];unfold jd;rw[flatMap_cons,drop_append_of_le_length (by rw[Ej v hl];exact fQ)]
theorem aaJ(v:Valid t h){r:List Int}(hL:qU t (i::r)){a:Nat}(ha:a<(t.pg i).keys.length)(hk:a<(t.pg i).kids.length) :
  (jd t (i::r)).drop a=((t.pg i).keys[a],(t.pg i).kids[a])::(jd t (i::r)).drop (a+1):=by
 have hi:=hL.at_ i mem_cons_self;have hlen:=Ej v hi;have h1:a<(jd t (i::r)).length:=(by unfold jd;rw[flatMap_cons,length_append];omega)
 rw[drop_eq_getElem_cons h1];congr 1;unfold jd;simp only[flatMap_cons];rw[getElem_append_left w4];unfold fb;rw[getElem_zip]
theorem Zm(v:Valid t h){r:List Int}(hL:qU t (i::r)){a:Nat}(ha:a=(t.pg i).keys.length):(jd t (i::r)).drop a=(jd t r).drop 0:=by
 have hi:=hL.at_ i mem_cons_self;have hlen:=Ej v hi;unfold jd;rw[flatMap_cons,drop_zero,drop_append_of_le_length w4,drop_eq_nil_of_le w4];rfl
theorem ace(v:Valid t h):kU t h=jd t (cG t h t.root):=wc t h t.root
theorem HZ(v:Valid t h):(kU t h).Pairwise fun x y=>bN x.1 y.1:=(Ji v.fF v.ok).1
theorem aaK(v:Valid t h)(k:K):(nh t h k).Pairwise fun x y=>bN x.1 y.1:=(HZ v).filter _
theorem acf(t:aF)(h:Nat):nh t h []=kU t h:=by
 unfold nh;rw[filter_eq_self.2];intro x _;simpa using JM x.1
theorem acg(v:Valid t h):(kU t h).length≤4*t.ag.length:=by
 have key:∀(ls:List Int),(∀l∈ls,(0≤l∧l<t.ag.length)∧(t.pg l).leaf=true)→(jd t ls).length≤4*ls.length:=by
  intro ls;induction ls with
  | nil=>intro _;simp[jd]
  | cons i r ih =>
   intro hl;have h1:=Ej v (hl i mem_cons_self);have h2:=(v.fF _ (jB (hl i mem_cons_self).1)).eD;have h3:=ih fun l E=>hl l (mem_cons_of_mem _ E);unfold jd at h3 ⊢;rw[flatMap_cons,length_append,length_cons];omega
 have I:(cG t h t.root).length≤(ids t h t.root).length:=by
  have:∀(h:Nat) (i:Int),(cG t h i).length≤(ids t h i).length:=by
   intro h;induction h with
   | zero=>intro i;simp[cG,ids]
   | succ h ih =>
    intro i;rw[cG,ids,length_cons,length_flatMap,length_flatMap];have:∀(l:List Int),(l.map fun a=>(cG t h a).length).sum≤(l.map fun a=>(ids t h a).length).sum:=by
     intro l;induction l with
     | nil=>simp
     | cons a l O=>simp only[map_cons,sum_cons];have:=ih a;omega
    have:=this (t.pg i).kids;omega
  exact this h t.root
 rw[ace v];have:=key _ (OB v).at_;rw[v.all] at I;omega
theorem QW(v:Valid t h)(k:K):(nh t h k).length≤16000:=by
 have:=acg v;have h1:=v.nJ;have:(nh t h k).length≤(kU t h).length:=(filter_sublist).length_le;omega

end Go.Proofs.YtdgichenhdikgaaGreatDoor.Tr
namespace Go.Proofs.YtdgichenhdikgaaGreatDoor.Tw
open List
open Go.Proofs.Tryz
open Go.RowKit V Tr Pk
def cE(e:K×Int):List D:=[av 1 cB e.1,ae e.2]
theorem Tv(e:K×Int):(cE e).length=2:=rfl
def Ga(e:K×Int):List D:=[.agg (cE e)]
theorem afA(b:UInt8):fM (cB b)=true:=rfl
theorem yR(k:K):fM (k.flatMap cB)=true:=uM afA k
theorem yS(e:K×Int):fM (cE e)=true:=by simp[cE,fM,iH,yR]
theorem ach(e:K×Int):fM (Ga e)=true:=by simp[Ga,fM,iH,yS]
def Ko(t:aF)(k:K):List D:=[.fE [av 5 cP t.ag,ae t.root] 0,.fE [av 1 cB k] 0]
variable {G:List (Nat×List Value)}
theorem rM : ∀ w, ((#[{ name := "Key", type := 88, offset := 0, embedded := false, tag := "", pkgPath := "", byteOffset := 0 }, { name := "Row", type := 3, offset := 1, embedded := false, tag := "", pkgPath := "", byteOffset := 24 }] : Array Field).mapM fun f => do pure (f.offset, ← sizeOf f.type) : Sem (Array (Nat × Nat))).run Tryz.prog w = .ok #[(0, 1), (1, 1)] w := fun w => by simp [sizeOf3, sizeOf88]
theorem aci(t:aF)(h:Nat)(v:Valid t h)(k:K)(dY:k.length≤maxLen):VI Tryz.prog G 93 (Ko t k) Ga (fun xs=>xs=nh t h k) (fun pre=>pre <+: nh t h k) (nh t h k).length:=by
 refine VI.body func93 rfl ntmps93 aS fun Y X0 w0 aZ Sc0 hYe hYN O hY hJ0=>?_;have da:=dW;have fy:=pu (G:=G) t h v k w4 (D4 v k);unfold cT at fy;obtain⟨r0,hL0,ajw,Vu⟩:=Zl v k;obtain⟨y1,y2,y3⟩:=(by exact⟨hYe,hYN,O⟩:Y.enc=Ga∧Y.N=(nh t h k).length∧w0.heap.size≤Y.l)
 refine cH [0,1,4,5] (fy) ?_;refine CD.block ?_;refine mR (fun (U:List Int×Nat×List (K×Int)×List ah) aI=>match U with|(ls,a,pre,Sc)=>(qU t ls)∧(nh t h k=pre++(jd t ls).drop a)∧((∀x∈head? ls,a≤(t.pg x).keys.length))∧(Y.J pre Sc)∧aI=(⟨46,[(0,.j7 Y.l Y.os),(1,.fE [av 5 cP t.ag,ae t.root] 0),(4,ae (headD ls (-1))),(5,ae (a:Nat))],Sc⟩:St)) (fun (U:List Int×Nat×List (K×Int)×List ah)=>match U with|(ls,a,pre,Sc)=>length ls) ((aH t k h t.root::r0),(aO (t.pg (aH t k h t.root)) k),[],Sc0) ⟨hL0,(by rw[nil_append];exact ajw),(fun x hx=>by simp at hx;subst hx;exact Vu),hJ0,rfl⟩ (aQ (h:=by repeat (first|exact trivial|refine⟨(by (repeat (first|exact fD|(apply fX;focus (first|rfl|(simp;done)|(rw[←gW,fh.next hL.oZ])))|(apply fH;focus rfl)));done),?_⟩))) ?_;rintro⟨ls,a,pre,Sc⟩ _ ⟨hL,Nr,fQ,hj,rfl⟩;refine af [0,1,4,5,16] ?_;refine au ?_ ?_<;>intro aN bC
 ·have Ni:0≤headD ls (-1):=(by simpa using aN)
  obtain⟨r,hr⟩:=(qU.head hL).1 Ni;obtain⟨i,hi⟩:∃i,i=headD ls (-1):=⟨_,rfl⟩
  rw[←hi] at hr Ni;subst hr;obtain⟨Aq,Kl⟩:=hL.at_ i mem_cons_self;have aa:i.toNat<t.ag.length:=(by omega)
  have gW:t.pg i=t.ag[i.toNat]:=u6 Aq;have po:=v.fF _ (jB Aq);have Li:=po.leaf Kl;have mI:=po.eD;have VD:=fQ i rfl;have Ux:=v.nJ;rw[gW] at po Li mI VD;refine aD 3 ?_;refine bH (dm 5 (h:=by first|exact .l (j:=i.toNat) (by show headD (i::r) (-1)=_;simp;omega) aa|exact .r (j:=i.toNat) (by show headD (i::r) (-1)=_;simp;omega) aa)) ?_;refine bH (cR (mk:=Op.load 153) rfl ot (by exact jY (i:=i.toNat) Fh isAgg153 sizeOf153 aa)) ?_;refine OD.alloc (ds:=[_,_,_,_,_]) ap rfl rfl zeroValue153 rfl (fun b7=>?_);refine aP 0 [_,_,_,_,_] sizeOf153 ?_;refine an 46 [0,1,5,7] ?_;refine eK [0,1,7] (fun aW _ (U:Nat×List (K×Int)×List ah) aI=>match U with|(a,E,I)=>(nh t h k=E++(jd t (i::r)).drop a)∧(a≤((t.ag[i.toNat]'aa)).keys.length)∧(Y.J E I)∧aI=(⟨46,(5,ae (a:Nat))::aW,(⟨b7,153,5,cP (t.ag[i.toNat]'aa)⟩::I)⟩:St)) (fun (U:Nat×List (K×Int)×List ah)=>match U with|(a,E,I)=>((t.ag[i.toNat]'aa)).keys.length-a) (a,pre,Sc) ⟨Nr,VD,hj,rfl⟩ ?_;rintro⟨a,E,I⟩ _ ⟨pG,ao3,Z,rfl⟩;refine af [0,1,5,7,26] ?_;refine au ?_ ?_<;>intro aY cz
  ·have qF:a<((t.ag[i.toNat]'aa)).keys.length:=(by have:=aY;simp at this;omega)
   have uA:a<((t.ag[i.toNat]'aa)).kids.length:=(by omega)
   have jm:(jd t (i::r)).drop a=(((t.ag[i.toNat]'aa)).keys[a],((t.ag[i.toNat]'aa)).kids[a])::(jd t (i::r)).drop (a+1):=(by have:=aaJ v hL (a:=a) (by rw[gW];exact qF) (by rw[gW];exact uA);simp only[gW] at this;exact this)
   have kY:((t.ag[i.toNat]'aa)).keys[a].length≤100:=(by have:=(po.lq _ (getElem_mem qF)).2;omega)
   refine CD.skip ?_;refine CD.seq ?_;refine CD.block ?_;refine CD.seq ?_;refine CD.ac0 aA ?_;refine fV 0 rfl bf ?_;refine fV 1 rfl (dj 1) ?_;refine fV 3 rfl bf ?_;refine fV 7 rfl (dj 2) ?_;refine fV 9 rfl bf ?_;refine AI.two (i:=2) (j:=8) aA ?_ ?_
   ·refine kK rfl (dJ 0) ?_;refine fV 4 rfl (dm 1 (h:=by first|exact .l (j:=a) rfl qF|exact .r (j:=a) rfl qF)) ?_;refine AI.two (i:=5) (j:=8) aA ?_ ?_
    ·refine kK rfl eY ?_;refine AI.two (i:=6) (j:=8) aA ?_ ?_
     ·refine gM.gZ rfl ap rfl rfl rfl call95 (jW (((t.ag[i.toNat]'aa)).keys[a]) w4) ⟨ot,trivial⟩ ?_;refine AI.one (i:=8) aA ?_;refine kK rfl (dJ 0) ?_;refine fV 10 rfl (dm 1 (h:=by first|exact .l (j:=a) rfl uA|exact .r (j:=a) rfl uA)) ?_;refine AI.one (i:=11) aA ?_;refine kK rfl eY ?_;refine fV 12 rfl (nC (pl:=[(0,_),(1,_)]) (ds:=[_,_]) rfl zeroValue90 runUnderlying90 rM ⟨rfl,ot,rfl,ot,trivial⟩ rfl rfl) ?_;refine AI.one (i:=13) aA ?_;refine gM.yield (Y:=Y) (pre:=E) (y:=(((t.ag[i.toNat]'aa)).keys[a],((t.ag[i.toNat]'aa)).kids[a])) (Sc:=I) (R:=[⟨b7,153,5,cP (t.ag[i.toNat]'aa)⟩]) rfl ap rfl rfl ot aS lk sM (perm_append_singleton _ _).symm Z sK hY O w7 (fun Df Ns=>?_) (fun Df Ns=>?_)
      ·refine AI.perm (perm_append_singleton _ _) ?_;refine fV 14 rfl kX ?_;refine AI.wk (y:=⟨46,[(0,_),(1,_),(5,_),(7,_),(43,_)],(⟨b7,153,5,[_,_,_,_,_]⟩::Df)⟩) (Wk.dU rfl rfl fp) ?_;refine AI.done aA ?_;refine fT ?_;refine cm [0,1,5,7] ?_;refine⟨((a+1),(E++[(((t.ag[i.toNat]'aa)).keys[a],((t.ag[i.toNat]'aa)).kids[a])]),Df),_,cD,aQ,sJ,w4,Ns,rfl⟩
      refine fV 14 rfl kX ?_;refine AI.wk (y:=⟨46,[(0,_),(43,_)],(Df)⟩) (Wk.dU rfl rfl fp) ?_;refine AI.done aA ?_;refine eM ?_;refine CD.ret ?_;refine⟨.inr rfl,⟨_,qa results93⟩,(show 0<46 by decide),Df,Sublist.refl _,?_⟩;exact .inr ⟨E++[(((t.ag[i.toNat]'aa)).keys[a],((t.ag[i.toNat]'aa)).kids[a])],⟨(jd t (i::r)).drop (a+1),by rw[pG,jm,append_assoc];rfl⟩,Ns,lk⟩
     refine kK rfl (dJ 0) ?_;refine fV 10 rfl (dm 1 (h:=by first|exact .l (j:=a) rfl uA|exact .r (j:=a) rfl uA)) ?_;refine AI.two (i:=6) (j:=11) aA ?_ ?_
     ·refine gM.gZ rfl ap rfl rfl rfl call95 (jW (((t.ag[i.toNat]'aa)).keys[a]) w4) ⟨ot,trivial⟩ ?_;refine AI.one (i:=11) aA ?_;refine kK rfl eY ?_;refine fV 12 rfl (nC (pl:=[(0,_),(1,_)]) (ds:=[_,_]) rfl zeroValue90 runUnderlying90 rM ⟨rfl,ot,rfl,ot,trivial⟩ rfl rfl) ?_;refine AI.one (i:=13) aA ?_;refine gM.yield (Y:=Y) (pre:=E) (y:=(((t.ag[i.toNat]'aa)).keys[a],((t.ag[i.toNat]'aa)).kids[a])) (Sc:=I) (R:=[⟨b7,153,5,cP (t.ag[i.toNat]'aa)⟩]) rfl ap rfl rfl ot aS lk sM (perm_append_singleton _ _).symm Z sK hY O w7 (fun I Nt=>?_) (fun I Nt=>?_)
      ·refine AI.perm (perm_append_singleton _ _) ?_;refine fV 14 rfl kX ?_;refine AI.wk (y:=⟨46,[(0,_),(1,_),(5,_),(7,_),(43,_)],(⟨b7,153,5,[_,_,_,_,_]⟩::I)⟩) (Wk.dU rfl rfl fp) ?_;refine AI.done aA ?_;refine fT ?_;refine cm [0,1,5,7] ?_;refine⟨((a+1),(E++[(((t.ag[i.toNat]'aa)).keys[a],((t.ag[i.toNat]'aa)).kids[a])]),I),_,cD,aQ,sJ,w4,Nt,rfl⟩
      refine fV 14 rfl kX ?_;refine AI.wk (y:=⟨46,[(0,_),(43,_)],(I)⟩) (Wk.dU rfl rfl fp) ?_;refine AI.done aA ?_;refine eM ?_;refine CD.ret ?_;refine⟨.inr rfl,⟨_,qa results93⟩,(show 0<46 by decide),I,Sublist.refl _,?_⟩;exact .inr ⟨E++[(((t.ag[i.toNat]'aa)).keys[a],((t.ag[i.toNat]'aa)).kids[a])],⟨(jd t (i::r)).drop (a+1),by rw[pG,jm,append_assoc];rfl⟩,Nt,lk⟩
     refine kK rfl eY ?_;refine AI.one (i:=6) aA ?_;refine gM.gZ rfl ap rfl rfl rfl call95 (jW (((t.ag[i.toNat]'aa)).keys[a]) w4) ⟨ot,trivial⟩ ?_;refine fV 12 rfl (nC (pl:=[(0,_),(1,_)]) (ds:=[_,_]) rfl zeroValue90 runUnderlying90 rM ⟨rfl,ot,rfl,ot,trivial⟩ rfl rfl) ?_;refine AI.one (i:=13) aA ?_;refine gM.yield (Y:=Y) (pre:=E) (y:=(((t.ag[i.toNat]'aa)).keys[a],((t.ag[i.toNat]'aa)).kids[a])) (Sc:=I) (R:=[⟨b7,153,5,cP (t.ag[i.toNat]'aa)⟩]) rfl ap rfl rfl ot aS lk sM (perm_append_singleton _ _).symm Z sK hY O w7 (fun Dg Nu=>?_) (fun Dg Nu=>?_)
     ·refine AI.perm (perm_append_singleton _ _) ?_;refine fV 14 rfl kX ?_;refine AI.wk (y:=⟨46,[(0,_),(1,_),(5,_),(7,_),(43,_)],(⟨b7,153,5,[_,_,_,_,_]⟩::Dg)⟩) (Wk.dU rfl rfl fp) ?_;refine AI.done aA ?_;refine fT ?_;refine cm [0,1,5,7] ?_;refine⟨((a+1),(E++[(((t.ag[i.toNat]'aa)).keys[a],((t.ag[i.toNat]'aa)).kids[a])]),Dg),_,cD,aQ,sJ,w4,Nu,rfl⟩
     refine fV 14 rfl kX ?_;refine AI.wk (y:=⟨46,[(0,_),(43,_)],(Dg)⟩) (Wk.dU rfl rfl fp) ?_;refine AI.done aA ?_;refine eM ?_;refine CD.ret ?_;refine⟨.inr rfl,⟨_,qa results93⟩,(show 0<46 by decide),Dg,Sublist.refl _,?_⟩;exact .inr ⟨E++[(((t.ag[i.toNat]'aa)).keys[a],((t.ag[i.toNat]'aa)).kids[a])],⟨(jd t (i::r)).drop (a+1),by rw[pG,jm,append_assoc];rfl⟩,Nu,lk⟩
    refine kK rfl (dJ 0) ?_;refine fV 10 rfl (dm 1 (h:=by first|exact .l (j:=a) rfl uA|exact .r (j:=a) rfl uA)) ?_;refine AI.two (i:=5) (j:=11) aA ?_ ?_
    ·refine kK rfl eY ?_;refine AI.two (i:=6) (j:=11) aA ?_ ?_
     ·refine gM.gZ rfl ap rfl rfl rfl call95 (jW (((t.ag[i.toNat]'aa)).keys[a]) w4) ⟨ot,trivial⟩ ?_;refine AI.one (i:=11) aA ?_;refine kK rfl eY ?_;refine fV 12 rfl (nC (pl:=[(0,_),(1,_)]) (ds:=[_,_]) rfl zeroValue90 runUnderlying90 rM ⟨rfl,ot,rfl,ot,trivial⟩ rfl rfl) ?_;refine AI.one (i:=13) aA ?_;refine gM.yield (Y:=Y) (pre:=E) (y:=(((t.ag[i.toNat]'aa)).keys[a],((t.ag[i.toNat]'aa)).kids[a])) (Sc:=I) (R:=[⟨b7,153,5,cP (t.ag[i.toNat]'aa)⟩]) rfl ap rfl rfl ot aS lk sM (perm_append_singleton _ _).symm Z sK hY O w7 (fun Dh Nv=>?_) (fun Dh Nv=>?_)
      ·refine AI.perm (perm_append_singleton _ _) ?_;refine fV 14 rfl kX ?_;refine AI.wk (y:=⟨46,[(0,_),(1,_),(5,_),(7,_),(43,_)],(⟨b7,153,5,[_,_,_,_,_]⟩::Dh)⟩) (Wk.dU rfl rfl fp) ?_;refine AI.done aA ?_;refine fT ?_;refine cm [0,1,5,7] ?_;refine⟨((a+1),(E++[(((t.ag[i.toNat]'aa)).keys[a],((t.ag[i.toNat]'aa)).kids[a])]),Dh),_,cD,aQ,sJ,w4,Nv,rfl⟩
      refine fV 14 rfl kX ?_;refine AI.wk (y:=⟨46,[(0,_),(43,_)],(Dh)⟩) (Wk.dU rfl rfl fp) ?_;refine AI.done aA ?_;refine eM ?_;refine CD.ret ?_;refine⟨.inr rfl,⟨_,qa results93⟩,(show 0<46 by decide),Dh,Sublist.refl _,?_⟩;exact .inr ⟨E++[(((t.ag[i.toNat]'aa)).keys[a],((t.ag[i.toNat]'aa)).kids[a])],⟨(jd t (i::r)).drop (a+1),by rw[pG,jm,append_assoc];rfl⟩,Nv,lk⟩
     refine kK rfl eY ?_;refine AI.one (i:=6) aA ?_;refine gM.gZ rfl ap rfl rfl rfl call95 (jW (((t.ag[i.toNat]'aa)).keys[a]) w4) ⟨ot,trivial⟩ ?_;refine fV 12 rfl (nC (pl:=[(0,_),(1,_)]) (ds:=[_,_]) rfl zeroValue90 runUnderlying90 rM ⟨rfl,ot,rfl,ot,trivial⟩ rfl rfl) ?_;refine AI.one (i:=13) aA ?_;refine gM.yield (Y:=Y) (pre:=E) (y:=(((t.ag[i.toNat]'aa)).keys[a],((t.ag[i.toNat]'aa)).kids[a])) (Sc:=I) (R:=[⟨b7,153,5,cP (t.ag[i.toNat]'aa)⟩]) rfl ap rfl rfl ot aS lk sM (perm_append_singleton _ _).symm Z sK hY O w7 (fun Di Nw=>?_) (fun Di Nw=>?_)
     ·refine AI.perm (perm_append_singleton _ _) ?_;refine fV 14 rfl kX ?_;refine AI.wk (y:=⟨46,[(0,_),(1,_),(5,_),(7,_),(43,_)],(⟨b7,153,5,[_,_,_,_,_]⟩::Di)⟩) (Wk.dU rfl rfl fp) ?_;refine AI.done aA ?_;refine fT ?_;refine cm [0,1,5,7] ?_;refine⟨((a+1),(E++[(((t.ag[i.toNat]'aa)).keys[a],((t.ag[i.toNat]'aa)).kids[a])]),Di),_,cD,aQ,sJ,w4,Nw,rfl⟩
     refine fV 14 rfl kX ?_;refine AI.wk (y:=⟨46,[(0,_),(43,_)],(Di)⟩) (Wk.dU rfl rfl fp) ?_;refine AI.done aA ?_;refine eM ?_;refine CD.ret ?_;refine⟨.inr rfl,⟨_,qa results93⟩,(show 0<46 by decide),Di,Sublist.refl _,?_⟩;exact .inr ⟨E++[(((t.ag[i.toNat]'aa)).keys[a],((t.ag[i.toNat]'aa)).kids[a])],⟨(jd t (i::r)).drop (a+1),by rw[pG,jm,append_assoc];rfl⟩,Nw,lk⟩
    refine kK rfl eY ?_;refine AI.one (i:=5) aA ?_;refine kK rfl eY ?_;refine AI.one (i:=6) aA ?_;refine gM.gZ rfl ap rfl rfl rfl call95 (jW (((t.ag[i.toNat]'aa)).keys[a]) w4) ⟨ot,trivial⟩ ?_;refine fV 12 rfl (nC (pl:=[(0,_),(1,_)]) (ds:=[_,_]) rfl zeroValue90 runUnderlying90 rM ⟨rfl,ot,rfl,ot,trivial⟩ rfl rfl) ?_;refine AI.one (i:=13) aA ?_;refine gM.yield (Y:=Y) (pre:=E) (y:=(((t.ag[i.toNat]'aa)).keys[a],((t.ag[i.toNat]'aa)).kids[a])) (Sc:=I) (R:=[⟨b7,153,5,cP (t.ag[i.toNat]'aa)⟩]) rfl ap rfl rfl ot aS lk sM (perm_append_singleton _ _).symm Z sK hY O w7 (fun Dj Nx=>?_) (fun Dj Nx=>?_)
    ·refine AI.perm (perm_append_singleton _ _) ?_;refine fV 14 rfl kX ?_;refine AI.wk (y:=⟨46,[(0,_),(1,_),(5,_),(7,_),(43,_)],(⟨b7,153,5,[_,_,_,_,_]⟩::Dj)⟩) (Wk.dU rfl rfl fp) ?_;refine AI.done aA ?_;refine fT ?_;refine cm [0,1,5,7] ?_;refine⟨((a+1),(E++[(((t.ag[i.toNat]'aa)).keys[a],((t.ag[i.toNat]'aa)).kids[a])]),Dj),_,cD,aQ,sJ,w4,Nx,rfl⟩
    refine fV 14 rfl kX ?_;refine AI.wk (y:=⟨46,[(0,_),(43,_)],(Dj)⟩) (Wk.dU rfl rfl fp) ?_;refine AI.done aA ?_;refine eM ?_;refine CD.ret ?_;refine⟨.inr rfl,⟨_,qa results93⟩,(show 0<46 by decide),Dj,Sublist.refl _,?_⟩;exact .inr ⟨E++[(((t.ag[i.toNat]'aa)).keys[a],((t.ag[i.toNat]'aa)).kids[a])],⟨(jd t (i::r)).drop (a+1),by rw[pG,jm,append_assoc];rfl⟩,Nx,lk⟩
   refine kK rfl (dJ 0) ?_;refine fV 10 rfl (dm 1 (h:=by first|exact .l (j:=a) rfl uA|exact .r (j:=a) rfl uA)) ?_;refine AI.two (i:=2) (j:=11) aA ?_ ?_
   ·refine kK rfl (dJ 0) ?_;refine fV 4 rfl (dm 1 (h:=by first|exact .l (j:=a) rfl qF|exact .r (j:=a) rfl qF)) ?_;refine AI.two (i:=5) (j:=11) aA ?_ ?_
    ·refine kK rfl eY ?_;refine AI.two (i:=6) (j:=11) aA ?_ ?_
     ·refine gM.gZ rfl ap rfl rfl rfl call95 (jW (((t.ag[i.toNat]'aa)).keys[a]) w4) ⟨ot,trivial⟩ ?_;refine AI.one (i:=11) aA ?_;refine kK rfl eY ?_;refine fV 12 rfl (nC (pl:=[(0,_),(1,_)]) (ds:=[_,_]) rfl zeroValue90 runUnderlying90 rM ⟨rfl,ot,rfl,ot,trivial⟩ rfl rfl) ?_;refine AI.one (i:=13) aA ?_;refine gM.yield (Y:=Y) (pre:=E) (y:=(((t.ag[i.toNat]'aa)).keys[a],((t.ag[i.toNat]'aa)).kids[a])) (Sc:=I) (R:=[⟨b7,153,5,cP (t.ag[i.toNat]'aa)⟩]) rfl ap rfl rfl ot aS lk sM (perm_append_singleton _ _).symm Z sK hY O w7 (fun Dk Ny=>?_) (fun Dk Ny=>?_)
      ·refine AI.perm (perm_append_singleton _ _) ?_;refine fV 14 rfl kX ?_;refine AI.wk (y:=⟨46,[(0,_),(1,_),(5,_),(7,_),(43,_)],(⟨b7,153,5,[_,_,_,_,_]⟩::Dk)⟩) (Wk.dU rfl rfl fp) ?_;refine AI.done aA ?_;refine fT ?_;refine cm [0,1,5,7] ?_;refine⟨((a+1),(E++[(((t.ag[i.toNat]'aa)).keys[a],((t.ag[i.toNat]'aa)).kids[a])]),Dk),_,cD,aQ,sJ,w4,Ny,rfl⟩
      refine fV 14 rfl kX ?_;refine AI.wk (y:=⟨46,[(0,_),(43,_)],(Dk)⟩) (Wk.dU rfl rfl fp) ?_;refine AI.done aA ?_;refine eM ?_;refine CD.ret ?_;refine⟨.inr rfl,⟨_,qa results93⟩,(show 0<46 by decide),Dk,Sublist.refl _,?_⟩;exact .inr ⟨E++[(((t.ag[i.toNat]'aa)).keys[a],((t.ag[i.toNat]'aa)).kids[a])],⟨(jd t (i::r)).drop (a+1),by rw[pG,jm,append_assoc];rfl⟩,Ny,lk⟩
     refine kK rfl eY ?_;refine AI.one (i:=6) aA ?_;refine gM.gZ rfl ap rfl rfl rfl call95 (jW (((t.ag[i.toNat]'aa)).keys[a]) w4) ⟨ot,trivial⟩ ?_;refine fV 12 rfl (nC (pl:=[(0,_),(1,_)]) (ds:=[_,_]) rfl zeroValue90 runUnderlying90 rM ⟨rfl,ot,rfl,ot,trivial⟩ rfl rfl) ?_;refine AI.one (i:=13) aA ?_;refine gM.yield (Y:=Y) (pre:=E) (y:=(((t.ag[i.toNat]'aa)).keys[a],((t.ag[i.toNat]'aa)).kids[a])) (Sc:=I) (R:=[⟨b7,153,5,cP (t.ag[i.toNat]'aa)⟩]) rfl ap rfl rfl ot aS lk sM (perm_append_singleton _ _).symm Z sK hY O w7 (fun Dl Nz=>?_) (fun Dl Nz=>?_)
     ·refine AI.perm (perm_append_singleton _ _) ?_;refine fV 14 rfl kX ?_;refine AI.wk (y:=⟨46,[(0,_),(1,_),(5,_),(7,_),(43,_)],(⟨b7,153,5,[_,_,_,_,_]⟩::Dl)⟩) (Wk.dU rfl rfl fp) ?_;refine AI.done aA ?_;refine fT ?_;refine cm [0,1,5,7] ?_;refine⟨((a+1),(E++[(((t.ag[i.toNat]'aa)).keys[a],((t.ag[i.toNat]'aa)).kids[a])]),Dl),_,cD,aQ,sJ,w4,Nz,rfl⟩
     refine fV 14 rfl kX ?_;refine AI.wk (y:=⟨46,[(0,_),(43,_)],(Dl)⟩) (Wk.dU rfl rfl fp) ?_;refine AI.done aA ?_;refine eM ?_;refine CD.ret ?_;refine⟨.inr rfl,⟨_,qa results93⟩,(show 0<46 by decide),Dl,Sublist.refl _,?_⟩;exact .inr ⟨E++[(((t.ag[i.toNat]'aa)).keys[a],((t.ag[i.toNat]'aa)).kids[a])],⟨(jd t (i::r)).drop (a+1),by rw[pG,jm,append_assoc];rfl⟩,Nz,lk⟩
    refine kK rfl eY ?_;refine AI.one (i:=5) aA ?_;refine kK rfl eY ?_;refine AI.one (i:=6) aA ?_;refine gM.gZ rfl ap rfl rfl rfl call95 (jW (((t.ag[i.toNat]'aa)).keys[a]) w4) ⟨ot,trivial⟩ ?_;refine fV 12 rfl (nC (pl:=[(0,_),(1,_)]) (ds:=[_,_]) rfl zeroValue90 runUnderlying90 rM ⟨rfl,ot,rfl,ot,trivial⟩ rfl rfl) ?_;refine AI.one (i:=13) aA ?_;refine gM.yield (Y:=Y) (pre:=E) (y:=(((t.ag[i.toNat]'aa)).keys[a],((t.ag[i.toNat]'aa)).kids[a])) (Sc:=I) (R:=[⟨b7,153,5,cP (t.ag[i.toNat]'aa)⟩]) rfl ap rfl rfl ot aS lk sM (perm_append_singleton _ _).symm Z sK hY O w7 (fun Dm NA=>?_) (fun Dm NA=>?_)
    ·refine AI.perm (perm_append_singleton _ _) ?_;refine fV 14 rfl kX ?_;refine AI.wk (y:=⟨46,[(0,_),(1,_),(5,_),(7,_),(43,_)],(⟨b7,153,5,[_,_,_,_,_]⟩::Dm)⟩) (Wk.dU rfl rfl fp) ?_;refine AI.done aA ?_;refine fT ?_;refine cm [0,1,5,7] ?_;refine⟨((a+1),(E++[(((t.ag[i.toNat]'aa)).keys[a],((t.ag[i.toNat]'aa)).kids[a])]),Dm),_,cD,aQ,sJ,w4,NA,rfl⟩
    refine fV 14 rfl kX ?_;refine AI.wk (y:=⟨46,[(0,_),(43,_)],(Dm)⟩) (Wk.dU rfl rfl fp) ?_;refine AI.done aA ?_;refine eM ?_;refine CD.ret ?_;refine⟨.inr rfl,⟨_,qa results93⟩,(show 0<46 by decide),Dm,Sublist.refl _,?_⟩;exact .inr ⟨E++[(((t.ag[i.toNat]'aa)).keys[a],((t.ag[i.toNat]'aa)).kids[a])],⟨(jd t (i::r)).drop (a+1),by rw[pG,jm,append_assoc];rfl⟩,NA,lk⟩
   refine kK rfl eY ?_;refine AI.one (i:=2) aA ?_;refine kK rfl (dJ 0) ?_;refine fV 4 rfl (dm 1 (h:=by first|exact .l (j:=a) rfl qF|exact .r (j:=a) rfl qF)) ?_;refine AI.one (i:=5) aA ?_;refine kK rfl eY ?_;refine AI.one (i:=6) aA ?_;refine gM.gZ rfl ap rfl rfl rfl call95 (jW (((t.ag[i.toNat]'aa)).keys[a]) w4) ⟨ot,trivial⟩ ?_;refine fV 12 rfl (nC (pl:=[(0,_),(1,_)]) (ds:=[_,_]) rfl zeroValue90 runUnderlying90 rM ⟨rfl,ot,rfl,ot,trivial⟩ rfl rfl) ?_;refine AI.one (i:=13) aA ?_;refine gM.yield (Y:=Y) (pre:=E) (y:=(((t.ag[i.toNat]'aa)).keys[a],((t.ag[i.toNat]'aa)).kids[a])) (Sc:=I) (R:=[⟨b7,153,5,cP (t.ag[i.toNat]'aa)⟩]) rfl ap rfl rfl ot aS lk sM (perm_append_singleton _ _).symm Z sK hY O w7 (fun B5 Ln=>?_) (fun B5 Ln=>?_)
   ·refine AI.perm (perm_append_singleton _ _) ?_;refine fV 14 rfl kX ?_;refine AI.wk (y:=⟨46,[(0,_),(1,_),(5,_),(7,_),(43,_)],(⟨b7,153,5,[_,_,_,_,_]⟩::B5)⟩) (Wk.dU rfl rfl fp) ?_;refine AI.done aA ?_;refine fT ?_;refine cm [0,1,5,7] ?_;refine⟨((a+1),(E++[(((t.ag[i.toNat]'aa)).keys[a],((t.ag[i.toNat]'aa)).kids[a])]),B5),_,cD,aQ,sJ,w4,Ln,rfl⟩
   refine fV 14 rfl kX ?_;refine AI.wk (y:=⟨46,[(0,_),(43,_)],(B5)⟩) (Wk.dU rfl rfl fp) ?_;refine AI.done aA ?_;refine eM ?_;refine CD.ret ?_;refine⟨.inr rfl,⟨_,qa results93⟩,(show 0<46 by decide),B5,Sublist.refl _,?_⟩;exact .inr ⟨E++[(((t.ag[i.toNat]'aa)).keys[a],((t.ag[i.toNat]'aa)).kids[a])],⟨(jd t (i::r)).drop (a+1),by rw[pG,jm,append_assoc];rfl⟩,Ln,lk⟩
  have ff:a=(t.pg i).keys.length:=(by rw[gW];have:=aY;simp at this;omega)
  refine cm [0,1,4,5] ?_;refine⟨(r,0,E,I),_,(by (show length r<length (i::r);simp)),(aQ (h:=by repeat (first|exact trivial|refine⟨(by (repeat (first|exact fD|(apply fX;focus (first|rfl|(simp;done)|(rw[←gW,fh.next hL.oZ])))|(apply fH;focus rfl)));done),?_⟩))),hL.tail,(by rw[pG,Zm v hL ff]),(fun x hx=>Nat.zero_le _),Z,rfl⟩
 have ajx:ls=[]:=hL.head.2 xz;refine CD.exit ?_;refine⟨.inl rfl,⟨_,qa results93⟩,(show 0<46 by decide),Sc,Sublist.refl _,?_⟩;exact .inl ⟨pre,by rw[Nr,ajx];simp[jd],hj,lk⟩

open Go.Lib (compareBytes)
theorem aeK(e:K×Int):(cE e).all V.one=true:=rfl
theorem afB(k:K):fM (cK k)=true:=by simp[cK,fM,iH,yR]
theorem afC(n:Int):fM (cI n)=true:=rfl
theorem afD(p:cX):fM (cP p)=true:=by simp[cP,fM,iH,yR,uM afB,uM afC]
def Uy(t:aF)(k:K):D:=.eB (.func 93) (Ko t k)
noncomputable def u0(e9:K)(x:K×Int):Bool:=decide (0<e9.length∧bN e9 x.1)
noncomputable def wL(t:aF)(h:Nat)(f e9:K):List (K×Int):=(nh t h f).takeWhile fun x=>!u0 e9 x
noncomputable def wF(t:aF)(h:Nat)(f e9:K):List (K×Int)×Int:=if gE t=0 then (if f.length≤100∧e9.length≤100 then (wL t h f e9,0) else ([],1)) else ([],gE t)
theorem H6{α:Type}{p:α→Bool}:∀{l:List α},(∀x∈l,p x=true)→l.takeWhile p=l
 | [],_=>rfl
 | x::l,h=>by rw[takeWhile_cons,if_pos (h x mem_cons_self),H6 fun y hy=>h y (mem_cons_of_mem _ hy)]
theorem Ps{α:Type}{p:α→Bool}{y:α}{r:List α}(hy:p y=false):∀{l:List α},(∀x∈l,p x=true)→(l++y::r).takeWhile p=l
 | [],_=>by rw[nil_append,takeWhile_cons,if_neg (by rw[hy];decide)]
 | x::l,h=>by rw[cons_append,takeWhile_cons,if_pos (h x mem_cons_self),Ps hy fun y hy=>h y (mem_cons_of_mem _ hy)]
def wM(b9 b5:Nat)(e9:K)(pre:List (K×Int))(Sc:List ah):Prop:=(∀x∈pre,u0 e9 x=false)∧∃ad cap So,bz 90 2 (pre.flatMap cE) pre.length ad cap So∧Sc=⟨b9,85,1,[aR ad pre.length cap]⟩::⟨b5,88,1,[av 1 cB e9]⟩::So
def FG(b9 b5:Nat)(e9:K)(pre:List (K×Int))(Sc:List ah):Prop:=∃init y,pre=init++[y]∧u0 e9 y=true∧wM b9 b5 e9 init Sc
theorem wM.iH{b9 b5:Nat}{e9:K}{pre:List (K×Int)}{Sc:List ah}(h:wM b9 b5 e9 pre Sc):∀B∈Sc,fM B.cs=true:=by
 obtain⟨_,ad,cap,So,ho,rfl⟩:=h;intro B E;rcases mem_cons.1 E with rfl|E
 ·rfl
 rcases mem_cons.1 E with rfl|E
 ·simp[fM,V.iH,yR]
 rcases ho with ⟨_,_,_,_,rfl⟩|⟨b,_,_,_,rfl⟩
 ·cases E
 rw[mem_singleton] at E;subst E;exact uM yS pre
theorem FG.iH{b9 b5:Nat}{e9:K}{pre:List (K×Int)}{Sc:List ah}(h:FG b9 b5 e9 pre Sc):∀B∈Sc,fM B.cs=true:=by
 obtain⟨init,y,_,_,h⟩:=h;exact h.iH
def Kp(b9 b5:Nat)(e9:K)(pre:List (K×Int))(y:K×Int)(Sc:List ah)(z:St):Prop:=wM b9 b5 e9 pre Sc∧∃kJ,z=⟨43,[(5,dI b5),(9,dI b9),(10,dI kJ)],⟨kJ,90,2,cE y⟩::Sc⟩
theorem Kp.iH{b9 b5:Nat}{e9:K}{pre:List (K×Int)}{y:K×Int}{Sc:List ah}{z:St}(h:Kp b9 b5 e9 pre y Sc z):(z.env.all fun p=>V.iH p.2)=true∧∀B∈z.S,fM B.cs=true:=by
 obtain⟨hj,kJ,rfl⟩:=h;refine⟨rfl,fun B E=>?_⟩;rcases mem_cons.1 E with rfl|E
 ·exact yS y
 exact hj.iH B E
theorem acj{b9 b5:Nat}{t:aF}{h:Nat}{f e9:K}{Sc:List ah}{c d:Code}(he:(∃xs,xs=nh t h f∧wM b9 b5 e9 xs Sc)∨(c=d∧∃pre,pre <+: nh t h f∧FG b9 b5 e9 pre Sc)):∃I,I=wL t h f e9∧wM b9 b5 e9 I Sc:=by
 rcases he with ⟨xs,rfl,hj⟩|⟨_,pre,⟨r,hr⟩,E,y,rfl,hy,hj⟩
 ·exact⟨_,(H6 fun x hx=>by rw[hj.1 x hx];rfl).symm,hj⟩
 refine⟨E,?_,hj⟩;unfold wL;rw[←hr,append_assoc,singleton_append];exact(Ps (by rw[hy];rfl) fun x hx=>by rw[hj.1 x hx];rfl).symm
theorem adW(t:aF)(k:K):VC Tryz.prog G 50 [.agg (cT t),av 1 cB k] [] (fun r S=>∃b2 b3,r = .eB (.func 93) [dI b2,dI b3]∧S=[⟨b3,88,1,[av 1 cB k]⟩,⟨b2,51,2,cT t⟩]):=by
 refine VC.body func50 rfl ntmps50 aS fun X0 w0 aZ=>?_;unfold cT;refine bY ?_;refine OD.box (ds:=[_,_]) ap rfl rfl ot rfl rfl (fun b2=>?_);refine OD.box (ds:=[_]) ap rfl rfl ot rfl rfl (fun b3=>?_);refine an 6 [2,3] ?_;refine cQ [4] ?_;refine aU 0 ?_ (h:=by exact(pi (ds:=[_,_]) rfl ⟨ot,ot,trivial⟩));refine bG ?_;refine aJ [_,_] ?_;exact⟨_,_,rfl,rfl⟩
theorem adX(t:aF)(k:K):VP Tryz.prog G 50 [.agg (cT t),av 1 cB k] (Uy t k):=VC.cover (adW t k) fun r S ⟨b2,b3,hr,hS⟩=>by
 subst hr;subst hS;exact abt ⟨Qd (e:=51) (size:=2) (cs:=cT t) (mem_cons_of_mem _ mem_cons_self) gF.same,Qd (e:=88) (size:=1) mem_cons_self gF.same,trivial⟩
theorem YW:(Tryz.prog.info? 90).map (fun i=>(i.zero,i.size,i.bytes))=some (some (.agg #[.slice none 0 0,.int .i64 0]),2,32):=by kernel_rfl
theorem adY(t:aF)(h:Nat)(hb:∀p∈t.ag,p.keys.length≤maxLen∧p.kids.length≤maxLen)(hv:gE t=0→Valid t h)(f e9:K):VP Tryz.prog G 30 [.agg (cT t),av 1 cB f,av 1 cB e9] (.dF [.list 2 ((wF t h f e9).1.flatMap cE) (wF t h f e9).1.length,ae (wF t h f e9).2]):=by
 refine VC.y6 func30 rfl ntmps30 aS fun X0 w0 aZ=>?_;have da:=dW;have fg:=pn (G:=G) t hb;have U:=adX (G:=G) t f;unfold cT at fg U;unfold cT;refine bY ?_;refine OD.box (ds:=[_,_]) ap rfl rfl ot rfl rfl (fun b3=>?_);refine OD.box (ds:=[_]) ap rfl rfl ot rfl rfl (fun b5=>?_);refine an 43 [1,3,5] ?_;refine cH [1,3,5,8] (fg) ?_;refine af [1,3,5,8,14] ?_;refine au ?_ ?_<;>intro aN bC
 ·have hn:¬gE t=0:=(by simpa using aN)
  refine af [6,7] ?_;refine CD.wk (Wk.tw (t:=6) (sz:=2) lk) ?_;refine aJ [] ?_;exact⟨by unfold wF;rw[if_neg hn];rfl,rfl⟩
 have hz:gE t=0:=(by simpa using aN)
 have v:=hv hz;have Ux:=QW v f;refine aD 4 ?_;refine bX 19 (fun Z O=>?_) (fun Z O=>?_)
 ·refine bg [1,3,5,23] ?_;refine eM ?_;exact Wz
 refine bg [1,3,5,23] ?_;refine au ?_ ?_<;>intro aY cz
 ·exact Wz
 have anG:f.length≤100∧e9.length≤100:=(by simp_all;omega)
 have hf1:f.length≤maxLen:=(by omega)
 refine bY ?_;refine OD.alloc (ds:=[_]) ap rfl rfl zeroValue85 rfl (fun b9=>?_);refine an 43 [1,3,5,9] ?_;refine CD.ahS ?_;refine dN 2 ?_;refine dS call50 (U) ?_;refine an 43 [5,9,26] ?_;refine vG.wk (Wk.drop _ _ _ [⟨b9,85,1,[bS]⟩,⟨b5,88,1,[av 1 cB e9]⟩] (Sublist.cons_cons _ (Sublist.cons_cons _ (Sublist.cons _ (Sublist.refl _))))) ?_;refine vG.range ot call93 (aci t h v f hf1) (fun _=>rfl) ach (.exit 0) (.inr rfl) (wM b9 b5 e9) (FG b9 b5 e9) (fun _ _ h=>h.iH) (fun _ _ h=>h.iH) ⟨(fun _ h=>by cases h),none,0,[],iI,rfl⟩ (Kp b9 b5 e9) (fun _ _ _ _ h=>h.iH) ?_ ?_ ?_ (fun h=>by cases h)
 ·intro X1 W1 S1 l1 pre y Sc hJ hN;refine CI.region L9 rfl ?_;refine OD.alloc (ds:=[_,_]) ap rfl rfl zeroValue90 rfl (fun kJ=>?_);refine aP 0 [_,_] sizeOf90 ?_;refine OD.wk (Wk.dU (n:=43) (l':=[(5,_),(9,_),(10,_)]) (S':=(⟨kJ,90,2,[_,_]⟩::Sc)) rfl rfl fp) ?_;refine OD.nil ?_;exact⟨rfl,hJ,kJ,rfl⟩
 ·intro X1 W1 S1 l1 pre y Sc z hJ hN hz;obtain⟨⟨aT,ad,cap,So,ho,rfl⟩,kJ,rfl⟩:=hz;unfold cE;refine CI.block ?_;refine CI.seq ?_;refine CI.seq ?_;refine CI.region L9 rfl ?_;refine bH (dJ 2) ?_;refine bH qE ?_;refine bH mP ?_;refine om_ ?_;refine OD.split (t:=31) lk (fun I=>?_) (fun I=>?_)
  ·have E:=I;(try simp only[V.nv,ne_eq] at E)
   refine bH (dj 0) ?_;refine bH (dJ 0) ?_;refine bH (dJ 2) ?_;refine OD.gZ iu rfl rfl rfl call51 (wo y.1 e9) ⟨ot,ot,trivial⟩ ?_;refine bH mP ?_;refine bH wV ?_;refine OD.wk (Wk.dU (n:=43) (l':=[(9,_),(10,_),(37,_)]) (S':=(⟨kJ,90,2,[_,_]⟩::⟨b9,85,1,[_]⟩::⟨b5,88,1,[_]⟩::So)) rfl rfl fp) ?_;refine OD.nil ?_;refine CI.cond ot (fun bZ=>?_) (fun bZ=>?_)
   ·have cM:=bZ
    (try simp only[V.nv,ne_eq] at cM)
    have fG:u0 e9 y=true:=(by unfold u0;simp_all[Tu])
    refine CI.exit ?_;exact⟨rfl,_,Sublist.cons _ (Sublist.refl _),pre,y,rfl,fG,aT,ad,cap,So,ho,rfl⟩
   have cM:=bZ
   (try simp only[V.nv,ne_eq] at cM)
   exact V9
  have E:=I;(try simp only[V.nv,ne_eq] at E)
  refine CH ?_;refine CH ?_;refine CH ?_;refine CH ?_;refine CH ?_;refine bH vc ?_;refine WN [9,10,37] ?_;refine CI.Ka ot js ?_;exact V9
 intro W1 S1 D1 Sc ff;obtain⟨es,hes,aT,ad,cap,So,ho,rfl⟩:=acj ff;refine af [6,7] ?_;refine CD.ij (t:=6) (Sq:=So) lk ho (cn Tv _) (dD (A:=[_,_])) ?_;refine CD.ret ?_;refine⟨rfl,(by simp[iH,fM,uM yS,yR,yS,uM afD,Uy,Ko]),(by intro B hB;simp only[mem_cons,not_mem_nil,or_false] at hB;rcases hB with rfl|rfl<;>simp[iH,fM,yR]),_,[],nil_sublist _,IY results30 (yC aS lk) (yC aS lk),(by simp[iH,fM,uM yS]),?_⟩;rw[hes];exact⟨by unfold wF;rw[if_pos hz,if_pos ⟨by omega,by omega⟩],rfl⟩

end Go.Proofs.YtdgichenhdikgaaGreatDoor.Tw
namespace Go.Proofs.YtdgichenhdikgaaGreatDoor.Tw

open List
open Go.Proofs.Tryz
open Go.RowKit V Tr Pk
variable {α:Type} {i:Nat} {t:aF} {J:List D}
theorem SI{g:α→List D}(hg:∀a,(g a).length=1){q:List α}{cap:Nat}(hi:i<q.length)(hc:q.length≤cap):((q.flatMap g).drop (eG cap (i+1) 1 0)).take ((q.length-(i+1))*1)=(q.drop (i+1)).flatMap g:=by
 exact Ww
theorem TS{g:α→List D}(hg:∀a,(g a).length=1){q:List α}(hi:i<q.length):dh (q.flatMap g) (i*1) ((q.drop (i+1)).flatMap g)=(q.eraseIdx i).flatMap g++(q.flatMap g).drop (i*1+((q.drop (i+1)).flatMap g).length):=by
 rw[uE _ _ _ (by rw[cn hg,cn hg,length_drop];omega),rT hg,eraseIdx_eq_take_drop_succ,flatMap_append]
variable {G:List (Nat×List Value)}
theorem X9:(Tryz.prog.info? 88).map (fun i=>i.size)=some 1:=by kernel_rfl
theorem HB(q:List K)(i cap b:Nat)(hi:i<q.length)(hc:q.length≤cap)(hm:cap≤maxLen)(hs:q.length≤1000):VC Tryz.prog G 130 [aR (some ⟨b,0,none⟩) q.length cap,ae (i:Nat),ae ((i+1:Nat):Int)] [⟨b,88,cap*1,q.flatMap cK⟩] (fun r S=>r=aR (some ⟨b,0,none⟩) (q.length-1) cap∧S=[⟨b,88,cap*1,(q.eraseIdx i).flatMap cK⟩]):=by
 refine VC.body func130 rfl ntmps130 aS fun X0 w0 aZ=>?_;refine af [0,1,2] ?_;refine cQ [0,1,2] ?_;refine aU 5 ?_ (h:=by exact(Hj rfl ot ot ot ot runUnderlying151 sizeOf88 w4 w4 hc));refine jJ ?_;refine af [0,1,2,16] ?_;refine au ?_ ?_<;>intro aN bC
 ·exact absurd aN sL
 refine af [0,1,2,7] ?_;refine CD.seq ?_;refine fO 7 (aq (eraseIdx _ 0)) ?_ (fun _ h=>(Sublist.map _ (eraseIdx_sublist _ 0)).subset h);refine ay 0 rfl bf ?_;refine ay 1 rfl bf ?_;refine ay 2 rfl (ei (l:=0) (h:=i) rfl ot trivial ⟨_,ot⟩ LM) ?_;refine ay 3 rfl bf ?_;refine ay 4 rfl bf ?_;refine ay 5 rfl (ei (l:=i+1) rfl ot ⟨_,ot⟩ trivial ua) ?_;refine di.later rfl ?_;refine AD.one (i:=6) aA ?_;refine bj.Ip (n:=i) (m:=q.length-(i+1)) (k:=0) (new:=(q.drop (i+1)).flatMap cK) (cs':=(q.eraseIdx i).flatMap cK++(q.flatMap cK).drop (i*1+((q.drop (i+1)).flatMap cK).length)) rfl ap rfl rfl underlying151 X9 ot rfl rfl ot (SI gm hi hc) (by rw[cn gm,length_drop]) (rV pA _) w4 (by show _≤(q.flatMap cK).length;rw[cn gm];omega) (TS gm hi) ir ?_;rw[show i+(q.length-(i+1))=q.length-1 from by omega];refine eJ ?_;refine bg [0,7] ?_;refine aD 4 ?_;refine bH (ei (l:=q.length-1) (h:=q.length) rfl ot ⟨_,ot⟩ ⟨_,ot⟩ (by first|exact mX (fun h=>by cases h) runUnderlying151 sizeOf88 w4|exact tq (fun h=>by cases h) (fun h=>by cases h) runUnderlying151 sizeOf88 w4 w4|exact mv (fun h=>by cases h) (fun h=>by cases h) runUnderlying151 sizeOf88 w4 w4)) ?_;refine OD.shrink (k:=0) (cs':=(q.eraseIdx i).flatMap cK) rfl (prefix_append _ _) ?_;refine OD.clear (k:=0) (sz:=1) ap rfl rfl underlying151 zeroValue88 rfl aA ot rfl rfl (fun h0=>?_) ?_
 ·have h3:eG cap (q.length-1) 1 0=(q.length-1)*1:=(by unfold eG;rw[if_neg w4];omega)
  rw[h3];refine⟨?_,?_⟩
  ·show((q.eraseIdx i).flatMap cK).length≤_;rw[cn gm,length_eraseIdx_of_lt hi];exact Nat.le_refl _
  show _≤cap*1;omega
 exact Mr
theorem Ya:(Tryz.prog.info? 3).map (fun i=>i.size)=some 1:=by kernel_rfl
theorem Od(q:List Int)(i cap b:Nat)(hi:i<q.length)(hc:q.length≤cap)(hm:cap≤maxLen)(hs:q.length≤1000):VC Tryz.prog G 131 [aR (some ⟨b,0,none⟩) q.length cap,ae (i:Nat),ae ((i+1:Nat):Int)] [⟨b,3,cap*1,q.flatMap cI⟩] (fun r S=>r=aR (some ⟨b,0,none⟩) (q.length-1) cap∧S=[⟨b,3,cap*1,(q.eraseIdx i).flatMap cI⟩]):=by
 refine VC.body func131 rfl ntmps131 aS fun X0 w0 aZ=>?_;refine af [0,1,2] ?_;refine cQ [0,1,2] ?_;refine aU 5 ?_ (h:=by exact(Hj rfl ot ot ot ot runUnderlying67 sizeOf3 w4 w4 hc));refine jJ ?_;refine af [0,1,2,16] ?_;refine au ?_ ?_<;>intro aN bC
 ·exact absurd aN sL
 refine af [0,1,2,7] ?_;refine CD.seq ?_;refine fO 7 (aq (eraseIdx _ 0)) ?_ (fun _ h=>(Sublist.map _ (eraseIdx_sublist _ 0)).subset h);refine ay 0 rfl bf ?_;refine ay 1 rfl bf ?_;refine ay 2 rfl (ei (l:=0) (h:=i) rfl ot trivial ⟨_,ot⟩ LN) ?_;refine ay 3 rfl bf ?_;refine ay 4 rfl bf ?_;refine ay 5 rfl (ei (l:=i+1) rfl ot ⟨_,ot⟩ trivial uc) ?_;refine di.later rfl ?_;refine AD.one (i:=6) aA ?_;refine bj.Ip (n:=i) (m:=q.length-(i+1)) (k:=0) (new:=(q.drop (i+1)).flatMap cI) (cs':=(q.eraseIdx i).flatMap cI++(q.flatMap cI).drop (i*1+((q.drop (i+1)).flatMap cI).length)) rfl ap rfl rfl underlying67 Ya ot rfl rfl ot (SI eI hi hc) (by rw[cn eI,length_drop]) (rV nD _) w4 (by show _≤(q.flatMap cI).length;rw[cn eI];omega) (TS eI hi) ir ?_;rw[show i+(q.length-(i+1))=q.length-1 from by omega];refine eJ ?_;refine bg [0,7] ?_;refine aD 4 ?_;refine bH (ei (l:=q.length-1) (h:=q.length) rfl ot ⟨_,ot⟩ ⟨_,ot⟩ (by first|exact mX (fun h=>by cases h) runUnderlying67 sizeOf3 w4|exact tq (fun h=>by cases h) (fun h=>by cases h) runUnderlying67 sizeOf3 w4 w4|exact mv (fun h=>by cases h) (fun h=>by cases h) runUnderlying67 sizeOf3 w4 w4)) ?_;refine OD.shrink (k:=0) (cs':=(q.eraseIdx i).flatMap cI) rfl (prefix_append _ _) ?_;refine OD.clear (k:=0) (sz:=1) ap rfl rfl underlying67 zeroValue3 rfl aA ot rfl rfl (fun h0=>?_) ?_
 ·have h3:eG cap (q.length-1) 1 0=(q.length-1)*1:=(by unfold eG;rw[if_neg w4];omega)
  rw[h3];refine⟨?_,?_⟩
  ·show((q.eraseIdx i).flatMap cI).length≤_;rw[cn eI,length_eraseIdx_of_lt hi];exact Nat.le_refl _
  show _≤cap*1;omega
 exact Mr

theorem vS{α:Type}{g:α→List D}{sz:Nat}(hg:∀a,(g a).length=sz){a':α}{c:Nat}{d:D}(hc:c<sz):∀{L:List α} {j:Nat} (hj:j<L.length),g a'=(g L[j]).set c d→(L.flatMap g).set (j*sz+c) d=(L.set j a').flatMap g
 | a::L,0,_,h=>by
  simp only[getElem_cons_zero] at h;rw[flatMap_cons,set_cons_zero,flatMap_cons,h,set_append_left _ _ (by rw[hg];omega),Nat.zero_mul,Nat.zero_add]
 | a::L,j+1,hj,h=>by
  have E:=vS hg hc (L:=L) (j:=j) (by simpa using hj) oR;have e:(j+1)*sz+c=sz+(j*sz+c):=(by rw[Nat.succ_mul];omega)
  rw[flatMap_cons,set_cons_succ,flatMap_cons,←E,set_append_right _ _ (by rw[hg];omega),hg,e,show sz+(j*sz+c)-sz=j*sz+c from by omega]
theorem TT{L:List aB}(hL:L.map aB.p=t.ag){i:Int}(hi:0≤i∧i<t.ag.length)(hj:i.toNat<L.length):L[i.toNat].p=t.pg i:=by
 rw[u6 hi];have h:(L.map aB.p)[i.toNat]?=some L[i.toNat].p:=(by rw[getElem?_map,getElem?_eq_getElem hj];rfl)
 rw[hL,getElem?_eq_getElem w4] at h;exact(Option.some.inj h).symm
def vK:aF:=⟨[],0⟩
def B6(te:aF×Int)(r:D)(S:List ah):Prop:=∃r',r = .dF [r',ae te.2]∧F7 te.1 r' S
theorem yI(e:Int):B6 (vK,e) (.dF [.agg [bS,ae 0],ae e]) []:=⟨_,rfl,[],none,0,[],rfl,iI,(fun o h=>by cases h),rfl,rfl⟩
theorem F7.view{r:D}{S:List ah}(h:F7 t r S):View S r (.agg (cT t)):=by
 obtain⟨L,ad,cap,Sx,rfl,ho,aT,hL,rfl⟩:=h;have:=JP (root:=t.root) ho aT (fun B E=>E);rw[hL] at this;exact this
theorem B6.view{te:aF×Int}{r:D}{S:List ah}(h:B6 te r S):View S r (.dF [.agg (cT te.1),ae te.2]):=by
 obtain⟨r',rfl,h⟩:=h;exact Ev ⟨h.view,eU,trivial⟩
noncomputable def qX(t:aF)(k:K)(h:Nat):aF×Int:=if lu t k=0 then (if iy t k h=true then (gK t h k,0) else (vK,8)) else (vK,lu t k)
theorem Pt{k:K}(h:lu t k=0):gE t=0∧oo k=true:=by
 have hc:gE t=0:=Classical.byContradiction fun e=>by rw[Es e] at h;exact e h
 refine⟨hc,?_⟩;cases hq:oo k with
 | true=>rfl
 | false=>rw[D7 hc hq] at h;cases h
theorem aaL(t:aF)(h:Nat)(k:K)(hb:∀p∈t.ag,p.keys.length≤maxLen∧p.kids.length≤maxLen)(hv:gE t=0→Valid t h):VC Tryz.prog G 90 [.agg [av 5 cP t.ag,ae t.root],av 1 cB k] [] (B6 (qX t k h)):=by
 refine VC.body func90 rfl ntmps90 aS fun X0 w0 aZ=>?_;have fg:=HA (G:=G) t k hb;unfold cT at fg;have hcT:cT t=[av 5 cP t.ag,ae t.root]:=rfl;have da:=dW;refine bY ?_;refine OD.box (ds:=[_,_]) ap rfl rfl ot rfl rfl (fun b2=>?_);refine OD.alloc (ds:=[_,_]) ap rfl rfl zeroValue51 rfl (fun b4=>?_);refine an 58 [1,2,4] ?_;refine cH [1,2,4,6] (fg) ?_;refine af [1,2,4,6,16] ?_;refine au ?_ ?_<;>intro aN bC
 ·have hn:¬lu t k=0:=(by simpa using aN)
  refine aD 2 ?_;refine aP 0 [_,_] sizeOf51 ?_;refine an 58 [4,5] ?_;refine aJ [] ?_;unfold qX;rw[if_neg hn];exact yI _
 have hz:lu t k=0:=(by simpa using aN)
 obtain⟨hc,NB⟩:=Pt hz;have v:=hv hc;have B7:=II NB;have fy:=pu (G:=G) t h v k w4 (D4 v k);obtain⟨q1,E⟩:=v.leaf k;refine aD 1 ?_;refine OD.call ap rfl rfl rfl call121 (Fi t h v) ⟨ot,trivial⟩ (eT _) ?_;rintro _ _ ⟨L,ad,cap,Sx,rfl,ec,aT,hL,rfl⟩;refine OD.perm (ee (A:=[_,_])) ?_;refine OD.alloc (ds:=[_,_]) ap rfl rfl zeroValue51 rfl (fun b7=>?_);refine aP 0 [_,_] sizeOf51 ?_;refine an 58 [1,4,7] ?_;refine cQ [4,7,8,9,10] ?_;refine mS 2 ?_;refine wZ (fy) (ha:=by exact⟨⟨_,ot,by have:=JP (root:=t.root) ec aT (fun B hB=>mem_cons_of_mem ⟨b7,51,2,[aR ad L.length cap,ae t.root]⟩ (mem_cons_of_mem ⟨b4,51,2,[bS,ae 0]⟩ (mem_cons_of_mem ⟨b2,51,2,[av 5 cP t.ag,ae t.root]⟩ hB)));rw[hL] at this;exact this⟩,⟨_,ot,eU⟩,trivial⟩) (K:=?_);refine bG ?_;refine af [4,7,8,9,29] ?_;refine au ?_ ?_<;>intro aY cz
 ·have iW:iy t k h=false:=(by simpa using aY)
  refine aD 1 ?_;refine aP 1 [_,_] sizeOf51 ?_;refine an 58 [4,5] ?_;refine aJ [] ?_;unfold qX;rw[if_pos hz,if_neg xy];exact yI _
 have iW:iy t k h=true:=(by simpa using aY)
 obtain⟨ha,M6⟩:=(D3 v k).1 iW;have po:=v.fF _ (jB q1);have hle:=po.leaf E;have XL:=po.eD;have rH:L.length=t.ag.length:=(by rw[←hL,length_map])
 have hj:(aH t k h t.root).toNat<L.length:=(by omega)
 have O:=TT hL q1 hj;obtain⟨bx,rfl,gd,rz,rfl⟩:=ec.pos w4;have U:=aT _ (getElem_mem hj);obtain⟨o,ho⟩:∃o,o=L[(aH t k h t.root).toNat]:=⟨_,rfl⟩
 rw[←ho] at U O;rcases o with ⟨p,ak,ck,sk,ai,ci,si⟩
 have gW:p=t.pg (aH t k h t.root):=O;obtain⟨dO,Z⟩:oL p.keys ak ck sk∧lM p.kids ai ci si:=U;rw[←gW] at ha hle XL;obtain⟨bk,rfl,dY,xB,rfl⟩:=dO.pos w4;obtain⟨bi,rfl,fB,Gu,rfl⟩:=Z.pos w4;have I:(L.flatMap bO).Perm (⟨bk,88,ck*1,flatMap cK p.keys⟩::⟨bi,3,ci*1,flatMap cI p.kids⟩::((L.eraseIdx (aH t k h t.root).toNat).flatMap bO)):=(by have:=yH bO hj;rw[←ho] at this;exact this)
 refine CD.perm (Perm.cons _ (Perm.cons _ (Perm.cons _ (Perm.cons _ I)))) ?_;rw[gW] at ha;have ha:(aO (t.pg (aH t k h t.root)) k)<p.keys.length:=(by rw[gW];exact ha)
 have pO:(aO (t.pg (aH t k h t.root)) k)<p.kids.length:=(by omega)
 have hid:=dY;clear dO Z;refine cQ [4,7,9,11] ?_;refine aU 3 ?_ (h:=by exact(dm 5 (h:=by first|exact .l (j:=(aH t k h t.root).toNat) (Int.toNat_of_nonneg q1.1).symm hj|exact .r (j:=(aH t k h t.root).toNat) (Int.toNat_of_nonneg q1.1).symm hj)));refine bG ?_;refine CD.seq ?_;refine fO 21 (aq (take 3 _)) ?_ (fun _ h=>(Sublist.map _ (take_sublist _ _)).subset h);refine ay 0 rfl bf ?_;refine ay 1 rfl bf ?_;refine ay 2 rfl bf ?_;refine ay 3 rfl lO ?_;refine ay 4 rfl (dj 1) ?_;refine ay 6 rfl bf ?_;refine ay 7 rfl bf ?_;refine ay 8 rfl (c8 (r:=.int .i64 (((aO (t.pg (aH t k h t.root)) k)+1:Nat):Int)) rfl ot bL (ko (by rw[show(((aO (t.pg (aH t k h t.root)) k):Nat):Int)+1=(((aO (t.pg (aH t k h t.root)) k)+1:Nat):Int) from rfl];exact wrap_i64 w4 w4))) ?_;refine ay 10 rfl bf ?_;refine ay 11 rfl lO ?_;refine ay 12 rfl (dj 2) ?_;refine ay 14 rfl bf ?_;refine ay 15 rfl bf ?_;refine ay 16 rfl (c8 (r:=.int .i64 (((aO (t.pg (aH t k h t.root)) k)+1:Nat):Int)) rfl ot bL (ko (by rw[show(((aO (t.pg (aH t k h t.root)) k):Nat):Int)+1=(((aO (t.pg (aH t k h t.root)) k)+1:Nat):Int) from rfl];exact wrap_i64 w4 w4))) ?_;refine di.later rfl ?_;refine AD.two (i:=5) (j:=13) aA ?_ ?_
 ·first|refine at_ rfl (cR (mk:=Op.load 151) rfl ot (lj (k:=3) (j:=1) (d:=aR (some ⟨bk,0,none⟩) p.keys.length ck) (ls:=L) gl rfl rfl rfl isAgg151 hj ru)) ?_|refine at_ rfl (cR (mk:=Op.load 151) rfl ot (lj (k:=4) (j:=1) (d:=aR (some ⟨bk,0,none⟩) p.keys.length ck) (ls:=L) gl rfl rfl rfl isAgg151 hj ru)) ?_
  refine AD.two (i:=9) (j:=13) aA ?_ ?_
  ·refine bj.call rfl ap rfl rfl rfl call130 (HB p.keys (aO (t.pg (aH t k h t.root)) k) ck bk ha dY xB w4) ⟨ot,ot,ot,trivial⟩ (kf (k:=4) rfl) ir ?_;rintro _ _ ⟨rfl,rfl⟩;refine AD.perm (perm_middle (l₁:=[_,_,_,_])).symm ?_;refine AD.one (i:=13) aA ?_;first|refine at_ rfl (cR (mk:=Op.load 67) rfl ot (lj (k:=3) (j:=2) (d:=aR (some ⟨bi,0,none⟩) p.kids.length ci) (ls:=L) gl rfl rfl rfl isAgg67 hj ru)) ?_|refine at_ rfl (cR (mk:=Op.load 67) rfl ot (lj (k:=4) (j:=2) (d:=aR (some ⟨bi,0,none⟩) p.kids.length ci) (ls:=L) gl rfl rfl rfl isAgg67 hj ru)) ?_
   exact z8
  first|refine at_ rfl (cR (mk:=Op.load 67) rfl ot (lj (k:=3) (j:=2) (d:=aR (some ⟨bi,0,none⟩) p.kids.length ci) (ls:=L) gl rfl rfl rfl isAgg67 hj ru)) ?_|refine at_ rfl (cR (mk:=Op.load 67) rfl ot (lj (k:=4) (j:=2) (d:=aR (some ⟨bi,0,none⟩) p.kids.length ci) (ls:=L) gl rfl rfl rfl isAgg67 hj ru)) ?_
  refine AD.one (i:=9) aA ?_;refine bj.call rfl ap rfl rfl rfl call130 (HB p.keys (aO (t.pg (aH t k h t.root)) k) ck bk ha dY xB w4) ⟨ot,ot,ot,trivial⟩ (kf (k:=4) rfl) ir ?_;rintro _ _ ⟨rfl,rfl⟩;refine AD.perm (perm_middle (l₁:=[_,_,_,_])).symm ?_;exact z8
 first|refine at_ rfl (cR (mk:=Op.load 67) rfl ot (lj (k:=3) (j:=2) (d:=aR (some ⟨bi,0,none⟩) p.kids.length ci) (ls:=L) gl rfl rfl rfl isAgg67 hj ru)) ?_|refine at_ rfl (cR (mk:=Op.load 67) rfl ot (lj (k:=4) (j:=2) (d:=aR (some ⟨bi,0,none⟩) p.kids.length ci) (ls:=L) gl rfl rfl rfl isAgg67 hj ru)) ?_
 refine AD.one (i:=5) aA ?_;first|refine at_ rfl (cR (mk:=Op.load 151) rfl ot (lj (k:=3) (j:=1) (d:=aR (some ⟨bk,0,none⟩) p.keys.length ck) (ls:=L) gl rfl rfl rfl isAgg151 hj ru)) ?_|refine at_ rfl (cR (mk:=Op.load 151) rfl ot (lj (k:=4) (j:=1) (d:=aR (some ⟨bk,0,none⟩) p.keys.length ck) (ls:=L) gl rfl rfl rfl isAgg151 hj ru)) ?_
 refine AD.one (i:=9) aA ?_;refine bj.call rfl ap rfl rfl rfl call130 (HB p.keys (aO (t.pg (aH t k h t.root)) k) ck bk ha dY xB w4) ⟨ot,ot,ot,trivial⟩ (kf (k:=4) rfl) ir ?_;rintro _ _ ⟨rfl,rfl⟩;refine AD.perm (perm_middle (l₁:=[_,_,_,_])).symm ?_;refine AD.one (i:=17) aA ?_;refine bj.call rfl ap rfl rfl rfl call131 (Od p.kids (aO (t.pg (aH t k h t.root)) k) ci bi pO fB Gu w4) ⟨ot,ot,ot,trivial⟩ (kf (k:=5) rfl) ir ?_;rintro _ _ ⟨rfl,rfl⟩;refine AD.perm (perm_middle (l₁:=[_,_,_,_,_])).symm ?_;refine cy 18 rfl lO ?_;refine cy 19 rfl (dj 1) ?_;refine AD.one (i:=20) aA ?_
 refine bj.storeAt (k:=3) (cs':=flatMap gO (L.set (aH t k h t.root).toNat (⟨{p with keys:=(p.keys.eraseIdx (aO (t.pg (aH t k h t.root)) k))},some ⟨bk,0,none⟩,ck,[⟨bk,88,ck*1,flatMap cK (p.keys.eraseIdx (aO (t.pg (aH t k h t.root)) k))⟩],some ⟨bi,0,none⟩,ci,[⟨bi,3,ci*1,flatMap cI p.kids⟩]⟩:aB))) rfl ap rfl rfl ot rfl rfl ot rfl rfl sizeOf151 rfl (by show 0+(aH t k h t.root).toNat*5+1+1≤(flatMap gO L).length;rw[cn gl];omega) (by show(L.flatMap gO).set (0+(aH t k h t.root).toNat*5+1) _=_;rw[Nat.zero_add];exact vS gl w7 hj (by rw[←ho];show gO (⟨{p with keys:=(p.keys.eraseIdx (aO (t.pg (aH t k h t.root)) k))},some ⟨bk,0,none⟩,ck,[⟨bk,88,ck*1,flatMap cK (p.keys.eraseIdx (aO (t.pg (aH t k h t.root)) k))⟩],some ⟨bi,0,none⟩,ci,[⟨bi,3,ci*1,flatMap cI p.kids⟩]⟩:aB)=(gO (⟨p,some ⟨bk,0,none⟩,ck,[⟨bk,88,ck*1,flatMap cK p.keys⟩],some ⟨bi,0,none⟩,ci,[⟨bi,3,ci*1,flatMap cI p.kids⟩]⟩:aB)).set 1 _;unfold gO;rw[length_eraseIdx_of_lt ha];rfl)) ir ?_;refine eJ ?_;refine aE 2 ?_
 refine OD.storeAt (k:=3) (cs':=flatMap gO (L.set (aH t k h t.root).toNat (⟨(kD p (aO (t.pg (aH t k h t.root)) k)),some ⟨bk,0,none⟩,ck,[⟨bk,88,ck*1,flatMap cK (p.keys.eraseIdx (aO (t.pg (aH t k h t.root)) k))⟩],some ⟨bi,0,none⟩,ci,[⟨bi,3,ci*1,flatMap cI (p.kids.eraseIdx (aO (t.pg (aH t k h t.root)) k))⟩]⟩:aB))) ap rfl rfl ot rfl rfl ot rfl rfl sizeOf67 rfl (by show 0+(aH t k h t.root).toNat*5+2+1≤(flatMap gO (L.set (aH t k h t.root).toNat (⟨{p with keys:=(p.keys.eraseIdx (aO (t.pg (aH t k h t.root)) k))},some ⟨bk,0,none⟩,ck,[⟨bk,88,ck*1,flatMap cK (p.keys.eraseIdx (aO (t.pg (aH t k h t.root)) k))⟩],some ⟨bi,0,none⟩,ci,[⟨bi,3,ci*1,flatMap cI p.kids⟩]⟩:aB))).length;rw[cn gl,length_set];omega) (by show(flatMap gO (L.set (aH t k h t.root).toNat (⟨{p with keys:=(p.keys.eraseIdx (aO (t.pg (aH t k h t.root)) k))},some ⟨bk,0,none⟩,ck,[⟨bk,88,ck*1,flatMap cK (p.keys.eraseIdx (aO (t.pg (aH t k h t.root)) k))⟩],some ⟨bi,0,none⟩,ci,[⟨bi,3,ci*1,flatMap cI p.kids⟩]⟩:aB))).set (0+(aH t k h t.root).toNat*5+2) _=_;rw[Nat.zero_add,vS gl (a':=(⟨(kD p (aO (t.pg (aH t k h t.root)) k)),some ⟨bk,0,none⟩,ck,[⟨bk,88,ck*1,flatMap cK (p.keys.eraseIdx (aO (t.pg (aH t k h t.root)) k))⟩],some ⟨bi,0,none⟩,ci,[⟨bi,3,ci*1,flatMap cI (p.kids.eraseIdx (aO (t.pg (aH t k h t.root)) k))⟩]⟩:aB)) w7 xq (by rw[getElem_set_self];show gO (⟨(kD p (aO (t.pg (aH t k h t.root)) k)),some ⟨bk,0,none⟩,ck,[⟨bk,88,ck*1,flatMap cK (p.keys.eraseIdx (aO (t.pg (aH t k h t.root)) k))⟩],some ⟨bi,0,none⟩,ci,[⟨bi,3,ci*1,flatMap cI (p.kids.eraseIdx (aO (t.pg (aH t k h t.root)) k))⟩]⟩:aB)=(gO (⟨{p with keys:=(p.keys.eraseIdx (aO (t.pg (aH t k h t.root)) k))},some ⟨bk,0,none⟩,ck,[⟨bk,88,ck*1,flatMap cK (p.keys.eraseIdx (aO (t.pg (aH t k h t.root)) k))⟩],some ⟨bi,0,none⟩,ci,[⟨bi,3,ci*1,flatMap cI p.kids⟩]⟩:aB)).set 2 _;unfold gO kD;simp only[];rw[length_eraseIdx_of_lt pO];rfl),set_set]) ?_
 have vB:(⟨bk,88,ck*1,flatMap cK (p.keys.eraseIdx (aO (t.pg (aH t k h t.root)) k))⟩::⟨bi,3,ci*1,flatMap cI (p.kids.eraseIdx (aO (t.pg (aH t k h t.root)) k))⟩::((L.eraseIdx (aH t k h t.root).toNat).flatMap bO)).Perm ((L.set (aH t k h t.root).toNat (⟨(kD p (aO (t.pg (aH t k h t.root)) k)),some ⟨bk,0,none⟩,ck,[⟨bk,88,ck*1,flatMap cK (p.keys.eraseIdx (aO (t.pg (aH t k h t.root)) k))⟩],some ⟨bi,0,none⟩,ci,[⟨bi,3,ci*1,flatMap cI (p.kids.eraseIdx (aO (t.pg (aH t k h t.root)) k))⟩]⟩:aB)).flatMap bO):=(qL bO hj (⟨(kD p (aO (t.pg (aH t k h t.root)) k)),some ⟨bk,0,none⟩,ck,[⟨bk,88,ck*1,flatMap cK (p.keys.eraseIdx (aO (t.pg (aH t k h t.root)) k))⟩],some ⟨bi,0,none⟩,ci,[⟨bi,3,ci*1,flatMap cI (p.kids.eraseIdx (aO (t.pg (aH t k h t.root)) k))⟩]⟩:aB)).symm;refine OD.perm (Perm.cons _ (Perm.cons _ (Perm.cons _ (Perm.cons _ vB)))) ?_;refine an 58 [4,7] ?_;refine aD 1 ?_;refine aP 1 [_,_] sizeOf51 ?_;refine an 58 [4,5] ?_
 refine aJ ([⟨bx,153,cap*5,flatMap gO (L.set (aH t k h t.root).toNat (⟨(kD p (aO (t.pg (aH t k h t.root)) k)),some ⟨bk,0,none⟩,ck,[⟨bk,88,ck*1,flatMap cK (p.keys.eraseIdx (aO (t.pg (aH t k h t.root)) k))⟩],some ⟨bi,0,none⟩,ci,[⟨bi,3,ci*1,flatMap cI (p.kids.eraseIdx (aO (t.pg (aH t k h t.root)) k))⟩]⟩:aB))⟩]++(L.set (aH t k h t.root).toNat (⟨(kD p (aO (t.pg (aH t k h t.root)) k)),some ⟨bk,0,none⟩,ck,[⟨bk,88,ck*1,flatMap cK (p.keys.eraseIdx (aO (t.pg (aH t k h t.root)) k))⟩],some ⟨bi,0,none⟩,ci,[⟨bi,3,ci*1,flatMap cI (p.kids.eraseIdx (aO (t.pg (aH t k h t.root)) k))⟩]⟩:aB)).flatMap bO) ?_;unfold qX;rw[if_pos hz,if_pos iW];refine⟨_,rfl,L.set (aH t k h t.root).toNat (⟨(kD p (aO (t.pg (aH t k h t.root)) k)),some ⟨bk,0,none⟩,ck,[⟨bk,88,ck*1,flatMap cK (p.keys.eraseIdx (aO (t.pg (aH t k h t.root)) k))⟩],some ⟨bi,0,none⟩,ci,[⟨bi,3,ci*1,flatMap cI (p.kids.eraseIdx (aO (t.pg (aH t k h t.root)) k))⟩]⟩:aB),some ⟨bx,0,none⟩,cap,_,by rw[length_set];rfl,bF rq rz,fun x hx=>?_,?_,rfl⟩
 ·rcases mem_or_eq_of_mem_set hx with hx|rfl
  ·exact aT x hx
  exact⟨bF (by show(p.keys.eraseIdx (aO (t.pg (aH t k h t.root)) k)).length≤ck;rw[length_eraseIdx_of_lt ha];omega) xB,bF (by show(p.kids.eraseIdx (aO (t.pg (aH t k h t.root)) k)).length≤ci;rw[length_eraseIdx_of_lt pO];omega) Gu⟩
 rw[map_set,hL];show _=t.ag.set (aH t k h t.root).toNat (kD (t.pg (aH t k h t.root)) (aO (t.pg (aH t k h t.root)) k));rw[←gW]
theorem aaM(t:aF)(h:Nat)(k:K)(hb:∀p∈t.ag,p.keys.length≤maxLen∧p.kids.length≤maxLen)(E:gE t=0→Valid t h):VP Tryz.prog G 90 [.agg (cT t),av 1 cB k] (.dF [.agg (cT (qX t k h).1),ae (qX t k h).2]):=(aaL t h k hb E).cover fun r S hr=>hr.view

def VE(L:List aB)(b:Nat)(root:Int)(j:Nat)(p:cX)(r:D)(S:List ah):Prop:=r = .dF [.list 1 ((ji p).flatMap cB) (ji p).length,ae (L.length:Nat)]∧∃L' ad cap Sx,tW L' ad cap Sx∧(∀o∈L',qI o)∧L'.map aB.p=(L.map aB.p).set j (bp p L.length)++[bw p]∧S=⟨b,51,2,[aR ad (length L') cap,ae root]⟩::(Sx++L'.flatMap bO)
theorem yh:(Tryz.prog.info? 153).map (fun i=>(i.zero,i.size,i.bytes))=some (some (.agg #[.bool false,.slice none 0 0,.slice none 0 0,.slice none 0 0,.int .i64 0]),5,88):=by kernel_rfl
theorem ack(L:List aB)(b:Nat)(root i:Int)(ad:Option Addr)(cap:Nat)(Sx:List ah)(hi:0≤i∧i<L.length)(hn:L.length≤10000)(ec:tW L ad cap Sx)(aT:∀o∈L,qI o)(h5:(L[i.toNat]'w4).p.keys.length=5)(dY:(L[i.toNat]'w4).p.leaf=true→(L[i.toNat]'w4).p.kids.length=5)(x5:(L[i.toNat]'w4).p.leaf=false→(L[i.toNat]'w4).p.kids.length=6)(G8:∀k∈(L[i.toNat]'w4).p.keys,k.length≤100)(hh:(L[i.toNat]'w4).p.high.length≤100) :
 VC Tryz.prog G 126 [dI b,ae i] (⟨b,51,2,[aR ad L.length cap,ae root]⟩::(Sx++L.flatMap bO)) (VE L b root i.toNat (L[i.toNat]'w4).p):=by
 refine VC.body func126 rfl ntmps126 aS fun X0 w0 aZ=>?_;have da:=dW;have hj:i.toNat<L.length:=(by omega)
 obtain⟨bx,rfl,gd,rz,rfl⟩:=ec.pos w4;have xQ:=aT _ (getElem_mem hj);obtain⟨o,ho⟩:∃o,o=L[i.toNat]:=⟨_,rfl⟩
 rw[←ho] at xQ h5 dY x5 G8 hh ⊢;rcases o with ⟨p,ak,ck,sk,ai,ci,si⟩
 obtain⟨dO,j8⟩:oL p.keys ak ck sk∧lM p.kids ai ci si:=xQ;change p.keys.length=5 at h5;change p.leaf=true→p.kids.length=5 at dY;change p.leaf=false→p.kids.length=6 at x5;change ∀k∈p.keys,k.length≤100 at G8;change p.high.length≤100 at hh;have Kq:(L.flatMap bO).Perm (sk++(si++((L.eraseIdx i.toNat).flatMap bO))):=(by have:=yH bO hj;rw[←ho] at this;exact this.trans (by rw[show bO ⟨p,ak,ck,sk,ai,ci,si⟩=sk++si from rfl,append_assoc]))
 refine CD.perm (Perm.cons _ (Perm.cons _ Kq)) ?_;have xp:ji p=p.keys[2]'w4:=yP h5;have XN:(p.keys[2]'w4).length≤100:=G8 _ (getElem_mem _);refine af [0,1] ?_;refine aD 5 ?_;refine bH (dm 5 (h:=by first|exact .l (j:=i.toNat) (Int.toNat_of_nonneg hi.1).symm hj|exact .r (j:=i.toNat) (Int.toNat_of_nonneg hi.1).symm hj)) ?_;refine bH (cR (mk:=Op.load 153) rfl ot (dP (k:=1) (ls:=L) (i:=i.toNat) gl rfl rfl rfl isAgg153 sizeOf153 hj)) ?_;refine OD.alloc (ds:=[_,_,_,_,_]) ap rfl rfl zeroValue153 rfl (fun b6=>?_);refine aP 0 [_,_,_,_,_] sizeOf153 ?_;refine an 98 [0,1,6] ?_;refine CD.seq ?_;refine CD.wk (Wk.cover (A:=⟨b6,153,5,gO L[i.toNat]⟩) (R:=⟨b,51,2,[aR (some ⟨bx,0,none⟩) L.length cap,ae root]⟩::⟨bx,153,cap*5,flatMap gO L⟩::((L.eraseIdx i.toNat).flatMap bO)) (Sd:=sk++si) (cs':=cP p) (Perm.cons _ (Perm.cons _ (Perm.cons _ (by rw[←append_assoc];exact perm_append_comm)))) (by show gF _ (gO L[i.toNat]) _;rw[←ho];exact⟨eU,lE dO (cn gm _) (fun B hB=>mem_append_left _ hB),lE j8 (cn eI _) (fun B hB=>mem_append_right _ hB),eU,eU,trivial⟩)) ?_;refine dN 7 ?_;refine OD.alloc (ds:=[_,_,_,_,_]) ap rfl rfl zeroValue153 rfl (fun b7=>?_);refine aP 0 [_,_,_,_,_] sizeOf153 ?_;refine an 98 [0,1,6,7] ?_;refine cQ [0,1,6,7,8] ?_
 refine aU 2 ?_ (h:=by exact(rS (mk:=Op.indexAddr 151) rfl ot bL (by first|exact tE runUnderlying151 sizeOf88 (j:=2) rfl w4|exact tI runUnderlying151 sizeOf88 (j:=2) rfl w4)));refine bG ?_;refine CD.cut (fun aI=>∃(b7:Nat),∃(dw:Option Addr),∃(dx:Nat),∃(cJ:List ah),∃(dy:Option Addr),∃(dz:Nat),∃(cL:List ah),∃(bJ:Option Addr),∃(bK:Nat),∃(bA:List ah),(oL (bw p).keys dw dx cJ)∧(lM (bw p).kids dy dz cL)∧(lM (bp p L.length).kids bJ bK bA)∧aI=(⟨98,[(0,dI b),(1,ae i),(6,dI b6),(7,dI b7),(8,.list 1 ((ji p).flatMap cB) (ji p).length)],(⟨b7,153,5,[cg p.leaf,aR dw (bw p).keys.length dx,aR dy (bw p).kids.length dz,av 1 cB p.high,ae p.next]⟩::⟨b6,153,5,[cg p.leaf,av 1 cK p.keys,aR bJ (bp p L.length).kids.length bK,av 1 cB p.high,ae p.next]⟩::⟨b,51,2,[aR (some ⟨bx,0,none⟩) L.length cap,ae root]⟩::⟨bx,153,cap*5,flatMap gO L⟩::(bA++(cL++(cJ++((L.eraseIdx i.toNat).flatMap bO)))))⟩:St)) ?_ ?_
 ·refine af [0,1,6,7,8,28] ?_;refine au ?_ ?_<;>intro aN bC
  ·have fN:p.leaf=true:=aN;have dY:=dY fN;refine CD.seq ?_;refine fO 10 (aq (take 2 (drop 1 _))) ?_ (fun _ h=>(Sublist.map _ ((take_sublist _ _).trans (drop_sublist _ _))).subset h);refine ay 0 rfl (dj 1) ?_;refine ay 4 rfl (dj 2) ?_;refine di.later rfl ?_;refine AD.two (i:=1) (j:=5) aA ?_ ?_
   ·refine at_ rfl (dJ 1) ?_;refine cy 2 rfl (ei (l:=2) rfl ot ⟨_,bL⟩ trivial Gn) ?_;refine AD.two (i:=3) (j:=5) aA ?_ ?_
    ·have By:VC Tryz.prog G 150 [.list 1 ((p.keys.drop 2).flatMap cK) (p.keys.drop 2).length] [] (fun r S=>∃ad cap,r=aR ad (bw p).keys.length cap∧oL (bw p).keys ad cap S):=(by rw[show(p.keys.drop 2)=(bw p).keys from vt];exact vV _ LY)
     refine bj.call rfl ap rfl rfl rfl call150 By ⟨ot,trivial⟩ (eT _) ir ?_;rintro _ Dn ⟨Dp,Dq,rfl,B8⟩;refine AD.perm (jj (A:=[_,_,_,_])) ?_;refine cy 8 rfl (dj 1) ?_;refine AD.one (i:=5) aA ?_;refine at_ rfl (dJ 1) ?_;refine cy 6 rfl (ei (l:=2) rfl ot ⟨_,bL⟩ trivial zN) ?_;refine AD.one (i:=7) aA ?_;have Bz:VC Tryz.prog G 120 [.list 1 ((p.kids.drop 2).flatMap cI) (p.kids.drop 2).length] [] (fun r S=>∃ad cap,r=aR ad (bw p).kids.length cap∧lM (bw p).kids ad cap S):=(by rw[show(p.kids.drop 2)=(bw p).kids from vr];exact nU _ LW)
     refine bj.call rfl ap rfl rfl rfl call120 Bz ⟨ot,trivial⟩ (eT _) ir ?_;rintro _ Dr ⟨Ds,Dt,rfl,B9⟩;refine AD.perm (jj (A:=[_,_,_,_])) ?_;refine AD.one (i:=9) aA ?_;refine dU 0 [_,_,_,_,_] sizeOf151 ?_;refine eJ ?_;refine aE 1 ?_;refine aP 0 [_,_,_,_,_] sizeOf67 ?_;refine an 98 [0,1,6,7,8] ?_;refine dN 2 ?_;refine bH (ei (l:=0) (h:=2) rfl ot trivial ⟨_,bL⟩ zO) ?_;have BA:VC Tryz.prog G 120 [.list 1 ((p.kids.take 2).flatMap cI) (p.kids.take 2).length] [] (fun r S=>∃ad cap,r=aR ad (bp p L.length).kids.length cap∧lM (bp p L.length).kids ad cap S):=(by rw[show(p.kids.take 2)=(bp p L.length).kids from vq];exact nU _ LU)
     refine OD.call ap rfl rfl rfl call120 BA ⟨ot,trivial⟩ (eT _) ?_;rintro _ Du ⟨Dv,Dw,rfl,Ca⟩;refine OD.perm (jj (A:=[_,_,_,_])) ?_;refine aE 1 ?_;refine aP 1 [_,_,_,_,_] sizeOf67 ?_;refine an 98 [0,1,6,7,8] ?_;refine⟨_,(aQ (h:=by repeat (first|exact trivial|refine⟨zF,?_⟩))),b7,Dp,Dq,Dn,Ds,Dt,Dr,Dv,Dw,Du,B8,B9,Ca,rfl⟩
    refine at_ rfl (dJ 1) ?_;refine cy 6 rfl (ei (l:=2) rfl ot ⟨_,bL⟩ trivial zN) ?_;refine AD.one (i:=3) aA ?_;have By:VC Tryz.prog G 150 [.list 1 ((p.keys.drop 2).flatMap cK) (p.keys.drop 2).length] [] (fun r S=>∃ad cap,r=aR ad (bw p).keys.length cap∧oL (bw p).keys ad cap S):=(by rw[show(p.keys.drop 2)=(bw p).keys from vt];exact vV _ LY)
    refine bj.call rfl ap rfl rfl rfl call150 By ⟨ot,trivial⟩ (eT _) ir ?_;rintro _ Dn ⟨Dp,Dq,rfl,B8⟩;refine AD.perm (jj (A:=[_,_,_,_])) ?_;refine cy 8 rfl (dj 1) ?_;refine AD.one (i:=7) aA ?_;have Bz:VC Tryz.prog G 120 [.list 1 ((p.kids.drop 2).flatMap cI) (p.kids.drop 2).length] [] (fun r S=>∃ad cap,r=aR ad (bw p).kids.length cap∧lM (bw p).kids ad cap S):=(by rw[show(p.kids.drop 2)=(bw p).kids from vr];exact nU _ LW)
    refine bj.call rfl ap rfl rfl rfl call120 Bz ⟨ot,trivial⟩ (eT _) ir ?_;rintro _ Dr ⟨Ds,Dt,rfl,B9⟩;refine AD.perm (jj (A:=[_,_,_,_])) ?_;refine AD.one (i:=9) aA ?_;refine dU 0 [_,_,_,_,_] sizeOf151 ?_;refine eJ ?_;refine aE 1 ?_;refine aP 0 [_,_,_,_,_] sizeOf67 ?_;refine an 98 [0,1,6,7,8] ?_;refine dN 2 ?_;refine bH (ei (l:=0) (h:=2) rfl ot trivial ⟨_,bL⟩ zO) ?_;have BA:VC Tryz.prog G 120 [.list 1 ((p.kids.take 2).flatMap cI) (p.kids.take 2).length] [] (fun r S=>∃ad cap,r=aR ad (bp p L.length).kids.length cap∧lM (bp p L.length).kids ad cap S):=(by rw[show(p.kids.take 2)=(bp p L.length).kids from vq];exact nU _ LU)
    refine OD.call ap rfl rfl rfl call120 BA ⟨ot,trivial⟩ (eT _) ?_;rintro _ Du ⟨Dv,Dw,rfl,Ca⟩;refine OD.perm (jj (A:=[_,_,_,_])) ?_;refine aE 1 ?_;refine aP 1 [_,_,_,_,_] sizeOf67 ?_;refine an 98 [0,1,6,7,8] ?_;refine⟨_,(aQ (h:=by repeat (first|exact trivial|refine⟨zF,?_⟩))),b7,Dp,Dq,Dn,Ds,Dt,Dr,Dv,Dw,Du,B8,B9,Ca,rfl⟩
   refine at_ rfl (dJ 1) ?_;refine cy 6 rfl (ei (l:=2) rfl ot ⟨_,bL⟩ trivial zN) ?_;refine AD.one (i:=1) aA ?_;refine at_ rfl (dJ 1) ?_;refine cy 2 rfl (ei (l:=2) rfl ot ⟨_,bL⟩ trivial Gn) ?_;refine AD.one (i:=3) aA ?_;have By:VC Tryz.prog G 150 [.list 1 ((p.keys.drop 2).flatMap cK) (p.keys.drop 2).length] [] (fun r S=>∃ad cap,r=aR ad (bw p).keys.length cap∧oL (bw p).keys ad cap S):=(by rw[show(p.keys.drop 2)=(bw p).keys from vt];exact vV _ LY)
   refine bj.call rfl ap rfl rfl rfl call150 By ⟨ot,trivial⟩ (eT _) ir ?_;rintro _ Dn ⟨Dp,Dq,rfl,B8⟩;refine AD.perm (jj (A:=[_,_,_,_])) ?_;refine cy 8 rfl (dj 1) ?_;refine AD.one (i:=7) aA ?_;have Bz:VC Tryz.prog G 120 [.list 1 ((p.kids.drop 2).flatMap cI) (p.kids.drop 2).length] [] (fun r S=>∃ad cap,r=aR ad (bw p).kids.length cap∧lM (bw p).kids ad cap S):=(by rw[show(p.kids.drop 2)=(bw p).kids from vr];exact nU _ LW)
   refine bj.call rfl ap rfl rfl rfl call120 Bz ⟨ot,trivial⟩ (eT _) ir ?_;rintro _ Dr ⟨Ds,Dt,rfl,B9⟩;refine AD.perm (jj (A:=[_,_,_,_])) ?_;refine AD.one (i:=9) aA ?_;refine dU 0 [_,_,_,_,_] sizeOf151 ?_;refine eJ ?_;refine aE 1 ?_;refine aP 0 [_,_,_,_,_] sizeOf67 ?_;refine an 98 [0,1,6,7,8] ?_;refine dN 2 ?_;refine bH (ei (l:=0) (h:=2) rfl ot trivial ⟨_,bL⟩ zO) ?_;have BA:VC Tryz.prog G 120 [.list 1 ((p.kids.take 2).flatMap cI) (p.kids.take 2).length] [] (fun r S=>∃ad cap,r=aR ad (bp p L.length).kids.length cap∧lM (bp p L.length).kids ad cap S):=(by rw[show(p.kids.take 2)=(bp p L.length).kids from vq];exact nU _ LU)
   refine OD.call ap rfl rfl rfl call120 BA ⟨ot,trivial⟩ (eT _) ?_;rintro _ Du ⟨Dv,Dw,rfl,Ca⟩;refine OD.perm (jj (A:=[_,_,_,_])) ?_;refine aE 1 ?_;refine aP 1 [_,_,_,_,_] sizeOf67 ?_;refine an 98 [0,1,6,7,8] ?_;refine⟨_,(aQ (h:=by repeat (first|exact trivial|refine⟨zF,?_⟩))),b7,Dp,Dq,Dn,Ds,Dt,Dr,Dv,Dw,Du,B8,B9,Ca,rfl⟩
  have fN:p.leaf=false:=aN;have x5:=x5 fN;refine CD.seq ?_;refine fO 10 (aq (take 2 (drop 1 _))) ?_ (fun _ h=>(Sublist.map _ ((take_sublist _ _).trans (drop_sublist _ _))).subset h);refine ay 0 rfl (dj 1) ?_;refine ay 4 rfl (dj 2) ?_;refine di.later rfl ?_;refine AD.two (i:=1) (j:=5) aA ?_ ?_
  ·refine at_ rfl (dJ 1) ?_;refine cy 2 rfl (ei (l:=3) rfl ot ⟨_,bL⟩ trivial Gn) ?_;refine AD.two (i:=3) (j:=5) aA ?_ ?_
   ·have BB:VC Tryz.prog G 150 [.list 1 ((p.keys.drop 3).flatMap cK) (p.keys.drop 3).length] [] (fun r S=>∃ad cap,r=aR ad (bw p).keys.length cap∧oL (bw p).keys ad cap S):=(by rw[show(p.keys.drop 3)=(bw p).keys from vt];exact vV _ LX)
    refine bj.call rfl ap rfl rfl rfl call150 BB ⟨ot,trivial⟩ (eT _) ir ?_;rintro _ Dx ⟨Dy,Dz,rfl,Cb⟩;refine AD.perm (jj (A:=[_,_,_,_])) ?_;refine cy 8 rfl (dj 1) ?_;refine AD.one (i:=5) aA ?_;refine at_ rfl (dJ 1) ?_;refine cy 6 rfl (ei (l:=3) rfl ot ⟨_,bL⟩ trivial zN) ?_;refine AD.one (i:=7) aA ?_;have BC:VC Tryz.prog G 120 [.list 1 ((p.kids.drop 3).flatMap cI) (p.kids.drop 3).length] [] (fun r S=>∃ad cap,r=aR ad (bw p).kids.length cap∧lM (bw p).kids ad cap S):=(by rw[show(p.kids.drop 3)=(bw p).kids from vr];exact nU _ LV)
    refine bj.call rfl ap rfl rfl rfl call120 BC ⟨ot,trivial⟩ (eT _) ir ?_;rintro _ DA ⟨a51,DB,rfl,Cc⟩;refine AD.perm (jj (A:=[_,_,_,_])) ?_;refine AD.one (i:=9) aA ?_;refine dU 0 [_,_,_,_,_] sizeOf151 ?_;refine eJ ?_;refine aE 1 ?_;refine aP 0 [_,_,_,_,_] sizeOf67 ?_;refine an 98 [0,1,6,7,8] ?_;refine dN 2 ?_;refine bH (ei (l:=0) (h:=3) rfl ot trivial ⟨_,bL⟩ zO) ?_;have BD:VC Tryz.prog G 120 [.list 1 ((p.kids.take 3).flatMap cI) (p.kids.take 3).length] [] (fun r S=>∃ad cap,r=aR ad (bp p L.length).kids.length cap∧lM (bp p L.length).kids ad cap S):=(by rw[show(p.kids.take 3)=(bp p L.length).kids from vq];exact nU _ LS)
    refine OD.call ap rfl rfl rfl call120 BD ⟨ot,trivial⟩ (eT _) ?_;rintro _ vJ ⟨DC,DD,rfl,vj⟩;refine OD.perm (jj (A:=[_,_,_,_])) ?_;refine aE 1 ?_;refine aP 1 [_,_,_,_,_] sizeOf67 ?_;refine an 98 [0,1,6,7,8] ?_;refine⟨_,(aQ (h:=by repeat (first|exact trivial|refine⟨zF,?_⟩))),b7,Dy,Dz,Dx,a51,DB,DA,DC,DD,vJ,Cb,Cc,vj,rfl⟩
   refine at_ rfl (dJ 1) ?_;refine cy 6 rfl (ei (l:=3) rfl ot ⟨_,bL⟩ trivial zN) ?_;refine AD.one (i:=3) aA ?_;have BB:VC Tryz.prog G 150 [.list 1 ((p.keys.drop 3).flatMap cK) (p.keys.drop 3).length] [] (fun r S=>∃ad cap,r=aR ad (bw p).keys.length cap∧oL (bw p).keys ad cap S):=(by rw[show(p.keys.drop 3)=(bw p).keys from vt];exact vV _ LX)
   refine bj.call rfl ap rfl rfl rfl call150 BB ⟨ot,trivial⟩ (eT _) ir ?_;rintro _ Dx ⟨Dy,Dz,rfl,Cb⟩;refine AD.perm (jj (A:=[_,_,_,_])) ?_;refine cy 8 rfl (dj 1) ?_;refine AD.one (i:=7) aA ?_;have BC:VC Tryz.prog G 120 [.list 1 ((p.kids.drop 3).flatMap cI) (p.kids.drop 3).length] [] (fun r S=>∃ad cap,r=aR ad (bw p).kids.length cap∧lM (bw p).kids ad cap S):=(by rw[show(p.kids.drop 3)=(bw p).kids from vr];exact nU _ LV)
   refine bj.call rfl ap rfl rfl rfl call120 BC ⟨ot,trivial⟩ (eT _) ir ?_;rintro _ DA ⟨a51,DB,rfl,Cc⟩;refine AD.perm (jj (A:=[_,_,_,_])) ?_;refine AD.one (i:=9) aA ?_;refine dU 0 [_,_,_,_,_] sizeOf151 ?_;refine eJ ?_;refine aE 1 ?_;refine aP 0 [_,_,_,_,_] sizeOf67 ?_;refine an 98 [0,1,6,7,8] ?_;refine dN 2 ?_;refine bH (ei (l:=0) (h:=3) rfl ot trivial ⟨_,bL⟩ zO) ?_;have BD:VC Tryz.prog G 120 [.list 1 ((p.kids.take 3).flatMap cI) (p.kids.take 3).length] [] (fun r S=>∃ad cap,r=aR ad (bp p L.length).kids.length cap∧lM (bp p L.length).kids ad cap S):=(by rw[show(p.kids.take 3)=(bp p L.length).kids from vq];exact nU _ LS)
   refine OD.call ap rfl rfl rfl call120 BD ⟨ot,trivial⟩ (eT _) ?_;rintro _ vJ ⟨DC,DD,rfl,vj⟩;refine OD.perm (jj (A:=[_,_,_,_])) ?_;refine aE 1 ?_;refine aP 1 [_,_,_,_,_] sizeOf67 ?_;refine an 98 [0,1,6,7,8] ?_;refine⟨_,(aQ (h:=by repeat (first|exact trivial|refine⟨zF,?_⟩))),b7,Dy,Dz,Dx,a51,DB,DA,DC,DD,vJ,Cb,Cc,vj,rfl⟩
  refine at_ rfl (dJ 1) ?_;refine cy 6 rfl (ei (l:=3) rfl ot ⟨_,bL⟩ trivial zN) ?_;refine AD.one (i:=1) aA ?_;refine at_ rfl (dJ 1) ?_;refine cy 2 rfl (ei (l:=3) rfl ot ⟨_,bL⟩ trivial Gn) ?_;refine AD.one (i:=3) aA ?_;have BB:VC Tryz.prog G 150 [.list 1 ((p.keys.drop 3).flatMap cK) (p.keys.drop 3).length] [] (fun r S=>∃ad cap,r=aR ad (bw p).keys.length cap∧oL (bw p).keys ad cap S):=(by rw[show(p.keys.drop 3)=(bw p).keys from vt];exact vV _ LX)
  refine bj.call rfl ap rfl rfl rfl call150 BB ⟨ot,trivial⟩ (eT _) ir ?_;rintro _ Dx ⟨Dy,Dz,rfl,Cb⟩;refine AD.perm (jj (A:=[_,_,_,_])) ?_;refine cy 8 rfl (dj 1) ?_;refine AD.one (i:=7) aA ?_;have BC:VC Tryz.prog G 120 [.list 1 ((p.kids.drop 3).flatMap cI) (p.kids.drop 3).length] [] (fun r S=>∃ad cap,r=aR ad (bw p).kids.length cap∧lM (bw p).kids ad cap S):=(by rw[show(p.kids.drop 3)=(bw p).kids from vr];exact nU _ LV)
  refine bj.call rfl ap rfl rfl rfl call120 BC ⟨ot,trivial⟩ (eT _) ir ?_;rintro _ DA ⟨a51,DB,rfl,Cc⟩;refine AD.perm (jj (A:=[_,_,_,_])) ?_;refine AD.one (i:=9) aA ?_;refine dU 0 [_,_,_,_,_] sizeOf151 ?_;refine eJ ?_;refine aE 1 ?_;refine aP 0 [_,_,_,_,_] sizeOf67 ?_;refine an 98 [0,1,6,7,8] ?_;refine dN 2 ?_;refine bH (ei (l:=0) (h:=3) rfl ot trivial ⟨_,bL⟩ zO) ?_;have BD:VC Tryz.prog G 120 [.list 1 ((p.kids.take 3).flatMap cI) (p.kids.take 3).length] [] (fun r S=>∃ad cap,r=aR ad (bp p L.length).kids.length cap∧lM (bp p L.length).kids ad cap S):=(by rw[show(p.kids.take 3)=(bp p L.length).kids from vq];exact nU _ LS)
  refine OD.call ap rfl rfl rfl call120 BD ⟨ot,trivial⟩ (eT _) ?_;rintro _ vJ ⟨DC,DD,rfl,vj⟩;refine OD.perm (jj (A:=[_,_,_,_])) ?_;refine aE 1 ?_;refine aP 1 [_,_,_,_,_] sizeOf67 ?_;refine an 98 [0,1,6,7,8] ?_;refine⟨_,(aQ (h:=by repeat (first|exact trivial|refine⟨zF,?_⟩))),b7,Dy,Dz,Dx,a51,DB,DA,DC,DD,vJ,Cb,Cc,vj,rfl⟩
 rintro _ ⟨b7,dw,dx,cJ,dy,dz,cL,bJ,bK,bA,pM,zA,zB,rfl⟩;refine aD 2 ?_;refine bH (ei (l:=0) (h:=2) rfl ot trivial ⟨_,bL⟩ (by first|exact nW gm (fun h=>by cases h) runUnderlying151 sizeOf88 w4|exact nW eI (fun h=>by cases h) runUnderlying151 sizeOf88 w4|exact mX (fun h=>by cases h) runUnderlying151 sizeOf88 w4|exact mv (fun _=>rfl) (fun h=>by cases h) runUnderlying151 sizeOf88 w4 w4)) ?_;have ag1:VC Tryz.prog G 150 [.list 1 ((p.keys.take 2).flatMap cK) (p.keys.take 2).length] [] (fun r S=>∃ad cap,r=aR ad (bp p L.length).keys.length cap∧oL (bp p L.length).keys ad cap S):=(by rw[show(p.keys.take 2)=(bp p L.length).keys from rfl];exact vV _ (by rw[←show(p.keys.take 2)=(bp p L.length).keys from rfl];simp only[length_take,length_drop];omega))
 refine OD.call ap rfl rfl rfl call150 ag1 ⟨ot,trivial⟩ (eT _) ?_;rintro _ cc ⟨cr,cu,rfl,zC⟩;refine OD.perm (jj (A:=[_,_,_,_])) ?_;refine aE 1 ?_;refine aP 1 [_,_,_,_,_] sizeOf151 ?_;refine an 98 [0,1,6,7,8] ?_;refine CD.seq ?_;refine fO 9 (aq (take 1 (drop 0 _))) ?_ (fun _ h=>(Sublist.map _ ((take_sublist _ _).trans (drop_sublist _ _))).subset h);refine ay 0 rfl bf ?_;refine ay 2 rfl bf ?_;refine ay 3 rfl lO ?_;refine ay 4 rfl (dj 0) ?_;refine di.later rfl ?_;refine AD.two (i:=1) (j:=5) aA ?_ ?_
 ·refine jG call95 (jW (ji p) vA) ?_;refine cy 7 rfl (dj 3) ?_;refine AD.two (i:=5) (j:=8) aA ?_ ?_
  ·refine at_ rfl (dJ 2) ?_;refine cy 6 rfl qE ?_;refine AD.one (i:=8) aA ?_;refine dU 1 [_,_,_,_,_] sizeOf88 ?_;refine eJ ?_;refine aE 1 ?_;refine aP 1 [_,_,_,_,_] sizeOf3 ?_;refine an 98 [0,1,6,7,8] ?_;refine CD.seq ?_;refine mg 6 [0,7,8,76,77,78] ?_;refine bG ?_;refine bH (dm 5 (h:=by first|exact .l (j:=i.toNat) (Int.toNat_of_nonneg hi.1).symm hj|exact .r (j:=i.toNat) (Int.toNat_of_nonneg hi.1).symm hj)) ?_;refine OD.storeAt (k:=3) (cs':=flatMap gO (L.set i.toNat (⟨bp p L.length,cr,cu,cc,bJ,bK,bA⟩:aB))) ap rfl rfl ot rfl rfl ot rfl rfl sizeOf153 rfl L0 LK ?_;refine an 98 [0,7,8] ?_;refine CD.seq ?_;refine fO 8 (aq (take 2 _)) ?_ (fun _ h=>(Sublist.map _ (take_sublist _ _)).subset h);refine ay 0 rfl bf ?_;refine ay 1 rfl bf ?_;refine ay 2 rfl lO ?_;refine ay 3 rfl (dj 0) ?_;refine ay 5 rfl (BK 0 [_,_,_,_,_]) ?_;refine di.later rfl ?_;refine AD.two (i:=4) (j:=6) aA ?_ ?_
   ·refine at_ rfl (cR (mk:=Op.load 49) rfl ot (rW (k:=2) (d:=aR (some ⟨bx,0,none⟩) (L.set i.toNat (⟨bp p L.length,cr,cu,cc,bJ,bK,bA⟩:aB)).length cap) rfl rfl isAgg49 zQ)) ?_;refine AD.one (i:=6) aA ?_;refine jt (cf 0 [_]) [.bool false,.slice none 0 0,.slice none 0 0,.slice none 0 0,.int .i64 0] [_,_,_,_,_] zeroValue153 runUnderlying49 sizeOf153 (fun DE=>?_);refine ju 0 86 5 1 ?_;refine AD.one (i:=7) aA ?_;refine bj.ew (ls:=(L.set i.toNat (⟨bp p L.length,cr,cu,cc,bJ,bK,bA⟩:aB))) (new:=[(⟨bw p,dw,dx,cJ,dy,dz,cL⟩:aB)]) (Sq:=[⟨bx,153,cap*5,flatMap gO (L.set i.toNat (⟨bp p L.length,cr,cu,cc,bJ,bK,bA⟩:aB))⟩]) gl uQ rfl ap rfl rfl underlying49 yh rfl w7 ot (bF rq rz) (kf (k:=3) rfl) ot bu zK zL (hT:=by intro x0 O;have O:x0∈[b7,b6]:=O;show x0∈(b7::b6::_:List Nat);simp only[mem_cons,not_mem_nil,or_false] at O ⊢;omega) (fun I E U Z=>?_);refine eJ ?_;refine aE 2 ?_;refine aP 3 [_,_] sizeOf49 ?_;refine an 98 [0,8] ?_;refine CD.seq ?_;refine fO 9 (aq _) ?_ (fun _ h=>h);refine ay 0 rfl bf ?_;refine ay 2 rfl bf ?_;refine ay 3 rfl lO ?_;refine ay 4 rfl (dj 0) ?_;refine ay 5 rfl (dJ 3) ?_;refine ay 6 rfl qE ?_;refine ay 7 rfl (c8 (r:=.int .i64 (L.length:Nat)) rfl ot bL (gk zM)) ?_;refine di.later rfl ?_;refine AD.one (i:=1) aA ?_;refine jG call95 (jW (ji p) vA) ?_
    have oO:(cc++(bA++(cL++(cJ++((L.eraseIdx i.toNat).flatMap bO))))).Perm (((L.set i.toNat (⟨bp p L.length,cr,cu,cc,bJ,bK,bA⟩:aB))++[(⟨bw p,dw,dx,cJ,dy,dz,cL⟩:aB)]).flatMap bO):=ie fun iN=>by have hq:=yp (qL bO hj (⟨bp p L.length,cr,cu,cc,bJ,bK,bA⟩:aB)) iN;rw[flatMap_append,show[(⟨bw p,dw,dx,cJ,dy,dz,cL⟩:aB)].flatMap bO=cJ++(cL++[]) from by simp[bO]];simp only[show bO (⟨bp p L.length,cr,cu,cc,bJ,bK,bA⟩:aB)=cc++bA from rfl,map_append,map_cons,map_nil,sum_append,sum_cons,sum_nil] at *;omega
    refine AD.perm (S':=⟨b7,153,5,gO (⟨bw p,dw,dx,cJ,dy,dz,cL⟩:aB)⟩::⟨b6,153,5,gO (⟨bp p L.length,cr,cu,cc,bJ,bK,bA⟩:aB)⟩::⟨b,51,2,[aR (some ⟨I,0,none⟩) ((L.set i.toNat (⟨bp p L.length,cr,cu,cc,bJ,bK,bA⟩:aB))++[(⟨bw p,dw,dx,cJ,dy,dz,cL⟩:aB)]).length E,ae root]⟩::(([⟨I,153,E*5,flatMap gO ((L.set i.toNat (⟨bp p L.length,cr,cu,cc,bJ,bK,bA⟩:aB))++[(⟨bw p,dw,dx,cJ,dy,dz,cL⟩:aB)])⟩]:List ah)++((L.set i.toNat (⟨bp p L.length,cr,cu,cc,bJ,bK,bA⟩:aB))++[(⟨bw p,dw,dx,cJ,dy,dz,cL⟩:aB)]).flatMap bO)) zG ?_;refine cy 8 rfl bf ?_;refine eJ ?_;refine bg [4,5] ?_;refine aJ (⟨b,51,2,[aR (some ⟨I,0,none⟩) ((L.set i.toNat (⟨bp p L.length,cr,cu,cc,bJ,bK,bA⟩:aB))++[(⟨bw p,dw,dx,cJ,dy,dz,cL⟩:aB)]).length E,ae root]⟩::([⟨I,153,E*5,flatMap gO ((L.set i.toNat (⟨bp p L.length,cr,cu,cc,bJ,bK,bA⟩:aB))++[(⟨bw p,dw,dx,cJ,dy,dz,cL⟩:aB)])⟩]++((L.set i.toNat (⟨bp p L.length,cr,cu,cc,bJ,bK,bA⟩:aB))++[(⟨bw p,dw,dx,cJ,dy,dz,cL⟩:aB)]).flatMap bO)) ?_;refine⟨rfl,((L.set i.toNat (⟨bp p L.length,cr,cu,cc,bJ,bK,bA⟩:aB))++[(⟨bw p,dw,dx,cJ,dy,dz,cL⟩:aB)]),some ⟨I,0,none⟩,E,[⟨I,153,E*5,flatMap gO ((L.set i.toNat (⟨bp p L.length,cr,cu,cc,bJ,bK,bA⟩:aB))++[(⟨bw p,dw,dx,cJ,dy,dz,cL⟩:aB)])⟩],bF U Z,fun x hx=>?_,?_,rfl⟩
    ·rcases mem_append.1 hx with hx|hx
     ·rcases mem_or_eq_of_mem_set hx with hx|rfl
      ·exact aT x hx
      exact⟨zC,zB⟩
     rw[mem_singleton] at hx;subst hx;exact⟨pM,zA⟩
    rw[map_append,map_set];rfl
   refine jt (cf 0 [_]) [.bool false,.slice none 0 0,.slice none 0 0,.slice none 0 0,.int .i64 0] [_,_,_,_,_] zeroValue153 runUnderlying49 sizeOf153 (fun DE=>?_);refine ju 0 86 5 1 ?_;refine AD.one (i:=4) aA ?_;refine at_ rfl (cR (mk:=Op.load 49) rfl ot (rW (k:=2) (d:=aR (some ⟨bx,0,none⟩) (L.set i.toNat (⟨bp p L.length,cr,cu,cc,bJ,bK,bA⟩:aB)).length cap) rfl rfl isAgg49 zQ)) ?_;refine AD.one (i:=7) aA ?_;refine bj.ew (ls:=(L.set i.toNat (⟨bp p L.length,cr,cu,cc,bJ,bK,bA⟩:aB))) (new:=[(⟨bw p,dw,dx,cJ,dy,dz,cL⟩:aB)]) (Sq:=[⟨bx,153,cap*5,flatMap gO (L.set i.toNat (⟨bp p L.length,cr,cu,cc,bJ,bK,bA⟩:aB))⟩]) gl uQ rfl ap rfl rfl underlying49 yh rfl w7 ot (bF rq rz) (kf (k:=3) rfl) ot bu zK zL (hT:=by intro x0 O;have O:x0∈[b7,b6]:=O;show x0∈(b7::b6::_:List Nat);simp only[mem_cons,not_mem_nil,or_false] at O ⊢;omega) (fun I E U Z=>?_);refine eJ ?_;refine aE 2 ?_;refine aP 3 [_,_] sizeOf49 ?_;refine an 98 [0,8] ?_;refine CD.seq ?_;refine fO 9 (aq _) ?_ (fun _ h=>h);refine ay 0 rfl bf ?_;refine ay 2 rfl bf ?_;refine ay 3 rfl lO ?_;refine ay 4 rfl (dj 0) ?_;refine ay 5 rfl (dJ 3) ?_;refine ay 6 rfl qE ?_;refine ay 7 rfl (c8 (r:=.int .i64 (L.length:Nat)) rfl ot bL (gk zM)) ?_;refine di.later rfl ?_;refine AD.one (i:=1) aA ?_;refine jG call95 (jW (ji p) vA) ?_
   have oO:(cc++(bA++(cL++(cJ++((L.eraseIdx i.toNat).flatMap bO))))).Perm (((L.set i.toNat (⟨bp p L.length,cr,cu,cc,bJ,bK,bA⟩:aB))++[(⟨bw p,dw,dx,cJ,dy,dz,cL⟩:aB)]).flatMap bO):=ie fun iN=>by have hq:=yp (qL bO hj (⟨bp p L.length,cr,cu,cc,bJ,bK,bA⟩:aB)) iN;rw[flatMap_append,show[(⟨bw p,dw,dx,cJ,dy,dz,cL⟩:aB)].flatMap bO=cJ++(cL++[]) from by simp[bO]];simp only[show bO (⟨bp p L.length,cr,cu,cc,bJ,bK,bA⟩:aB)=cc++bA from rfl,map_append,map_cons,map_nil,sum_append,sum_cons,sum_nil] at *;omega
   refine AD.perm (S':=⟨b7,153,5,gO (⟨bw p,dw,dx,cJ,dy,dz,cL⟩:aB)⟩::⟨b6,153,5,gO (⟨bp p L.length,cr,cu,cc,bJ,bK,bA⟩:aB)⟩::⟨b,51,2,[aR (some ⟨I,0,none⟩) ((L.set i.toNat (⟨bp p L.length,cr,cu,cc,bJ,bK,bA⟩:aB))++[(⟨bw p,dw,dx,cJ,dy,dz,cL⟩:aB)]).length E,ae root]⟩::(([⟨I,153,E*5,flatMap gO ((L.set i.toNat (⟨bp p L.length,cr,cu,cc,bJ,bK,bA⟩:aB))++[(⟨bw p,dw,dx,cJ,dy,dz,cL⟩:aB)])⟩]:List ah)++((L.set i.toNat (⟨bp p L.length,cr,cu,cc,bJ,bK,bA⟩:aB))++[(⟨bw p,dw,dx,cJ,dy,dz,cL⟩:aB)]).flatMap bO)) zG ?_;refine cy 8 rfl bf ?_;refine eJ ?_;refine bg [4,5] ?_;refine aJ (⟨b,51,2,[aR (some ⟨I,0,none⟩) ((L.set i.toNat (⟨bp p L.length,cr,cu,cc,bJ,bK,bA⟩:aB))++[(⟨bw p,dw,dx,cJ,dy,dz,cL⟩:aB)]).length E,ae root]⟩::([⟨I,153,E*5,flatMap gO ((L.set i.toNat (⟨bp p L.length,cr,cu,cc,bJ,bK,bA⟩:aB))++[(⟨bw p,dw,dx,cJ,dy,dz,cL⟩:aB)])⟩]++((L.set i.toNat (⟨bp p L.length,cr,cu,cc,bJ,bK,bA⟩:aB))++[(⟨bw p,dw,dx,cJ,dy,dz,cL⟩:aB)]).flatMap bO)) ?_;refine⟨rfl,((L.set i.toNat (⟨bp p L.length,cr,cu,cc,bJ,bK,bA⟩:aB))++[(⟨bw p,dw,dx,cJ,dy,dz,cL⟩:aB)]),some ⟨I,0,none⟩,E,[⟨I,153,E*5,flatMap gO ((L.set i.toNat (⟨bp p L.length,cr,cu,cc,bJ,bK,bA⟩:aB))++[(⟨bw p,dw,dx,cJ,dy,dz,cL⟩:aB)])⟩],bF U Z,fun x hx=>?_,?_,rfl⟩
   ·rcases mem_append.1 hx with hx|hx
    ·rcases mem_or_eq_of_mem_set hx with hx|rfl
     ·exact aT x hx
     exact⟨zC,zB⟩
    rw[mem_singleton] at hx;subst hx;exact⟨pM,zA⟩
   rw[map_append,map_set];rfl
  refine dU 1 [_,_,_,_,_] sizeOf88 ?_;refine AD.one (i:=5) aA ?_;refine at_ rfl (dJ 2) ?_;refine cy 6 rfl qE ?_;refine eJ ?_;refine aE 1 ?_;refine aP 1 [_,_,_,_,_] sizeOf3 ?_;refine an 98 [0,1,6,7,8] ?_;refine CD.seq ?_;refine mg 6 [0,7,8,76,77,78] ?_;refine bG ?_;refine bH (dm 5 (h:=by first|exact .l (j:=i.toNat) (Int.toNat_of_nonneg hi.1).symm hj|exact .r (j:=i.toNat) (Int.toNat_of_nonneg hi.1).symm hj)) ?_;refine OD.storeAt (k:=3) (cs':=flatMap gO (L.set i.toNat (⟨bp p L.length,cr,cu,cc,bJ,bK,bA⟩:aB))) ap rfl rfl ot rfl rfl ot rfl rfl sizeOf153 rfl L0 LK ?_;refine an 98 [0,7,8] ?_;refine CD.seq ?_;refine fO 8 (aq (take 2 _)) ?_ (fun _ h=>(Sublist.map _ (take_sublist _ _)).subset h);refine ay 0 rfl bf ?_;refine ay 1 rfl bf ?_;refine ay 2 rfl lO ?_;refine ay 3 rfl (dj 0) ?_;refine ay 5 rfl (BK 0 [_,_,_,_,_]) ?_;refine di.later rfl ?_;refine AD.two (i:=4) (j:=6) aA ?_ ?_
  ·refine at_ rfl (cR (mk:=Op.load 49) rfl ot (rW (k:=2) (d:=aR (some ⟨bx,0,none⟩) (L.set i.toNat (⟨bp p L.length,cr,cu,cc,bJ,bK,bA⟩:aB)).length cap) rfl rfl isAgg49 zQ)) ?_;refine AD.one (i:=6) aA ?_;refine jt (cf 0 [_]) [.bool false,.slice none 0 0,.slice none 0 0,.slice none 0 0,.int .i64 0] [_,_,_,_,_] zeroValue153 runUnderlying49 sizeOf153 (fun DE=>?_);refine ju 0 86 5 1 ?_;refine AD.one (i:=7) aA ?_;refine bj.ew (ls:=(L.set i.toNat (⟨bp p L.length,cr,cu,cc,bJ,bK,bA⟩:aB))) (new:=[(⟨bw p,dw,dx,cJ,dy,dz,cL⟩:aB)]) (Sq:=[⟨bx,153,cap*5,flatMap gO (L.set i.toNat (⟨bp p L.length,cr,cu,cc,bJ,bK,bA⟩:aB))⟩]) gl uQ rfl ap rfl rfl underlying49 yh rfl w7 ot (bF rq rz) (kf (k:=3) rfl) ot bu zK zL (hT:=by intro x0 O;have O:x0∈[b7,b6]:=O;show x0∈(b7::b6::_:List Nat);simp only[mem_cons,not_mem_nil,or_false] at O ⊢;omega) (fun I E U Z=>?_);refine eJ ?_;refine aE 2 ?_;refine aP 3 [_,_] sizeOf49 ?_;refine an 98 [0,8] ?_;refine CD.seq ?_;refine fO 9 (aq _) ?_ (fun _ h=>h);refine ay 0 rfl bf ?_;refine ay 2 rfl bf ?_;refine ay 3 rfl lO ?_;refine ay 4 rfl (dj 0) ?_;refine ay 5 rfl (dJ 3) ?_;refine ay 6 rfl qE ?_;refine ay 7 rfl (c8 (r:=.int .i64 (L.length:Nat)) rfl ot bL (gk zM)) ?_;refine di.later rfl ?_;refine AD.one (i:=1) aA ?_;refine jG call95 (jW (ji p) vA) ?_
   have oO:(cc++(bA++(cL++(cJ++((L.eraseIdx i.toNat).flatMap bO))))).Perm (((L.set i.toNat (⟨bp p L.length,cr,cu,cc,bJ,bK,bA⟩:aB))++[(⟨bw p,dw,dx,cJ,dy,dz,cL⟩:aB)]).flatMap bO):=ie fun iN=>by have hq:=yp (qL bO hj (⟨bp p L.length,cr,cu,cc,bJ,bK,bA⟩:aB)) iN;rw[flatMap_append,show[(⟨bw p,dw,dx,cJ,dy,dz,cL⟩:aB)].flatMap bO=cJ++(cL++[]) from by simp[bO]];simp only[show bO (⟨bp p L.length,cr,cu,cc,bJ,bK,bA⟩:aB)=cc++bA from rfl,map_append,map_cons,map_nil,sum_append,sum_cons,sum_nil] at *;omega
   refine AD.perm (S':=⟨b7,153,5,gO (⟨bw p,dw,dx,cJ,dy,dz,cL⟩:aB)⟩::⟨b6,153,5,gO (⟨bp p L.length,cr,cu,cc,bJ,bK,bA⟩:aB)⟩::⟨b,51,2,[aR (some ⟨I,0,none⟩) ((L.set i.toNat (⟨bp p L.length,cr,cu,cc,bJ,bK,bA⟩:aB))++[(⟨bw p,dw,dx,cJ,dy,dz,cL⟩:aB)]).length E,ae root]⟩::(([⟨I,153,E*5,flatMap gO ((L.set i.toNat (⟨bp p L.length,cr,cu,cc,bJ,bK,bA⟩:aB))++[(⟨bw p,dw,dx,cJ,dy,dz,cL⟩:aB)])⟩]:List ah)++((L.set i.toNat (⟨bp p L.length,cr,cu,cc,bJ,bK,bA⟩:aB))++[(⟨bw p,dw,dx,cJ,dy,dz,cL⟩:aB)]).flatMap bO)) zG ?_;refine cy 8 rfl bf ?_;refine eJ ?_;refine bg [4,5] ?_;refine aJ (⟨b,51,2,[aR (some ⟨I,0,none⟩) ((L.set i.toNat (⟨bp p L.length,cr,cu,cc,bJ,bK,bA⟩:aB))++[(⟨bw p,dw,dx,cJ,dy,dz,cL⟩:aB)]).length E,ae root]⟩::([⟨I,153,E*5,flatMap gO ((L.set i.toNat (⟨bp p L.length,cr,cu,cc,bJ,bK,bA⟩:aB))++[(⟨bw p,dw,dx,cJ,dy,dz,cL⟩:aB)])⟩]++((L.set i.toNat (⟨bp p L.length,cr,cu,cc,bJ,bK,bA⟩:aB))++[(⟨bw p,dw,dx,cJ,dy,dz,cL⟩:aB)]).flatMap bO)) ?_;refine⟨rfl,((L.set i.toNat (⟨bp p L.length,cr,cu,cc,bJ,bK,bA⟩:aB))++[(⟨bw p,dw,dx,cJ,dy,dz,cL⟩:aB)]),some ⟨I,0,none⟩,E,[⟨I,153,E*5,flatMap gO ((L.set i.toNat (⟨bp p L.length,cr,cu,cc,bJ,bK,bA⟩:aB))++[(⟨bw p,dw,dx,cJ,dy,dz,cL⟩:aB)])⟩],bF U Z,fun x hx=>?_,?_,rfl⟩
   ·rcases mem_append.1 hx with hx|hx
    ·rcases mem_or_eq_of_mem_set hx with hx|rfl
     ·exact aT x hx
     exact⟨zC,zB⟩
    rw[mem_singleton] at hx;subst hx;exact⟨pM,zA⟩
   rw[map_append,map_set];rfl
  refine jt (cf 0 [_]) [.bool false,.slice none 0 0,.slice none 0 0,.slice none 0 0,.int .i64 0] [_,_,_,_,_] zeroValue153 runUnderlying49 sizeOf153 (fun DE=>?_);refine ju 0 86 5 1 ?_;refine AD.one (i:=4) aA ?_;refine at_ rfl (cR (mk:=Op.load 49) rfl ot (rW (k:=2) (d:=aR (some ⟨bx,0,none⟩) (L.set i.toNat (⟨bp p L.length,cr,cu,cc,bJ,bK,bA⟩:aB)).length cap) rfl rfl isAgg49 zQ)) ?_;refine AD.one (i:=7) aA ?_;refine bj.ew (ls:=(L.set i.toNat (⟨bp p L.length,cr,cu,cc,bJ,bK,bA⟩:aB))) (new:=[(⟨bw p,dw,dx,cJ,dy,dz,cL⟩:aB)]) (Sq:=[⟨bx,153,cap*5,flatMap gO (L.set i.toNat (⟨bp p L.length,cr,cu,cc,bJ,bK,bA⟩:aB))⟩]) gl uQ rfl ap rfl rfl underlying49 yh rfl w7 ot (bF rq rz) (kf (k:=3) rfl) ot bu zK zL (hT:=by intro x0 O;have O:x0∈[b7,b6]:=O;show x0∈(b7::b6::_:List Nat);simp only[mem_cons,not_mem_nil,or_false] at O ⊢;omega) (fun I E U Z=>?_);refine eJ ?_;refine aE 2 ?_;refine aP 3 [_,_] sizeOf49 ?_;refine an 98 [0,8] ?_;refine CD.seq ?_;refine fO 9 (aq _) ?_ (fun _ h=>h);refine ay 0 rfl bf ?_;refine ay 2 rfl bf ?_;refine ay 3 rfl lO ?_;refine ay 4 rfl (dj 0) ?_;refine ay 5 rfl (dJ 3) ?_;refine ay 6 rfl qE ?_;refine ay 7 rfl (c8 (r:=.int .i64 (L.length:Nat)) rfl ot bL (gk zM)) ?_;refine di.later rfl ?_;refine AD.one (i:=1) aA ?_;refine jG call95 (jW (ji p) vA) ?_
  have oO:(cc++(bA++(cL++(cJ++((L.eraseIdx i.toNat).flatMap bO))))).Perm (((L.set i.toNat (⟨bp p L.length,cr,cu,cc,bJ,bK,bA⟩:aB))++[(⟨bw p,dw,dx,cJ,dy,dz,cL⟩:aB)]).flatMap bO):=ie fun iN=>by have hq:=yp (qL bO hj (⟨bp p L.length,cr,cu,cc,bJ,bK,bA⟩:aB)) iN;rw[flatMap_append,show[(⟨bw p,dw,dx,cJ,dy,dz,cL⟩:aB)].flatMap bO=cJ++(cL++[]) from by simp[bO]];simp only[show bO (⟨bp p L.length,cr,cu,cc,bJ,bK,bA⟩:aB)=cc++bA from rfl,map_append,map_cons,map_nil,sum_append,sum_cons,sum_nil] at *;omega
  refine AD.perm (S':=⟨b7,153,5,gO (⟨bw p,dw,dx,cJ,dy,dz,cL⟩:aB)⟩::⟨b6,153,5,gO (⟨bp p L.length,cr,cu,cc,bJ,bK,bA⟩:aB)⟩::⟨b,51,2,[aR (some ⟨I,0,none⟩) ((L.set i.toNat (⟨bp p L.length,cr,cu,cc,bJ,bK,bA⟩:aB))++[(⟨bw p,dw,dx,cJ,dy,dz,cL⟩:aB)]).length E,ae root]⟩::(([⟨I,153,E*5,flatMap gO ((L.set i.toNat (⟨bp p L.length,cr,cu,cc,bJ,bK,bA⟩:aB))++[(⟨bw p,dw,dx,cJ,dy,dz,cL⟩:aB)])⟩]:List ah)++((L.set i.toNat (⟨bp p L.length,cr,cu,cc,bJ,bK,bA⟩:aB))++[(⟨bw p,dw,dx,cJ,dy,dz,cL⟩:aB)]).flatMap bO)) zG ?_;refine cy 8 rfl bf ?_;refine eJ ?_;refine bg [4,5] ?_;refine aJ (⟨b,51,2,[aR (some ⟨I,0,none⟩) ((L.set i.toNat (⟨bp p L.length,cr,cu,cc,bJ,bK,bA⟩:aB))++[(⟨bw p,dw,dx,cJ,dy,dz,cL⟩:aB)]).length E,ae root]⟩::([⟨I,153,E*5,flatMap gO ((L.set i.toNat (⟨bp p L.length,cr,cu,cc,bJ,bK,bA⟩:aB))++[(⟨bw p,dw,dx,cJ,dy,dz,cL⟩:aB)])⟩]++((L.set i.toNat (⟨bp p L.length,cr,cu,cc,bJ,bK,bA⟩:aB))++[(⟨bw p,dw,dx,cJ,dy,dz,cL⟩:aB)]).flatMap bO)) ?_;refine⟨rfl,((L.set i.toNat (⟨bp p L.length,cr,cu,cc,bJ,bK,bA⟩:aB))++[(⟨bw p,dw,dx,cJ,dy,dz,cL⟩:aB)]),some ⟨I,0,none⟩,E,[⟨I,153,E*5,flatMap gO ((L.set i.toNat (⟨bp p L.length,cr,cu,cc,bJ,bK,bA⟩:aB))++[(⟨bw p,dw,dx,cJ,dy,dz,cL⟩:aB)])⟩],bF U Z,fun x hx=>?_,?_,rfl⟩
  ·rcases mem_append.1 hx with hx|hx
   ·rcases mem_or_eq_of_mem_set hx with hx|rfl
    ·exact aT x hx
    exact⟨zC,zB⟩
   rw[mem_singleton] at hx;subst hx;exact⟨pM,zA⟩
  rw[map_append,map_set];rfl
 refine at_ rfl (dJ 2) ?_;refine cy 6 rfl qE ?_;refine AD.one (i:=1) aA ?_;refine jG call95 (jW (ji p) vA) ?_;refine cy 7 rfl (dj 3) ?_;refine AD.one (i:=8) aA ?_;refine dU 1 [_,_,_,_,_] sizeOf88 ?_;refine eJ ?_;refine aE 1 ?_;refine aP 1 [_,_,_,_,_] sizeOf3 ?_;refine an 98 [0,1,6,7,8] ?_;refine CD.seq ?_;refine mg 6 [0,7,8,76,77,78] ?_;refine bG ?_;refine bH (dm 5 (h:=by first|exact .l (j:=i.toNat) (Int.toNat_of_nonneg hi.1).symm hj|exact .r (j:=i.toNat) (Int.toNat_of_nonneg hi.1).symm hj)) ?_;refine OD.storeAt (k:=3) (cs':=flatMap gO (L.set i.toNat (⟨bp p L.length,cr,cu,cc,bJ,bK,bA⟩:aB))) ap rfl rfl ot rfl rfl ot rfl rfl sizeOf153 rfl L0 LK ?_;refine an 98 [0,7,8] ?_;refine CD.seq ?_;refine fO 8 (aq (take 2 _)) ?_ (fun _ h=>(Sublist.map _ (take_sublist _ _)).subset h);refine ay 0 rfl bf ?_;refine ay 1 rfl bf ?_;refine ay 2 rfl lO ?_;refine ay 3 rfl (dj 0) ?_;refine ay 5 rfl (BK 0 [_,_,_,_,_]) ?_;refine di.later rfl ?_;refine AD.two (i:=4) (j:=6) aA ?_ ?_
 ·refine at_ rfl (cR (mk:=Op.load 49) rfl ot (rW (k:=2) (d:=aR (some ⟨bx,0,none⟩) (L.set i.toNat (⟨bp p L.length,cr,cu,cc,bJ,bK,bA⟩:aB)).length cap) rfl rfl isAgg49 zQ)) ?_;refine AD.one (i:=6) aA ?_;refine jt (cf 0 [_]) [.bool false,.slice none 0 0,.slice none 0 0,.slice none 0 0,.int .i64 0] [_,_,_,_,_] zeroValue153 runUnderlying49 sizeOf153 (fun DE=>?_);refine ju 0 86 5 1 ?_;refine AD.one (i:=7) aA ?_;refine bj.ew (ls:=(L.set i.toNat (⟨bp p L.length,cr,cu,cc,bJ,bK,bA⟩:aB))) (new:=[(⟨bw p,dw,dx,cJ,dy,dz,cL⟩:aB)]) (Sq:=[⟨bx,153,cap*5,flatMap gO (L.set i.toNat (⟨bp p L.length,cr,cu,cc,bJ,bK,bA⟩:aB))⟩]) gl uQ rfl ap rfl rfl underlying49 yh rfl w7 ot (bF rq rz) (kf (k:=3) rfl) ot bu zK zL (hT:=by intro x0 O;have O:x0∈[b7,b6]:=O;show x0∈(b7::b6::_:List Nat);simp only[mem_cons,not_mem_nil,or_false] at O ⊢;omega) (fun I E U Z=>?_);refine eJ ?_;refine aE 2 ?_;refine aP 3 [_,_] sizeOf49 ?_;refine an 98 [0,8] ?_;refine CD.seq ?_;refine fO 9 (aq _) ?_ (fun _ h=>h);refine ay 0 rfl bf ?_;refine ay 2 rfl bf ?_;refine ay 3 rfl lO ?_;refine ay 4 rfl (dj 0) ?_;refine ay 5 rfl (dJ 3) ?_;refine ay 6 rfl qE ?_;refine ay 7 rfl (c8 (r:=.int .i64 (L.length:Nat)) rfl ot bL (gk zM)) ?_;refine di.later rfl ?_;refine AD.one (i:=1) aA ?_;refine jG call95 (jW (ji p) vA) ?_
  have oO:(cc++(bA++(cL++(cJ++((L.eraseIdx i.toNat).flatMap bO))))).Perm (((L.set i.toNat (⟨bp p L.length,cr,cu,cc,bJ,bK,bA⟩:aB))++[(⟨bw p,dw,dx,cJ,dy,dz,cL⟩:aB)]).flatMap bO):=ie fun iN=>by have hq:=yp (qL bO hj (⟨bp p L.length,cr,cu,cc,bJ,bK,bA⟩:aB)) iN;rw[flatMap_append,show[(⟨bw p,dw,dx,cJ,dy,dz,cL⟩:aB)].flatMap bO=cJ++(cL++[]) from by simp[bO]];simp only[show bO (⟨bp p L.length,cr,cu,cc,bJ,bK,bA⟩:aB)=cc++bA from rfl,map_append,map_cons,map_nil,sum_append,sum_cons,sum_nil] at *;omega
  refine AD.perm (S':=⟨b7,153,5,gO (⟨bw p,dw,dx,cJ,dy,dz,cL⟩:aB)⟩::⟨b6,153,5,gO (⟨bp p L.length,cr,cu,cc,bJ,bK,bA⟩:aB)⟩::⟨b,51,2,[aR (some ⟨I,0,none⟩) ((L.set i.toNat (⟨bp p L.length,cr,cu,cc,bJ,bK,bA⟩:aB))++[(⟨bw p,dw,dx,cJ,dy,dz,cL⟩:aB)]).length E,ae root]⟩::(([⟨I,153,E*5,flatMap gO ((L.set i.toNat (⟨bp p L.length,cr,cu,cc,bJ,bK,bA⟩:aB))++[(⟨bw p,dw,dx,cJ,dy,dz,cL⟩:aB)])⟩]:List ah)++((L.set i.toNat (⟨bp p L.length,cr,cu,cc,bJ,bK,bA⟩:aB))++[(⟨bw p,dw,dx,cJ,dy,dz,cL⟩:aB)]).flatMap bO)) zG ?_;refine cy 8 rfl bf ?_;refine eJ ?_;refine bg [4,5] ?_;refine aJ (⟨b,51,2,[aR (some ⟨I,0,none⟩) ((L.set i.toNat (⟨bp p L.length,cr,cu,cc,bJ,bK,bA⟩:aB))++[(⟨bw p,dw,dx,cJ,dy,dz,cL⟩:aB)]).length E,ae root]⟩::([⟨I,153,E*5,flatMap gO ((L.set i.toNat (⟨bp p L.length,cr,cu,cc,bJ,bK,bA⟩:aB))++[(⟨bw p,dw,dx,cJ,dy,dz,cL⟩:aB)])⟩]++((L.set i.toNat (⟨bp p L.length,cr,cu,cc,bJ,bK,bA⟩:aB))++[(⟨bw p,dw,dx,cJ,dy,dz,cL⟩:aB)]).flatMap bO)) ?_;refine⟨rfl,((L.set i.toNat (⟨bp p L.length,cr,cu,cc,bJ,bK,bA⟩:aB))++[(⟨bw p,dw,dx,cJ,dy,dz,cL⟩:aB)]),some ⟨I,0,none⟩,E,[⟨I,153,E*5,flatMap gO ((L.set i.toNat (⟨bp p L.length,cr,cu,cc,bJ,bK,bA⟩:aB))++[(⟨bw p,dw,dx,cJ,dy,dz,cL⟩:aB)])⟩],bF U Z,fun x hx=>?_,?_,rfl⟩
  ·rcases mem_append.1 hx with hx|hx
   ·rcases mem_or_eq_of_mem_set hx with hx|rfl
    ·exact aT x hx
    exact⟨zC,zB⟩
   rw[mem_singleton] at hx;subst hx;exact⟨pM,zA⟩
  rw[map_append,map_set];rfl
 refine jt (cf 0 [_]) [.bool false,.slice none 0 0,.slice none 0 0,.slice none 0 0,.int .i64 0] [_,_,_,_,_] zeroValue153 runUnderlying49 sizeOf153 (fun DE=>?_);refine ju 0 86 5 1 ?_;refine AD.one (i:=4) aA ?_;refine at_ rfl (cR (mk:=Op.load 49) rfl ot (rW (k:=2) (d:=aR (some ⟨bx,0,none⟩) (L.set i.toNat (⟨bp p L.length,cr,cu,cc,bJ,bK,bA⟩:aB)).length cap) rfl rfl isAgg49 zQ)) ?_;refine AD.one (i:=7) aA ?_;refine bj.ew (ls:=(L.set i.toNat (⟨bp p L.length,cr,cu,cc,bJ,bK,bA⟩:aB))) (new:=[(⟨bw p,dw,dx,cJ,dy,dz,cL⟩:aB)]) (Sq:=[⟨bx,153,cap*5,flatMap gO (L.set i.toNat (⟨bp p L.length,cr,cu,cc,bJ,bK,bA⟩:aB))⟩]) gl uQ rfl ap rfl rfl underlying49 yh rfl w7 ot (bF rq rz) (kf (k:=3) rfl) ot bu zK zL (hT:=by intro x0 O;have O:x0∈[b7,b6]:=O;show x0∈(b7::b6::_:List Nat);simp only[mem_cons,not_mem_nil,or_false] at O ⊢;omega) (fun I E U Z=>?_);refine eJ ?_;refine aE 2 ?_;refine aP 3 [_,_] sizeOf49 ?_;refine an 98 [0,8] ?_;refine CD.seq ?_;refine fO 9 (aq _) ?_ (fun _ h=>h);refine ay 0 rfl bf ?_;refine ay 2 rfl bf ?_;refine ay 3 rfl lO ?_;refine ay 4 rfl (dj 0) ?_;refine ay 5 rfl (dJ 3) ?_;refine ay 6 rfl qE ?_;refine ay 7 rfl (c8 (r:=.int .i64 (L.length:Nat)) rfl ot bL (gk zM)) ?_;refine di.later rfl ?_;refine AD.one (i:=1) aA ?_;refine jG call95 (jW (ji p) vA) ?_
 have oO:(cc++(bA++(cL++(cJ++((L.eraseIdx i.toNat).flatMap bO))))).Perm (((L.set i.toNat (⟨bp p L.length,cr,cu,cc,bJ,bK,bA⟩:aB))++[(⟨bw p,dw,dx,cJ,dy,dz,cL⟩:aB)]).flatMap bO):=ie fun iN=>by have hq:=yp (qL bO hj (⟨bp p L.length,cr,cu,cc,bJ,bK,bA⟩:aB)) iN;rw[flatMap_append,show[(⟨bw p,dw,dx,cJ,dy,dz,cL⟩:aB)].flatMap bO=cJ++(cL++[]) from by simp[bO]];simp only[show bO (⟨bp p L.length,cr,cu,cc,bJ,bK,bA⟩:aB)=cc++bA from rfl,map_append,map_cons,map_nil,sum_append,sum_cons,sum_nil] at *;omega
 refine AD.perm (S':=⟨b7,153,5,gO (⟨bw p,dw,dx,cJ,dy,dz,cL⟩:aB)⟩::⟨b6,153,5,gO (⟨bp p L.length,cr,cu,cc,bJ,bK,bA⟩:aB)⟩::⟨b,51,2,[aR (some ⟨I,0,none⟩) ((L.set i.toNat (⟨bp p L.length,cr,cu,cc,bJ,bK,bA⟩:aB))++[(⟨bw p,dw,dx,cJ,dy,dz,cL⟩:aB)]).length E,ae root]⟩::(([⟨I,153,E*5,flatMap gO ((L.set i.toNat (⟨bp p L.length,cr,cu,cc,bJ,bK,bA⟩:aB))++[(⟨bw p,dw,dx,cJ,dy,dz,cL⟩:aB)])⟩]:List ah)++((L.set i.toNat (⟨bp p L.length,cr,cu,cc,bJ,bK,bA⟩:aB))++[(⟨bw p,dw,dx,cJ,dy,dz,cL⟩:aB)]).flatMap bO)) zG ?_;refine cy 8 rfl bf ?_;refine eJ ?_;refine bg [4,5] ?_;refine aJ (⟨b,51,2,[aR (some ⟨I,0,none⟩) ((L.set i.toNat (⟨bp p L.length,cr,cu,cc,bJ,bK,bA⟩:aB))++[(⟨bw p,dw,dx,cJ,dy,dz,cL⟩:aB)]).length E,ae root]⟩::([⟨I,153,E*5,flatMap gO ((L.set i.toNat (⟨bp p L.length,cr,cu,cc,bJ,bK,bA⟩:aB))++[(⟨bw p,dw,dx,cJ,dy,dz,cL⟩:aB)])⟩]++((L.set i.toNat (⟨bp p L.length,cr,cu,cc,bJ,bK,bA⟩:aB))++[(⟨bw p,dw,dx,cJ,dy,dz,cL⟩:aB)]).flatMap bO)) ?_;refine⟨rfl,((L.set i.toNat (⟨bp p L.length,cr,cu,cc,bJ,bK,bA⟩:aB))++[(⟨bw p,dw,dx,cJ,dy,dz,cL⟩:aB)]),some ⟨I,0,none⟩,E,[⟨I,153,E*5,flatMap gO ((L.set i.toNat (⟨bp p L.length,cr,cu,cc,bJ,bK,bA⟩:aB))++[(⟨bw p,dw,dx,cJ,dy,dz,cL⟩:aB)])⟩],bF U Z,fun x hx=>?_,?_,rfl⟩
 ·rcases mem_append.1 hx with hx|hx
  ·rcases mem_or_eq_of_mem_set hx with hx|rfl
   ·exact aT x hx
   exact⟨zC,zB⟩
  rw[mem_singleton] at hx;subst hx;exact⟨pM,zA⟩
 rw[map_append,map_set];rfl

def ik(q:List α)(i:Nat)(a:α):List α:=q.take i++a::q.drop i
theorem yy{q:List α}{a:α}(hi:i≤q.length):(ik q i a).length=q.length+1:=by unfold ik;rw[length_append,length_take,length_cons,length_drop];omega
theorem QX{q:List α}{a:α}:ik q q.length a=q++[a]:=by unfold ik;rw[take_length,drop_length]
theorem Ek{g:α→List D}(hg:∀a,(g a).length=1){q:List α}{a:α}:(ik q i a).flatMap g=(q.flatMap g).take i++(g a++(q.flatMap g).drop i):=by
 have h1:=rT hg q i;have h2:=uL hg q i;rw[Nat.mul_one] at h1 h2;unfold ik;rw[flatMap_append,flatMap_cons,h1,h2]
theorem D5{A ds:List D}{off:Nat}(hA:A.length=off)(hl:ds.length≤J.length):dh (A++J) off ds=A++(ds++J.drop ds.length):=by
 rw[uE _ _ _ vu,take_left' hA,append_assoc,←drop_drop,drop_left' hA]
theorem QY{T R c:List D}(hT:T.length=i)(hc:c.length=1)(E:R.length+1≤J.length):T++(c++R) <+: dh (dh (T++J) i c) (i+1) R:=by
 rw[D5 hT w4,show T++(c++J.drop c.length)=(T++c)++J.drop c.length from(append_assoc _ _ _).symm,D5 (A:=T++c) vu (by rw[length_drop];omega)];exact⟨_,by simp only[append_assoc];rfl⟩
theorem SJ{T R c:List D}(hT:T.length=i)(hc:c.length=1)(O:1≤J.length):T++(c++R) <+: dh (dh ((T++R)++J) (i+1) R) i c:=by
 obtain⟨E,I,hX,h1⟩:∃E I,R++J=E++I∧E.length=1:=⟨(R++J).take 1,(R++J).drop 1,(take_append_drop 1 _).symm,by rw[length_take,length_append];omega⟩
 have h2:R.length≤I.length:=(by have:=congrArg length hX;rw[length_append,length_append] at this;omega)
 have e1:(T++R)++J=(T++E)++I:=(by rw[append_assoc,hX,←append_assoc])
 have e2:(T++E)++(R++I.drop R.length)=T++(E++(R++I.drop R.length)):=append_assoc _ _ _;rw[e1,D5 (A:=T++E) vu h2,e2,D5 hT vu,drop_left' w4];exact⟨I.drop R.length,by simp only[append_assoc]⟩
theorem qc(n:Nat)(x:α):(replicate n x).length=n:=length_replicate
theorem DR:(Tryz.prog.info? 88).map (fun i=>i.size)=some 1:=by kernel_rfl
theorem HC:(Tryz.prog.info? 88).map (fun i=>(i.zero,i.size,i.bytes))=some (some (.slice none 0 0),1,24):=by kernel_rfl
theorem Zn(q:List K)(i:Nat)(a:K)(cap b bv:Nat)(hi:i≤q.length)(hc:q.length≤cap)(hm:cap≤maxLen)(hs:q.length≤1000):VC Tryz.prog G 124 [aR (some ⟨b,0,none⟩) q.length cap,ae (i:Nat),aR (some ⟨bv,0,none⟩) 1 1] [⟨bv,88,1*1,cK a⟩,⟨b,88,cap*1,q.flatMap cK⟩] (fun r S=>∃ad kG,r=aR ad (q.length+1) kG∧bz 88 1 ((ik q i a).flatMap cK) (ik q i a).length ad kG S):=by
 refine VC.body func124 rfl ntmps124 aS fun X0 w0 aZ=>?_;refine af [0,1,2] ?_;refine aD 2 ?_;refine bH (ei (l:=i) rfl ot ⟨_,ot⟩ trivial ua) ?_;refine an 95 [0,1,2] ?_;refine af [0,1,2,7] ?_;refine af [0,1,2,7,16] ?_;refine au ?_ ?_<;>intro aN bC
 ·exact absurd aN (by simp at *)
 refine af [0,1,2,7,8] ?_;refine af [0,1,2,7,8,22] ?_;refine au ?_ ?_<;>intro aY cz
 ·obtain rfl:i=q.length:=(by simp at *;omega)
  refine aD 2 ?_;refine fP 0 24 1 1 ?_;refine OD.ew (ls:=q) (new:=[a]) (Sq:=[⟨b,88,cap*1,q.flatMap cK⟩]) gm pA ap rfl rfl underlying151 HC rfl w7 ot (bF hc hm) (dD (A:=[])) ot bu vy iq (fun xU Ce Lo Lp=>?_);refine OD.perm (ee (S1:=[⟨xU,88,Ce*1,flatMap cK (q++[a])⟩]) (A:=[])) ?_;refine an 95 [6] ?_;refine aJ [⟨xU,88,Ce*1,flatMap cK (q++[a])⟩] ?_;exact⟨_,_,by rw[length_append];rfl,by rw[QX];exact bF Lo Lp⟩
 have aa:i<q.length:=(by omega)
 have hQ:(q.flatMap cK).length=q.length:=(by rw[cn gm];omega)
 have Z:((q.flatMap cK).take i).length=i:=(by rw[length_take];omega)
 have U:((q.flatMap cK).drop i).length=q.length-i:=(by rw[length_drop];omega)
 have jK:∀d∈(q.flatMap cK),V.one d=true:=rV pA _;refine cQ [0,1,2,7,8,31] ?_;refine aU 4 ?_ (h:=by exact(Eb rfl rfl ot runUnderlying151));refine bG ?_;refine au ?_ ?_<;>intro bZ cM
 ·have I:eG cap (i) 1 0=i:=(by unfold eG;rw[if_neg w4];omega)
  have rI:Nat.min (q.length-i) (q.length+1-(i+1))=q.length-i:=Nat.min_eq_left w4;refine aD 2 ?_;refine bH (ei (l:=0) (h:=i) rfl ot trivial ⟨_,ot⟩ LM) ?_;refine aE 5 ?_;refine OD.RR (n:=i) (m:=q.length+1-i) (k:=1) ap rfl rfl underlying151 underlying3 HC rfl ot rfl rfl (by show i≤(q.flatMap cK).length;omega) (Eq.trans ot (congrArg (fun z=>D.v (.int .i64 z)) (show((q.length:Int)+(1:Nat)-(i:Int))=((q.length+1-i:Nat):Int) by omega))) w4 w4 Cp w4 (fun Gz E Cf Lq=>?_);have j5:i+(q.length+1-i)=q.length+1:=(by omega)
  rw[j5] at Cf ⊢;refine an 95 [0,1,2,7,9] ?_;refine aD 2 ?_;refine bH (ei (l:=i) (h:=q.length+1) rfl ot ⟨_,ot⟩ trivial ua) ?_;have vH:eG E (i) 1 0=i:=(by unfold eG;rw[if_neg w4];omega)
  rw[vH];refine aE 1 ?_;have O:eG E (i+1) 1 0=i+1:=(by unfold eG;rw[if_neg w4];omega)
  refine OD.wk (Wk.toEnd (k:=0) rfl) ?_;refine OD.copy (k:=0) (k2:=1) (od:=i) (new:=cK a) (cs':=dh ((q.flatMap cK).take i++replicate (E*1-((q.flatMap cK).take i).length) D.bW) i (cK a)) ap rfl rfl underlying151 DR ot rfl rfl ot rfl rfl (by show take (Nat.min 1 (q.length+1-i)) (cK a)=_;rw[show Nat.min 1 (q.length+1-i)=1 from Nat.min_eq_left w4];rfl) (Nat.min_eq_left (by omega:1≤q.length+1-i)).symm (fun d hd=>all_eq_true.1 (pA a) d hd) (by show i+1≤((q.flatMap cK).take i++replicate (E*1-((q.flatMap cK).take i).length) D.bW).length;rw[length_append,qc,Z];omega) rfl ?_;refine an 95 [0,1,7,9] ?_;refine CD.seq ?_;refine mg 8 [9,50,53] ?_;refine aU 4 ?_ (h:=by exact(ei (l:=i+1) (h:=q.length+1) rfl ot ⟨_,ot⟩ trivial ua));refine aU 2 ?_ (h:=by exact(ei (l:=i) (h:=q.length) rfl ot ⟨_,ot⟩ trivial ua));refine jJ ?_
  refine OD.copy (k:=0) (k2:=2) (od:=eG E (i+1) 1 0) (oy:=eG cap i 1 0) (new:=(q.flatMap cK).drop i) (cs':=dh (dh ((q.flatMap cK).take i++replicate (E*1-((q.flatMap cK).take i).length) D.bW) i (cK a)) (i+1) ((q.flatMap cK).drop i)) ap rfl rfl underlying151 DR ot rfl rfl ot rfl rfl (by show take (Nat.min (q.length-i) (q.length+1-(i+1))) (drop (eG cap i 1 0) (q.flatMap cK))=_;rw[I,rI,take_of_length_le w4]) (by show _=Nat.min (q.length-i) (q.length+1-(i+1));rw[rI,U]) (fun d hd=>jK d (mem_of_mem_drop hd)) (by show eG E (i+1) 1 0+_≤(dh ((q.flatMap cK).take i++replicate (E*1-((q.flatMap cK).take i).length) D.bW) i (cK a)).length;rw[O,U,yf,length_append,qc,Z];omega) (by show dh (dh ((q.flatMap cK).take i++replicate (E*1-((q.flatMap cK).take i).length) D.bW) i (cK a)) (eG E (i+1) 1 0) _=_;rw[O]) ?_;refine an 95 [9] ?_;refine aD 1 ?_;refine OD.shrink (k:=0) (cs':=(ik q i a).flatMap cK) rfl (by rw[Ek gm];exact QY Z rfl (by rw[qc,U,Z];omega)) ?_;refine an 95 [6] ?_;refine aJ [⟨Gz,88,E*1,(ik q i a).flatMap cK⟩] ?_;exact⟨_,_,rfl,bF (by rw[yy hi];exact Cf) Lq⟩
 have I:eG cap (i) 1 0=i:=(by unfold eG;rw[if_neg w4];omega)
 have O:eG cap (i+1) 1 0=i+1:=(by unfold eG;rw[if_neg w4];omega)
 have rI:Nat.min (q.length+1-i) (q.length+1-(i+1))=q.length-i:=(by rw[show q.length+1-(i+1)=q.length-i from by omega];exact Nat.min_eq_right w4)
 refine cQ [0,1,2,7,8] ?_;refine aU 4 ?_ (h:=by exact(ei (l:=0) (h:=q.length+1) rfl ot trivial ⟨_,ot⟩ LM));refine bG ?_;refine aD 5 ?_;refine bH (ei (l:=i+1) (h:=q.length+1) rfl ot ⟨_,ot⟩ trivial ua) ?_;refine OD.wk (Wk.toEnd (k:=1) rfl) ?_;refine OD.overlaps (r:=4) (k:=0) (k2:=1) ap rfl rfl func146 aA aA aA aA underlying151 sizeOf88 ot rfl rfl ot rfl rfl w7 (by show cap*1≠0;omega) ?_;refine an 95 [0,1,2,7,8,68] ?_;refine au ?_ ?_<;>intro cW ek
 ·refine CD.seq ?_;refine mg 8 [0,1,2,73,76] ?_;refine aU 4 ?_ (h:=by exact(ei (l:=i+1) (h:=q.length+1) rfl ot ⟨_,ot⟩ trivial ua));refine aU 2 ?_ (h:=by exact(ei (l:=i) (h:=q.length+1) rfl ot ⟨_,ot⟩ trivial ua));refine jJ ?_;refine OD.copy (k:=1) (k2:=1) (od:=eG cap (i+1) 1 0) (oy:=eG cap i 1 0) (new:=(q.flatMap cK).drop i) (cs':=dh ((q.flatMap cK)++replicate (cap*1-(q.flatMap cK).length) D.bW) (i+1) ((q.flatMap cK).drop i)) ap rfl rfl underlying151 DR ot rfl rfl ot rfl rfl (by show take (Nat.min (q.length+1-i) (q.length+1-(i+1))) (drop (eG cap i 1 0) ((q.flatMap cK)++replicate (cap*1-(q.flatMap cK).length) D.bW))=_;rw[I,rI,drop_append_of_le_length w4,take_left' U]) (by show _=Nat.min (q.length+1-i) (q.length+1-(i+1));rw[rI,U]) (fun d hd=>jK d (mem_of_mem_drop hd)) (by show eG cap (i+1) 1 0+_≤((q.flatMap cK)++replicate (cap*1-(q.flatMap cK).length) D.bW).length;rw[O,U,length_append,qc,hQ];omega) (by show dh ((q.flatMap cK)++replicate (cap*1-(q.flatMap cK).length) D.bW) (eG cap (i+1) 1 0) _=_;rw[O]) ?_;refine an 95 [0,1,2] ?_;refine aD 2 ?_;refine bH (ei (l:=i) (h:=q.length+1) rfl ot ⟨_,ot⟩ trivial ua) ?_;refine aE 1 ?_
  refine OD.copy (k:=1) (k2:=0) (od:=eG cap i 1 0) (new:=cK a) (cs':=dh (dh ((q.flatMap cK)++replicate (cap*1-(q.flatMap cK).length) D.bW) (i+1) ((q.flatMap cK).drop i)) i (cK a)) ap rfl rfl underlying151 DR ot rfl rfl ot rfl rfl (by show take (Nat.min 1 (q.length+1-i)) (cK a)=_;rw[show Nat.min 1 (q.length+1-i)=1 from Nat.min_eq_left w4];rfl) (Nat.min_eq_left (by omega:1≤q.length+1-i)).symm (fun d hd=>all_eq_true.1 (pA a) d hd) (by show eG cap i 1 0+1≤(dh ((q.flatMap cK)++replicate (cap*1-(q.flatMap cK).length) D.bW) (i+1) ((q.flatMap cK).drop i)).length;rw[I,yf,length_append,qc,hQ];omega) (by show dh (dh ((q.flatMap cK)++replicate (cap*1-(q.flatMap cK).length) D.bW) (i+1) ((q.flatMap cK).drop i)) (eG cap i 1 0) _=_;rw[I]) ?_;refine an 95 [0] ?_;refine aD 1 ?_;refine OD.shrink (k:=1) (cs':=(ik q i a).flatMap cK) rfl (by rw[Ek gm];show _ <+: dh (dh ((q.flatMap cK)++_) (i+1) ((q.flatMap cK).drop i)) i (cK a);rw[show(q.flatMap cK)++replicate (cap*1-(q.flatMap cK).length) D.bW=((q.flatMap cK).take i++(q.flatMap cK).drop i)++replicate (cap*1-(q.flatMap cK).length) D.bW from by rw[take_append_drop]];exact SJ Z rfl (by rw[qc,hQ];omega)) ?_;refine an 95 [6] ?_;refine aJ [⟨b,88,cap*1,(ik q i a).flatMap cK⟩] ?_;exact⟨_,_,rfl,bF (by rw[yy hi];omega) hm⟩
 exact absurd cW (by simp at *)
theorem DS:(Tryz.prog.info? 3).map (fun i=>i.size)=some 1:=by kernel_rfl
theorem H7:(Tryz.prog.info? 3).map (fun i=>(i.zero,i.size,i.bytes))=some (some (.int .i64 0),1,8):=by kernel_rfl
theorem Zo(q:List Int)(i:Nat)(a:Int)(cap b bv:Nat)(hi:i≤q.length)(hc:q.length≤cap)(hm:cap≤maxLen)(hs:q.length≤1000):VC Tryz.prog G 125 [aR (some ⟨b,0,none⟩) q.length cap,ae (i:Nat),aR (some ⟨bv,0,none⟩) 1 1] [⟨bv,3,1*1,cI a⟩,⟨b,3,cap*1,q.flatMap cI⟩] (fun r S=>∃ad kG,r=aR ad (q.length+1) kG∧bz 3 1 ((ik q i a).flatMap cI) (ik q i a).length ad kG S):=by
 refine VC.body func125 rfl ntmps125 aS fun X0 w0 aZ=>?_;refine af [0,1,2] ?_;refine aD 2 ?_;refine bH (ei (l:=i) rfl ot ⟨_,ot⟩ trivial uc) ?_;refine an 95 [0,1,2] ?_;refine af [0,1,2,7] ?_;refine af [0,1,2,7,16] ?_;refine au ?_ ?_<;>intro aN bC
 ·exact absurd aN (by simp at *)
 refine af [0,1,2,7,8] ?_;refine af [0,1,2,7,8,22] ?_;refine au ?_ ?_<;>intro aY cz
 ·obtain rfl:i=q.length:=(by simp at *;omega)
  refine aD 2 ?_;refine fP 0 24 1 1 ?_;refine OD.ew (ls:=q) (new:=[a]) (Sq:=[⟨b,3,cap*1,q.flatMap cI⟩]) eI nD ap rfl rfl underlying67 H7 rfl w7 ot (bF hc hm) (dD (A:=[])) ot bu vy iq (fun xU Ce Lo Lp=>?_);refine OD.perm (ee (S1:=[⟨xU,3,Ce*1,flatMap cI (q++[a])⟩]) (A:=[])) ?_;refine an 95 [6] ?_;refine aJ [⟨xU,3,Ce*1,flatMap cI (q++[a])⟩] ?_;exact⟨_,_,by rw[length_append];rfl,by rw[QX];exact bF Lo Lp⟩
 have aa:i<q.length:=(by omega)
 have hQ:(q.flatMap cI).length=q.length:=(by rw[cn eI];omega)
 have Z:((q.flatMap cI).take i).length=i:=(by rw[length_take];omega)
 have U:((q.flatMap cI).drop i).length=q.length-i:=(by rw[length_drop];omega)
 have jK:∀d∈(q.flatMap cI),V.one d=true:=rV nD _;refine cQ [0,1,2,7,8,31] ?_;refine aU 4 ?_ (h:=by exact(Eb rfl rfl ot runUnderlying67));refine bG ?_;refine au ?_ ?_<;>intro bZ cM
 ·have I:eG cap (i) 1 0=i:=(by unfold eG;rw[if_neg w4];omega)
  have rI:Nat.min (q.length-i) (q.length+1-(i+1))=q.length-i:=Nat.min_eq_left w4;refine aD 2 ?_;refine bH (ei (l:=0) (h:=i) rfl ot trivial ⟨_,ot⟩ LN) ?_;refine aE 5 ?_;refine OD.RR (n:=i) (m:=q.length+1-i) (k:=1) ap rfl rfl underlying67 underlying3 H7 rfl ot rfl rfl (by show i≤(q.flatMap cI).length;omega) (Eq.trans ot (congrArg (fun z=>D.v (.int .i64 z)) (show((q.length:Int)+(1:Nat)-(i:Int))=((q.length+1-i:Nat):Int) by omega))) w4 w4 Cp w4 (fun Gz E Cf Lq=>?_);have j5:i+(q.length+1-i)=q.length+1:=(by omega)
  rw[j5] at Cf ⊢;refine an 95 [0,1,2,7,9] ?_;refine aD 2 ?_;refine bH (ei (l:=i) (h:=q.length+1) rfl ot ⟨_,ot⟩ trivial uc) ?_;have vH:eG E (i) 1 0=i:=(by unfold eG;rw[if_neg w4];omega)
  rw[vH];refine aE 1 ?_;have O:eG E (i+1) 1 0=i+1:=(by unfold eG;rw[if_neg w4];omega)
  refine OD.wk (Wk.toEnd (k:=0) rfl) ?_;refine OD.copy (k:=0) (k2:=1) (od:=i) (new:=cI a) (cs':=dh ((q.flatMap cI).take i++replicate (E*1-((q.flatMap cI).take i).length) D.bW) i (cI a)) ap rfl rfl underlying67 DS ot rfl rfl ot rfl rfl (by show take (Nat.min 1 (q.length+1-i)) (cI a)=_;rw[show Nat.min 1 (q.length+1-i)=1 from Nat.min_eq_left w4];rfl) (Nat.min_eq_left (by omega:1≤q.length+1-i)).symm (fun d hd=>all_eq_true.1 (nD a) d hd) (by show i+1≤((q.flatMap cI).take i++replicate (E*1-((q.flatMap cI).take i).length) D.bW).length;rw[length_append,qc,Z];omega) rfl ?_;refine an 95 [0,1,7,9] ?_;refine CD.seq ?_;refine mg 8 [9,50,53] ?_;refine aU 4 ?_ (h:=by exact(ei (l:=i+1) (h:=q.length+1) rfl ot ⟨_,ot⟩ trivial uc));refine aU 2 ?_ (h:=by exact(ei (l:=i) (h:=q.length) rfl ot ⟨_,ot⟩ trivial uc));refine jJ ?_
  refine OD.copy (k:=0) (k2:=2) (od:=eG E (i+1) 1 0) (oy:=eG cap i 1 0) (new:=(q.flatMap cI).drop i) (cs':=dh (dh ((q.flatMap cI).take i++replicate (E*1-((q.flatMap cI).take i).length) D.bW) i (cI a)) (i+1) ((q.flatMap cI).drop i)) ap rfl rfl underlying67 DS ot rfl rfl ot rfl rfl (by show take (Nat.min (q.length-i) (q.length+1-(i+1))) (drop (eG cap i 1 0) (q.flatMap cI))=_;rw[I,rI,take_of_length_le w4]) (by show _=Nat.min (q.length-i) (q.length+1-(i+1));rw[rI,U]) (fun d hd=>jK d (mem_of_mem_drop hd)) (by show eG E (i+1) 1 0+_≤(dh ((q.flatMap cI).take i++replicate (E*1-((q.flatMap cI).take i).length) D.bW) i (cI a)).length;rw[O,U,yf,length_append,qc,Z];omega) (by show dh (dh ((q.flatMap cI).take i++replicate (E*1-((q.flatMap cI).take i).length) D.bW) i (cI a)) (eG E (i+1) 1 0) _=_;rw[O]) ?_;refine an 95 [9] ?_;refine aD 1 ?_;refine OD.shrink (k:=0) (cs':=(ik q i a).flatMap cI) rfl (by rw[Ek eI];exact QY Z rfl (by rw[qc,U,Z];omega)) ?_;refine an 95 [6] ?_;refine aJ [⟨Gz,3,E*1,(ik q i a).flatMap cI⟩] ?_;exact⟨_,_,rfl,bF (by rw[yy hi];exact Cf) Lq⟩
 have I:eG cap (i) 1 0=i:=(by unfold eG;rw[if_neg w4];omega)
 have O:eG cap (i+1) 1 0=i+1:=(by unfold eG;rw[if_neg w4];omega)
 have rI:Nat.min (q.length+1-i) (q.length+1-(i+1))=q.length-i:=(by rw[show q.length+1-(i+1)=q.length-i from by omega];exact Nat.min_eq_right w4)
 refine cQ [0,1,2,7,8] ?_;refine aU 4 ?_ (h:=by exact(ei (l:=0) (h:=q.length+1) rfl ot trivial ⟨_,ot⟩ LN));refine bG ?_;refine aD 5 ?_;refine bH (ei (l:=i+1) (h:=q.length+1) rfl ot ⟨_,ot⟩ trivial uc) ?_;refine OD.wk (Wk.toEnd (k:=1) rfl) ?_;refine OD.overlaps (r:=4) (k:=0) (k2:=1) ap rfl rfl func148 aA aA aA aA underlying67 sizeOf3 ot rfl rfl ot rfl rfl w7 (by show cap*1≠0;omega) ?_;refine an 95 [0,1,2,7,8,68] ?_;refine au ?_ ?_<;>intro cW ek
 ·refine CD.seq ?_;refine mg 8 [0,1,2,73,76] ?_;refine aU 4 ?_ (h:=by exact(ei (l:=i+1) (h:=q.length+1) rfl ot ⟨_,ot⟩ trivial uc));refine aU 2 ?_ (h:=by exact(ei (l:=i) (h:=q.length+1) rfl ot ⟨_,ot⟩ trivial uc));refine jJ ?_;refine OD.copy (k:=1) (k2:=1) (od:=eG cap (i+1) 1 0) (oy:=eG cap i 1 0) (new:=(q.flatMap cI).drop i) (cs':=dh ((q.flatMap cI)++replicate (cap*1-(q.flatMap cI).length) D.bW) (i+1) ((q.flatMap cI).drop i)) ap rfl rfl underlying67 DS ot rfl rfl ot rfl rfl (by show take (Nat.min (q.length+1-i) (q.length+1-(i+1))) (drop (eG cap i 1 0) ((q.flatMap cI)++replicate (cap*1-(q.flatMap cI).length) D.bW))=_;rw[I,rI,drop_append_of_le_length w4,take_left' U]) (by show _=Nat.min (q.length+1-i) (q.length+1-(i+1));rw[rI,U]) (fun d hd=>jK d (mem_of_mem_drop hd)) (by show eG cap (i+1) 1 0+_≤((q.flatMap cI)++replicate (cap*1-(q.flatMap cI).length) D.bW).length;rw[O,U,length_append,qc,hQ];omega) (by show dh ((q.flatMap cI)++replicate (cap*1-(q.flatMap cI).length) D.bW) (eG cap (i+1) 1 0) _=_;rw[O]) ?_;refine an 95 [0,1,2] ?_;refine aD 2 ?_;refine bH (ei (l:=i) (h:=q.length+1) rfl ot ⟨_,ot⟩ trivial uc) ?_;refine aE 1 ?_
  refine OD.copy (k:=1) (k2:=0) (od:=eG cap i 1 0) (new:=cI a) (cs':=dh (dh ((q.flatMap cI)++replicate (cap*1-(q.flatMap cI).length) D.bW) (i+1) ((q.flatMap cI).drop i)) i (cI a)) ap rfl rfl underlying67 DS ot rfl rfl ot rfl rfl (by show take (Nat.min 1 (q.length+1-i)) (cI a)=_;rw[show Nat.min 1 (q.length+1-i)=1 from Nat.min_eq_left w4];rfl) (Nat.min_eq_left (by omega:1≤q.length+1-i)).symm (fun d hd=>all_eq_true.1 (nD a) d hd) (by show eG cap i 1 0+1≤(dh ((q.flatMap cI)++replicate (cap*1-(q.flatMap cI).length) D.bW) (i+1) ((q.flatMap cI).drop i)).length;rw[I,yf,length_append,qc,hQ];omega) (by show dh (dh ((q.flatMap cI)++replicate (cap*1-(q.flatMap cI).length) D.bW) (i+1) ((q.flatMap cI).drop i)) (eG cap i 1 0) _=_;rw[I]) ?_;refine an 95 [0] ?_;refine aD 1 ?_;refine OD.shrink (k:=1) (cs':=(ik q i a).flatMap cI) rfl (by rw[Ek eI];show _ <+: dh (dh ((q.flatMap cI)++_) (i+1) ((q.flatMap cI).drop i)) i (cI a);rw[show(q.flatMap cI)++replicate (cap*1-(q.flatMap cI).length) D.bW=((q.flatMap cI).take i++(q.flatMap cI).drop i)++replicate (cap*1-(q.flatMap cI).length) D.bW from by rw[take_append_drop]];exact SJ Z rfl (by rw[qc,hQ];omega)) ?_;refine an 95 [6] ?_;refine aJ [⟨b,3,cap*1,(ik q i a).flatMap cI⟩] ?_;exact⟨_,_,rfl,bF (by rw[yy hi];omega) hm⟩
 exact absurd cW (by simp at *)
theorem aaN(a:K)(bv:Nat):VC Tryz.prog G 124 [bS,ae (0:Nat),aR (some ⟨bv,0,none⟩) 1 1] [⟨bv,88,1*1,cK a⟩] (fun r S=>∃ad E,r=aR ad 1 E∧bz 88 1 ((ik ([]:List K) 0 a).flatMap cK) (ik ([]:List K) 0 a).length ad E S):=by
 refine VC.body func124 rfl ntmps124 aS fun X0 w0 aZ=>?_;refine af [0,1,2] ?_;refine aD 2 ?_;refine bH (DU rfl ot ⟨_,_,ot,rfl⟩ rfl runUnderlying151 sizeOf88) ?_;refine an 95 [0,1,2] ?_;refine af [0,1,2,7] ?_;refine af [0,1,2,7,16] ?_;refine au ?_ ?_<;>intro aN bC
 ·exact absurd aN (by simp at *)
 refine af [0,1,2,7,8] ?_;refine af [0,1,2,7,8,22] ?_;refine au ?_ ?_<;>intro aY cz
 ·refine aD 2 ?_;refine fP 0 24 1 1 ?_;refine OD.ew (ls:=([]:List K)) (new:=[a]) (Sq:=[]) gm pA ap rfl rfl underlying151 HC rfl w7 ot iI (dD (A:=[])) ot bu (by simp[maxLen]) bu (fun O I U Z=>?_);refine OD.perm (ee (S1:=[⟨O,88,I*1,flatMap cK (([]:List K)++[a])⟩]) (A:=[])) ?_;refine an 95 [6] ?_;refine aJ [⟨O,88,I*1,flatMap cK (([]:List K)++[a])⟩] ?_;exact⟨_,_,rfl,bF U Z⟩
 exact absurd aY (by simp at *)
theorem Zp(q:List K)(i:Nat)(a:K)(ad:Option Addr)(cap:Nat)(Sq:List ah)(I:Nat)(hi:i≤q.length)(hs:q.length≤1000)(ho:bz 88 1 (q.flatMap cK) q.length ad cap Sq):VC Tryz.prog G 124 [aR ad q.length cap,ae (i:Nat),aR (some ⟨I,0,none⟩) 1 1] (⟨I,88,1*1,cK a⟩::Sq) (fun r S=>∃ad E,r=aR ad (q.length+1) E∧bz 88 1 ((ik q i a).flatMap cK) (ik q i a).length ad E S):=by
 rcases ho with ⟨h1,h2,rfl,rfl,rfl⟩|⟨b,rfl,h1,h2,rfl⟩
 ·obtain rfl:=length_eq_zero_iff.1 h1;obtain rfl:i=0:=Nat.le_zero.1 hi;exact aaN a I
 exact Zn q i a cap b I hi h1 h2 hs
theorem aaO(a:Int)(bv:Nat):VC Tryz.prog G 125 [bS,ae (0:Nat),aR (some ⟨bv,0,none⟩) 1 1] [⟨bv,3,1*1,cI a⟩] (fun r S=>∃ad E,r=aR ad 1 E∧bz 3 1 ((ik ([]:List Int) 0 a).flatMap cI) (ik ([]:List Int) 0 a).length ad E S):=by
 refine VC.body func125 rfl ntmps125 aS fun X0 w0 aZ=>?_;refine af [0,1,2] ?_;refine aD 2 ?_;refine bH (DU rfl ot ⟨_,_,ot,rfl⟩ rfl runUnderlying67 sizeOf3) ?_;refine an 95 [0,1,2] ?_;refine af [0,1,2,7] ?_;refine af [0,1,2,7,16] ?_;refine au ?_ ?_<;>intro aN bC
 ·exact absurd aN (by simp at *)
 refine af [0,1,2,7,8] ?_;refine af [0,1,2,7,8,22] ?_;refine au ?_ ?_<;>intro aY cz
 ·refine aD 2 ?_;refine fP 0 24 1 1 ?_;refine OD.ew (ls:=([]:List Int)) (new:=[a]) (Sq:=[]) eI nD ap rfl rfl underlying67 H7 rfl w7 ot iI (dD (A:=[])) ot bu (by simp[maxLen]) bu (fun O I U Z=>?_);refine OD.perm (ee (S1:=[⟨O,3,I*1,flatMap cI (([]:List Int)++[a])⟩]) (A:=[])) ?_;refine an 95 [6] ?_;refine aJ [⟨O,3,I*1,flatMap cI (([]:List Int)++[a])⟩] ?_;exact⟨_,_,rfl,bF U Z⟩
 exact absurd aY (by simp at *)
theorem Zq(q:List Int)(i:Nat)(a:Int)(ad:Option Addr)(cap:Nat)(Sq:List ah)(I:Nat)(hi:i≤q.length)(hs:q.length≤1000)(ho:bz 3 1 (q.flatMap cI) q.length ad cap Sq):VC Tryz.prog G 125 [aR ad q.length cap,ae (i:Nat),aR (some ⟨I,0,none⟩) 1 1] (⟨I,3,1*1,cI a⟩::Sq) (fun r S=>∃ad E,r=aR ad (q.length+1) E∧bz 3 1 ((ik q i a).flatMap cI) (ik q i a).length ad E S):=by
 rcases ho with ⟨h1,h2,rfl,rfl,rfl⟩|⟨b,rfl,h1,h2,rfl⟩
 ·obtain rfl:=length_eq_zero_iff.1 h1;obtain rfl:i=0:=Nat.le_zero.1 hi;exact aaO a I
 exact Zo q i a cap b I hi h1 h2 hs

end Go.Proofs.YtdgichenhdikgaaGreatDoor.Tw
