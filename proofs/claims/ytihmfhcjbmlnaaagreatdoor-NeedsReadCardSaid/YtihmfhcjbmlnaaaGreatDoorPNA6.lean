/-
  NA: walks and plain facts, part 6.
-/
import Derived.Test.YtihmfhcjbmlnaaaGreatDoorPNA5
set_option linter.unusedVariables false
set_option linter.unusedSimpArgs false
set_option maxRecDepth 100000
set_option maxHeartbeats 4000000
namespace Go.Proofs.YtihmfhcjbmlnaaaGreatDoor
open List
namespace Tw
open Go.Proofs.Tryz
open Go.RowKit V Tr Pk
open Go.Lib (compareBytes)
variable {t:aI} {i:Int} {p:dU}
theorem ag0{d:Nat}{lo hi:K}(ok:eS t d i lo hi)(h:(t.pg i).leaf=true):d=0:=by
 cases d with
 | zero=>rfl
 | succ d=>obtain⟨_,q2,_⟩:=ok;rw[q2] at h;cases h
theorem ag1{d:Nat}{lo hi:K}(ok:eS t d i lo hi)(h:(t.pg i).leaf=false):∃d',d=d'+1:=by
 cases d with
 | zero=>obtain⟨_,q2,_⟩:=ok;rw[q2] at h;cases h
 | succ d=>exact⟨d,rfl⟩
variable {G:List (Nat×List Value)}
theorem ag2:(Tryz.prog.info? 3).map (fun i=>(i.zero,i.size,i.bytes))=some (some (.int .i64 0),1,8):=by kernel_rfl
theorem XX(t:aI)(h:Nat)(v:Valid t h)(k:K):VC Tryz.prog G 136 [.agg (cT t),aj 1 cB k] [] (iC cI 3 1 (jY t k h t.root)):=by
 refine bA func136 rfl ntmps136 aO fun X0 w0 bz=>?_;unfold cT;have dy:=ee;have hval:=v;have fk:=v.high;have SK:=v.qb;refine cq ?_;refine dm [_,_] (fun b2=>?_);refine ap 45 [1,2] ?_;refine az 2 ?_;refine eR (cU 0 [_]) [.int .i64 0] [_] zeroValue3 runUnderlying27 sizeOf3 (fun kr=>?_);refine cg (eM (S1:=[⟨kr,3,1*1,flatMap cI ([t.root])⟩]) (A:=[_])) ?_;refine ap 45 [1,2,5] ?_;refine kU ?_;refine oB (fun (aR:Nat×Int×K×K×List Int×Option Addr×Nat×List ag) aE=>match aR with|(d,i,lo,hi,pre,Li,O,Sl)=>(eS t d i lo hi)/\(nw lo hi k)/\(pre++jY t k d i=jY t k h t.root)/\(pre.length+d<=h)/\(bF 3 1 (((pre++[i])).flatMap cI) ((pre++[i])).length Li O Sl)/\aE=(⟨45,[(1,aj 1 cB k),(2,dw b2),(5,aS Li ((pre++[i])).length O)],(⟨b2,74,2,[aj 5 cP t.af,ae t.root]⟩::Sl)⟩:St)) (fun (aR:Nat×Int×K×K×List Int×Option Addr×Nat×List ag)=>match aR with|(d,i,lo,hi,pre,Li,O,Sl)=>d) (h,t.root,[],[],[],(some ⟨kr,0,none⟩),1,[⟨kr,3,1*1,flatMap cI ([t.root])⟩]) ⟨v.ok,(we k),(nil_append _),bC,(bF.cast (cj (g:=cI) (sz:=1) (e:=3) (ls:=[t.root]) (Nat.le_refl _) (show 1<=maxLen by decide)) lU),rfl⟩ (aL (h:=w77)) ?_;rintro⟨d,i,lo,hi,pre,Li,O,Sl⟩ _ ⟨ok,mN,U,fC,Su,rfl⟩;obtain⟨bl,rfl,Fl,Z,rfl⟩:=Su.pos bC;have q1:=ok.idx;have aa:i.toNat<t.af.length:=(by omega)
 have E:t.pg i=(t.af[i.toNat]'aa):=x4 q1;have po:=v.gB _ (kH q1);have EK:=ok.high;rw[E] at po EK;refine cJ [1,2,5,6] ?_;refine aM 4 ?_ (h:=by exact(ei 1 (h:=by first|exact .l (j:=pre.length) bC bC|exact .r (j:=pre.length) bC bC)));refine aM 0 ?_ (h:=by exact(ez (mk:=Op.load 3) rfl ot (kV (k:=1) (d:=ae i) (i:=pre.length) fp rfl rfl rfl isAgg3 bC (by simp[cI]))));refine bB ?_;refine az 3 ?_;refine bS (ei 5 (h:=by first|exact .l (j:=i.toNat) (Int.toNat_of_nonneg q1.1).symm aa|exact .r (j:=i.toNat) (Int.toNat_of_nonneg q1.1).symm aa)) ?_;refine aF 1 ?_;refine cD (ds:=[_,_,_,_,_]) au rfl rfl zeroValue165 rfl (fun b7=>?_);refine aN 0 [_,_,_,_,_] sizeOf165 ?_;refine ap 45 [1,2,5,7] ?_;refine cW [1,2,5,7,24] (agW (t.af[i.toNat]'aa) k) ?_;refine bX ?_ ?_<;>intro aP bH
 ·exact absurd aP (by intro e;have e:=of_decide_eq_true e;rw[EK] at e;exact e.2 (mN.2 e.1))
 refine ax [1,2,5,7,33] ?_ ?_<;>intro bg cM
 ·obtain rfl:=ag0 ok (by rw[E];exact bg);have aZ:pre++[i]=jY t k h t.root:=(by rw[<-U];rfl)
  refine dS [4] [⟨bl,3,O*1,flatMap cI (pre++[i])⟩] ?_;rw[<-aZ];exact⟨_,_,rfl,(cj (g:=cI) (ls:=pre++[i]) Fl Z)⟩
 obtain⟨dd,rfl⟩:=ag1 ok (by rw[E];exact bg);have ok0:=ok;obtain⟨_,gJ,hh,ao4,s9⟩:=ok0;obtain⟨d1,d2⟩:=down (p:=t.pg i) (by rw[E];exact po) gJ hh mN;have lH:=s9 _ d1;rw[<-vV d1] at lH;have QD:=d2;have alW:pre++[i]++jY t k dd ((t.pg i).kids.getD (bn (t.pg i) k) 0)=jY t k h t.root:=(by rw[<-U,append_assoc];rfl)
 have tr:=M7 (G:=G) (t.pg i) k (by rw[E];exact po.lJ) (by rw[E];have:=po.fm;omega);have I:bn (t.af[i.toNat]'aa) k<(t.af[i.toNat]'aa).kids.length:=(by rw[<-E];exact d1)
 have apY:VP Tryz.prog G 137 [.agg (cP (t.af[i.toNat]'aa)),aj 1 cB k] (ae (bn (t.af[i.toNat]'aa) k:Nat)):=(by rw[<-E];exact tr)
 have ZR:(t.pg i).kids.getD (bn (t.pg i) k) 0=(t.af[i.toNat]'aa).kids[bn (t.af[i.toNat]'aa) k]'I:=(by rw[E];exact vV I)
 refine eI ?_;refine iX 10 (aq (take 2 _)) ?_ (fun _ h=>(Sublist.map _ (take_sublist _ _)).subset h);refine iD [0,1,2] ?_;refine cm 3 rfl (JO 0 [_,_,_,_,_]) ?_;refine cm 4 rfl eV ?_;refine ew.later rfl ?_;refine bV (i:=5) aD ?_;refine sj call137 (apY) ?_;refine dX 6 rfl (ei 1 (h:=by first|exact .l (j:=bn (t.af[i.toNat]'aa) k) rfl I|exact .r (j:=bn (t.af[i.toNat]'aa) k) rfl I)) ?_;refine bV (i:=7) aD ?_;refine at_ rfl gD ?_;refine bV (i:=8) aD ?_;refine oZ (cU 0 [_]) [.int .i64 0] [_] zeroValue3 runUnderlying27 sizeOf3 (fun b43=>?_);refine o8 0 43 1 1 ?_;refine bV (i:=9) aD ?_;refine rz (ls:=(pre++[i])) (new:=[(t.af[i.toNat]'aa).kids[bn (t.af[i.toNat]'aa) k]'I]) (Sq:=[⟨bl,3,O*1,flatMap cI (pre++[i])⟩]) fp pV rfl au rfl rfl underlying27 ag2 rfl w7 ot (cj (g:=cI) (ls:=pre++[i]) Fl Z) (dL (A:=[_,_])) ot bC x7 jk (fun SL QE apZ ap0=>?_);refine gS (eM (S1:=[⟨SL,3,QE*1,flatMap cI ((pre++[i])++[(t.af[i.toNat]'aa).kids[bn (t.af[i.toNat]'aa) k]'I])⟩]) (A:=[_,_])) ?_;refine gd ?_;refine bL [1,2,5] ?_
 refine⟨(dd,((t.pg i).kids.getD (bn (t.pg i) k) 0),(jr lo (t.pg i) (bn (t.pg i) k)),(jd (t.pg i) (bn (t.pg i) k)),(pre++[i]),(some ⟨SL,0,none⟩),QE,[⟨SL,3,QE*1,flatMap cI ((pre++[i])++[(t.af[i.toNat]'aa).kids[bn (t.af[i.toNat]'aa) k]'I])⟩]),_,cR,(aL (h:=w77)),lH,QD,alW,jk,(bF.cast (cj apZ ap0) (by rw[ZR])),rfl⟩
theorem akp(t:aI)(h:Nat)(v:Valid t h)(k:K):VP Tryz.prog G 136 [.agg (cT t),aj 1 cB k] (.list 1 ((jY t k h t.root).flatMap cI) (jY t k h t.root).length):=(XX t h v k).zI fp
def jv(t:aI)(k:K)(h:Nat):Bool:=pz (t.pg (aV t k h t.root)).keys k
theorem Ho{h:Nat}(v:Valid t h)(k:K):jv t k h=true↔Ev t k h:=by
 unfold jv pz Ev;have hl:=(v.leaf k).2;have fC:bn (t.pg (aV t k h t.root)) k=iL (t.pg (aV t k h t.root)).keys k:=(by unfold bn;rw[if_pos hl])
 rw[fC,decide_eq_true_iff,List.getElem?_eq_some_iff]
theorem XY{k:K}(hl:p.leaf=true)(ha:bn p k<p.keys.length):decide (p.keys[bn p k]=k)=pz p.keys k:=by
 unfold pz;have fC:bn p k=iL p.keys k:=(by unfold bn;rw[if_pos hl])
 simp only[fC] at ha |-;rw[getElem?_eq_getElem ha];simp
theorem XZ{k:K}(hl:p.leaf=true)(ha:¬bn p k<p.keys.length):false=pz p.keys k:=by
 unfold pz;have fC:bn p k=iL p.keys k:=(by unfold bn;rw[if_pos hl])
 rw[fC] at ha;rw[getElem?_eq_none w4];rfl
theorem IE{k:K}{h:Nat}:∃(hn:(jY t k h i).length-1<(jY t k h i).length),(jY t k h i)[(jY t k h i).length-1]=aV t k h i:=by
 have h1:=UU t k h i;rw[getLast?_eq_getElem?] at h1;exact List.getElem?_eq_some_iff.1 h1
theorem Ww{n:Int}(hp:fq p n)(k:K):bn p k<=p.keys.length:=by
 unfold bn;split
 ·exact BD _ _
 exact DT _ _
theorem Ic(t:aI)(k:K):∀(h:Nat) (i:Int),(jY t k h i).length=h+1
 | 0,i=>rfl
 | h+1,i=>by rw[jY,length_cons,Ic t k h]
theorem sQ(t:aI)(h:Nat)(v:Valid t h)(k:K)(eT:k.length<=maxLen)(U:(jY t k h t.root).length<=1000000):VP Tryz.prog G 99 [.agg (cT t),aj 1 cB k] (.dF [ae (aV t k h t.root),ae (bn (t.pg (aV t k h t.root)) k:Nat),aW (jv t k h)]):=by
 refine bA func99 rfl ntmps99 aO fun X0 w0 bz=>?_;unfold cT;have dy:=ee;have tr:=akp (G:=G) t h v k;unfold cT at tr;obtain⟨iv,Z⟩:=IE (t:=t) (k:=k) (h:=h) (i:=t.root);obtain⟨q1,Po⟩:=v.leaf k;have aa:(aV t k h t.root).toNat<t.af.length:=(by omega)
 have I:t.pg (aV t k h t.root)=(t.af[(aV t k h t.root).toNat]'aa):=x4 q1;have po:=v.gB _ (kH q1);have SK:=v.qb;have abl:(jY t k h t.root).length<=1000000:=U;have ap1:=M7 (G:=G) (t.pg (aV t k h t.root)) k po.lJ (by have:=po.fm;omega);have ap2:VP Tryz.prog G 137 [.agg (cP (t.af[(aV t k h t.root).toNat]'aa)),aj 1 cB k] (ae (bn (t.af[(aV t k h t.root).toNat]'aa) k:Nat)):=(by rw[<-I];exact ap1)
 have ap3:∀x∈(t.af[(aV t k h t.root).toNat]'aa).keys,x.length<=maxLen:=fun x hx=>by rw[<-I] at hx;have:=(po.nf x hx).2;omega
 have E:(t.af[(aV t k h t.root).toNat]'aa).leaf=true:=(by rw[<-I];exact Po)
 have O:jv t k h=pz (t.af[(aV t k h t.root).toNat]'aa).keys k:=(by unfold jv;rw[I])
 have kZ:=po.fm;have ap4:=(Ww po k)
 rw[I] at kZ ap4;refine cq ?_;refine dm [_,_] (fun b2=>?_);refine ap 42 [1,2] ?_;refine cW [1,2,7] (tr) ?_;refine cJ [1,2,4] ?_;refine aM 4 ?_ (h:=by exact(ei 1 (h:=by first|exact .l (j:=(jY t k h t.root).length-1) w4 iv|exact .r (j:=(jY t k h t.root).length-1) w4 iv)));refine aM 0 ?_ (h:=by exact(ez (mk:=Op.load 3) rfl ot (uf (d:=ae (aV t k h t.root)) (i:=(jY t k h t.root).length-1) fp isAgg3 iv (by rw[Z];rfl))));refine bB ?_;refine az 5 ?_;refine cD (ds:=[_,_,_,_,_]) au rfl rfl zeroValue165 rfl (fun b8=>?_);refine aN 0 [_,_,_,_,_] sizeOf165 ?_;refine ap 42 [1,4,8] ?_;refine cW [1,4,5,8] (ap2) ?_;refine az 8 ?_;refine cz 33 (fun ap5 anq=>?_) (fun ap5 anq=>?_)
 ·refine aF 6 ?_;refine pS jq rfl rfl rfl call95 (Pn ((t.af[(aV t k h t.root).toNat]'aa).keys[bn (t.af[(aV t k h t.root).toNat]'aa) k]'w4) k (ap3 _ (getElem_mem _)) eT) ⟨ot,ot,trivial⟩ ?_;refine eA 42 [4,5,6] [] ?_;rw[O,I];first|exact⟨by rw[XY E w4],rfl⟩|exact⟨by rw[<-XZ E w4],rfl⟩
 refine bL [4,5,6] ?_;refine eD [] ?_;rw[O,I];first|exact⟨by rw[XY E w4],rfl⟩|exact⟨by rw[<-XZ E w4],rfl⟩
end Tw
namespace Tw
open Go.Proofs.Tryz
open Go.RowKit V Tr Pk
abbrev oT(ls:List Int)(ad:Option Addr)(cap:Nat)(S:List ag):Prop:=bF 3 1 (ls.flatMap cI) ls.length ad cap S
abbrev pW(ls:List K)(ad:Option Addr)(cap:Nat)(S:List ag):Prop:=bF 83 1 (ls.flatMap cK) ls.length ad cap S
variable {G:List (Nat×List Value)}
theorem ag3:(Tryz.prog.info? 5).map (fun i=>(i.zero,i.size,i.bytes))=some (some (.int .u8 0),1,1):=by kernel_rfl
theorem nY(a:List UInt8)(ha:a.length<=1000000):VP Tryz.prog G 93 [aj 1 cB a] (aj 1 cB a):=by
 refine bA func93 rfl ntmps93 aO fun X0 w0 bz=>?_;have dy:=ee;refine ay [0] ?_;refine az 1 ?_;refine Bx au rfl rfl ot bP underlying83 (fun O AA=>?_);refine ap 8 [0,4] ?_;refine bX ?_ ?_<;>intro aP bH
 ·exact aaK
 refine cq ?_;refine By au rfl rfl runUnderlying83 sizeOf5 (fun b5=>?_);refine aF 1 ?_;refine tN (ls:=([]:List UInt8)) (new:=a) (Sq:=[⟨b5,5,0*1,[]⟩]) qS zz au rfl rfl underlying83 ag3 rfl w7 runUnderlying83 sizeOf5 ot (.inr ⟨b5,rfl,Nat.le_refl _,Nat.zero_le _,rfl⟩) (dL (A:=[])) ot jk jk (fun E I S7 sg=>?_);exact aa1
theorem ag4:(Tryz.prog.info? 3).map (fun i=>(i.zero,i.size,i.bytes))=some (some (.int .i64 0),1,8):=by kernel_rfl
theorem tQ(a:List Int)(ha:a.length<=1000000):VC Tryz.prog G 138 [aj 1 cI a] [] (fun r S=>∃ad cap,r=aS ad a.length cap/\oT a ad cap S):=by
 refine bA func138 rfl ntmps138 aO fun X0 w0 bz=>?_;have dy:=ee;refine ay [0] ?_;refine az 1 ?_;refine Bx au rfl rfl ot bP underlying27 (fun O AA=>?_);refine ap 8 [0,4] ?_;refine bX ?_ ?_<;>intro aP bH
 ·exact z70
 refine cq ?_;refine By au rfl rfl runUnderlying27 sizeOf3 (fun b5=>?_);refine aF 1 ?_;refine tN (ls:=([]:List Int)) (new:=a) (Sq:=[⟨b5,3,0*1,[]⟩]) fp pV au rfl rfl underlying27 ag4 rfl w7 runUnderlying27 sizeOf3 ot (.inr ⟨b5,rfl,Nat.le_refl _,Nat.zero_le _,rfl⟩) (dL (A:=[])) ot jk jk (fun E I S7 sg=>?_);exact KU
theorem afN:(Tryz.prog.info? 83).map (fun i=>(i.zero,i.size,i.bytes))=some (some (.slice none 0 0),1,24):=by kernel_rfl
theorem y6(a:List K)(ha:a.length<=1000000):VC Tryz.prog G 169 [aj 1 cK a] [] (fun r S=>∃ad cap,r=aS ad a.length cap/\pW a ad cap S):=by
 refine bA func169 rfl ntmps169 aO fun X0 w0 bz=>?_;have dy:=ee;refine ay [0] ?_;refine az 1 ?_;refine Bx au rfl rfl ot bP underlying163 (fun O AA=>?_);refine ap 8 [0,4] ?_;refine bX ?_ ?_<;>intro aP bH
 ·exact z70
 refine cq ?_;refine By au rfl rfl runUnderlying163 sizeOf83 (fun b5=>?_);refine aF 1 ?_;refine tN (ls:=([]:List K)) (new:=a) (Sq:=[⟨b5,83,0*1,[]⟩]) iw rJ au rfl rfl underlying163 afN rfl w7 runUnderlying163 sizeOf83 ot (.inr ⟨b5,rfl,Nat.le_refl _,Nat.zero_le _,rfl⟩) (dL (A:=[])) ot jk jk (fun E I S7 sg=>?_);exact KU
structure bD where
 p:dU
 ak:Option Addr
 ck:Nat
 sk:List ag
 ai:Option Addr
 ci:Nat
 si:List ag
def gO(o:bD):List D:=[aW o.p.leaf,aS o.ak o.p.keys.length o.ck,aS o.ai o.p.kids.length o.ci,aj 1 cB o.p.high,ae o.p.next]
theorem jL(o:bD):(gO o).length=5:=rfl
theorem IR(o:bD):(gO o).all V.one=true:=rfl
def bO(o:bD):List ag:=o.sk++o.si
def tI(o:bD):Prop:=pW o.p.keys o.ak o.ck o.sk/\oT o.p.kids o.ai o.ci o.si
theorem X2{S:List ag}:∀{L:List bD},(∀o∈L,tI o)->(∀B∈L.flatMap bO,B∈S)->iO S (L.flatMap gO) ((L.map bD.p).flatMap cP)
 | [],_,_=>trivial
 | o::L,h,hs=>by
  rw[map_cons,flatMap_cons,flatMap_cons];obtain⟨h1,h2⟩:=h o mem_cons_self;refine iO.append ⟨fN,n8 h1 (dg iw _) (fun B hB=>hs B ?_),n8 h2 (dg fp _) (fun B hB=>hs B ?_),fN,fN,trivial⟩ (X2 (fun o ho=>h o (mem_cons_of_mem _ ho)) fun B hB=>hs B ?_)
  ·rw[flatMap_cons];exact mem_append_left _ (mem_append_left _ hB)
  ·rw[flatMap_cons];exact mem_append_left _ (mem_append_right _ hB)
  rw[flatMap_cons];exact mem_append_right _ hB
abbrev wM(L:List bD)(ad:Option Addr)(cap:Nat)(S:List ag):Prop:=bF 165 5 (L.flatMap gO) L.length ad cap S
theorem OH{S Sx:List ag}{L:List bD}{ad:Option Addr}{cap:Nat}{root:Int}(ho:wM L ad cap Sx)(h:∀o∈L,tI o)(hs:∀B∈Sx++L.flatMap bO,B∈S) :
  View S (.agg [aS ad L.length cap,ae root]) (.agg (cT ⟨L.map bD.p,root⟩)):=by
 refine xz ⟨?_,fN,trivial⟩;have:=DG ho (X2 h fun B hB=>hs B (mem_append_right _ hB)) (dg I7 _ |>.trans bC) (fun B hB=>hs B (mem_append_left _ hB));first|rw[length_map]|(show View _ _ (.list _ _ (length _));rw[length_map])|(show View _ _ (.agg [.list _ _ (length _)]);rw[length_map])
 exact this
def Kb(t:aI)(r:D)(S:List ag):Prop:=∃L ad cap Sx,r = .agg [aS ad (length L) cap,ae t.root]/\wM L ad cap Sx/\(∀o∈L,tI o)/\L.map bD.p=t.af/\S=Sx++L.flatMap bO
theorem W7(L:List bD)(o:bD):(L++[o]).flatMap bO=L.flatMap bO++bO o:=by simp
theorem sH{α:Type}{l:List α}{j:Nat}(h:j<l.length):take j l++[l[j]]=take (j+1) l:=(take_succ_eq_append_getElem h).symm
theorem afO:(Tryz.prog.info? 83).map (fun i=>(i.zero,i.size,i.bytes))=some (some (.slice none 0 0),1,24):=by kernel_rfl
theorem ae0:(Tryz.prog.info? 165).map (fun i=>(i.zero,i.size,i.bytes))=some (some (.agg #[.bool false,.slice none 0 0,.slice none 0 0,.slice none 0 0,.int .i64 0]),5,88):=by kernel_rfl
theorem Ty : ∀ w, ((#[{ name := "Leaf", type := 4, offset := 0, embedded := false, tag := "", pkgPath := "", byteOffset := 0 }, { name := "Keys", type := 163, offset := 1, embedded := false, tag := "", pkgPath := "", byteOffset := 8 }, { name := "Kids", type := 27, offset := 2, embedded := false, tag := "", pkgPath := "", byteOffset := 32 }, { name := "High", type := 83, offset := 3, embedded := false, tag := "", pkgPath := "", byteOffset := 56 }, { name := "Next", type := 3, offset := 4, embedded := false, tag := "", pkgPath := "", byteOffset := 80 }] : Array Field).mapM fun f => do pure (f.offset, ← sizeOf f.type) : Sem (Array (Nat × Nat))).run Tryz.prog w = .ok #[(0, 1), (1, 1), (2, 1), (3, 1), (4, 1)] w := fun w => by simp [sizeOf163, sizeOf27, sizeOf3, sizeOf4, sizeOf83]
theorem I8(t:aI)(h:Nat)(v:Valid t h):VC Tryz.prog G 139 [.agg (cT t)] [] (Kb t):=by
 refine bA func139 rfl ntmps139 aO fun X0 w0 bz=>?_;unfold cT;have dy:=ee;have hval:=v;have SK:=v.qb;refine cq ?_;refine dm [_,_] (fun b1=>?_);refine cD (ds:=[_,_]) au rfl rfl zeroValue74 rfl (fun b2=>?_);refine ap 51 [1,2] ?_;refine az 3 ?_;refine cD (ds:=[_,_]) au rfl rfl zeroValue74 rfl (fun b3=>?_);refine aN 0 [_,_] sizeOf74 ?_;refine ap 51 [1,2,3] ?_;refine ay [2,3,13,14,15] ?_;refine eZ [2,3,13,14] (fun aU _ (aR:Nat×List bD×Option Addr×Nat×List ag) aE=>match aR with|(i,L,eJ,dW,Sx)=>(i<=t.af.length)/\(L.map bD.p=t.af.take i)/\(∀o∈L,tI o)/\(wM L eJ dW Sx)/\aE=(⟨51,(15,ae (i:Nat))::aU,(⟨b3,74,2,[aS eJ L.length dW,ae t.root]⟩::⟨b2,74,2,[aJ,ae 0]⟩::(Sx++L.flatMap bO))⟩:St)) (fun (aR:Nat×List bD×Option Addr×Nat×List ag)=>match aR with|(i,L,eJ,dW,Sx)=>t.af.length-i) (0,([]:List bD),none,0,[]) ⟨(Nat.zero_le _),rfl,(fun o h=>by cases h),jt,rfl⟩ ?_;rintro⟨i,L,eJ,dW,Sx⟩ _ ⟨hi,hL,bf,eW,rfl⟩;refine ax [2,3,13,14,15,16] ?_ ?_<;>intro aP bH
 ·have aa:i<t.af.length:=(by omega)
  have po:=v.gB _ (getElem_mem aa);have sD:L.length=i:=(by have:=congrArg length hL;rw[length_map,length_take] at this;omega)
  have kZ:=po.fm;have hhl:=po.hlen;have Jv:(t.af[i]'aa).kids.length<=5:=by
      exact aaM
  refine az 2 ?_;refine cD (ds:=[_,_,_,_,_]) au rfl rfl zeroValue165 rfl (fun b5=>?_);refine aN 0 [_,_,_,_,_] sizeOf165 ?_;refine ap 51 [2,3,5,13,14,15] ?_;refine cq ?_;refine bL [2,3,5,6,13,14,15] ?_;refine ay [2,3,5,6,13,14,15,20,21,22] ?_;refine kU ?_;refine oB (fun (aR:Nat×Option Addr×Nat×List ag) aE=>match aR with|(j,jC,jD,Sy)=>(j<=(t.af[i]'aa).keys.length)/\(pW (take j (t.af[i]'aa).keys) jC jD Sy)/\aE=(⟨51,[(2,dw b2),(3,dw b3),(5,dw b5),(6,aS jC (take j (t.af[i]'aa).keys).length jD),(13,aj 5 cP t.af),(14,ae (t.af.length:Nat)),(15,ae (i:Nat)),(20,.list 1 ((t.af[i]'aa).keys.flatMap cK) (t.af[i]'aa).keys.length),(21,ae ((t.af[i]'aa).keys.length:Nat)),(22,ae (j:Nat))],(⟨b5,165,5,cP (t.af[i]'aa)⟩::⟨b3,74,2,[aS eJ L.length dW,ae t.root]⟩::⟨b2,74,2,[aJ,ae 0]⟩::(Sy++(Sx++L.flatMap bO)))⟩:St)) (fun (aR:Nat×Option Addr×Nat×List ag)=>match aR with|(j,jC,jD,Sy)=>(t.af[i]'aa).keys.length-j) (0,none,0,[]) ⟨(Nat.zero_le _),jt,rfl⟩ (aL (h:=w81)) ?_;rintro⟨j,jC,jD,Sy⟩ _ ⟨hj,I,rfl⟩;refine ax [2,3,5,6,13,14,15,20,21,22,23] ?_ ?_<;>intro bg cM
  ·have jz:j<(t.af[i]'aa).keys.length:=(by omega)
   have QF:=(po.nf _ (getElem_mem jz)).2;refine ay [2,3,5,6,8,13,14,15,20,21,22] ?_;refine dB 2 ?_;refine dK call93 (nY (t.af[i]'aa).keys[j] w4) ?_;refine eR (cU 0 [_]) [.slice none 0 0] [_] zeroValue83 runUnderlying163 sizeOf83 (fun b29=>?_);refine gb 0 29 1 1 ?_;refine gi (ls:=(take j (t.af[i]'aa).keys)) (new:=[(t.af[i]'aa).keys[j]]) (Sq:=Sy) iw rJ au rfl rfl underlying163 afO rfl w7 ot I (MU (A:=[_,_,_])) ot bC x7 jk (fun O E Z Qy=>?_);refine cg (VO (S1:=[⟨O,83,E*1,flatMap cK ((take j (t.af[i]'aa).keys)++[(t.af[i]'aa).keys[j]])⟩]) (A:=[_,_,_])) ?_;refine ap 51 [2,3,5,6,13,14,15,20,21,22] ?_;refine bM [2,3,5,6,13,14,15,20,21,22] ?_;refine⟨((j+1),(some ⟨O,0,none⟩),E,[⟨O,83,E*1,flatMap cK ((take j (t.af[i]'aa).keys)++[(t.af[i]'aa).keys[j]])⟩]),_,cR,(aL (h:=w81)),w4,(bF.cast (cj Z Qy) (sH jz)),rfl⟩
  have hjt:take j (t.af[i]'aa).keys=(t.af[i]'aa).keys:=take_of_length_le w4;rw[hjt] at I |-;refine qm ?_;refine iX 16 (aq (take 1 _)) ?_ (fun _ h=>(Sublist.map _ (take_sublist _ _)).subset h);refine iD [0,2,3,4,5,6,8,9,11,12] ?_;refine ew.later rfl ?_;refine mC (i:=1) (j:=7) aD ?_ ?_
  ·refine at_ rfl (gW 1) ?_;refine bV (i:=7) aD ?_;refine lq rfl au rfl rfl rfl call138 (tQ (t.af[i]'aa).kids w4) ⟨ot,trivial⟩ (fj _) (fun b hb=>by simp[aq,St.put] at hb |-;try simp[hb]) ?_;rintro _ Sz ⟨nR,nS,rfl,U⟩;refine gS (lP (A:=[_,_,_])) ?_;have yC:(L++[(⟨(t.af[i]'aa),jC,jD,Sy,nR,nS,Sz⟩:bD)]).map bD.p=t.af.take (i+1):=(by rw[map_append,hL];exact sH aa)
   have lH:∀o∈L++[(⟨(t.af[i]'aa),jC,jD,Sy,nR,nS,Sz⟩:bD)],tI o:=fun o ho=>by rcases mem_append.1 ho with ho|ho;exact bf o ho;rw[mem_singleton] at ho;subst ho;exact⟨I,U⟩
   exact z159
  refine lq rfl au rfl rfl rfl call138 (tQ (t.af[i]'aa).kids w4) ⟨ot,trivial⟩ (fj _) (fun b hb=>by simp[aq,St.put] at hb |-;try simp[hb]) ?_;rintro _ Sz ⟨nR,nS,rfl,U⟩;refine gS (lP (A:=[_,_,_])) ?_;have yC:(L++[(⟨(t.af[i]'aa),jC,jD,Sy,nR,nS,Sz⟩:bD)]).map bD.p=t.af.take (i+1):=(by rw[map_append,hL];exact sH aa)
  have lH:∀o∈L++[(⟨(t.af[i]'aa),jC,jD,Sy,nR,nS,Sz⟩:bD)],tI o:=fun o ho=>by rcases mem_append.1 ho with ho|ho;exact bf o ho;rw[mem_singleton] at ho;subst ho;exact⟨I,U⟩
  refine mC (i:=1) (j:=10) aD ?_ ?_
  ·refine at_ rfl (gW 1) ?_;exact z159
  refine sj call93 (nY (t.af[i]'aa).high w4) ?_;refine dX 13 rfl (nZ (pl:=[(0,_),(1,_),(2,_),(3,_),(4,_)]) (ds:=[_,_,_,_,_]) rfl zeroValue165 runUnderlying165 Ty ⟨rfl,ot,rfl,ot,rfl,ot,rfl,ot,rfl,ot,trivial⟩ rfl rfl) ?_;refine mC (i:=1) (j:=14) aD ?_ ?_
  ·refine at_ rfl (gW 1) ?_;refine bV (i:=14) aD ?_;refine oZ (cU 0 [_]) [.bool false,.slice none 0 0,.slice none 0 0,.slice none 0 0,.int .i64 0] [_,_,_,_,_] zeroValue165 runUnderlying72 sizeOf165 (fun C8=>?_);refine o8 0 46 5 1 ?_;exact z7
  refine oZ (cU 0 [_]) [.bool false,.slice none 0 0,.slice none 0 0,.slice none 0 0,.int .i64 0] [_,_,_,_,_] zeroValue165 runUnderlying72 sizeOf165 (fun C8=>?_);refine o8 0 46 5 1 ?_;refine bV (i:=1) aD ?_;refine at_ rfl (gW 1) ?_;exact z7
 refine az 1 ?_;refine aN 1 [_,_] sizeOf74 ?_;refine eA 51 [2] (Sx++L.flatMap bO) ?_;exact⟨L,eJ,dW,Sx,rfl,eW,bf,by rw[hL,take_of_length_le w4],rfl⟩
end Tw
namespace Tw
open Go.Proofs.Tryz
open Go.RowKit V Go.Proofs.YtihmfhcjbmlnaaaGreatDoor.Tr Pk
open Go.Lib (compareBytes)
variable {t:aI} {lv:List (List Int)} {level:Nat} {i:Int}
structure pX (t:aI) (s:kC):Prop where
 nd:s.1.Nodup
 rg:∀x∈s.1,0<=x/\x<t.af.length
 fm:s.2.length<=s.1.length
 each:∀l∈s.2,l.length<=s.1.length
 el:∀l∈s.2,∀x∈l,0<=x/\x<t.af.length
theorem aiO{n:Nat}{l:List Int}(h:l.Nodup)(hr:∀x∈l,0<=x/\x<n):l.length<=n:=by
 induction n generalizing l with
 | zero =>
  cases l with
  | nil=>simp
  | cons a l=>have:=hr a mem_cons_self;omega
 | succ n ih =>
  have h1:=ih (l:=l.erase (n:Int)) (h.erase _) fun x hx=>by
   have h2:=(h.mem_erase_iff).1 hx;have h3:=hr x h2.2;have:=h2.1;omega
  rw[length_erase] at h1;split at h1<;>omega
theorem pX.qb{s:kC}(h:pX t s):s.1.length<=t.af.length:=aiO h.nd h.rg
theorem ag5{n:Nat}(h:∀l∈lv,l.length<=n):∀l∈mj lv level i,l.length<=n+1:=fun l hl=>by
 obtain⟨j,hj,rfl⟩:=mem_iff_getElem.1 hl;have e:(mj lv level i)[j]=(mj lv level i).getD j []:=(by rw[getD_eq_getElem?_getD,getElem?_eq_getElem hj];rfl)
 rw[e,ID,length_append];have h1:(lv.getD j []).length<=n:=by
  rw[getD_eq_getElem?_getD];rcases Nat.lt_or_ge j lv.length with q|q
  ·rw[getElem?_eq_getElem q];exact h _ (getElem_mem q)
  rw[getElem?_eq_none q];simp
 split
 ·simp only[length_cons,length_nil];omega
 simp only[length_nil];omega
theorem akq{Q:Int->Prop}(h:∀l∈lv,∀x∈l,Q x)(hi:Q i):∀l∈mj lv level i,∀x∈l,Q x:=fun l hl x hx=>by
 obtain⟨j,hj,rfl⟩:=mem_iff_getElem.1 hl;have e:(mj lv level i)[j]=(mj lv level i).getD j []:=(by rw[getD_eq_getElem?_getD,getElem?_eq_getElem hj];rfl)
 rw[e,ID,mem_append] at hx;rcases hx with hx|hx
 ·rw[getD_eq_getElem?_getD] at hx;rcases Nat.lt_or_ge j lv.length with q|q
  ·rw[getElem?_eq_getElem q] at hx;exact h _ (getElem_mem q) x hx
  rw[getElem?_eq_none q] at hx;cases hx
 split at hx
 ·rw[mem_singleton] at hx;subst hx;exact hi
 cases hx
theorem pX.add{s:kC}(h:pX t s)(hi:0<=i/\i<t.af.length)(hn:i∉s.1)(hl:level<=s.1.length):pX t (s.1++[i],mj s.2 level i):=by
 refine⟨?_,fun x hx=>?_,?_,?_,akq h.el hi⟩
 ·exact nodup_append.2 ⟨h.nd,by simp,fun a ha b hb e=>by rw[mem_singleton] at hb;subst hb;subst e;exact hn ha⟩
 ·rcases mem_append.1 hx with hx|hx
  ·exact h.rg x hx
  rw[mem_singleton] at hx;subst hx;exact hi
 ·show(mj s.2 level i).length<=(s.1++[i]).length;rw[M6,length_append];have:=h.fm;simp;omega
 show ∀l∈mj s.2 level i,l.length<=(s.1++[i]).length;rw[length_append];exact ag5 h.each
theorem Wx{t:aI}{go:Int->K->K->kC->Option (Nat×kC)}{low:K}{p:dU}{n:Nat}(E:∀(c:Int) lo hi s d s',(0<=c/\c<t.af.length)->pX t s->n<=s.1.length->go c lo hi s=some (d,s')->pX t s'/\s.1.length<=s'.1.length) :
  ∀(cs:List Int) (k:Nat) (deep:Option Nat) (s:kC) (d:Nat) (s':kC),(∀c∈cs,0<=c/\c<t.af.length)->pX t s->n<=s.1.length->nH go low p cs k deep s=some (d,s')->pX t s'/\s.1.length<=s'.1.length
 | [],k,deep,s,d,s',_,hs,_,h=>by
  rw[nH] at h;cases deep with
  | none=>cases h
  | some e=>simp at h;rw[<-h.2];exact⟨hs,Nat.le_refl _⟩
 | c::cs,k,deep,s,d,s',hc,hs,hn,h=>by
  rw[nH] at h;cases hg:go c (jr low p k) (jd p k) s with
  | none=>rw[hg] at h;cases h
  | some q =>
   obtain⟨d1,s1⟩:=q;rw[hg] at h;obtain⟨h1,h2⟩:=E _ _ _ _ _ _ (hc c mem_cons_self) hs hn hg;change (if deep=none\/deep=some d1 then nH go low p cs (k+1) (some d1) s1 else none)=_ at h;split at h
   ·obtain⟨h3,h4⟩:=Wx E cs _ _ _ _ _ (fun c wW=>hc c (mem_cons_of_mem _ wW)) h1 w4 h;exact⟨h3,by omega⟩
   cases h
theorem UZ{p:dU}(hp:fq p t.af.length)(hl:p.leaf=false):∀c∈p.kids,0<=c/\c<t.af.length:=fun c hc=>⟨hp.aB c hc,hp.yg hl c hc⟩
theorem NZ{t:aI}(hp:xH t):∀(f:Nat) (i:Int) (lo hi:K) (level:Nat) (s:kC) (d:Nat) (s':kC),(0<=i/\i<t.af.length)->pX t s->level<=s.1.length->kg t f i lo hi level s=some (d,s')->pX t s'/\s.1.length<=s'.1.length
 | 0,i,lo,hi,level,s,d,s',_,_,_,h=>by rw[kg] at h;cases h
 | f+1,i,lo,hi,level,s,d,s',hr,hs,hl,h=>by
  rw[kg] at h;split at h
  ·cases h
  rename_i hn;split at h
  ·cases h
  have ha:=hs.add hr hn hl;have hlen:s.1.length+1=(s.1++[i]).length:=(by simp)
  split at h
  ·simp at h;rw[<-h.2];exact⟨ha,by show s.1.length<=(s.1++[i]).length;omega⟩
  rename_i gJ;have gJ:(t.pg i).leaf=false:=(by simpa using gJ)
  obtain⟨h1,h2⟩:=Wx (n:=level+1) (fun c lo hi s d s' hc hs hn h=>NZ hp f c lo hi (level+1) s d s' hc hs hn h) _ _ _ _ _ _ (UZ (hp _ (kH hr)) gJ) ha (by show level+1<=(s.1++[i]).length;omega) h;have h3:(s.1++[i]).length<=s'.1.length:=h2;exact⟨h1,by omega⟩
structure ev where
 l:List Int
 ad:Option Addr
 cp:Nat
 s:List ag
variable {L L1:List ev}
def gV(o:ev):List D:=[aS o.ad o.l.length o.cp]
theorem Eo(o:ev):(gV o).length=1:=rfl
theorem alX(o:ev):(gV o).all V.one=true:=rfl
def pc(o:ev):Prop:=oT o.l o.ad o.cp o.s
def uB:ev:=⟨[],none,0,[]⟩
theorem akr:pc uB:=.inl ⟨rfl,rfl,rfl,rfl,rfl⟩
abbrev CM(L:List ev)(ad:Option Addr)(cap:Nat)(S:List ag):Prop:=bF 27 1 (L.flatMap gV) L.length ad cap S
def abm(t:aI)(b bm:Nat)(n:Nat)(ad:Option Addr)(cap:Nat):ag:=⟨b,171,4,[aj 5 cP t.af,ae t.root,.v (.map (some bm)),aS ad n cap]⟩
def SW(t:aI)(b bm:Nat)(m:List Int)(L:List ev)(ad:Option Addr)(cap:Nat)(Sx:List ag):List ag:=abm t b bm L.length ad cap::mH bm m::(Sx++L.flatMap ev.s)
def abn(t:aI)(b bm:Nat):Option (Nat×kC)->D->List ag->Prop
 | none,r,S=>r = .v (.int .i64 (-1))/\S=[]
 | some (d,s),r,S=>r = .v (.int .i64 (d:Nat))/\∃L ad cap Sx,CM L ad cap Sx/\(∀o∈L,pc o)/\L.map ev.l=s.2/\S=SW t b bm s.1 L ad cap Sx
theorem BW{α:Type}(g:α->List ag):∀{L:List α} {j:Nat} (h:j<L.length),(L.flatMap g).Perm (g L[j]++(L.eraseIdx j).flatMap g)
 | a::L,0,_=>by simp
 | a::L,j+1,h=>by
  have ih:=BW g (L:=L) (j:=j) qz;simp only[flatMap_cons,getElem_cons_succ,eraseIdx_cons_succ];refine(ih.append_left (g a)).trans ?_;rw[<-append_assoc,<-append_assoc];exact List.perm_append_comm.append_right _
theorem Bv{α:Type}(g:α->List ag){L:List α}{j:Nat}(h:j<L.length)(a:α):((L.set j a).flatMap g).Perm (g a++(L.eraseIdx j).flatMap g):=by
 have:=BW g (L:=L.set j a) (j:=j) (by rw[length_set];exact h);rw[getElem_set_self,eraseIdx_set_eq] at this;exact this
def vf:Option Nat->Int
 | none=>-2
 | some d=>d
variable {G:List (Nat×List Value)}
theorem alY{f:Nat}{low high:K}{s:kC}(h:i∈s.1):kg t (f+1) i low high level s=none:=by rw[kg,if_pos h]
theorem X3{f:Nat}{low high:K}{s:kC}(h:((t.pg i).high≠high\/∃k,(t.pg i).keys.head?=some k/\bI k low)):kg t (f+1) i low high level s=none:=by
 rw[kg];by_cases hi:i∈s.1
 ·rw[if_pos hi]
 rw[if_neg hi,if_pos h]
theorem aiP{f:Nat}{low high:K}{s:kC}(h:i∉s.1)(h2:¬((t.pg i).high≠high\/∃k,(t.pg i).keys.head?=some k/\bI k low))(h3:(t.pg i).leaf=true):kg t (f+1) i low high level s=some (level,(s.1++[i],mj s.2 level i)):=by rw[kg,if_neg h,if_neg h2,if_pos h3]
theorem aiQ{f:Nat}{low high:K}{s:kC}(h:i∉s.1)(h2:¬((t.pg i).high≠high\/∃k,(t.pg i).keys.head?=some k/\bI k low))(h3:(t.pg i).leaf=false):kg t (f+1) i low high level s=nH (fun c lo hi s=>kg t f c lo hi (level+1) s) low (t.pg i) (t.pg i).kids 0 none (s.1++[i],mj s.2 level i):=by rw[kg,if_neg h,if_neg h2,if_neg (by rw[h3];decide)]
section
variable {go:Int->K->K->kC->Option (Nat×kC)} {low:K} {p:dU} {k:Nat} {deep:Option Nat} {s s':kC} {d:Nat}
theorem ag6(hk:k<p.kids.length)(h:go p.kids[k] (jr low p k) (jd p k) s=none):nH go low p (p.kids.drop k) k deep s=none:=by rw[drop_eq_getElem_cons hk,nH,h]
theorem U0(hk:k<p.kids.length)(h:go p.kids[k] (jr low p k) (jd p k) s=some (d,s'))(hd:deep=none\/deep=some d):nH go low p (p.kids.drop k) k deep s=nH go low p (p.kids.drop (k+1)) (k+1) (some d) s':=by
 rw[drop_eq_getElem_cons hk,nH,h];show(if deep=none\/deep=some d then _ else _)=_;rw[if_pos hd]
theorem aiR(hk:k<p.kids.length)(h:go p.kids[k] (jr low p k) (jd p k) s=some (d,s'))(hd:¬(deep=none\/deep=some d)):nH go low p (p.kids.drop k) k deep s=none:=by
 rw[drop_eq_getElem_cons hk,nH,h];show(if deep=none\/deep=some d then _ else _)=_;rw[if_neg hd]
theorem aiS(hk:p.kids.length<=k):nH go low p (p.kids.drop k) k deep s=deep.map fun d=>(d,s):=by rw[drop_of_length_le hk,nH]
end
theorem ag7:(L++[uB]).flatMap ev.s=L.flatMap ev.s:=by simp[uB]
theorem aks(h:L1.map ev.l=L.map ev.l++replicate (L1.length-L.length) [])(h1:L.length<=L1.length)(h2:L1.length<=max L.length (level+1))(h3:level<L1.length):L1.map ev.l=vt (L.map ev.l) (level+1):=by
 rw[h];unfold vt;rw[length_map,show L1.length-L.length=level+1-L.length from by omega]
theorem N0{o:ev}(h:L1.map ev.l=vt (L.map ev.l) (level+1))(h3:level<L1.length)(ho:o.l=L1[level].l++[i]):(L1.set level o).map ev.l=mj (L.map ev.l) level i:=by
 rw[map_set,ho];unfold mj;rw[<-h,getD_eq_getElem?_getD,getElem?_eq_getElem (by rw[length_map];exact h3),getElem_map];rfl
theorem X4{j:Nat}{o:ev}(h:∀o∈L,pc o)(ho:pc o):∀x∈L.set j o,pc x:=fun x hx=>by
 rcases mem_or_eq_of_mem_set hx with hx|rfl
 ·exact h x hx
 exact ho
theorem ahR{deep:Option Nat}{d:Nat}(h:vf deep≠-2)(h2:(d:Int)=vf deep):deep=some d:=by
 cases deep with
 | none=>exact absurd rfl h
 | some e=>unfold vf at h2;simp only at h2;rw[show d=e from by omega]
theorem aiT{deep:Option Nat}{d:Nat}(h:vf deep≠-2)(h2:¬(d:Int)=vf deep):¬(deep=none\/deep=some d):=by
 rintro(rfl|rfl)
 ·exact h rfl
 exact h2 rfl
theorem agf{deep:Option Nat}(h:vf deep = -2):deep=none:=by
 cases deep with
 | none=>rfl
 | some e=>unfold vf at h;simp only at h;omega
def ZG(G:List (Nat×List Value))(t:aI)(b bm f:Nat):Prop:=∀(i:Int) (low high:K) (level:Nat) (m:List Int) (L:List ev) (ad:Option Addr) (cap:Nat) (Sx:List ag),(0<=i/\i<t.af.length)->pX t (m,(L.map ev.l))->level<=m.length->t.af.length+1<=f+m.length->high.length<=100->CM L ad cap Sx->(∀o∈L,pc o) ->
 VC Tryz.prog G 97 [dw b,ae i,aj 1 cB low,aj 1 cB high,ae (level:Nat)] (SW t b bm m L ad cap Sx) (abn t b bm (kg t f i low high level (m,(L.map ev.l))))
theorem U1:(Tryz.prog.info? 3).map (fun i=>(i.zero,i.size,i.bytes))=some (some (.int .i64 0),1,8):=by kernel_rfl
theorem afP:(Tryz.prog.info? 27).map (fun i=>(i.zero,i.size,i.bytes))=some (some (.slice none 0 0),1,24):=by kernel_rfl
theorem ag8(t:aI)(hp:xH t)(uC:t.af.length<=4000)(b bm f:Nat)(ih:ZG G t b bm f)(i:Int)(low high:K)(level:Nat)(m:List Int)(L:List ev)(ad:Option Addr)(cap:Nat)(Sx:List ag)(hr:0<=i/\i<t.af.length)(Kc:pX t (m,(L.map ev.l)))(Dn:level<=m.length)(hfu:t.af.length+1<=(f+1)+m.length)(hhg:high.length<=100)(oY:CM L ad cap Sx)(bf:∀o∈L,pc o) :
 VC Tryz.prog G 97 [dw b,ae i,aj 1 cB low,aj 1 cB high,ae (level:Nat)] (SW t b bm m L ad cap Sx) (abn t b bm (kg t (f+1) i low high level (m,(L.map ev.l)))):=by
 refine bA func97 rfl ntmps97 aO fun X0 w0 bz=>?_;unfold SW abm;have dy:=ee;have aa:i.toNat<t.af.length:=(by omega)
 have U:t.pg i=(t.af[i.toNat]'aa):=x4 hr;have po:fq (t.af[i.toNat]'aa) t.af.length:=hp _ (getElem_mem aa);have hhl:=po.hlen;have C1:=Kc.qb;have tH:m.length<=t.af.length:=C1;refine ay [0,1,2,3,4] ?_;refine az 5 ?_;refine bS (ago (i:=1) rfl ot ot rfl underlying168 underlying3 zeroValue215) ?_;refine aF 3 ?_;refine cD (ds:=[]) au rfl rfl zeroValue215 rfl (fun mQ=>?_);refine aN 0 [] sizeOf215 ?_;refine ap 148 [0,1,2,3,4,12] ?_;refine ax [0,1,2,3,4,29] ?_ ?_<;>intro aP bH
 ·have mN:i∈m:=(by simpa using aP)
  refine dS [10] [] ?_;rw[alY (by exact mN)];exact⟨rfl,rfl⟩
 have sy:i∉m:=(by simpa using aP)
 refine az 6 ?_;refine agp (i:=2) au rfl rfl ot ot ot rfl sy underlying168 underlying3 ?_;refine ap 148 [0,1,2,3,4] ?_;refine az 6 ?_;refine bS (ei 5 (h:=by first|exact .l (j:=i.toNat) (Int.toNat_of_nonneg hr.1).symm aa|exact .r (j:=i.toNat) (Int.toNat_of_nonneg hr.1).symm aa)) ?_;refine aF 1 ?_;refine cD (ds:=[_,_,_,_,_]) au rfl rfl zeroValue165 rfl (fun nQ=>?_);refine aN 0 [_,_,_,_,_] sizeOf165 ?_;refine ap 148 [0,1,2,3,4,13] ?_;refine iM [0,1,2,3,4] (fun aU _ aE=>∃(nQ:Nat),(¬((t.pg i).high≠high\/∃k,(t.pg i).keys.head?=some k/\bI k low))/\aE=(⟨148,(13,dw nQ)::aU,(⟨nQ,165,5,cP (t.af[i.toNat]'aa)⟩::⟨b,171,4,[aj 5 cP t.af,ae t.root,.v (.map (some bm)),aS ad L.length cap]⟩::mH bm (m++[i])::(Sx++L.flatMap ev.s))⟩:St)) ?_ ?_
 ·refine az 3 ?_;refine dK call95 (Pn (t.af[i.toNat]'aa).high high w4 w4) ?_;refine aF 2 ?_;refine cz 49 (fun Fm anr=>?_) (fun Fm anr=>?_)
  ·refine ap 148 [0,1,2,3,4,13,63] ?_;refine fu ?_;have pD:((t.pg i).high≠high\/∃k,(t.pg i).keys.head?=some k/\bI k low):=(by rw[U];first|exact .inl (by simpa using Fm)|exact .inr ⟨_,head?_eq_getElem? .. ▸ getElem?_eq_getElem w4,of_decide_eq_true bg⟩)
   refine dS [10] [] ?_;rw[X3 pD];exact⟨rfl,rfl⟩
  refine aF 5 ?_;refine cz 54 (fun CK Cc=>?_) (fun CK Cc=>?_)
  ·refine aF 2 ?_;refine qM jq rfl (ny (mk:=Op.indexAddr 163) rfl ot bP (by first|exact qj (j:=0) runUnderlying163 sizeOf83 rfl rV|exact qp (j:=0) runUnderlying163 sizeOf83 rfl rV)) ?_;refine aF 2 ?_;refine pS jq rfl rfl rfl call61 (zv ((t.af[i.toNat]'aa).keys[0]'w4) low) ⟨ot,ot,trivial⟩ ?_;refine ap 148 [0,1,2,3,4,13,63] ?_;refine bX ?_ ?_<;>intro bg cM
   ·have pD:((t.pg i).high≠high\/∃k,(t.pg i).keys.head?=some k/\bI k low):=(by rw[U];first|exact .inl (by simpa using Fm)|exact .inr ⟨_,head?_eq_getElem? .. ▸ getElem?_eq_getElem w4,of_decide_eq_true bg⟩)
    refine dS [10] [] ?_;rw[X3 pD];exact⟨rfl,rfl⟩
   have qv:¬((t.pg i).high≠high\/∃k,(t.pg i).keys.head?=some k/\bI k low):=(by rw[U];rintro(h|⟨k,hk,yd⟩);exact h (by simpa using Fm);first|(rw[head?_eq_getElem?,getElem?_eq_none w4] at hk;cases hk;done)|(rw[head?_eq_getElem?,getElem?_eq_getElem w4] at hk;cases hk;exact of_decide_eq_false bg yd))
   refine eI ?_;refine⟨_,aL,nQ,qv,rfl⟩
  refine ap 148 [0,1,2,3,4,13,63] ?_;refine gK ?_;have qv:¬((t.pg i).high≠high\/∃k,(t.pg i).keys.head?=some k/\bI k low):=(by rw[U];rintro(h|⟨k,hk,yd⟩);exact h (by simpa using Fm);first|(rw[head?_eq_getElem?,getElem?_eq_none w4] at hk;cases hk;done)|(rw[head?_eq_getElem?,getElem?_eq_getElem w4] at hk;cases hk;exact of_decide_eq_false bg yd))
  refine eI ?_;refine⟨_,aL,nQ,qv,rfl⟩
 rintro _ ⟨nQ,qv,rfl⟩;refine eZ [0,1,2,3,4,13] (fun aU _ (aR:List ev×Option Addr×Nat×List ag) aE=>match aR with|(L1,Lj,E,Gz)=>(CM L1 Lj E Gz)/\(∀o∈L1,pc o)/\(L1.map ev.l=L.map ev.l++replicate (L1.length-L.length) [])/\(L.length<=L1.length)/\(L1.length<=max L.length (level+1))/\aE=(⟨148,aU,(⟨nQ,165,5,cP (t.af[i.toNat]'aa)⟩::⟨b,171,4,[aj 5 cP t.af,ae t.root,.v (.map (some bm)),aS Lj L1.length E]⟩::mH bm (m++[i])::(Gz++L1.flatMap ev.s))⟩:St)) (fun (aR:List ev×Option Addr×Nat×List ag)=>match aR with|(L1,Lj,E,Gz)=>level+1-L1.length) (L,ad,cap,Sx) ⟨oY,bf,bC,(Nat.le_refl _),w4,rfl⟩ ?_;rintro⟨L1,Lj,E,Gz⟩ _ ⟨abo,s9,abp,ap6,ap7,rfl⟩;refine ax [0,1,2,3,4,13,70] ?_ ?_<;>intro cl di
 ·have kZ:=Kc.fm;have kZ:L.length<=m.length:=(by simpa using kZ)
  have fi:L1.length<=level:=(by omega)
  refine dB 5 ?_;refine eR (cU 0 [_]) [.slice none 0 0] [_] zeroValue27 runUnderlying169 sizeOf27 (fun b76=>?_);refine gb 0 76 1 1 ?_;refine gi (ls:=L1) (new:=[uB]) (Sq:=Gz) Eo alX au rfl rfl underlying169 afP rfl w7 ot abo (qO (A:=[_,_,_])) ot bC CS CS (fun SM QG Fp Fq=>?_);refine cg (lP (S1:=[⟨SM,27,QG*1,flatMap gV (L1++[uB])⟩]) (A:=[_,_,_])) ?_;rw[<-ag7 (L:=L1)];refine aF 2 ?_;refine aN 1 [_,_,_,_] sizeOf169 ?_;refine ap 148 [0,1,2,3,4,13] ?_;refine⟨((L1++[uB]),(some ⟨SM,0,none⟩),QG,[⟨SM,27,QG*1,flatMap gV (L1++[uB])⟩]),_,(by (show level+1-(L1++[uB]).length<level+1-L1.length;rw[length_append,show[uB].length=1 from rfl];omega)),aL,(cj Fp Fq),(fun o ho=>by rcases mem_append.1 ho with ho|ho;exact s9 o ho;rw[mem_singleton] at ho;subst ho;exact akr),(by rw[map_append,abp,append_assoc,length_append,show[uB].length=1 from rfl,show L1.length+1-L.length=L1.length-L.length+1 from by omega,replicate_succ'];rfl),yy,(by rw[length_append,show[uB].length=1 from rfl];omega),rfl⟩
 have fi:level<L1.length:=(by omega)
 have CN:=aks abp ap6 ap7 fi;obtain⟨bv,rfl,Fl,ZH,rfl⟩:=abo.pos w4;have eW:pc (L1[level]'fi):=s9 _ (getElem_mem fi);have nV:(L1[level]'fi).l.length<=m.length:=by
    have hz:(L1[level]'fi).l=(vt (L.map ev.l) (level+1)).getD level []:=(by rw[<-CN,getD_eq_getElem?_getD,getElem?_eq_getElem (by rw[length_map];exact fi),getElem_map];rfl)
    rw[hz,NY,getD_eq_getElem?_getD];rcases Nat.lt_or_ge level (L.map ev.l).length with q|q
    ·rw[getElem?_eq_getElem q];exact Kc.each _ (getElem_mem q)
    rw[getElem?_eq_none q];simp
 refine rE (Perm.cons _ (Perm.cons _ (Perm.cons _ ((BW ev.s fi).append_left _)))) ?_;refine qm ?_;refine cL ?_;refine CD.mono (Q:=fun aU aE=>aU=Exit.normal/\∃(o2:ev),(pc o2)/\(o2.l=(L1[level]'fi).l++[i])/\Wk aE (⟨148,[(0,dw b),(2,aj 1 cB low),(3,aj 1 cB high),(4,ae (level:Nat)),(13,dw nQ)],(⟨nQ,165,5,cP (t.af[i.toNat]'aa)⟩::⟨b,171,4,[aj 5 cP t.af,ae t.root,.v (.map (some bm)),aS (some ⟨bv,0,none⟩) (L1.set level o2).length E]⟩::mH bm (m++[i])::([⟨bv,27,E*1,flatMap gV (L1.set level o2)⟩]++(L1.set level o2).flatMap ev.s))⟩:St)) ?_ ?_
 ·refine Ny (aq (take 3 _)) aD (fun _ h=>(Sublist.map _ (take_sublist _ _)).subset h) ?_;refine iD [0,1,2,3,4,5,6,7,8,9,10,12] ?_;refine ew.later rfl ?_;refine mC (i:=11) (j:=13) aD ?_ ?_
  ·refine at_ rfl (ez (mk:=Op.load 27) rfl ot (kV (k:=3) (d:=aS (L1[level]'fi).ad (L1[level]'fi).l.length (L1[level]'fi).cp) (i:=level) Eo rfl rfl rfl isAgg27 fi rfl)) ?_;refine bV (i:=13) aD ?_;refine oZ (cU 0 [_]) [.int .i64 0] [_] zeroValue3 runUnderlying27 sizeOf3 (fun b93=>?_);refine o8 0 93 1 1 ?_;refine bV (i:=14) aD ?_;refine rz (ls:=(L1[level]'fi).l) (new:=[i]) (Sq:=(L1[level]'fi).s) fp pV rfl au rfl rfl underlying27 U1 rfl w7 ot eW (vT (A:=[_,_,_]) (S1:=[⟨bv,27,E*1,flatMap gV L1⟩])) ot bC pI pJ (fun mo lT QH QI=>?_);refine gS (ze (S2:=[⟨mo,3,lT*1,flatMap cI ((L1[level]'fi).l++[i])⟩]) (A:=[_,_,_])) ?_;refine dX 15 rfl (ei 1) ?_;refine bV (i:=16) aD ?_;refine xo (k:=3) (cs':=flatMap gV (L1.set level (⟨(L1[level]'fi).l++[i],some ⟨mo,0,none⟩,lT,[⟨mo,3,lT*1,flatMap cI ((L1[level]'fi).l++[i])⟩]⟩:ev))) rfl au rfl rfl ot rfl rfl ot rfl rfl sizeOf27 rfl aat ZV jB ?_;refine O8 (y:=⟨148,[(0,_),(2,_),(3,_),(4,_),(13,_)],(⟨nQ,165,5,[_,_,_,_,_]⟩::⟨b,171,4,[_,_,_,_]⟩::_::([⟨bv,27,E*1,flatMap gV (L1.set level (⟨(L1[level]'fi).l++[i],some ⟨mo,0,none⟩,lT,[⟨mo,3,lT*1,flatMap cI ((L1[level]'fi).l++[i])⟩]⟩:ev))⟩]++([⟨mo,3,lT*1,flatMap cI ((L1[level]'fi).l++[i])⟩]++((L1.eraseIdx level).flatMap ev.s))))⟩) (Wk.eN rfl rfl gg) rfl ?_;refine Is aD ?_
   exact⟨rfl,(⟨(L1[level]'fi).l++[i],some ⟨mo,0,none⟩,lT,[⟨mo,3,lT*1,flatMap cI ((L1[level]'fi).l++[i])⟩]⟩:ev),cj QH QI,rfl,by rw[length_set];exact Wk.perm (Perm.cons _ (Perm.cons _ (Perm.cons _ ((Bv ev.s fi (⟨(L1[level]'fi).l++[i],some ⟨mo,0,none⟩,lT,[⟨mo,3,lT*1,flatMap cI ((L1[level]'fi).l++[i])⟩]⟩:ev)).symm.append_left _))))⟩
  refine oZ (cU 0 [_]) [.int .i64 0] [_] zeroValue3 runUnderlying27 sizeOf3 (fun b93=>?_);refine o8 0 93 1 1 ?_;refine bV (i:=11) aD ?_;refine at_ rfl (ez (mk:=Op.load 27) rfl ot (kV (k:=3) (d:=aS (L1[level]'fi).ad (L1[level]'fi).l.length (L1[level]'fi).cp) (i:=level) Eo rfl rfl rfl isAgg27 fi rfl)) ?_;refine bV (i:=14) aD ?_;refine rz (ls:=(L1[level]'fi).l) (new:=[i]) (Sq:=(L1[level]'fi).s) fp pV rfl au rfl rfl underlying27 U1 rfl w7 ot eW (vT (A:=[_,_,_]) (S1:=[⟨bv,27,E*1,flatMap gV L1⟩])) ot bC pI pJ (fun mo lT QH QI=>?_);refine gS (ze (S2:=[⟨mo,3,lT*1,flatMap cI ((L1[level]'fi).l++[i])⟩]) (A:=[_,_,_])) ?_;refine dX 15 rfl (ei 1) ?_;refine bV (i:=16) aD ?_;refine xo (k:=3) (cs':=flatMap gV (L1.set level (⟨(L1[level]'fi).l++[i],some ⟨mo,0,none⟩,lT,[⟨mo,3,lT*1,flatMap cI ((L1[level]'fi).l++[i])⟩]⟩:ev))) rfl au rfl rfl ot rfl rfl ot rfl rfl sizeOf27 rfl aat ZV jB ?_;refine O8 (y:=⟨148,[(0,_),(2,_),(3,_),(4,_),(13,_)],(⟨nQ,165,5,[_,_,_,_,_]⟩::⟨b,171,4,[_,_,_,_]⟩::_::([⟨bv,27,E*1,flatMap gV (L1.set level (⟨(L1[level]'fi).l++[i],some ⟨mo,0,none⟩,lT,[⟨mo,3,lT*1,flatMap cI ((L1[level]'fi).l++[i])⟩]⟩:ev))⟩]++([⟨mo,3,lT*1,flatMap cI ((L1[level]'fi).l++[i])⟩]++((L1.eraseIdx level).flatMap ev.s))))⟩) (Wk.eN rfl rfl gg) rfl ?_;refine Is aD ?_
  exact⟨rfl,(⟨(L1[level]'fi).l++[i],some ⟨mo,0,none⟩,lT,[⟨mo,3,lT*1,flatMap cI ((L1[level]'fi).l++[i])⟩]⟩:ev),cj QH QI,rfl,by rw[length_set];exact Wk.perm (Perm.cons _ (Perm.cons _ (Perm.cons _ ((Bv ev.s fi (⟨(L1[level]'fi).l++[i],some ⟨mo,0,none⟩,lT,[⟨mo,3,lT*1,flatMap cI ((L1[level]'fi).l++[i])⟩]⟩:ev)).symm.append_left _))))⟩
 rintro _ _ ⟨rfl,o2,tJ,J9,ans⟩;refine kX ans ?_;refine ax [0,2,3,4,13,97] ?_ ?_<;>intro da eP
 ·refine dS [10] (SW t b bm (m++[i]) (L1.set level o2) (some ⟨bv,0,none⟩) E _) ?_;rw[aiP sy qv (by rw[U];exact da)];exact⟨rfl,_,_,_,_,cj (by rw[length_set];exact Fl) ZH,X4 s9 tJ,N0 CN fi J9,rfl⟩
 have gJ:(t.pg i).leaf=false:=(by rw[U];exact da)
 have Z:pX t (m++[i],(L1.set level o2).map ev.l):=(by rw[N0 CN fi J9];exact Kc.add hr sy Dn)
 have ap8:=UZ po (by rw[<-U];exact gJ);have ava:=(po.node (by rw[<-U];exact gJ)).1;have avb:=po.fm;have EK:(t.af[i.toNat]'aa).high=high:=(by rw[<-U];exact Classical.byContradiction fun h=>qv (.inl h))
 refine ay [0,2,3,4,13,14] ?_;refine ay [0,2,3,4,13,14,100,101,102] ?_;refine eZ [0,2,3,4,13,100,101] (fun aU _ (aR:Nat×Option Nat×List Int×List ev×Option Addr×Nat×List ag) aE=>match aR with|(k,deep,m2,L2,xj,I,xk)=>(k<=(t.af[i.toNat]'aa).kids.length)/\(nH (fun c lo hi s=>kg t f c lo hi (level+1) s) low (t.af[i.toNat]'aa) ((t.af[i.toNat]'aa).kids.drop k) k deep (m2,(L2.map ev.l))=(kg t (f+1) i low high level (m,(L.map ev.l))))/\(CM L2 xj I xk)/\(∀o∈L2,pc o)/\(pX t (m2,(L2.map ev.l)))/\(level+1<=m2.length)/\(t.af.length+1<=f+m2.length)/\((k=0\/deep≠none))/\aE=(⟨148,(14,ae (vf deep))::(102,ae (k:Nat))::aU,(⟨nQ,165,5,cP (t.af[i.toNat]'aa)⟩::⟨b,171,4,[aj 5 cP t.af,ae t.root,.v (.map (some bm)),aS xj L2.length I]⟩::mH bm m2::(xk++L2.flatMap ev.s))⟩:St)) (fun (aR:Nat×Option Nat×List Int×List ev×Option Addr×Nat×List ag)=>match aR with|(k,deep,m2,L2,xj,I,xk)=>(t.af[i.toNat]'aa).kids.length-k) (0,none,(m++[i]),(L1.set level o2),(some ⟨bv,0,none⟩),E,[⟨bv,27,E*1,flatMap gV (L1.set level o2)⟩]) ⟨(Nat.zero_le _),(by rw[aiQ sy qv gJ,N0 CN fi J9,U];rfl),(cj (by rw[length_set];exact Fl) ZH),(X4 s9 tJ),Z,JJ,JJ,(.inl rfl),rfl⟩ ?_;rintro⟨k,deep,m2,L2,xj,I,xk⟩ _ ⟨hk,GA,abq,lH,Z,abr,ap9,hdp,rfl⟩;refine ax [0,2,3,4,13,14,100,101,102,103] ?_ ?_<;>intro eo fR
 ·have eT:k<(t.af[i.toNat]'aa).kids.length:=(by omega)
  have KO:=ap8 _ (getElem_mem eT);have hhk:(jd (t.af[i.toNat]'aa) k).length<=100:=(by unfold jd;rw[getD_eq_getElem?_getD];rcases Nat.lt_or_ge k (t.af[i.toNat]'aa).keys.length with q|q;(rw[getElem?_eq_getElem q];exact(po.nf _ (getElem_mem q)).2);(rw[getElem?_eq_none q];exact po.hlen))
  refine ay [0,2,3,4,13,14,15,16,100,101,102] ?_;refine ay [0,2,3,4,13,14,15,16,17,18,100,101,102] ?_;refine ue (fun aE=>aE=(⟨148,[(0,dw b),(2,aj 1 cB low),(3,aj 1 cB high),(4,ae (level:Nat)),(13,dw nQ),(14,ae (vf deep)),(15,ae (k:Nat)),(16,ae ((t.af[i.toNat]'aa).kids[k]'eT)),(17,.list 1 ((jr low (t.af[i.toNat]'aa) k).flatMap cB) (jr low (t.af[i.toNat]'aa) k).length),(18,aj 1 cB high),(100,.list 1 ((t.af[i.toNat]'aa).kids.flatMap cI) (t.af[i.toNat]'aa).kids.length),(101,ae ((t.af[i.toNat]'aa).kids.length:Nat)),(102,ae (k:Nat))],(⟨nQ,165,5,cP (t.af[i.toNat]'aa)⟩::⟨b,171,4,[aj 5 cP t.af,ae t.root,.v (.map (some bm)),aS xj L2.length I]⟩::mH bm m2::(xk++L2.flatMap ev.s))⟩:St)) ?_ ?_
  ·refine ax [0,2,3,4,13,14,15,16,17,18,100,101,102,110] ?_ ?_<;>intro fH ik
   ·have fA:jr low (t.af[i.toNat]'aa) k=(t.af[i.toNat]'aa).keys[k-1]'w4:=(by unfold jr;rw[if_neg w4,getD_eq_getElem?_getD,getElem?_eq_getElem w4];rfl)
    refine fW [0,2,3,4,13,14,15,16,17,18,100,101,102] ?_;refine aM 4 ?_ (h:=by exact(ei 1 (h:=by first|exact .l (j:=k-1) w4 w4|exact .r (j:=k-1) w4 w4)));refine bB ?_;refine⟨_,(aL (h:=w97)),rfl⟩
   have fA:jr low (t.af[i.toNat]'aa) k=low:=(by unfold jr;rw[if_pos w4])
   refine eI ?_;refine⟨_,(aL (h:=w97)),rfl⟩
  rintro _ ⟨rfl⟩;refine ue (fun aE=>aE=(⟨148,[(0,dw b),(2,aj 1 cB low),(3,aj 1 cB high),(4,ae (level:Nat)),(13,dw nQ),(14,ae (vf deep)),(16,ae ((t.af[i.toNat]'aa).kids[k]'eT)),(17,.list 1 ((jr low (t.af[i.toNat]'aa) k).flatMap cB) (jr low (t.af[i.toNat]'aa) k).length),(18,.list 1 ((jd (t.af[i.toNat]'aa) k).flatMap cB) (jd (t.af[i.toNat]'aa) k).length),(100,.list 1 ((t.af[i.toNat]'aa).kids.flatMap cI) (t.af[i.toNat]'aa).kids.length),(101,ae ((t.af[i.toNat]'aa).kids.length:Nat)),(102,ae (k:Nat))],(⟨nQ,165,5,cP (t.af[i.toNat]'aa)⟩::⟨b,171,4,[aj 5 cP t.af,ae t.root,.v (.map (some bm)),aS xj L2.length I]⟩::mH bm m2::(xk++L2.flatMap ev.s))⟩:St)) ?_ ?_
  ·refine ax [0,2,3,4,13,14,15,16,17,18,100,101,102,121] ?_ ?_<;>intro iu qa
   ·have fk:jd (t.af[i.toNat]'aa) k=(t.af[i.toNat]'aa).keys[k]'w4:=(by unfold jd;rw[getD_eq_getElem?_getD,getElem?_eq_getElem w4];rfl)
    refine bM [0,2,3,4,13,14,16,17,18,100,101,102] ?_;refine⟨_,(aL (h:=w98)),rfl⟩
   have fk:jd (t.af[i.toNat]'aa) k=high:=(by unfold jd;rw[getD_eq_getElem?_getD,getElem?_eq_none w4];exact EK)
   refine eI ?_;refine⟨_,(aL (h:=w98)),rfl⟩
  rintro _ ⟨rfl⟩;refine az 5 ?_;refine bS (eE (r:=.int .i64 ((level+1:Nat):Int)) rfl ot bP (mB (by rw[show((level:Nat):Int)+1=((level+1:Nat):Int) from rfl];exact wrap_i64 w4 w4))) ?_;refine eH au rfl rfl rfl call97 (ih ((t.af[i.toNat]'aa).kids[k]'eT) (jr low (t.af[i.toNat]'aa) k) (jd (t.af[i.toNat]'aa) k) (level+1) m2 L2 xj I xk KO Z abr ap9 hhk abq lH) ⟨ot,ot,ot,ot,ot,trivial⟩ (perm_append_singleton _ _).symm ?_;rintro r19 S19 oS;rcases kQ:kg t f ((t.af[i.toNat]'aa).kids[k]'eT) (jr low (t.af[i.toNat]'aa) k) (jd (t.af[i.toNat]'aa) k) (level+1) (m2,(L2.map ev.l)) with _|⟨d,m3,lv3⟩
  ·rw[kQ] at oS;obtain⟨rfl,rfl⟩:=oS;have ant:=GA.symm.trans (ag6 eT kQ);refine ap 148 [0,2,3,4,13,14,19,100,101,102] ?_;refine az 3 ?_;refine cz 136 (fun O OI=>?_) (fun O OI=>?_)
   ·refine bL [0,2,3,4,13,19,100,101,102,144] ?_;refine fu ?_;refine dS [10] [] ?_;rw[ant];exact⟨rfl,rfl⟩
   exact absurd O w7
  rw[kQ] at oS;obtain⟨rfl,L3,Ll,Ke,Lm,abt,Am,rfl,rfl⟩:=oS;obtain⟨ZI,Jn⟩:=NZ hp _ _ _ _ _ _ _ _ KO Z abr kQ;have Jn:m2.length<=m3.length:=Jn;refine cg (perm_append_singleton _ _) ?_;refine ap 148 [0,2,3,4,13,14,19,100,101,102] ?_;refine az 3 ?_;refine cz 136 (fun O OI=>?_) (fun O OI=>?_)
  ·exact absurd O (by intro e;have e:=of_decide_eq_true e;omega)
  refine aF 3 ?_;refine cz 139 (fun Jh alZ=>?_) (fun Jh alZ=>?_)
  ·refine bL [0,2,3,4,13,19,100,101,102,144] ?_;refine bX ?_ ?_<;>intro iE nJ
   ·refine dS [10] [] ?_;rw[GA.symm.trans (aiR eT kQ (aiT (by simpa using Jh) (by simpa using iE)))];exact⟨rfl,rfl⟩
   refine bM [0,2,3,4,13,14,100,101,102] ?_;refine bM [0,2,3,4,13,14,100,101,102] ?_;refine⟨((k+1),(some d),m3,L3,Ll,Ke,Lm),_,cR,aL,w4,((U0 eT kQ aaf).symm.trans GA),abt,Am,ZI,w4,w4,(.inr (fun e=>by cases e)),rfl⟩
  refine bL [0,2,3,4,13,19,100,101,102,144] ?_;refine gK ?_;refine bM [0,2,3,4,13,14,100,101,102] ?_;refine bM [0,2,3,4,13,14,100,101,102] ?_;refine⟨((k+1),(some d),m3,L3,Ll,Ke,Lm),_,cR,aL,w4,((U0 eT kQ aaf).symm.trans GA),abt,Am,ZI,w4,w4,(.inr (fun e=>by cases e)),rfl⟩
 obtain rfl:k=(t.af[i.toNat]'aa).kids.length:=(by omega)
 obtain⟨d,rfl⟩:∃d,deep=some d:=(by rcases hdp with h|h;omega;exact Option.ne_none_iff_exists'.1 h)
 refine dS [10] (SW t b bm m2 L2 xj I xk) ?_;rw[<-GA,aiS (Nat.le_refl _)];exact⟨rfl,L2,xj,I,xk,abq,lH,rfl,rfl⟩
end Tw
namespace Tw
open Go.Proofs.Tryz
open Go.RowKit V Go.Proofs.YtihmfhcjbmlnaaaGreatDoor.Tr Pk
theorem N1{G:List (Nat×List Value)}(t:aI)(hp:xH t)(I:t.af.length<=4000)(b Z:Nat):∀f,ZG G t b Z f
 | 0=>fun i low high level m L ad cap Sx hr E O U _ _ _=>by have h:m.length<=t.af.length:=E.qb;exfalso;omega
 | f+1=>fun i low high level m L ad cap Sx hr E O U hhg oY bf=>ag8 t hp I b Z f (N1 t hp I b Z f) i low high level m L ad cap Sx hr E O U hhg oY bf
theorem N2(t:aI):pX t ([],[]):=⟨nodup_nil,(fun x h=>by cases h),Nat.le_refl _,(fun l h=>by cases h),(fun l h=>by cases h)⟩
theorem N3{t:aI}{e:Int}:∀{l:List Int},fV t l e↔∀k (h:k<l.length),(t.pg l[k]).next=l.getD (k+1) e
  | []=>⟨(fun _ k h=>by cases h),fun _=>trivial⟩
  | [i] => ⟨fun h k hk => by obtain rfl : k=0 := by (simp at hk; exact hk)
                             exact h,fun h=>h 0 bC⟩
  | i::j::r=>by
    show(t.pg i).next=j/\fV t (j::r) e↔_;rw[N3 (l:=j::r)];constructor
    · rintro⟨h1,h2⟩ k hk;cases k with
      | zero=>exact h1
      | succ k=>exact h2 k (by simpa using hk)
    intro h;exact⟨h 0 bC,fun k hk=>h (k+1) (by simpa using hk)⟩
theorem U2{p:dU}{n:Int}:EJ p n=true↔fq p n:=by unfold EJ;simp
section
variable {t:aI}
theorem TK(h:t.af.length<1\/t.af.length>4000\/t.root<0\/t.root>=t.af.length):gF t=11:=by unfold gF;rw[if_pos h]
theorem afQ(h:¬xH t):gF t=11:=by
 unfold gF;split
 ·rfl
 first|rfl|rw[if_pos h]
variable {d:Nat} {m:List Int} {lv:List (List Int)}
theorem afR(hw:kg t (t.af.length+1) t.root [] [] 0 ([],[])=none):gF t=11:=by
 unfold gF;split
 ·rfl
 split
 ·rfl
 rw[hw]
theorem ag9(hw:kg t (t.af.length+1) t.root [] [] 0 ([],[])=some (d,m,lv))(h:m.length≠t.af.length):gF t=11:=by
 unfold gF;split
 ·rfl
 split
 ·rfl
 rw[hw];exact if_pos h
open Classical in
theorem aha(hw:kg t (t.af.length+1) t.root [] [] 0 ([],[])=some (d,m,lv))(h:¬∀l∈lv,fV t l (-1)):gF t=11:=by
 unfold gF;split
 ·rfl
 split
 ·rfl
 rw[hw];show(if m.length≠t.af.length then (11:Int) else if ∀l∈lv,fV t l (-1) then 0 else 11)=11;split
 ·rfl
 first|rfl|rw[if_neg h]
open Classical in
theorem ahb(h1:¬(t.af.length<1\/t.af.length>4000\/t.root<0\/t.root>=t.af.length))(h2:xH t)(hw:kg t (t.af.length+1) t.root [] [] 0 ([],[])=some (d,m,lv))(h3:m.length=t.af.length)(h:∀l∈lv,fV t l (-1)):gF t=0:=by
 unfold gF;rw[if_neg h1,if_neg (fun hn=>hn h2),hw];show(if m.length≠t.af.length then (11:Int) else if ∀l∈lv,fV t l (-1) then 0 else 11)=0;rw[if_neg (fun hn=>hn h3),if_pos h]
end
def A7(l:List Int):List D:=[aj 1 cI l]
theorem akt(l:List Int):(A7 l).length=1:=rfl
theorem X5{S:List ag}:∀{L:List ev},(∀o∈L,pc o)->(∀B∈L.flatMap ev.s,B∈S)->iO S (L.flatMap gV) ((L.map ev.l).flatMap A7)
 | [],_,_=>trivial
 | o::L,h,hs=>by
  rw[map_cons,flatMap_cons,flatMap_cons];refine iO.append ⟨n8 (h o mem_cons_self) (dg fp _) (fun B hB=>hs B ?_),trivial⟩ (X5 (fun o ho=>h o (mem_cons_of_mem _ ho)) fun B hB=>hs B ?_)
  ·rw[flatMap_cons];exact mem_append_left _ hB
  rw[flatMap_cons];exact mem_append_right _ hB
theorem al0{Sx:List ag}{L:List ev}{ad:Option Addr}{cap:Nat}{lv:List (List Int)}(ho:CM L ad cap Sx)(h:∀o∈L,pc o)(hm:L.map ev.l=lv):View (Sx++L.flatMap ev.s) (aS ad L.length cap) (aj 1 A7 lv):=by
 subst hm;have:=DG ho (X5 (S:=Sx++L.flatMap ev.s) h fun B hB=>mem_append_right _ hB) (dg akt _ |>.trans bC) (fun B hB=>mem_append_left _ hB);first|rw[length_map]|(show View _ _ (.list _ _ (length _));rw[length_map])|(show View _ _ (.agg [.list _ _ (length _)]);rw[length_map])
 exact this
variable {G:List (Nat×List Value)}
theorem qP(t:aI)(hb:∀p∈t.af,p.keys.length<=maxLen/\p.kids.length<=maxLen):VP Tryz.prog G 59 [.agg (cT t)] (ae (gF t)):=by
 refine bA func59 rfl ntmps59 aO fun X0 w0 bz=>?_;unfold cT;have dy:=ee;refine cq ?_;refine dm [_,_] (fun b1=>?_);refine ap 104 [1] ?_;refine az 5 ?_;refine cz 15 (fun E1 Z=>?_) (fun E1 Z=>?_)
 ·exact P6
 refine aF 6 ?_;refine cz 21 (fun s8 anu=>?_) (fun s8 anu=>?_)
 ·exact P6
 refine aF 5 ?_;refine cz 26 (fun aqa Pp=>?_) (fun aqa Pp=>?_)
 ·exact P6
 refine bL [1,33] ?_;refine bX ?_ ?_<;>intro aP bH
 ·refine ay [2] ?_;refine fJ ?_;exact⟨vi (TK w4).symm,rfl⟩
 refine ay [1,35,36,37] ?_;refine eZ [1,35,36] (fun aU _ (i:Nat) aE=>(i<=t.af.length)/\(∀j (h:j<t.af.length),j<i->fq t.af[j] t.af.length)/\aE=(⟨104,(37,ae (i:Nat))::aU,[⟨b1,74,2,[aj 5 cP t.af,ae t.root]⟩]⟩:St)) (fun (i:Nat)=>t.af.length-i) 0 ⟨(Nat.zero_le _),(fun j h h0=>by omega),rfl⟩ ?_;rintro i _ ⟨hi,hpg,rfl⟩;refine ax [1,35,36,37,38] ?_ ?_<;>intro bg cM
 ·have aa:i<t.af.length:=(by omega)
  obtain⟨eT,gq⟩:=hb (t.af[i]'aa) (getElem_mem aa);refine az 2 ?_;refine cD (ds:=[_,_,_,_,_]) au rfl rfl zeroValue165 rfl (fun b4=>?_);refine aN 0 [_,_,_,_,_] sizeOf165 ?_;refine ap 104 [1,4,35,36,37] ?_;refine cW [1,35,36,37,46] (ako (t.af[i]'aa) (t.af.length:Nat) eT gq) ?_;refine bX ?_ ?_<;>intro cl di
  ·have pD:¬xH t:=fun h=>by have:=U2.2 (h (t.af[i]'aa) (getElem_mem aa));rw[this] at cl;cases cl
   refine dS [2] [] ?_;exact⟨vi (afQ pD).symm,rfl⟩
  have aqb:fq (t.af[i]'aa) t.af.length:=U2.1 (by simpa using cl);refine bM [1,35,36,37] ?_;refine⟨(i+1),_,cR,aL,w4,(fun j h h0=>by rcases Nat.lt_or_ge j i with q|q;exact hpg j h q;obtain rfl:j=i:=w4;exact aqb),rfl⟩
 have fb:xH t:=fun p h=>by obtain⟨j,hj,rfl⟩:=mem_iff_getElem.1 h;exact hpg j hj w4
 have h4:t.af.length<=4000:=(by omega)
 have E:0<=t.root/\t.root<t.af.length:=(by omega)
 refine az 1 ?_;refine afB au rfl rfl (fun O=>?_);refine aF 1 ?_;refine dm [_,_,_,_] (fun rZ=>?_);refine ap 104 [1,5] ?_;refine cL ?_;refine cL ?_;rcases kQ:kg t (t.af.length+1) t.root [] [] 0 ([],[]) with _|⟨d,m,lv⟩
 ·refine iX 14 (aq (drop 2 _)) ?_ (fun _ h=>(Sublist.map _ (drop_sublist _ _)).subset h);refine iD [0,1,2] ?_;refine ew.later rfl ?_;refine bV (i:=3) aD ?_;refine lq rfl au rfl rfl rfl call97 (VC.eL (args':=[dw rZ,ae t.root,aJ,aJ,ae 0]) (N1 t fb h4 rZ O (t.af.length+1) t.root [] [] 0 [] [] none 0 [] E (N2 t) (Nat.le_refl _) (Nat.le_refl _) w7 jt (fun o h=>by cases h)) ⟨.inl rfl,.inl rfl,.inr ⟨1,rfl,rfl⟩,.inr ⟨1,rfl,rfl⟩,.inl rfl,trivial⟩) ⟨ot,ot,bP,bP,bP,trivial⟩ (Perm.refl _) jB ?_;rintro r55 Rx oS;rw[show map ev.l []=[] from rfl,kQ] at oS;obtain⟨rfl,rfl⟩:=oS;refine dX 4 rfl AE ?_;refine dX 5 rfl eV ?_;refine HU (t:=57) lk (fun wK=>?_) (fun wK=>?_)
  ·have ED:=wK;(try simp only[V.ox,ne_eq] at ED)
   refine r8 6 rfl ?_;refine r8 7 rfl ?_;refine r8 11 rfl ?_;refine r8 12 rfl ?_;refine r8 13 rfl ?_;refine bV (i:=8) aD ?_;refine rA rfl (oH rfl rfl rfl lk ko) rfl ?_;refine bV (i:=9) aD ?_;refine rA rfl (oH rfl rfl rfl lk ko) rfl ?_;refine bV (i:=10) aD ?_;refine rA rfl (oH rfl rfl rfl lk ko) rfl ?_;refine gd ?_;refine bL [1,5,67] ?_;refine fu ?_;try have I:m.length≠t.af.length:=by intro e;rw[e] at da;simp at da
   refine ay [2] ?_;refine fJ ?_;exact⟨vi (afR kQ).symm,rfl⟩
  exact absurd wK w7
 refine iX 14 (aq (drop 2 _)) ?_ (fun _ h=>(Sublist.map _ (drop_sublist _ _)).subset h);refine iD [0,1,2] ?_;refine ew.later rfl ?_;refine bV (i:=3) aD ?_;refine lq rfl au rfl rfl rfl call97 (VC.eL (args':=[dw rZ,ae t.root,aJ,aJ,ae 0]) (N1 t fb h4 rZ O (t.af.length+1) t.root [] [] 0 [] [] none 0 [] E (N2 t) (Nat.le_refl _) (Nat.le_refl _) w7 jt (fun o h=>by cases h)) ⟨.inl rfl,.inl rfl,.inr ⟨1,rfl,rfl⟩,.inr ⟨1,rfl,rfl⟩,.inl rfl,trivial⟩) ⟨ot,ot,bP,bP,bP,trivial⟩ (Perm.refl _) jB ?_;rintro r55 Rx oS;rw[show map ev.l []=[] from rfl,kQ] at oS;obtain⟨rfl,L,ad,cap,Sx,oY,bf,CN,rfl⟩:=oS;refine gS (Perm.cons _ (Perm.cons _ (perm_append_singleton _ _))) ?_;refine dX 4 rfl AE ?_;refine dX 5 rfl eV ?_;refine HU (t:=57) lk (fun wK=>?_) (fun wK=>?_)
 ·exact absurd wK (by intro e;have e:=of_decide_eq_true e;omega)
 have ED:=wK;(try simp only[V.ox,ne_eq] at ED)
 refine dX 6 rfl eV ?_;refine dX 7 rfl Kz ?_;refine dX 11 rfl (j3 0) ?_;refine dX 12 rfl (gW 2) ?_;refine dX 13 rfl Dc ?_;refine bV (i:=8) aD ?_;refine at_ rfl (j3 2) ?_;refine bV (i:=9) aD ?_;refine at_ rfl (gW 0) ?_;refine bV (i:=10) aD ?_;refine at_ rfl (afC (i:=1) rfl rfl ot rfl underlying168) ?_;refine gd ?_;refine bL [1,5,67] ?_;refine bX ?_ ?_<;>intro da eP
 ·try have I:m.length≠t.af.length:=by intro e;rw[e] at da;simp at da
  refine ay [2] ?_;refine fJ ?_;exact⟨vi (ag9 kQ I).symm,rfl⟩
 have I:m.length=t.af.length:=(by have:=da;simp at this;omega)
 refine kX (Wk.cover (A:=⟨rZ,171,4,[aj 5 cP t.af,ae t.root,.v (.map (some O)),aS ad L.length cap]⟩) (R:=[mH O m,⟨b1,74,2,[aj 5 cP t.af,ae t.root]⟩]) (Sd:=Sx++L.flatMap ev.s) (cs':=[aj 5 cP t.af,ae t.root,.v (.map (some O)),aj 1 A7 lv]) (Perm.refl _) ⟨fN,fN,fN,al0 oY bf CN,trivial⟩) ?_;obtain⟨U,_⟩:=NZ fb _ _ _ _ _ _ _ _ E (N2 t) (Nat.le_refl _) kQ;refine ay [1,71,72,73] ?_;refine lo_ (fun (i:Nat) aE=>(i<=lv.length)/\(∀j (_:j<i) (h:j<lv.length),fV t lv[j] (-1))/\aE=(⟨104,[(1,dw b1),(71,aj 1 A7 lv),(72,ae (lv.length:Nat)),(73,ae (i:Nat))],[⟨b1,74,2,[aj 5 cP t.af,ae t.root]⟩]⟩:St)) (fun (i:Nat)=>lv.length-i) 0 ⟨(Nat.zero_le _),(fun j h _=>by omega),rfl⟩ ?_;rintro i _ ⟨mM,Ln,rfl⟩;refine ax [1,71,72,73,74] ?_ ?_<;>intro eo fR
 ·have gq:i<lv.length:=(by omega)
  have Gi:∀x∈(lv[i]'gq),0<=x/\x<t.af.length:=U.el _ (getElem_mem gq);have nV:(lv[i]'gq).length<=m.length:=U.each _ (getElem_mem gq);have hfw:lv.length<=m.length:=U.fm;refine ay [1,7,71,72,73] ?_;refine ay [1,7,71,72,73,77,78,79] ?_;refine lo_ (fun (k:Nat) aE=>(k<=(lv[i]'gq).length)/\(∀j (_:j<k) (h:j<(lv[i]'gq).length),(t.pg (lv[i]'gq)[j]).next=(lv[i]'gq).getD (j+1) (-1))/\aE=(⟨104,[(1,dw b1),(7,.list 1 ((lv[i]'gq).flatMap cI) (lv[i]'gq).length),(71,aj 1 A7 lv),(72,ae (lv.length:Nat)),(73,ae (i:Nat)),(77,.list 1 ((lv[i]'gq).flatMap cI) (lv[i]'gq).length),(78,ae ((lv[i]'gq).length:Nat)),(79,ae (k:Nat))],[⟨b1,74,2,[aj 5 cP t.af,ae t.root]⟩]⟩:St)) (fun (k:Nat)=>(lv[i]'gq).length-k) 0 ⟨(Nat.zero_le _),(fun j h _=>by omega),rfl⟩ ?_;rintro k _ ⟨hk,hn,rfl⟩;refine ax [1,7,71,72,73,77,78,79,80] ?_ ?_<;>intro fH ik
  ·have eT:k<(lv[i]'gq).length:=(by omega)
   have SN:=Gi _ (getElem_mem eT);have gp:((lv[i]'gq)[k]'eT).toNat<t.af.length:=(by omega)
   have hpx:t.pg ((lv[i]'gq)[k]'eT)=t.af[((lv[i]'gq)[k]'eT).toNat]'gp:=x4 SN;refine ay [1,7,8,9,71,72,73,77,78,79] ?_;refine ay [1,7,8,9,10,71,72,73,77,78,79] ?_;refine ue (fun aE=>aE=(⟨104,[(1,dw b1),(7,.list 1 ((lv[i]'gq).flatMap cI) (lv[i]'gq).length),(9,ae ((lv[i]'gq)[k]'eT)),(10,ae ((lv[i]'gq).getD (k+1) (-1))),(71,aj 1 A7 lv),(72,ae (lv.length:Nat)),(73,ae (i:Nat)),(77,.list 1 ((lv[i]'gq).flatMap cI) (lv[i]'gq).length),(78,ae ((lv[i]'gq).length:Nat)),(79,ae (k:Nat))],[⟨b1,74,2,[aj 5 cP t.af,ae t.root]⟩]⟩:St)) ?_ ?_
   ·refine ax [1,7,8,9,10,71,72,73,77,78,79,88] ?_ ?_<;>intro iu qa
    ·have jm:(lv[i]'gq).getD (k+1) (-1)=(lv[i]'gq)[k+1]'w4:=(by rw[getD_eq_getElem?_getD,getElem?_eq_getElem w4];rfl)
     refine fW [1,7,9,10,71,72,73,77,78,79] ?_;refine aM 3 ?_ (h:=by exact(ei 1 (h:=by first|exact .l (j:=k+1) w4 w4|exact .r (j:=k+1) w4 w4)));refine bB ?_;exact aaJ
    have jm:(lv[i]'gq).getD (k+1) (-1) = -1:=(by rw[getD_eq_getElem?_getD,getElem?_eq_none w4];rfl)
    refine eI ?_;exact aaJ
   rintro _ ⟨rfl⟩;refine cJ [1,7,71,72,73,77,78,79,101] ?_;refine aM 3 ?_ (h:=by exact(ei 5 (h:=by first|exact .l (j:=((lv[i]'gq)[k]'eT).toNat) (Int.toNat_of_nonneg SN.1).symm gp|exact .r (j:=((lv[i]'gq)[k]'eT).toNat) (Int.toNat_of_nonneg SN.1).symm gp)));refine bB ?_;refine bX ?_ ?_<;>intro iE nJ
   ·have pD:¬∀l∈lv,fV t l (-1):=fun h=>by have:=N3.1 (h (lv[i]'gq) (getElem_mem gq)) k eT;rw[hpx] at this;simp[this] at iE
    refine dS [2] [] ?_;exact⟨vi (aha kQ pD).symm,rfl⟩
   have kM:(t.pg ((lv[i]'gq)[k]'eT)).next=(lv[i]'gq).getD (k+1) (-1):=(by rw[hpx];simpa using iE)
   refine bM [1,7,71,72,73,77,78,79] ?_;refine⟨(k+1),_,cR,aL,w4,(fun j h0 h=>by rcases Nat.lt_or_ge j k with q|q;exact hn j q h;obtain rfl:j=k:=w4;exact kM),rfl⟩
  have aqc:fV t (lv[i]'gq) (-1):=N3.2 fun j hj=>hn j w4 hj;refine bM [1,71,72,73] ?_;refine⟨(i+1),_,cR,aL,w4,(fun j h0 h=>by rcases Nat.lt_or_ge j i with q|q;exact Ln j q h;obtain rfl:j=i:=w4;exact aqc),rfl⟩
 have lG:i=lv.length:=(by omega)
 refine dS [2] [] ?_;exact⟨vi (ahb w4 fb kQ I fun l hl=>by obtain⟨j,hj,rfl⟩:=mem_iff_getElem.1 hl;exact Ln j w4 hj).symm,rfl⟩
end Tw
namespace Tw
open Go.Proofs.Tryz
open Go.RowKit V Tr Pk
variable {t:aI} {k:K}
noncomputable def ng(t:aI)(k:K):Int:=if gF t=0 then (if qB k=true then 0 else 1) else gF t
theorem HQ(h:¬gF t=0):ng t k=gF t:=by unfold ng;rw[if_neg h]
theorem Hv(h:gF t=0)(hk:qB k=false):ng t k=1:=by unfold ng;rw[if_pos h,hk];rfl
theorem Nu(h:gF t=0)(hk:qB k=true):ng t k=0:=by unfold ng;rw[if_pos h,hk];rfl
def dV(t:aI)(k:K)(h:Nat):Int:=(t.pg (aV t k h t.root)).kids.getD (bn (t.pg (aV t k h t.root)) k) 0
noncomputable def findF(t:aI)(k:K)(h:Nat):Int×Int:=if ng t k=0 then (if jv t k h=true then (dV t k h,0) else (0,8)) else (0,ng t k)
theorem aiU{h:Nat}(v:Valid t h):∀p∈t.af,p.keys.length<=maxLen/\p.kids.length<=maxLen:=fun p hp=>by
 have po:=v.gB p hp;have dy:=ee;have h1:=po.fm;cases hl:p.leaf with
 | true=>have:=po.leaf hl;omega
 | false=>have:=(po.node hl).1;omega
theorem Hp{h:Nat}(v:Valid t h)(k:K):(jY t k h t.root).length<=1000000:=by
 rw[Ic];have:=v.high;have:=v.qb;omega
theorem M8(h:qB k=true):0<k.length/\k.length<=100:=of_decide_eq_true h
variable {G:List (Nat×List Value)}
theorem L8(t:aI)(k:K)(hb:∀p∈t.af,p.keys.length<=maxLen/\p.kids.length<=maxLen):VP Tryz.prog G 116 [.agg (cT t),aj 1 cB k] (ae (ng t k)):=by
 refine bA func116 rfl ntmps116 aO fun X0 w0 bz=>?_;have fB:=qP (G:=G) t hb;unfold cT at fB;unfold cT;refine cq ?_;refine dm [_,_] (fun b2=>?_);refine ap 14 [1,2] ?_;refine cW [1,5] (fB) ?_;refine ax [1,5,9] ?_ ?_<;>intro aP bH
 ·have hn:¬gF t=0:=(by simpa using aP)
  exact z124
 have hz:gF t=0:=(by simpa using aP)
 refine cW [13] (B7 k) ?_;refine bX ?_ ?_<;>intro bg cM
 ·exact z124
 refine dS [4] [] ?_;first|exact⟨vi (HQ hn).symm,rfl⟩|exact⟨vi (Hv hz x9).symm,rfl⟩|exact⟨vi (Nu hz x9).symm,rfl⟩
theorem al1(t:aI)(h:Nat)(k:K)(hb:∀p∈t.af,p.keys.length<=maxLen/\p.kids.length<=maxLen)(hv:gF t=0->Valid t h):VP Tryz.prog G 71 [.agg (cT t),aj 1 cB k] (.dF [ae (findF t k h).1,ae (findF t k h).2]):=by
 refine bA func71 rfl ntmps71 aO fun X0 w0 bz=>?_;have fB:=L8 (G:=G) t k hb;unfold cT at fB;unfold cT;have dy:=ee;refine cq ?_;refine dm [_,_] (fun b2=>?_);refine ap 34 [1,2] ?_;refine cW [1,2,6] (fB) ?_;refine ax [1,2,6,14] ?_ ?_<;>intro aP bH
 ·have hn:¬ng t k=0:=(by simpa using aP)
  refine dS [4,5] [] ?_;exact⟨by unfold findF;rw[if_neg hn],rfl⟩
 have hz:ng t k=0:=(by simpa using aP)
 have hc:gF t=0:=Classical.byContradiction fun e=>by rw[HQ e] at hz;exact e hz
 have U:qB k=true:=(by cases hq:qB k with|true=>rfl|false=>rw[Hv hc hq] at hz;cases hz)
 have v:=hv hc;have eT:=M8 U;have gj:=sQ (G:=G) t h v k w4 (Hp v k);unfold cT at gj;obtain⟨q1,E⟩:=v.leaf k;have aa:(aV t k h t.root).toNat<t.af.length:=(by omega)
 have I:t.pg (aV t k h t.root)=(t.af[(aV t k h t.root).toNat]'aa):=x4 q1;refine cW [2,7,8,9] (gj) ?_;refine ax [2,7,8,24] ?_ ?_<;>intro bg cM
 ·have jo:jv t k h=false:=(by simpa using bg)
  refine dS [4,5] [] ?_;exact⟨by unfold findF;rw[if_pos hz,if_neg zO],rfl⟩
 have jo:jv t k h=true:=(by simpa using bg)
 obtain⟨ha,Sk⟩:=(Ho v k).1 jo;have po:=v.gB _ (kH q1);have hle:=po.leaf E;have O:bn (t.pg (aV t k h t.root)) k<(t.pg (aV t k h t.root)).kids.length:=(by omega)
 have Z:bn (t.af[(aV t k h t.root).toNat]'aa) k<(t.af[(aV t k h t.root).toNat]'aa).kids.length:=(by rw[<-I];exact O)
 rw[I];refine cJ [4,5] ?_;refine aM 3 ?_ (h:=by exact(ei 5 (h:=by first|exact .l (j:=(aV t k h t.root).toNat) (Int.toNat_of_nonneg q1.1).symm aa|exact .r (j:=(aV t k h t.root).toNat) (Int.toNat_of_nonneg q1.1).symm aa)));refine bB ?_;refine eD [] ?_;exact⟨by unfold findF dV;rw[if_pos hz,if_pos jo,I,vV Z],rfl⟩
theorem ahc{S:List ag}:iO S [aW true,aJ,aJ,aJ,ae (-1)] (cP (⟨true,[],[],[],-1⟩:dU)):=⟨fN,Bw,Bw,Bw,fN,trivial⟩
theorem al2(E:True):VC Tryz.prog G 103 [] [] (fun r S=>∃b,r = .agg [aS (some ⟨b,0,none⟩) 1 1,ae 0]/\S=[⟨b,165,5,[aW true,aJ,aJ,aJ,ae (-1)]⟩]):=by
 refine bA func103 rfl ntmps103 aO fun X0 w0 bz=>?_;refine cq ?_;refine cD (ds:=[_,_]) au rfl rfl zeroValue74 rfl (fun b0=>?_);refine ap 4 [0] ?_;refine az 1 ?_;refine eR (cU 0 [_]) [.bool false,.slice none 0 0,.slice none 0 0,.slice none 0 0,.int .i64 0] [_,_,_,_,_] zeroValue165 runUnderlying72 sizeOf165 (fun b2=>?_);refine aF 1 ?_;refine aN 1 [_,_] sizeOf74 ?_;refine eA 4 [0] [_] ?_;exact⟨_,rfl,rfl⟩
theorem al3:VP Tryz.prog G 103 [] (.agg (cT nc)):=VC.cover (al2 trivial) fun r S ⟨b,hr,hS⟩=>by
 subst hr;subst hS;exact xz ⟨Uz (cs:=[aW true,aJ,aJ,aJ,ae (-1)]) (e:=165) (size:=5) mem_cons_self ahc rfl (Nat.le_refl _) w7,fN,trivial⟩
end Tw
namespace Tr
open Go.Proofs.Tryz
open Go.Lib (compareBytes)
section
variable {t:aI} {k:K} {row:Int}
variable {h m:Nat} {u:aI} {up:K}
def ec(t:aI)(k:K):Nat->Int->Nat->Int
 | 0,i,_=>i
 | h+1,i,m=>if m=h+1 then i else ec t k h ((t.pg i).kids.getD (bn (t.pg i) k) 0) m
theorem Mx:∀(h:Nat) (i:Int),ec t k h i h=i
 | 0,_=>rfl
 | h+1,i=>by rw[ec,if_pos rfl]
theorem DD:∀{h:Nat} {i:Int} {m:Nat},m<h->ec t k h i m=(t.pg (ec t k h i (m+1))).kids.getD (bn (t.pg (ec t k h i (m+1))) k) 0
 | 0,_,_,hm=>by omega
 | h+1,i,m,hm=>by
  rw[ec,if_neg w4,ec];by_cases e:m=h
  ·subst e;rw[Mx,if_pos rfl]
  rw[if_neg w4];exact DD w4
theorem U3:∀{h:Nat} {i:Int} {m:Nat},m<=h->(jY t k h i)[h-m]?=some (ec t k h i m)
 | 0,i,m,_=>by
  obtain rfl:m=0:=(by omega)
  rfl
 | h+1,i,m,hm=>by
  rw[jY,ec];by_cases e:m=h+1
  ·subst e;rw[if_pos rfl,Nat.sub_self];rfl
  rw[if_neg e,show h+1-m=(h-m)+1 from by omega,getElem?_cons_succ];exact U3 w4
theorem Ie{n:Int}(hp:∀p∈t.af,fq p n):∀{h:Nat} {i:Int} {low high:K},eS t h i low high->(ids t h i).Nodup->nw low high k->(∀x∈e9 t h i,x.1≠k)->∀m,m<=h ->
  ∃lo hi,eS t m (ec t k h i m) lo hi/\(ids t m (ec t k h i m)).Nodup/\nw lo hi k/\∀x∈e9 t m (ec t k h i m),x.1≠k
 | 0,i,low,high,ok,nd,hk,hn,m,hm=>by
  obtain rfl:m=0:=(by omega)
  exact⟨low,high,ok,nd,hk,hn⟩
 | h+1,i,low,high,ok,nd,hk,hn,m,hm=>by
  by_cases e:m=h+1
  ·subst e;rw[Mx];exact⟨low,high,ok,nd,hk,hn⟩
  obtain⟨q1,q2,q3,I,E⟩:=id ok;have po:=hp _ (kH q1);obtain⟨d1,d2⟩:=down po q2 q3 hk;have:=Ie hp (E _ d1) (y5 d1 nd).1 d2 (fun x hx=>hn x PN) m w4;rw[<-vV d1] at this;rw[ec,if_neg e];exact this
structure al4 (u:aI) (i:Int) (up:K) (aB:Int):Prop where
 gB:∀p∈u.af,fq p u.af.length
 rg:0<=i/\i<u.af.length
 out:up∉(u.pg i).keys
 len:1<=up.length/\up.length<=100
 high:(u.pg i).high≠[]->bI up (u.pg i).high
 nn:0<=aB
 nnl:(u.pg i).leaf=false->aB<u.af.length
def me(t:aI)(k:K)(row:Int)(h m:Nat):aI×Option (K×Int):=if m=0 then (t,some (k,row)) else iB t k row (m-1) (ec t k h t.root (m-1))
theorem Wy(h:Nat):me t k row h (h+1)=iB t k row h t.root:=by unfold me;rw[if_neg w4,Nat.add_sub_cancel,Mx]
theorem U4(hm:m<=h){aB:Int}(e:me t k row h m=(u,some (up,aB))):me t k row h (m+1)=uA u (ec t k h t.root m) up aB:=by
 unfold me at e |-;rw[if_neg w4,Nat.add_sub_cancel];cases m with
 | zero=>rw[if_pos rfl] at e;injection e with e1 e2;injection e2 with e2;injection e2 with e2 E;subst e1 e2 E;rw[iB]
 | succ m=>rw[if_neg w4,Nat.add_sub_cancel,DD w4] at e;rw[iB,e]
theorem ahd(h0:0<m)(hm:m<=h)(e:me t k row h m=(u,none)):me t k row h (m+1)=(u,none):=by
 unfold me at e |-;rw[if_neg w4,Nat.add_sub_cancel];cases m with
 | zero=>omega
 | succ m=>rw[if_neg w4,Nat.add_sub_cancel,DD w4] at e;rw[iB,e]
theorem U5{h:Nat}{u:aI}:∀(d m:Nat),m+d=h+1->0<m->me t k row h m=(u,none)->iB t k row h t.root=(u,none)
 | 0,m,hm,_,e=>by
  obtain rfl:m=h+1:=(by omega)
  rw[<-Wy];exact e
 | d+1,m,hm,h0,e=>U5 d (m+1) w4 w4 (ahd h0 w4 e)
theorem Wz(v:Valid t h)(hn:∀x∈mJ t h,x.1≠k)(hl:1<=k.length/\k.length<=100)(hr:0<=row)(hm:m<=h):∃lo hi,eS t m (ec t k h t.root m) lo hi/\nw lo hi k/\qJ t (iB t k row m (ec t k h t.root m)).1 m (ec t k h t.root m) lo hi k row (iB t k row m (ec t k h t.root m)).2:=by
 obtain⟨lo,hi,ok,nd,hk,hne⟩:=Ie v.gB v.ok v.CL (we k) hn m hm;exact⟨lo,hi,ok,hk,I6 v.gB ok nd hk hne hl hr⟩
theorem My(v:Valid t h)(hn:∀x∈mJ t h,x.1≠k)(hl:1<=k.length/\k.length<=100)(hr:0<=row)(hm:m<=h+1){r:Option (K×Int)}(e:me t k row h m=(u,r)):u.root=t.root/\u.af.length<=t.af.length+m/\t.af.length<=u.af.length/\∀p∈u.af,fq p u.af.length:=by
 unfold me at e;cases m with
 | zero=>rw[if_pos rfl] at e;injection e with e1 e2;subst e1;exact⟨rfl,Nat.le_refl _,Nat.le_refl _,v.gB⟩
 | succ m =>
  rw[if_neg w4,Nat.add_sub_cancel] at e;obtain⟨lo,hi,_,_,I⟩:=Wz v hn hl hr (m:=m) w4;rw[e] at I;exact⟨I.root,I.more,I.le,I.gB⟩
theorem aku(v:Valid t h)(hn:∀x∈mJ t h,x.1≠k)(hl:1<=k.length/\k.length<=100)(hr:0<=row)(hm:m<=h+1){aB:Int}(e:me t k row h m=(u,some (up,aB))):up.length<=100:=by
 unfold me at e;cases m with
 | zero=>rw[if_pos rfl] at e;injection e with e1 e2;injection e2 with e2;injection e2 with e2 E;subst e2;exact hl.2
 | succ m =>
  rw[if_neg w4,Nat.add_sub_cancel] at e;obtain⟨lo,hi,_,_,I⟩:=Wz v hn hl hr (m:=m) w4;rw[e] at I;exact I.ok.1.2
theorem akv(v:Valid t h)(hn:∀x∈mJ t h,x.1≠k)(hl:1<=k.length/\k.length<=100)(hr:0<=row)(hm:m<=h){aB:Int}(e:me t k row h m=(u,some (up,aB))):al4 u (ec t k h t.root m) up aB:=by
 cases m with
 | zero =>
  unfold me at e;rw[if_pos rfl] at e;injection e with e1 e2;injection e2 with e2;injection e2 with e2 U;subst e1 e2 U
  obtain⟨lo,hi,⟨q1,q2,q3,Z⟩,nd,hk,hne⟩:=Ie v.gB v.ok v.CL (we k) hn 0 hm;refine⟨v.gB,q1,fun hm=>?_,hl,fun E=>?_,hr,fun h=>by rw[q2] at h;cases h⟩
  ·have po:=v.gB _ (kH q1);have hlen:=po.leaf q2;obtain⟨a,ha,he⟩:=mem_iff_getElem.1 hm;exact hne (k,(t.pg (ec t k h t.root 0)).kids[a]'w4) ((DJ hlen).2 ⟨a,ha,by rw[he]⟩) rfl
  rw[q3] at E |-;exact hk.2 E
 | succ m =>
  obtain⟨s1,s2,s3,s4⟩:=My v hn hl hr w4 e;unfold me at e;rw[if_neg w4,Nat.add_sub_cancel] at e;obtain⟨lo,hi,ok,nd,hk,hne⟩:=Ie v.gB v.ok v.CL (we k) hn (m+1) hm;obtain⟨q1,q2,q3,Z,q5⟩:=id ok;have po:=v.gB _ (kH q1);obtain⟨d1,d2⟩:=down po q2 q3 hk;have ih:=I6 (row:=row) v.gB (q5 _ d1) (y5 d1 nd).1 d2 (fun x hx=>hne x PN) hl hr;rw[<-vV d1,<-DD w4,e,DD w4] at ih;have M:kz t u m (ec t k h t.root (m+1)) lo hi (bn (t.pg (ec t k h t.root (m+1))) k) k row (some (up,aB)):=⟨v.gB,ok,nd,d1,d2,ih⟩
  obtain⟨m1,m2,m3,m4⟩:=M.place;have O:=M.same;obtain⟨o1,o2,o3,o4,o5⟩:(1<=up.length/\up.length<=100)/\_/\_/\_/\eS u m aB up _:=ih.ok;have I:=o5.idx;refine⟨s4,⟨q1.1,by omega⟩,by rw[O];exact m2,o1,fun E=>?_,I.1,fun _=>I.2⟩;rw[O,q3] at E |-;exact m3.2 E
end
variable {t:aI} {h:Nat} {k:K}
variable {i:Int}
noncomputable def l6(t:aI)(h:Nat)(k:K):List (K×Int):=(mJ t h).filter fun x=>decide (¬bI x.1 k)
def jW(t:aI)(ls:List Int):List (K×Int):=ls.flatMap fun l=>fO (t.pg l)
theorem fV.tail{r:List Int}{e:Int}(h:fV t (i::r) e):fV t r e:=by
 cases r with
 | nil=>trivial
 | cons j r=>exact h.2
theorem fV.next{i:Int}{r:List Int}{e:Int}(h:fV t (i::r) e):(t.pg i).next=r.headD e:=by
 cases r with
 | nil=>exact h
 | cons j r=>exact h.1
theorem fV.drop{e:Int}:∀{a b:List Int},fV t (a++b) e->fV t b e
 | [],_,h=>h
 | i::a,b,h=>fV.drop (a:=a) (fV.tail h)
theorem WA:∀{h:Nat} {i:Int} {low high:K},eS t h i low high->∀l∈dx t h i,(0<=l/\l<t.af.length)/\(t.pg l).leaf=true
 | 0,i,low,high,ok,l,hl=>by
  rw[dx,mem_singleton] at hl;subst hl;exact⟨ok.1,ok.2.1⟩
 | h+1,i,low,high,ok,l,hl=>by
  obtain⟨q1,q2,q3,I,E⟩:=ok;rw[dx] at hl;obtain⟨c,hc,hl⟩:=mem_flatMap.1 hl;obtain⟨j,hj,rfl⟩:=mem_iff_getElem.1 hc;exact WA (E j hj) l hl
structure ur (t:aI) (ls:List Int):Prop where
 rX:fV t ls (-1)
 at_:∀l∈ls,(0<=l/\l<t.af.length)/\(t.pg l).leaf=true
theorem ur.tail{i:Int}{r:List Int}(h:ur t (i::r)):ur t r:=⟨fV.tail h.rX,fun l hl=>h.at_ l (mem_cons_of_mem _ hl)⟩
theorem ur.head{ls:List Int}(h:ur t ls):(0<=ls.headD (-1)->∃r,ls=ls.headD (-1)::r)/\(ls.headD (-1)<0->ls=[]):=by
 cases ls with
 | nil=>exact⟨fun h=>by simp at h,fun _=>rfl⟩
 | cons i r=>exact⟨fun _=>⟨r,rfl⟩,fun h0=>by have:=(h.at_ i mem_cons_self).1;simp at h0;omega⟩
theorem Uh(v:Valid t h):ur t (dx t h t.root):=⟨v.rX h (Nat.le_refl _),WA v.ok⟩
theorem HG(v:Valid t h){l:Int}(hl:(0<=l/\l<t.af.length)/\(t.pg l).leaf=true):(fO (t.pg l)).length=(t.pg l).keys.length:=by
 have:=(v.gB _ (kH hl.1)).leaf hl.2;unfold fO;rw[length_zip];omega
theorem afS(v:Valid t h)(k:K):∃r,ur t (aV t k h t.root::r)/\l6 t h k=(jW t (aV t k h t.root::r)).drop (bn (t.pg (aV t k h t.root)) k)/\bn (t.pg (aV t k h t.root)) k<=(t.pg (aV t k h t.root)).keys.length:=by
 obtain⟨pre,post,e,he⟩:=agR v.gB v.ok (we k);have hL:=Uh v;have hl:=v.leaf k;have fC:bn (t.pg (aV t k h t.root)) k<=(t.pg (aV t k h t.root)).keys.length:=by
  unfold bn;split
  ·exact BD _ _
  exact DT _ _
 rw[e] at hL;refine⟨post,⟨fV.drop hL.rX,fun l hl=>hL.at_ l (mem_append_right _ hl)⟩,?_,fC⟩;unfold l6 mJ;rw[he];unfold jW;rw[flatMap_cons,drop_append_of_le_length (by rw[HG v hl];exact fC)]
theorem ahe(v:Valid t h){r:List Int}(hL:ur t (i::r)){a:Nat}(ha:a<(t.pg i).keys.length)(hk:a<(t.pg i).kids.length) :
  (jW t (i::r)).drop a=((t.pg i).keys[a],(t.pg i).kids[a])::(jW t (i::r)).drop (a+1):=by
 have hi:=hL.at_ i mem_cons_self;have hlen:=HG v hi;have h1:a<(jW t (i::r)).length:=(by unfold jW;rw[flatMap_cons,length_append];omega)
 rw[drop_eq_getElem_cons h1];congr 1;unfold jW;simp only[flatMap_cons];rw[getElem_append_left w4];unfold fO;rw[getElem_zip]
theorem afT(v:Valid t h){r:List Int}(hL:ur t (i::r)){a:Nat}(ha:a=(t.pg i).keys.length):(jW t (i::r)).drop a=(jW t r).drop 0:=by
 have hi:=hL.at_ i mem_cons_self;have hlen:=HG v hi;unfold jW;rw[flatMap_cons,drop_zero,drop_append_of_le_length w4,drop_eq_nil_of_le w4];rfl
theorem aiV(v:Valid t h):mJ t h=jW t (dx t h t.root):=zi t h t.root
theorem Mz(v:Valid t h):(mJ t h).Pairwise fun x y=>bI x.1 y.1:=(NV v.gB v.ok).1
theorem Ur(v:Valid t h)(k:K):(l6 t h k).Pairwise fun x y=>bI x.1 y.1:=(Mz v).filter _
theorem aiW(t:aI)(h:Nat):l6 t h []=mJ t h:=by
 unfold l6;rw[filter_eq_self.2];intro x _;simpa using OE x.1
theorem aiX(v:Valid t h):(mJ t h).length<=4*t.af.length:=by
 have key:∀(ls:List Int),(∀l∈ls,(0<=l/\l<t.af.length)/\(t.pg l).leaf=true)->(jW t ls).length<=4*ls.length:=by
  intro ls;induction ls with
  | nil=>intro _;simp[jW]
  | cons i r ih =>
   intro hl;have h1:=HG v (hl i mem_cons_self);have h2:=(v.gB _ (kH (hl i mem_cons_self).1)).fm;have h3:=ih fun l E=>hl l (mem_cons_of_mem _ E);unfold jW at h3 |-;rw[flatMap_cons,length_append,length_cons];omega
 have fi:(dx t h t.root).length<=(ids t h t.root).length:=by
  have:∀(h:Nat) (i:Int),(dx t h i).length<=(ids t h i).length:=by
   intro h;induction h with
   | zero=>intro i;simp[dx,ids]
   | succ h ih =>
    intro i;rw[dx,ids,length_cons,length_flatMap,length_flatMap];have:∀(l:List Int),(l.map fun a=>(dx t h a).length).sum<=(l.map fun a=>(ids t h a).length).sum:=by
     intro l;induction l with
     | nil=>simp
     | cons a l I=>simp only[map_cons,sum_cons];have:=ih a;omega
    have:=this (t.pg i).kids;omega
  exact this h t.root
 rw[aiV v];have:=key _ (Uh v).at_;rw[v.all] at fi;omega
theorem WB(v:Valid t h)(k:K):(l6 t h k).length<=16000:=by
 have:=aiX v;have h1:=v.qb;have:(l6 t h k).length<=(mJ t h).length:=(filter_sublist).length_le;omega
end Tr
namespace Tw
open Go.Proofs.Tryz
open Go.RowKit V Tr Pk
section
def cE(e:K×Int):List D:=[aj 1 cB e.1,ae e.2]
theorem YL(e:K×Int):(cE e).length=2:=rfl
def Kf(e:K×Int):List D:=[.agg (cE e)]
theorem al5(b:UInt8):fL (cB b)=true:=rfl
theorem uc(k:K):fL (k.flatMap cB)=true:=xC al5 k
theorem xI(e:K×Int):fL (cE e)=true:=by simp[cE,fL,gC,uc]
theorem WD(e:K×Int):fL (Kf e)=true:=by simp[Kf,fL,gC,xI]
def OX(t:aI)(k:K):List D:=[.gm [aj 5 cP t.af,ae t.root] 0,.gm [aj 1 cB k] 0]
variable {G:List (Nat×List Value)}
theorem uR : ∀ w, ((#[{ name := "Key", type := 83, offset := 0, embedded := false, tag := "", pkgPath := "", byteOffset := 0 }, { name := "Row", type := 3, offset := 1, embedded := false, tag := "", pkgPath := "", byteOffset := 24 }] : Array Field).mapM fun f => do pure (f.offset, ← sizeOf f.type) : Sem (Array (Nat × Nat))).run Tryz.prog w = .ok #[(0, 1), (1, 1)] w := fun w => by simp [sizeOf3, sizeOf83]
theorem WE(t:aI)(h:Nat)(v:Valid t h)(k:K)(eT:k.length<=maxLen):VI Tryz.prog G 98 (OX t k) Kf (fun xs=>xs=l6 t h k) (fun pre=>pre <+: l6 t h k) (l6 t h k).length:=by
 refine VI.body func98 rfl ntmps98 aO fun Y X0 w0 bz Sc0 hYe hYN O hY hJ0=>?_;have dy:=ee;have gj:=sQ (G:=G) t h v k w4 (Hp v k);unfold cT at gj;obtain⟨r0,hL0,aqd,abl⟩:=afS v k;obtain⟨y1,y2,y3⟩:=(by exact⟨hYe,hYN,O⟩:Y.enc=Kf/\Y.N=(l6 t h k).length/\w0.heap.size<=Y.l)
 refine cW [0,1,4,5] (gj) ?_;refine kU ?_;refine oB (fun (aR:List Int×Nat×List (K×Int)×List ag) aE=>match aR with|(ls,a,pre,Sc)=>(ur t ls)/\(l6 t h k=pre++(jW t ls).drop a)/\((∀x∈head? ls,a<=(t.pg x).keys.length))/\(Y.J pre Sc)/\aE=(⟨46,[(0,.lW Y.l Y.os),(1,.gm [aj 5 cP t.af,ae t.root] 0),(4,ae (headD ls (-1))),(5,ae (a:Nat))],Sc⟩:St)) (fun (aR:List Int×Nat×List (K×Int)×List ag)=>match aR with|(ls,a,pre,Sc)=>length ls) ((aV t k h t.root::r0),(bn (t.pg (aV t k h t.root)) k),[],Sc0) ⟨hL0,(by rw[nil_append];exact aqd),(fun x hx=>by simp at hx;subst hx;exact abl),hJ0,rfl⟩ (aL (h:=w90)) ?_;rintro⟨ls,a,pre,Sc⟩ _ ⟨hL,Rr,fC,hj,rfl⟩;refine ax [0,1,4,5,16] ?_ ?_<;>intro aP bH
 ·have SH:0<=headD ls (-1):=(by simpa using aP)
  obtain⟨r,hr⟩:=(ur.head hL).1 SH;obtain⟨i,hi⟩:∃i,i=headD ls (-1):=⟨_,rfl⟩
  rw[<-hi] at hr SH;subst hr;obtain⟨Dm,Po⟩:=hL.at_ i mem_cons_self;have aa:i.toNat<t.af.length:=(by omega)
  have jl:t.pg i=t.af[i.toNat]:=x4 Dm;have po:=v.gB _ (kH Dm);have QF:=po.leaf Po;have kZ:=po.fm;have abu:=fC i rfl;have ZJ:=v.qb;rw[jl] at po QF kZ abu;refine az 3 ?_;refine bS (ei 5 (h:=by first|exact .l (j:=i.toNat) (by show headD (i::r) (-1)=_;simp;omega) aa|exact .r (j:=i.toNat) (by show headD (i::r) (-1)=_;simp;omega) aa)) ?_;refine bS (ez (mk:=Op.load 165) rfl ot (by exact jM (i:=i.toNat) I7 isAgg165 sizeOf165 aa)) ?_;refine cD (ds:=[_,_,_,_,_]) au rfl rfl zeroValue165 rfl (fun b7=>?_);refine aN 0 [_,_,_,_,_] sizeOf165 ?_;refine ap 46 [0,1,5,7] ?_;refine eZ [0,1,7] (fun aU _ (aR:Nat×List (K×Int)×List ag) aE=>match aR with|(a,E,I)=>(l6 t h k=E++(jW t (i::r)).drop a)/\(a<=((t.af[i.toNat]'aa)).keys.length)/\(Y.J E I)/\aE=(⟨46,(5,ae (a:Nat))::aU,(⟨b7,165,5,cP (t.af[i.toNat]'aa)⟩::I)⟩:St)) (fun (aR:Nat×List (K×Int)×List ag)=>match aR with|(a,E,I)=>((t.af[i.toNat]'aa)).keys.length-a) (a,pre,Sc) ⟨Rr,abu,hj,rfl⟩ ?_;rintro⟨a,E,I⟩ _ ⟨rN,awg,U,rfl⟩;refine ax [0,1,5,7,26] ?_ ?_<;>intro bg cM
  ·have pK:a<((t.af[i.toNat]'aa)).keys.length:=(by have:=bg;simp at this;omega)
   have Rp:a<((t.af[i.toNat]'aa)).kids.length:=(by omega)
   have j8:(jW t (i::r)).drop a=(((t.af[i.toNat]'aa)).keys[a],((t.af[i.toNat]'aa)).kids[a])::(jW t (i::r)).drop (a+1):=(by have:=ahe v hL (a:=a) (by rw[jl];exact pK) (by rw[jl];exact Rp);simp only[jl] at this;exact this)
   have fP:((t.af[i.toNat]'aa)).keys[a].length<=100:=(by have:=(po.nf _ (getElem_mem pK)).2;omega)
   refine eI ?_;refine cL ?_;refine kU ?_;refine cL ?_;refine afD aD ?_;refine gP 0 rfl eV ?_;refine gP 1 rfl (j3 1) ?_;refine gP 3 rfl eV ?_;refine gP 7 rfl (j3 2) ?_;refine gP 9 rfl eV ?_;refine wu (i:=2) (j:=8) aD ?_ ?_
   ·refine mw rfl (gW 0) ?_;refine gP 4 rfl (ei 1 (h:=PO)) ?_;refine wu (i:=5) (j:=8) aD ?_ ?_
    ·refine mw rfl gD ?_;refine wu (i:=6) (j:=8) aD ?_ ?_
     ·refine iW.vc rfl au rfl rfl rfl call93 (nY (((t.af[i.toNat]'aa)).keys[a]) w4) ⟨ot,trivial⟩ ?_;refine lB (i:=8) aD ?_;refine mw rfl (gW 0) ?_;refine gP 10 rfl (ei 1 (h:=JE)) ?_;refine lB (i:=11) aD ?_;refine mw rfl gD ?_;refine gP 12 rfl (nZ (pl:=[(0,_),(1,_)]) (ds:=[_,_]) rfl zeroValue99 runUnderlying99 uR ⟨rfl,ot,rfl,ot,trivial⟩ rfl rfl) ?_;refine lB (i:=13) aD ?_;refine iW.yield (Y:=Y) (pre:=E) (y:=(((t.af[i.toNat]'aa)).keys[a],((t.af[i.toNat]'aa)).kids[a])) (Sc:=I) (R:=[⟨b7,165,5,cP (t.af[i.toNat]'aa)⟩]) rfl au rfl rfl ot aO lk vh (perm_append_singleton _ _).symm U vA hY O w7 (fun GB SO=>?_) (fun GB SO=>?_)
      ·refine uX (perm_append_singleton _ _) ?_;refine gP 14 rfl mv ?_;refine mY (y:=⟨46,[(0,_),(1,_),(5,_),(7,_),(43,_)],(⟨b7,165,5,[_,_,_,_,_]⟩::GB)⟩) (Wk.eN rfl rfl gg) ?_;refine nD aD ?_;refine gK ?_;refine bM [0,1,5,7] ?_;refine⟨((a+1),(E++[(((t.af[i.toNat]'aa)).keys[a],((t.af[i.toNat]'aa)).kids[a])]),GB),_,cR,aL,vw,w4,SO,rfl⟩
      refine gP 14 rfl mv ?_;refine mY (y:=⟨46,[(0,_),(43,_)],(GB)⟩) (Wk.eN rfl rfl gg) ?_;refine nD aD ?_;refine fu ?_;refine rI ?_;refine⟨.inr rfl,⟨_,sO results98⟩,(show 0<46 by decide),GB,Sublist.refl _,?_⟩;exact .inr ⟨E++[(((t.af[i.toNat]'aa)).keys[a],((t.af[i.toNat]'aa)).kids[a])],⟨(jW t (i::r)).drop (a+1),by rw[rN,j8,append_assoc];rfl⟩,SO,lk⟩
     refine mw rfl (gW 0) ?_;refine gP 10 rfl (ei 1 (h:=JE)) ?_;refine wu (i:=6) (j:=11) aD ?_ ?_
     ·refine iW.vc rfl au rfl rfl rfl call93 (nY (((t.af[i.toNat]'aa)).keys[a]) w4) ⟨ot,trivial⟩ ?_;refine lB (i:=11) aD ?_;refine mw rfl gD ?_;refine gP 12 rfl (nZ (pl:=[(0,_),(1,_)]) (ds:=[_,_]) rfl zeroValue99 runUnderlying99 uR ⟨rfl,ot,rfl,ot,trivial⟩ rfl rfl) ?_;refine lB (i:=13) aD ?_;refine iW.yield (Y:=Y) (pre:=E) (y:=(((t.af[i.toNat]'aa)).keys[a],((t.af[i.toNat]'aa)).kids[a])) (Sc:=I) (R:=[⟨b7,165,5,cP (t.af[i.toNat]'aa)⟩]) rfl au rfl rfl ot aO lk vh (perm_append_singleton _ _).symm U vA hY O w7 (fun I SQ=>?_) (fun I SQ=>?_)
      ·refine uX (perm_append_singleton _ _) ?_;refine gP 14 rfl mv ?_;refine mY (y:=⟨46,[(0,_),(1,_),(5,_),(7,_),(43,_)],(⟨b7,165,5,[_,_,_,_,_]⟩::I)⟩) (Wk.eN rfl rfl gg) ?_;refine nD aD ?_;refine gK ?_;refine bM [0,1,5,7] ?_;refine⟨((a+1),(E++[(((t.af[i.toNat]'aa)).keys[a],((t.af[i.toNat]'aa)).kids[a])]),I),_,cR,aL,vw,w4,SQ,rfl⟩
      refine gP 14 rfl mv ?_;refine mY (y:=⟨46,[(0,_),(43,_)],(I)⟩) (Wk.eN rfl rfl gg) ?_;refine nD aD ?_;refine fu ?_;refine rI ?_;refine⟨.inr rfl,⟨_,sO results98⟩,(show 0<46 by decide),I,Sublist.refl _,?_⟩;exact .inr ⟨E++[(((t.af[i.toNat]'aa)).keys[a],((t.af[i.toNat]'aa)).kids[a])],⟨(jW t (i::r)).drop (a+1),by rw[rN,j8,append_assoc];rfl⟩,SQ,lk⟩
     refine mw rfl gD ?_;refine lB (i:=6) aD ?_;refine iW.vc rfl au rfl rfl rfl call93 (nY (((t.af[i.toNat]'aa)).keys[a]) w4) ⟨ot,trivial⟩ ?_;refine gP 12 rfl (nZ (pl:=[(0,_),(1,_)]) (ds:=[_,_]) rfl zeroValue99 runUnderlying99 uR ⟨rfl,ot,rfl,ot,trivial⟩ rfl rfl) ?_;refine lB (i:=13) aD ?_;refine iW.yield (Y:=Y) (pre:=E) (y:=(((t.af[i.toNat]'aa)).keys[a],((t.af[i.toNat]'aa)).kids[a])) (Sc:=I) (R:=[⟨b7,165,5,cP (t.af[i.toNat]'aa)⟩]) rfl au rfl rfl ot aO lk vh (perm_append_singleton _ _).symm U vA hY O w7 (fun GC SR=>?_) (fun GC SR=>?_)
     ·refine uX (perm_append_singleton _ _) ?_;refine gP 14 rfl mv ?_;refine mY (y:=⟨46,[(0,_),(1,_),(5,_),(7,_),(43,_)],(⟨b7,165,5,[_,_,_,_,_]⟩::GC)⟩) (Wk.eN rfl rfl gg) ?_;refine nD aD ?_;refine gK ?_;refine bM [0,1,5,7] ?_;refine⟨((a+1),(E++[(((t.af[i.toNat]'aa)).keys[a],((t.af[i.toNat]'aa)).kids[a])]),GC),_,cR,aL,vw,w4,SR,rfl⟩
     refine gP 14 rfl mv ?_;refine mY (y:=⟨46,[(0,_),(43,_)],(GC)⟩) (Wk.eN rfl rfl gg) ?_;refine nD aD ?_;refine fu ?_;refine rI ?_;refine⟨.inr rfl,⟨_,sO results98⟩,(show 0<46 by decide),GC,Sublist.refl _,?_⟩;exact .inr ⟨E++[(((t.af[i.toNat]'aa)).keys[a],((t.af[i.toNat]'aa)).kids[a])],⟨(jW t (i::r)).drop (a+1),by rw[rN,j8,append_assoc];rfl⟩,SR,lk⟩
    refine mw rfl (gW 0) ?_;refine gP 10 rfl (ei 1 (h:=JE)) ?_;refine wu (i:=5) (j:=11) aD ?_ ?_
    ·refine mw rfl gD ?_;refine wu (i:=6) (j:=11) aD ?_ ?_
     ·refine iW.vc rfl au rfl rfl rfl call93 (nY (((t.af[i.toNat]'aa)).keys[a]) w4) ⟨ot,trivial⟩ ?_;refine lB (i:=11) aD ?_;refine mw rfl gD ?_;refine gP 12 rfl (nZ (pl:=[(0,_),(1,_)]) (ds:=[_,_]) rfl zeroValue99 runUnderlying99 uR ⟨rfl,ot,rfl,ot,trivial⟩ rfl rfl) ?_;refine lB (i:=13) aD ?_;refine iW.yield (Y:=Y) (pre:=E) (y:=(((t.af[i.toNat]'aa)).keys[a],((t.af[i.toNat]'aa)).kids[a])) (Sc:=I) (R:=[⟨b7,165,5,cP (t.af[i.toNat]'aa)⟩]) rfl au rfl rfl ot aO lk vh (perm_append_singleton _ _).symm U vA hY O w7 (fun GD SS=>?_) (fun GD SS=>?_)
      ·refine uX (perm_append_singleton _ _) ?_;refine gP 14 rfl mv ?_;refine mY (y:=⟨46,[(0,_),(1,_),(5,_),(7,_),(43,_)],(⟨b7,165,5,[_,_,_,_,_]⟩::GD)⟩) (Wk.eN rfl rfl gg) ?_;refine nD aD ?_;refine gK ?_;refine bM [0,1,5,7] ?_;refine⟨((a+1),(E++[(((t.af[i.toNat]'aa)).keys[a],((t.af[i.toNat]'aa)).kids[a])]),GD),_,cR,aL,vw,w4,SS,rfl⟩
      refine gP 14 rfl mv ?_;refine mY (y:=⟨46,[(0,_),(43,_)],(GD)⟩) (Wk.eN rfl rfl gg) ?_;refine nD aD ?_;refine fu ?_;refine rI ?_;refine⟨.inr rfl,⟨_,sO results98⟩,(show 0<46 by decide),GD,Sublist.refl _,?_⟩;exact .inr ⟨E++[(((t.af[i.toNat]'aa)).keys[a],((t.af[i.toNat]'aa)).kids[a])],⟨(jW t (i::r)).drop (a+1),by rw[rN,j8,append_assoc];rfl⟩,SS,lk⟩
     refine mw rfl gD ?_;refine lB (i:=6) aD ?_;refine iW.vc rfl au rfl rfl rfl call93 (nY (((t.af[i.toNat]'aa)).keys[a]) w4) ⟨ot,trivial⟩ ?_;refine gP 12 rfl (nZ (pl:=[(0,_),(1,_)]) (ds:=[_,_]) rfl zeroValue99 runUnderlying99 uR ⟨rfl,ot,rfl,ot,trivial⟩ rfl rfl) ?_;refine lB (i:=13) aD ?_;refine iW.yield (Y:=Y) (pre:=E) (y:=(((t.af[i.toNat]'aa)).keys[a],((t.af[i.toNat]'aa)).kids[a])) (Sc:=I) (R:=[⟨b7,165,5,cP (t.af[i.toNat]'aa)⟩]) rfl au rfl rfl ot aO lk vh (perm_append_singleton _ _).symm U vA hY O w7 (fun GF SU=>?_) (fun GF SU=>?_)
     ·refine uX (perm_append_singleton _ _) ?_;refine gP 14 rfl mv ?_;refine mY (y:=⟨46,[(0,_),(1,_),(5,_),(7,_),(43,_)],(⟨b7,165,5,[_,_,_,_,_]⟩::GF)⟩) (Wk.eN rfl rfl gg) ?_;refine nD aD ?_;refine gK ?_;refine bM [0,1,5,7] ?_;refine⟨((a+1),(E++[(((t.af[i.toNat]'aa)).keys[a],((t.af[i.toNat]'aa)).kids[a])]),GF),_,cR,aL,vw,w4,SU,rfl⟩
     refine gP 14 rfl mv ?_;refine mY (y:=⟨46,[(0,_),(43,_)],(GF)⟩) (Wk.eN rfl rfl gg) ?_;refine nD aD ?_;refine fu ?_;refine rI ?_;refine⟨.inr rfl,⟨_,sO results98⟩,(show 0<46 by decide),GF,Sublist.refl _,?_⟩;exact .inr ⟨E++[(((t.af[i.toNat]'aa)).keys[a],((t.af[i.toNat]'aa)).kids[a])],⟨(jW t (i::r)).drop (a+1),by rw[rN,j8,append_assoc];rfl⟩,SU,lk⟩
    refine mw rfl gD ?_;refine lB (i:=5) aD ?_;refine mw rfl gD ?_;refine lB (i:=6) aD ?_;refine iW.vc rfl au rfl rfl rfl call93 (nY (((t.af[i.toNat]'aa)).keys[a]) w4) ⟨ot,trivial⟩ ?_;refine gP 12 rfl (nZ (pl:=[(0,_),(1,_)]) (ds:=[_,_]) rfl zeroValue99 runUnderlying99 uR ⟨rfl,ot,rfl,ot,trivial⟩ rfl rfl) ?_;refine lB (i:=13) aD ?_;refine iW.yield (Y:=Y) (pre:=E) (y:=(((t.af[i.toNat]'aa)).keys[a],((t.af[i.toNat]'aa)).kids[a])) (Sc:=I) (R:=[⟨b7,165,5,cP (t.af[i.toNat]'aa)⟩]) rfl au rfl rfl ot aO lk vh (perm_append_singleton _ _).symm U vA hY O w7 (fun GG SV=>?_) (fun GG SV=>?_)
    ·refine uX (perm_append_singleton _ _) ?_;refine gP 14 rfl mv ?_;refine mY (y:=⟨46,[(0,_),(1,_),(5,_),(7,_),(43,_)],(⟨b7,165,5,[_,_,_,_,_]⟩::GG)⟩) (Wk.eN rfl rfl gg) ?_;refine nD aD ?_;refine gK ?_;refine bM [0,1,5,7] ?_;refine⟨((a+1),(E++[(((t.af[i.toNat]'aa)).keys[a],((t.af[i.toNat]'aa)).kids[a])]),GG),_,cR,aL,vw,w4,SV,rfl⟩
    refine gP 14 rfl mv ?_;refine mY (y:=⟨46,[(0,_),(43,_)],(GG)⟩) (Wk.eN rfl rfl gg) ?_;refine nD aD ?_;refine fu ?_;refine rI ?_;refine⟨.inr rfl,⟨_,sO results98⟩,(show 0<46 by decide),GG,Sublist.refl _,?_⟩;exact .inr ⟨E++[(((t.af[i.toNat]'aa)).keys[a],((t.af[i.toNat]'aa)).kids[a])],⟨(jW t (i::r)).drop (a+1),by rw[rN,j8,append_assoc];rfl⟩,SV,lk⟩
   refine mw rfl (gW 0) ?_;refine gP 10 rfl (ei 1 (h:=JE)) ?_;refine wu (i:=2) (j:=11) aD ?_ ?_
   ·refine mw rfl (gW 0) ?_;refine gP 4 rfl (ei 1 (h:=PO)) ?_;refine wu (i:=5) (j:=11) aD ?_ ?_
    ·refine mw rfl gD ?_;refine wu (i:=6) (j:=11) aD ?_ ?_
     ·refine iW.vc rfl au rfl rfl rfl call93 (nY (((t.af[i.toNat]'aa)).keys[a]) w4) ⟨ot,trivial⟩ ?_;refine lB (i:=11) aD ?_;refine mw rfl gD ?_;refine gP 12 rfl (nZ (pl:=[(0,_),(1,_)]) (ds:=[_,_]) rfl zeroValue99 runUnderlying99 uR ⟨rfl,ot,rfl,ot,trivial⟩ rfl rfl) ?_;refine lB (i:=13) aD ?_;refine iW.yield (Y:=Y) (pre:=E) (y:=(((t.af[i.toNat]'aa)).keys[a],((t.af[i.toNat]'aa)).kids[a])) (Sc:=I) (R:=[⟨b7,165,5,cP (t.af[i.toNat]'aa)⟩]) rfl au rfl rfl ot aO lk vh (perm_append_singleton _ _).symm U vA hY O w7 (fun GH SX=>?_) (fun GH SX=>?_)
      ·refine uX (perm_append_singleton _ _) ?_;refine gP 14 rfl mv ?_;refine mY (y:=⟨46,[(0,_),(1,_),(5,_),(7,_),(43,_)],(⟨b7,165,5,[_,_,_,_,_]⟩::GH)⟩) (Wk.eN rfl rfl gg) ?_;refine nD aD ?_;refine gK ?_;refine bM [0,1,5,7] ?_;refine⟨((a+1),(E++[(((t.af[i.toNat]'aa)).keys[a],((t.af[i.toNat]'aa)).kids[a])]),GH),_,cR,aL,vw,w4,SX,rfl⟩
      refine gP 14 rfl mv ?_;refine mY (y:=⟨46,[(0,_),(43,_)],(GH)⟩) (Wk.eN rfl rfl gg) ?_;refine nD aD ?_;refine fu ?_;refine rI ?_;refine⟨.inr rfl,⟨_,sO results98⟩,(show 0<46 by decide),GH,Sublist.refl _,?_⟩;exact .inr ⟨E++[(((t.af[i.toNat]'aa)).keys[a],((t.af[i.toNat]'aa)).kids[a])],⟨(jW t (i::r)).drop (a+1),by rw[rN,j8,append_assoc];rfl⟩,SX,lk⟩
     refine mw rfl gD ?_;refine lB (i:=6) aD ?_;refine iW.vc rfl au rfl rfl rfl call93 (nY (((t.af[i.toNat]'aa)).keys[a]) w4) ⟨ot,trivial⟩ ?_;refine gP 12 rfl (nZ (pl:=[(0,_),(1,_)]) (ds:=[_,_]) rfl zeroValue99 runUnderlying99 uR ⟨rfl,ot,rfl,ot,trivial⟩ rfl rfl) ?_;refine lB (i:=13) aD ?_;refine iW.yield (Y:=Y) (pre:=E) (y:=(((t.af[i.toNat]'aa)).keys[a],((t.af[i.toNat]'aa)).kids[a])) (Sc:=I) (R:=[⟨b7,165,5,cP (t.af[i.toNat]'aa)⟩]) rfl au rfl rfl ot aO lk vh (perm_append_singleton _ _).symm U vA hY O w7 (fun GI SY=>?_) (fun GI SY=>?_)
     ·refine uX (perm_append_singleton _ _) ?_;refine gP 14 rfl mv ?_;refine mY (y:=⟨46,[(0,_),(1,_),(5,_),(7,_),(43,_)],(⟨b7,165,5,[_,_,_,_,_]⟩::GI)⟩) (Wk.eN rfl rfl gg) ?_;refine nD aD ?_;refine gK ?_;refine bM [0,1,5,7] ?_;refine⟨((a+1),(E++[(((t.af[i.toNat]'aa)).keys[a],((t.af[i.toNat]'aa)).kids[a])]),GI),_,cR,aL,vw,w4,SY,rfl⟩
     refine gP 14 rfl mv ?_;refine mY (y:=⟨46,[(0,_),(43,_)],(GI)⟩) (Wk.eN rfl rfl gg) ?_;refine nD aD ?_;refine fu ?_;refine rI ?_;refine⟨.inr rfl,⟨_,sO results98⟩,(show 0<46 by decide),GI,Sublist.refl _,?_⟩;exact .inr ⟨E++[(((t.af[i.toNat]'aa)).keys[a],((t.af[i.toNat]'aa)).kids[a])],⟨(jW t (i::r)).drop (a+1),by rw[rN,j8,append_assoc];rfl⟩,SY,lk⟩
    refine mw rfl gD ?_;refine lB (i:=5) aD ?_;refine mw rfl gD ?_;refine lB (i:=6) aD ?_;refine iW.vc rfl au rfl rfl rfl call93 (nY (((t.af[i.toNat]'aa)).keys[a]) w4) ⟨ot,trivial⟩ ?_;refine gP 12 rfl (nZ (pl:=[(0,_),(1,_)]) (ds:=[_,_]) rfl zeroValue99 runUnderlying99 uR ⟨rfl,ot,rfl,ot,trivial⟩ rfl rfl) ?_;refine lB (i:=13) aD ?_;refine iW.yield (Y:=Y) (pre:=E) (y:=(((t.af[i.toNat]'aa)).keys[a],((t.af[i.toNat]'aa)).kids[a])) (Sc:=I) (R:=[⟨b7,165,5,cP (t.af[i.toNat]'aa)⟩]) rfl au rfl rfl ot aO lk vh (perm_append_singleton _ _).symm U vA hY O w7 (fun GJ SZ=>?_) (fun GJ SZ=>?_)
    ·refine uX (perm_append_singleton _ _) ?_;refine gP 14 rfl mv ?_;refine mY (y:=⟨46,[(0,_),(1,_),(5,_),(7,_),(43,_)],(⟨b7,165,5,[_,_,_,_,_]⟩::GJ)⟩) (Wk.eN rfl rfl gg) ?_;refine nD aD ?_;refine gK ?_;refine bM [0,1,5,7] ?_;refine⟨((a+1),(E++[(((t.af[i.toNat]'aa)).keys[a],((t.af[i.toNat]'aa)).kids[a])]),GJ),_,cR,aL,vw,w4,SZ,rfl⟩
    refine gP 14 rfl mv ?_;refine mY (y:=⟨46,[(0,_),(43,_)],(GJ)⟩) (Wk.eN rfl rfl gg) ?_;refine nD aD ?_;refine fu ?_;refine rI ?_;refine⟨.inr rfl,⟨_,sO results98⟩,(show 0<46 by decide),GJ,Sublist.refl _,?_⟩;exact .inr ⟨E++[(((t.af[i.toNat]'aa)).keys[a],((t.af[i.toNat]'aa)).kids[a])],⟨(jW t (i::r)).drop (a+1),by rw[rN,j8,append_assoc];rfl⟩,SZ,lk⟩
   refine mw rfl gD ?_;refine lB (i:=2) aD ?_;refine mw rfl (gW 0) ?_;refine gP 4 rfl (ei 1 (h:=PO)) ?_;refine lB (i:=5) aD ?_;refine mw rfl gD ?_;refine lB (i:=6) aD ?_;refine iW.vc rfl au rfl rfl rfl call93 (nY (((t.af[i.toNat]'aa)).keys[a]) w4) ⟨ot,trivial⟩ ?_;refine gP 12 rfl (nZ (pl:=[(0,_),(1,_)]) (ds:=[_,_]) rfl zeroValue99 runUnderlying99 uR ⟨rfl,ot,rfl,ot,trivial⟩ rfl rfl) ?_;refine lB (i:=13) aD ?_;refine iW.yield (Y:=Y) (pre:=E) (y:=(((t.af[i.toNat]'aa)).keys[a],((t.af[i.toNat]'aa)).kids[a])) (Sc:=I) (R:=[⟨b7,165,5,cP (t.af[i.toNat]'aa)⟩]) rfl au rfl rfl ot aO lk vh (perm_append_singleton _ _).symm U vA hY O w7 (fun Z QJ=>?_) (fun Z QJ=>?_)
   ·refine uX (perm_append_singleton _ _) ?_;refine gP 14 rfl mv ?_;refine mY (y:=⟨46,[(0,_),(1,_),(5,_),(7,_),(43,_)],(⟨b7,165,5,[_,_,_,_,_]⟩::Z)⟩) (Wk.eN rfl rfl gg) ?_;refine nD aD ?_;refine gK ?_;refine bM [0,1,5,7] ?_;refine⟨((a+1),(E++[(((t.af[i.toNat]'aa)).keys[a],((t.af[i.toNat]'aa)).kids[a])]),Z),_,cR,aL,vw,w4,QJ,rfl⟩
   refine gP 14 rfl mv ?_;refine mY (y:=⟨46,[(0,_),(43,_)],(Z)⟩) (Wk.eN rfl rfl gg) ?_;refine nD aD ?_;refine fu ?_;refine rI ?_;refine⟨.inr rfl,⟨_,sO results98⟩,(show 0<46 by decide),Z,Sublist.refl _,?_⟩;exact .inr ⟨E++[(((t.af[i.toNat]'aa)).keys[a],((t.af[i.toNat]'aa)).kids[a])],⟨(jW t (i::r)).drop (a+1),by rw[rN,j8,append_assoc];rfl⟩,QJ,lk⟩
  have fG:a=(t.pg i).keys.length:=(by rw[jl];have:=bg;simp at this;omega)
  refine bM [0,1,4,5] ?_;refine⟨(r,0,E,I),_,(by (show length r<length (i::r);simp)),(aL (h:=w90)),hL.tail,(by rw[rN,afT v hL fG]),(fun x hx=>Nat.zero_le _),U,rfl⟩
 have aqe:ls=[]:=hL.head.2 zP;refine qm ?_;refine⟨.inl rfl,⟨_,sO results98⟩,(show 0<46 by decide),Sc,Sublist.refl _,?_⟩;exact .inl ⟨pre,by rw[Rr,aqe];simp[jW],hj,lk⟩
open Go.Lib (compareBytes)
theorem alf(e:K×Int):(cE e).all V.one=true:=rfl
theorem al6(k:K):fL (cK k)=true:=by simp[cK,fL,gC,uc]
theorem al7(n:Int):fL (cI n)=true:=rfl
theorem alc(p:dU):fL (cP p)=true:=by simp[cP,fL,gC,uc,xC al6,xC al7]
def Zm(t:aI)(k:K):D:=.fg (.func 98) (OX t k)
noncomputable def u7(eL:K)(x:K×Int):Bool:=decide (0<eL.length/\bI eL x.1)
noncomputable def xV(t:aI)(h:Nat)(f eL:K):List (K×Int):=(l6 t h f).takeWhile fun x=>!u7 eL x
noncomputable def zF(t:aI)(h:Nat)(f eL:K):List (K×Int)×Int:=if gF t=0 then (if f.length<=100/\eL.length<=100 then (xV t h f eL,0) else ([],1)) else ([],gF t)
noncomputable def sR(t:aI)(h:Nat)(k:K):Option (K×Int):=(l6 t h k).find? fun x=>decide (x.1≠k)
noncomputable def sV(t:aI)(h:Nat)(k:K):List D×Int:=if gF t=0 then (if k.length<=100 then (match sR t h k with|some x=>(cE x,0)|none=>([aJ,ae 0],8)) else ([aJ,ae 0],1)) else ([aJ,ae 0],gF t)
theorem MA{α:Type}{p:α->Bool}:∀{l:List α},(∀x∈l,p x=true)->l.takeWhile p=l
 | [],_=>rfl
 | x::l,h=>by rw[takeWhile_cons,if_pos (h x mem_cons_self),MA fun y hy=>h y (mem_cons_of_mem _ hy)]
theorem U6{α:Type}{p:α->Bool}{y:α}{r:List α}(hy:p y=false):∀{l:List α},(∀x∈l,p x=true)->(l++y::r).takeWhile p=l
 | [],_=>by rw[nil_append,takeWhile_cons,if_neg (by rw[hy];decide)]
 | x::l,h=>by rw[cons_append,takeWhile_cons,if_pos (h x mem_cons_self),U6 hy fun y hy=>h y (mem_cons_of_mem _ hy)]
theorem HH{α:Type}{p:α->Bool}{l:List α}(h:∀x∈l,p x=false):l.find? p=none:=find?_eq_none.2 fun x hx=>by rw[h x hx];decide
theorem HO{α:Type}{p:α->Bool}{y:α}{r:List α}(hy:p y=true):∀{l:List α},(∀x∈l,p x=false)->(l++y::r).find? p=some y
 | [],_=>by rw[nil_append,find?_cons,hy]
 | x::l,h=>by rw[cons_append,find?_cons,h x mem_cons_self];exact HO hy fun y hy=>h y (mem_cons_of_mem _ hy)
def zL(b9 b5:Nat)(eL:K)(pre:List (K×Int))(Sc:List ag):Prop:=(∀x∈pre,u7 eL x=false)/\∃ad cap So,bF 99 2 (pre.flatMap cE) pre.length ad cap So/\Sc=⟨b9,95,1,[aS ad pre.length cap]⟩::⟨b5,83,1,[aj 1 cB eL]⟩::So
def Jw(b9 b5:Nat)(eL:K)(pre:List (K×Int))(Sc:List ag):Prop:=∃init y,pre=init++[y]/\u7 eL y=true/\zL b9 b5 eL init Sc
theorem zL.gC{b9 b5:Nat}{eL:K}{pre:List (K×Int)}{Sc:List ag}(h:zL b9 b5 eL pre Sc):∀B∈Sc,fL B.cs=true:=by
 obtain⟨_,ad,cap,So,ho,rfl⟩:=h;intro B hB;rcases mem_cons.1 hB with rfl|hB
 ·rfl
 rcases mem_cons.1 hB with rfl|hB
 ·simp[fL,V.gC,uc]
 rcases ho with ⟨_,_,_,_,rfl⟩|⟨b,_,_,_,rfl⟩
 ·cases hB
 rw[mem_singleton] at hB;subst hB;exact xC xI pre
theorem Jw.gC{b9 b5:Nat}{eL:K}{pre:List (K×Int)}{Sc:List ag}(h:Jw b9 b5 eL pre Sc):∀B∈Sc,fL B.cs=true:=by
 obtain⟨init,y,_,_,h⟩:=h;exact h.gC
def Pq(b9 b5:Nat)(eL:K)(pre:List (K×Int))(y:K×Int)(Sc:List ag)(z:St):Prop:=zL b9 b5 eL pre Sc/\∃kr,z=⟨43,[(5,dw b5),(9,dw b9),(10,dw kr)],⟨kr,99,2,cE y⟩::Sc⟩
theorem Pq.gC{b9 b5:Nat}{eL:K}{pre:List (K×Int)}{y:K×Int}{Sc:List ag}{z:St}(h:Pq b9 b5 eL pre y Sc z):(z.env.all fun p=>V.gC p.2)=true/\∀B∈z.S,fL B.cs=true:=by
 obtain⟨hj,kr,rfl⟩:=h;exact z146
theorem aiY{b9 b5:Nat}{t:aI}{h:Nat}{f eL:K}{Sc:List ag}{c d:Code}(he:(∃xs,xs=l6 t h f/\zL b9 b5 eL xs Sc)\/(c=d/\∃pre,pre <+: l6 t h f/\Jw b9 b5 eL pre Sc)):∃I,I=xV t h f eL/\zL b9 b5 eL I Sc:=by
 rcases he with ⟨xs,rfl,hj⟩|⟨_,pre,⟨r,hr⟩,E,y,rfl,hy,hj⟩
 ·exact⟨_,(MA fun x hx=>by rw[hj.1 x hx];rfl).symm,hj⟩
 refine⟨E,?_,hj⟩;unfold xV;rw[<-hr,append_assoc,singleton_append];exact(U6 (by rw[hy];rfl) fun x hx=>by rw[hj.1 x hx];rfl).symm
theorem akw(t:aI)(k:K):VC Tryz.prog G 60 [.agg (cT t),aj 1 cB k] [] (fun r S=>∃b2 b3,r = .fg (.func 98) [dw b2,dw b3]/\S=[⟨b3,83,1,[aj 1 cB k]⟩,⟨b2,74,2,cT t⟩]):=by
 refine bA func60 rfl ntmps60 aO fun X0 w0 bz=>?_;unfold cT;refine cq ?_;refine dm [_,_] (fun b2=>?_);refine dm [_] (fun b3=>?_);refine ap 6 [2,3] ?_;refine cJ [4] ?_;refine aM 0 ?_ (h:=JF);refine bB ?_;refine eD [_,_] ?_;exact⟨_,_,rfl,rfl⟩
theorem X6(t:aI)(k:K):VP Tryz.prog G 60 [.agg (cT t),aj 1 cB k] (Zm t k):=VC.cover (akw t k) fun r S ⟨b2,b3,hr,hS⟩=>by
 subst hr;subst hS;exact aid ⟨VV (e:=74) (size:=2) (cs:=cT t) (mem_cons_of_mem _ mem_cons_self) iO.same,VV (e:=83) (size:=1) mem_cons_self iO.same,trivial⟩
theorem aft:(Tryz.prog.info? 99).map (fun i=>(i.zero,i.size,i.bytes))=some (some (.agg #[.slice none 0 0,.int .i64 0]),2,32):=by kernel_rfl
theorem akx(t:aI)(h:Nat)(hb:∀p∈t.af,p.keys.length<=maxLen/\p.kids.length<=maxLen)(hv:gF t=0->Valid t h)(f eL:K):VP Tryz.prog G 36 [.agg (cT t),aj 1 cB f,aj 1 cB eL] (.dF [.list 2 ((zF t h f eL).1.flatMap cE) (zF t h f eL).1.length,ae (zF t h f eL).2]):=by
 refine VC.xY func36 rfl ntmps36 aO fun X0 w0 bz=>?_;have dy:=ee;have fB:=qP (G:=G) t hb;have k8:=X6 (G:=G) t f;unfold cT at fB k8;unfold cT;refine cq ?_;refine dm [_,_] (fun b3=>?_);refine dm [_] (fun b5=>?_);refine ap 43 [1,3,5] ?_;refine cW [1,3,5,8] (fB) ?_;refine ax [1,3,5,8,14] ?_ ?_<;>intro aP bH
 ·have hn:¬gF t=0:=(by simpa using aP)
  refine ay [6,7] ?_;refine kX (Wk.tY (t:=6) (sz:=2) lk) ?_;refine eD [] ?_;exact⟨by unfold zF;rw[if_neg hn];rfl,rfl⟩
 have hz:gF t=0:=(by simpa using aP)
 have v:=hv hz;have ZJ:=WB v f;refine az 4 ?_;refine cz 19 (fun U O=>?_) (fun U O=>?_)
 ·refine bL [1,3,5,23] ?_;refine fu ?_;exact aaC
 refine bL [1,3,5,23] ?_;refine bX ?_ ?_<;>intro bg cM
 ·exact aaC
 have Z:f.length<=100/\eL.length<=100:=(by simp_all;omega)
 have hf1:f.length<=maxLen:=(by omega)
 refine cq ?_;refine cD (ds:=[_]) au rfl rfl zeroValue95 rfl (fun b9=>?_);refine ap 43 [1,3,5,9] ?_;refine Xv ?_;refine dB 2 ?_;refine dK call60 (k8) ?_;refine ap 43 [5,9,26] ?_;refine vK.wk (Wk.drop _ _ _ [⟨b9,95,1,[aJ]⟩,⟨b5,83,1,[aj 1 cB eL]⟩] (Sublist.cons_cons _ (Sublist.cons_cons _ (Sublist.cons _ (Sublist.refl _))))) ?_;refine vK.range ot call98 (WE t h v f hf1) (fun _=>rfl) WD (.exit 0) (.inr rfl) (zL b9 b5 eL) (Jw b9 b5 eL) (fun _ _ h=>h.gC) (fun _ _ h=>h.gC) ⟨(fun _ h=>by cases h),none,0,[],jt,rfl⟩ (Pq b9 b5 eL) (fun _ _ _ _ h=>h.gC) ?_ ?_ ?_ (fun h=>by cases h)
 ·intro X1 W1 S1 l1 pre y Sc hJ hN;refine CI.region CT rfl ?_;refine cD (ds:=[_,_]) au rfl rfl zeroValue99 rfl (fun kr=>?_);refine aN 0 [_,_] sizeOf99 ?_;refine fF (Wk.eN (n:=43) (l':=[(5,_),(9,_),(10,_)]) (S':=(⟨kr,99,2,[_,_]⟩::Sc)) rfl rfl gg) ?_;refine jX ?_;exact⟨rfl,hJ,kr,rfl⟩
 ·intro X1 W1 S1 l1 pre y Sc z hJ hN hz;obtain⟨⟨bf,ad,cap,So,ho,rfl⟩,kr,rfl⟩:=hz;unfold cE;refine CI.block ?_;refine CI.seq ?_;refine CI.seq ?_;refine CI.region CT rfl ?_;refine bS (gW 2) ?_;refine bS Dc ?_;refine bS AE ?_;refine om_ ?_;refine VM (t:=31) lk (fun I=>?_) (fun I=>?_)
  ·have E:=I;(try simp only[V.ox,ne_eq] at E)
   refine bS (j3 0) ?_;refine bS (gW 0) ?_;refine bS (gW 2) ?_;refine pS jq rfl rfl rfl call61 (zv y.1 eL) ⟨ot,ot,trivial⟩ ?_;refine bS AE ?_;refine bS Cy ?_;refine fF (Wk.eN (n:=43) (l':=[(9,_),(10,_),(37,_)]) (S':=(⟨kr,99,2,[_,_]⟩::⟨b9,95,1,[_]⟩::⟨b5,83,1,[_]⟩::So)) rfl rfl gg) ?_;refine jX ?_;refine CI.cond ot (fun cl=>?_) (fun cl=>?_)
   ·have di:=cl
    (try simp only[V.ox,ne_eq] at di)
    have ff:u7 eL y=true:=(by unfold u7;simp_all[YK])
    refine CI.exit ?_;exact⟨rfl,_,Sublist.cons _ (Sublist.refl _),pre,y,rfl,ff,bf,ad,cap,So,ho,rfl⟩
   have di:=cl
   (try simp only[V.ox,ne_eq] at di)
   exact z32
  have E:=I;(try simp only[V.ox,ne_eq] at E)
  refine F7 ?_;refine F7 ?_;refine F7 ?_;refine F7 ?_;refine F7 ?_;refine bS zT ?_;refine nm_ [9,10,37] ?_;refine CI.amO ot ko ?_;exact z32
 intro W1 S1 D1 Sc fG;obtain⟨es,hes,bf,ad,cap,So,ho,rfl⟩:=aiY fG;refine ay [6,7] ?_;refine mS (t:=6) (Sq:=So) lk ho (dg YL _) (dL (A:=[_,_])) ?_;refine rI ?_;refine⟨rfl,PI,(by intro B hB;simp only[mem_cons,not_mem_nil,or_false] at hB;rcases hB with rfl|rfl<;>simp[gC,fL,uc]),_,[],nil_sublist _,Ec results36 (BR aO lk) (BR aO lk),(by simp[gC,fL,xC xI]),?_⟩;rw[hes];exact⟨by unfold zF;rw[if_pos hz,if_pos ⟨by omega,by omega⟩],rfl⟩
end
variable {t:aI} {k:K} {α:Type} {i:Nat} {J:List D}
def EL(b5 b4 b3:Nat)(k:K)(pre:List (K×Int))(Sc:List ag):Prop:=(∀x∈pre,x.1=k)/\Sc=⟨b5,40,1,[ae 0]⟩::⟨b4,99,2,[aJ,ae 0]⟩::⟨b3,83,1,[aj 1 cB k]⟩::[]
def Pr(b5 b4 b3:Nat)(k:K)(pre:List (K×Int))(Sc:List ag):Prop:=∃init y,pre=init++[y]/\(∀x∈init,x.1=k)/\y.1≠k/\Sc=⟨b5,40,1,[ae 0]⟩::⟨b4,99,2,cE y⟩::⟨b3,83,1,[aj 1 cB k]⟩::[]
theorem EL.gC{b5 b4 b3:Nat}{k:K}{pre:List (K×Int)}{Sc:List ag}(h:EL b5 b4 b3 k pre Sc):∀B∈Sc,fL B.cs=true:=by
 obtain⟨_,rfl⟩:=h;intro B hB;simp only[mem_cons,not_mem_nil,or_false] at hB;rcases hB with rfl|rfl|rfl<;>simp[fL,V.gC,uc]
theorem Pr.gC{b5 b4 b3:Nat}{k:K}{pre:List (K×Int)}{Sc:List ag}(h:Pr b5 b4 b3 k pre Sc):∀B∈Sc,fL B.cs=true:=by
 obtain⟨_,y,_,_,_,rfl⟩:=h;intro B hB;simp only[mem_cons,not_mem_nil,or_false] at hB;rcases hB with rfl|rfl|rfl<;>simp[fL,V.gC,uc,xI]
def Ps(b5 b4 b3:Nat)(k:K)(pre:List (K×Int))(y:K×Int)(Sc:List ag)(z:St):Prop:=EL b5 b4 b3 k pre Sc/\∃b7,z=⟨29,[(3,dw b3),(4,dw b4),(5,dw b5),(7,dw b7)],⟨b7,99,2,cE y⟩::Sc⟩
theorem Ps.gC{b5 b4 b3:Nat}{k:K}{pre:List (K×Int)}{y:K×Int}{Sc:List ag}{z:St}(h:Ps b5 b4 b3 k pre y Sc z):(z.env.all fun p=>V.gC p.2)=true/\∀B∈z.S,fL B.cs=true:=by
 obtain⟨hj,b7,rfl⟩:=h;exact z146
theorem afU{h:Nat}(hz:gF t=0)(hk:k.length<=100)(hx:∀x∈l6 t h k,x.1=k):sV t h k=([aJ,ae 0],8):=by
 unfold sV sR;rw[if_pos hz,if_pos hk,HH fun x h=>by simp[hx x h]]
theorem afV{h:Nat}{E r:List (K×Int)}{y:K×Int}(hz:gF t=0)(hk:k.length<=100)(he:E++[y]++r=l6 t h k)(hx:∀x∈E,x.1=k)(hy:y.1≠k):sV t h k=(cE y,0):=by
 unfold sV sR;rw[if_pos hz,if_pos hk,<-he,append_assoc,singleton_append,HO (by simp[hy]) fun x h=>by simp[hx x h]]
variable {G:List (Nat×List Value)}
theorem X7{w:World}{L:Nat->Prop}{v:Value}(h:cG w L (aj 1 cB k) v):k.length<=maxLen:=by
 generalize hd:(aj 1 cB k:D)=d at h;cases h with
 | nK sz ad cap=>injection hd with _ _ h3;omega
 | list sz cs len b o cap f hl h1 h2=>injection hd with _ _ h3;omega
 | _=>cases hd
theorem al8(a b:K):VP Tryz.prog G 95 [aj 1 cB a,aj 1 cB b] (aW (decide (a=b))):=fun X w vs hp=>by
 have hr:=hp.args;match vs,hr with
 | [u,v],hr =>
  obtain⟨r1,r2⟩:=hr.tail;obtain⟨r3,E⟩:=r2.tail;exact Pn a b (X7 r1) (X7 r3) X w _ hp
 | [],hr=>exact absurd hr.1 bC
 | [_],hr=>exact absurd hr.1 bC
 | _::_::_::_,hr=>exact absurd hr.1 bC
theorem aiZ(t:aI)(h:Nat)(hb:∀p∈t.af,p.keys.length<=maxLen/\p.kids.length<=maxLen)(hv:gF t=0->Valid t h)(k:K):VP Tryz.prog G 56 [.agg (cT t),aj 1 cB k] (.dF [.agg (sV t h k).1,ae (sV t h k).2]):=by
 refine VC.xY func56 rfl ntmps56 aO fun X0 w0 bz=>?_;have dy:=ee;have fB:=qP (G:=G) t hb;have k8:=X6 (G:=G) t k;unfold cT at fB k8;unfold cT;refine cq ?_;refine dm [_,_] (fun b2=>?_);refine dm [_] (fun b3=>?_);refine cD (ds:=[_,_]) au rfl rfl zeroValue99 rfl (fun b4=>?_);refine cD (ds:=[_]) au rfl rfl zeroValue40 rfl (fun b5=>?_);refine ap 29 [2,3,4,5] ?_;refine cW [2,3,4,5,6] (fB) ?_;refine ax [2,3,4,5,6,11] ?_ ?_<;>intro aP bH
 ·have hn:¬gF t=0:=(by simpa using aP)
  refine az 2 ?_;refine aN 1 [_,_] sizeOf99 ?_;refine aN 0 [_] sizeOf40 ?_;refine eA 29 [4,5] [] ?_;exact⟨by unfold sV;rw[if_neg hn],rfl⟩
 have hz:gF t=0:=(by simpa using aP)
 have v:=hv hz;refine ax [2,3,4,5,16] ?_ ?_<;>intro bg cM
 ·have O4:¬k.length<=100:=(by simp_all;omega)
  refine az 1 ?_;refine aN 1 [_,_] sizeOf99 ?_;refine aN 0 [_] sizeOf40 ?_;refine eA 29 [4,5] [] ?_;exact⟨by unfold sV;rw[if_pos hz,if_neg O4],rfl⟩
 have E:k.length<=100:=(by simp_all;omega)
 have eK:k.length<=maxLen:=(by omega)
 refine eI ?_;refine Xv ?_;refine dB 2 ?_;refine dK call60 (k8) ?_;refine ap 29 [3,4,5,20] ?_;refine vK.wk (Wk.drop _ _ _ [⟨b5,40,1,[ae 0]⟩,⟨b4,99,2,[aJ,ae 0]⟩,⟨b3,83,1,[aj 1 cB k]⟩] (Sublist.cons_cons _ (Sublist.cons_cons _ (Sublist.cons_cons _ (Sublist.cons _ (Sublist.refl _)))))) ?_;refine vK.range ot call98 (WE t h v k eK) (fun _=>rfl) WD .ret (.inl rfl) (EL b5 b4 b3 k) (Pr b5 b4 b3 k) (fun _ _ h=>h.gC) (fun _ _ h=>h.gC) ⟨(fun _ h=>by cases h),rfl⟩ (Ps b5 b4 b3 k) (fun _ _ _ _ h=>h.gC) ?_ ?_ ?_ ?_
 ·intro Z O S1 l1 pre y Sc U hN;refine CI.region CT rfl ?_;refine cD (ds:=[_,_]) au rfl rfl zeroValue99 rfl (fun b7=>?_);refine aN 0 [_,_] sizeOf99 ?_;refine fF (Wk.eN (n:=29) (l':=[(3,_),(4,_),(5,_),(7,_)]) (S':=(⟨b7,99,2,[_,_]⟩::Sc)) rfl rfl gg) ?_;refine jX ?_;exact⟨rfl,U,b7,rfl⟩
 ·intro Z O S1 l1 pre y Sc z U hN hz;obtain⟨⟨bf,rfl⟩,b7,rfl⟩:=hz;unfold cE;refine CI.block ?_;refine CI.seq ?_;refine CI.region CT rfl ?_;refine bS (j3 0) ?_;refine bS (gW 0) ?_;refine bS (gW 3) ?_;refine dK call95 (al8 y.1 k) ?_;refine bS mv ?_;refine on_ [(4,_),(5,_),(7,_),(26,_)] [⟨b7,99,2,[_,_]⟩,⟨b5,40,1,[_]⟩,⟨b4,99,2,[_,_]⟩,⟨b3,83,1,[_]⟩] ?_;refine CI.cond ot (fun cl=>?_) (fun cl=>?_)
  ·have di:=cl
   (try simp only[V.ox,ne_eq] at di)
   have ff:y.1≠k:=(by simpa using cl)
   refine CI.seq ?_;refine CI.region CT rfl ?_;refine bS (JO 0 [_,_]) ?_;refine aN 2 [_,_] sizeOf99 ?_;refine aN 1 [_] sizeOf40 ?_;refine on_ [(4,_),(5,_)] [⟨b7,99,2,[_,_]⟩,⟨b5,40,1,[_]⟩,⟨b4,99,2,[_,_]⟩,⟨b3,83,1,[_]⟩] ?_;refine CI.ret ?_;exact⟨rfl,_,Sublist.cons _ (Sublist.refl _),pre,y,rfl,bf,ff,rfl⟩
  have di:=cl
  (try simp only[V.ox,ne_eq] at di)
  have ff:y.1=k:=(by simpa using cl)
  refine CI.skip ?_;exact⟨_,Sublist.cons _ (Sublist.refl _),(fun x hx=>by rcases mem_append.1 hx with hx|hx;exact bf x hx;rw[mem_singleton] at hx;subst hx;exact ff),rfl⟩
 ·intro O S1 D1 Sc fG;obtain⟨xs,fb,bf,rfl⟩:∃xs,xs=l6 t h k/\EL b5 b4 b3 k xs Sc:=(by (rcases fG with fG|⟨fG,_⟩;(exact fG);(cases fG)))
  subst fb;have fb:=bf;refine az 1 ?_;refine aN 1 [_,_] sizeOf99 ?_;refine aN 0 [_] sizeOf40 ?_;refine ap 29 [4,5] ?_;refine rI ?_;refine⟨rfl,PI,Z4,_,[],nil_sublist _,Ec results56 (sK (k:=1) (ds:=[_,_]) aO lk rfl rfl isAgg99 sizeOf99 rfl rfl) (sN (k:=0) aO lk rfl rfl isAgg40 rfl),(by simp[gC,fL,uc]),?_⟩;rw[afU hz E fb];exact⟨rfl,rfl⟩
 intro _ pre Sc I hx;obtain⟨r,hr⟩:=I;obtain⟨init,y,rfl,bf,ff,rfl⟩:=hx;refine⟨PI,Z4,_,[],nil_sublist _,Ec results56 (sK (k:=1) (ds:=[_,_]) aO lk rfl rfl isAgg99 sizeOf99 rfl rfl) (sN (k:=0) aO lk rfl rfl isAgg40 rfl),(by simp[gC,fL,uc]),?_⟩;rw[afV hz E hr bf ff];exact⟨rfl,rfl⟩
theorem X8{g:α->List D}(hg:∀a,(g a).length=1){q:List α}{cap:Nat}(hi:i<q.length)(hc:q.length<=cap):((q.flatMap g).drop (fy cap (i+1) 1 0)).take ((q.length-(i+1))*1)=(q.drop (i+1)).flatMap g:=by
 unfold fy;by_cases h:cap=i+1
 ·have e:q.length=i+1:=(by omega)
  have e2:q.drop (i+1)=[]:=drop_of_length_le w4;rw[if_pos h,show q.length-(i+1)=0 from by omega,e2];simp
 rw[if_neg h,Nat.zero_add,xF hg,take_of_length_le];rw[dg hg,length_drop];exact Nat.le_refl _
theorem Y5{g:α->List D}(hg:∀a,(g a).length=1){q:List α}(hi:i<q.length):dY (q.flatMap g) (i*1) ((q.drop (i+1)).flatMap g)=(q.eraseIdx i).flatMap g++(q.flatMap g).drop (i*1+((q.drop (i+1)).flatMap g).length):=by
 rw[yZ _ _ _ (by rw[dg hg,dg hg,length_drop];omega),v8 hg,eraseIdx_eq_take_drop_succ,flatMap_append]
theorem aer:(Tryz.prog.info? 83).map (fun i=>i.size)=some 1:=by kernel_rfl
theorem L9(q:List K)(i cap b:Nat)(hi:i<q.length)(hc:q.length<=cap)(hm:cap<=maxLen)(hs:q.length<=1000):VC Tryz.prog G 148 [aS (some ⟨b,0,none⟩) q.length cap,ae (i:Nat),ae ((i+1:Nat):Int)] [⟨b,83,cap*1,q.flatMap cK⟩] (fun r S=>r=aS (some ⟨b,0,none⟩) (q.length-1) cap/\S=[⟨b,83,cap*1,(q.eraseIdx i).flatMap cK⟩]):=by
 refine bA func148 rfl ntmps148 aO fun X0 w0 bz=>?_;refine ay [0,1,2] ?_;refine cJ [0,1,2] ?_;refine aM 5 ?_ (h:=by exact(TD rfl ot ot ot ot runUnderlying163 sizeOf83 w4 w4 hc));refine kN ?_;refine ax [0,1,2,16] ?_ ?_<;>intro aP bH
 ·exact absurd aP wB
 refine ay [0,1,2,7] ?_;refine cL ?_;refine iX 7 (aq (eraseIdx _ 0)) ?_ (fun _ h=>(Sublist.map _ (eraseIdx_sublist _ 0)).subset h);refine iD [0,1] ?_;refine cm 2 rfl (fw (l:=0) (h:=i) rfl ot trivial ⟨_,ot⟩ Q9) ?_;refine iD [3,4] ?_;refine cm 5 rfl (fw (l:=i+1) rfl ot ⟨_,ot⟩ trivial yw) ?_;refine ew.later rfl ?_;refine bV (i:=6) aD ?_;refine Tv (n:=i) (m:=q.length-(i+1)) (k:=0) (new:=(q.drop (i+1)).flatMap cK) (cs':=(q.eraseIdx i).flatMap cK++(q.flatMap cK).drop (i*1+((q.drop (i+1)).flatMap cK).length)) rfl au rfl rfl underlying163 aer ot rfl rfl ot (X8 iw hi hc) (by rw[dg iw,length_drop]) (wq rJ _) w4 (by show _<=(q.flatMap cK).length;rw[dg iw];omega) (Y5 iw hi) jB ?_;rw[show i+(q.length-(i+1))=q.length-1 from by omega];refine gd ?_;refine bL [0,7] ?_;refine az 4 ?_;refine bS (fw (l:=q.length-1) (h:=q.length) rfl ot ⟨_,ot⟩ ⟨_,ot⟩ (by first|exact qq (fun h=>by cases h) runUnderlying163 sizeOf83 w4|exact BK (fun h=>by cases h) (fun h=>by cases h) runUnderlying163 sizeOf83 w4 w4|exact pU (fun h=>by cases h) (fun h=>by cases h) runUnderlying163 sizeOf83 w4 w4)) ?_;refine Br (k:=0) (cs':=(q.eraseIdx i).flatMap cK) rfl (prefix_append _ _) ?_;refine VN (k:=0) (sz:=1) au rfl rfl underlying163 zeroValue83 rfl aD ot rfl rfl (fun h0=>?_) ?_
 ·have h3:fy cap (q.length-1) 1 0=(q.length-1)*1:=(by unfold fy;rw[if_neg w4];omega)
  rw[h3];refine⟨?_,?_⟩
  ·show((q.eraseIdx i).flatMap cK).length<=_;rw[dg iw,length_eraseIdx_of_lt hi];exact Nat.le_refl _
  show _<=cap*1;omega
 refine ap 33 [0] ?_;refine dS [6] [_] ?_;exact⟨rfl,rfl⟩
theorem aes:(Tryz.prog.info? 3).map (fun i=>i.size)=some 1:=by kernel_rfl
theorem TW(q:List Int)(i cap b:Nat)(hi:i<q.length)(hc:q.length<=cap)(hm:cap<=maxLen)(hs:q.length<=1000):VC Tryz.prog G 149 [aS (some ⟨b,0,none⟩) q.length cap,ae (i:Nat),ae ((i+1:Nat):Int)] [⟨b,3,cap*1,q.flatMap cI⟩] (fun r S=>r=aS (some ⟨b,0,none⟩) (q.length-1) cap/\S=[⟨b,3,cap*1,(q.eraseIdx i).flatMap cI⟩]):=by
 refine bA func149 rfl ntmps149 aO fun X0 w0 bz=>?_;refine ay [0,1,2] ?_;refine cJ [0,1,2] ?_;refine aM 5 ?_ (h:=by exact(TD rfl ot ot ot ot runUnderlying27 sizeOf3 w4 w4 hc));refine kN ?_;refine ax [0,1,2,16] ?_ ?_<;>intro aP bH
 ·exact absurd aP wB
 refine ay [0,1,2,7] ?_;refine cL ?_;refine iX 7 (aq (eraseIdx _ 0)) ?_ (fun _ h=>(Sublist.map _ (eraseIdx_sublist _ 0)).subset h);refine iD [0,1] ?_;refine cm 2 rfl (fw (l:=0) (h:=i) rfl ot trivial ⟨_,ot⟩ Ra) ?_;refine iD [3,4] ?_;refine cm 5 rfl (fw (l:=i+1) rfl ot ⟨_,ot⟩ trivial yx) ?_;refine ew.later rfl ?_;refine bV (i:=6) aD ?_;refine Tv (n:=i) (m:=q.length-(i+1)) (k:=0) (new:=(q.drop (i+1)).flatMap cI) (cs':=(q.eraseIdx i).flatMap cI++(q.flatMap cI).drop (i*1+((q.drop (i+1)).flatMap cI).length)) rfl au rfl rfl underlying27 aes ot rfl rfl ot (X8 fp hi hc) (by rw[dg fp,length_drop]) (wq pV _) w4 (by show _<=(q.flatMap cI).length;rw[dg fp];omega) (Y5 fp hi) jB ?_;rw[show i+(q.length-(i+1))=q.length-1 from by omega];refine gd ?_;refine bL [0,7] ?_;refine az 4 ?_;refine bS (fw (l:=q.length-1) (h:=q.length) rfl ot ⟨_,ot⟩ ⟨_,ot⟩ (by first|exact qq (fun h=>by cases h) runUnderlying27 sizeOf3 w4|exact BK (fun h=>by cases h) (fun h=>by cases h) runUnderlying27 sizeOf3 w4 w4|exact pU (fun h=>by cases h) (fun h=>by cases h) runUnderlying27 sizeOf3 w4 w4)) ?_;refine Br (k:=0) (cs':=(q.eraseIdx i).flatMap cI) rfl (prefix_append _ _) ?_;refine VN (k:=0) (sz:=1) au rfl rfl underlying27 zeroValue3 rfl aD ot rfl rfl (fun h0=>?_) ?_
 ·have h3:fy cap (q.length-1) 1 0=(q.length-1)*1:=(by unfold fy;rw[if_neg w4];omega)
  rw[h3];refine⟨?_,?_⟩
  ·show((q.eraseIdx i).flatMap cI).length<=_;rw[dg fp,length_eraseIdx_of_lt hi];exact Nat.le_refl _
  show _<=cap*1;omega
 refine ap 33 [0] ?_;refine dS [6] [_] ?_;exact⟨rfl,rfl⟩
theorem Dz{α:Type}{g:α->List D}{sz:Nat}(hg:∀a,(g a).length=sz){a':α}{c:Nat}{d:D}(hc:c<sz):∀{L:List α} {j:Nat} (hj:j<L.length),g a'=(g L[j]).set c d->(L.flatMap g).set (j*sz+c) d=(L.set j a').flatMap g
 | a::L,0,_,h=>by
  simp only[getElem_cons_zero] at h;rw[flatMap_cons,set_cons_zero,flatMap_cons,h,set_append_left _ _ (by rw[hg];omega),Nat.zero_mul,Nat.zero_add]
 | a::L,j+1,hj,h=>by
  have ih:=Dz hg hc (L:=L) (j:=j) (by simpa using hj) qz;have e:(j+1)*sz+c=sz+(j*sz+c):=(by rw[Nat.succ_mul];omega)
  rw[flatMap_cons,set_cons_succ,flatMap_cons,<-ih,set_append_right _ _ (by rw[hg];omega),hg,e,show sz+(j*sz+c)-sz=j*sz+c from by omega]
theorem Y6{L:List bD}(hL:L.map bD.p=t.af){i:Int}(hi:0<=i/\i<t.af.length)(hj:i.toNat<L.length):L[i.toNat].p=t.pg i:=by
 rw[x4 hi];have h:(L.map bD.p)[i.toNat]?=some L[i.toNat].p:=(by rw[getElem?_map,getElem?_eq_getElem hj];rfl)
 rw[hL,getElem?_eq_getElem w4] at h;exact(Option.some.inj h).symm
def yN:aI:=⟨[],0⟩
def Fs(te:aI×Int)(r:D)(S:List ag):Prop:=∃r',r = .dF [r',ae te.2]/\Kb te.1 r' S
theorem BX(e:Int):Fs (yN,e) (.dF [.agg [aJ,ae 0],ae e]) []:=⟨_,rfl,[],none,0,[],rfl,jt,(fun o h=>by cases h),rfl,rfl⟩
theorem Kb.view{r:D}{S:List ag}(h:Kb t r S):View S r (.agg (cT t)):=by
 obtain⟨L,ad,cap,Sx,rfl,ho,bf,hL,rfl⟩:=h;have:=OH (root:=t.root) ho bf (fun B hB=>hB);rw[hL] at this;exact this
theorem Fs.view{te:aI×Int}{r:D}{S:List ag}(h:Fs te r S):View S r (.dF [.agg (cT te.1),ae te.2]):=by
 obtain⟨r',rfl,h⟩:=h;exact HV ⟨h.view,fN,trivial⟩
noncomputable def uw(t:aI)(k:K)(h:Nat):aI×Int:=if ng t k=0 then (if jv t k h=true then (iT t h k,0) else (yN,8)) else (yN,ng t k)
theorem U7(h:ng t k=0):gF t=0/\qB k=true:=by
 have hc:gF t=0:=Classical.byContradiction fun e=>by rw[HQ e] at h;exact e h
 refine⟨hc,?_⟩;cases hq:qB k with
 | true=>rfl
 | false=>rw[Hv hc hq] at h;cases h
theorem ahf(t:aI)(h:Nat)(k:K)(hb:∀p∈t.af,p.keys.length<=maxLen/\p.kids.length<=maxLen)(hv:gF t=0->Valid t h):VC Tryz.prog G 111 [.agg [aj 5 cP t.af,ae t.root],aj 1 cB k] [] (Fs (uw t k h)):=by
 refine bA func111 rfl ntmps111 aO fun X0 w0 bz=>?_;have fB:=L8 (G:=G) t k hb;unfold cT at fB;have hcT:cT t=[aj 5 cP t.af,ae t.root]:=rfl;have dy:=ee;refine cq ?_;refine dm [_,_] (fun b2=>?_);refine cD (ds:=[_,_]) au rfl rfl zeroValue74 rfl (fun b4=>?_);refine ap 58 [1,2,4] ?_;refine cW [1,2,4,6] (fB) ?_;refine ax [1,2,4,6,16] ?_ ?_<;>intro aP bH
 ·have hn:¬ng t k=0:=(by simpa using aP)
  refine az 2 ?_;refine aN 0 [_,_] sizeOf74 ?_;refine eA 58 [4,5] [] ?_;unfold uw;rw[if_neg hn];exact BX _
 have hz:ng t k=0:=(by simpa using aP)
 obtain⟨hc,S4⟩:=U7 hz;have v:=hv hc;have Ft:=M8 S4;have gj:=sQ (G:=G) t h v k w4 (Hp v k);obtain⟨q1,E⟩:=v.leaf k;refine az 1 ?_;refine eH au rfl rfl rfl call139 (I8 t h v) ⟨ot,trivial⟩ (fj _) ?_;rintro _ _ ⟨L,ad,cap,Sx,rfl,eW,bf,hL,rfl⟩;refine cg (eM (A:=[_,_])) ?_;refine cD (ds:=[_,_]) au rfl rfl zeroValue74 rfl (fun b7=>?_);refine aN 0 [_,_] sizeOf74 ?_;refine ap 58 [1,4,7] ?_;refine cJ [4,7,8,9,10] ?_;refine oD 2 ?_;refine CB (gj) (ha:=by exact⟨⟨_,ot,by have:=OH (root:=t.root) eW bf (fun B hB=>mem_cons_of_mem ⟨b7,74,2,[aS ad L.length cap,ae t.root]⟩ (mem_cons_of_mem ⟨b4,74,2,[aJ,ae 0]⟩ (mem_cons_of_mem ⟨b2,74,2,[aj 5 cP t.af,ae t.root]⟩ hB)));rw[hL] at this;exact this⟩,⟨_,ot,fN⟩,trivial⟩) (K:=?_);refine bB ?_;refine ax [4,7,8,9,29] ?_ ?_<;>intro bg cM
 ·have jo:jv t k h=false:=(by simpa using bg)
  refine az 1 ?_;refine aN 1 [_,_] sizeOf74 ?_;refine eA 58 [4,5] [] ?_;unfold uw;rw[if_pos hz,if_neg zO];exact BX _
 have jo:jv t k h=true:=(by simpa using bg)
 obtain⟨ha,Sk⟩:=(Ho v k).1 jo;have po:=v.gB _ (kH q1);have hle:=po.leaf E;have hfw:=po.fm;have sD:L.length=t.af.length:=(by rw[<-hL];(first|rw[length_map]|(unfold aj;rw[length_map])))
 have hj:(aV t k h t.root).toNat<L.length:=(by omega)
 have O:=Y6 hL q1 hj;obtain⟨bx,rfl,gp,Aw,rfl⟩:=eW.pos w4;have U:=bf _ (getElem_mem hj);obtain⟨o,ho⟩:∃o,o=L[(aV t k h t.root).toNat]:=⟨_,rfl⟩
 rw[<-ho] at U O;rcases o with ⟨p,ak,ck,sk,ai,ci,si⟩
 have jl:p=t.pg (aV t k h t.root):=O;obtain⟨eK,Z⟩:pW p.keys ak ck sk/\oT p.kids ai ci si:=U;rw[<-jl] at ha hle hfw;obtain⟨bk,rfl,eT,vC,rfl⟩:=eK.pos w4;obtain⟨bi,rfl,gq,Ky,rfl⟩:=Z.pos w4;have I:(L.flatMap bO).Perm (⟨bk,83,ck*1,flatMap cK p.keys⟩::⟨bi,3,ci*1,flatMap cI p.kids⟩::((L.eraseIdx (aV t k h t.root).toNat).flatMap bO)):=(by have:=BW bO hj;rw[<-ho] at this;exact this)
 refine rE (Perm.cons _ (Perm.cons _ (Perm.cons _ (Perm.cons _ I)))) ?_;rw[jl] at ha;have ha:(bn (t.pg (aV t k h t.root)) k)<p.keys.length:=(by rw[jl];exact ha)
 have rU:(bn (t.pg (aV t k h t.root)) k)<p.kids.length:=(by omega)
 have hid:=eT;clear eK Z;refine cJ [4,7,9,11] ?_;refine aM 3 ?_ (h:=by exact(ei 5 (h:=by first|exact .l (j:=(aV t k h t.root).toNat) (Int.toNat_of_nonneg q1.1).symm hj|exact .r (j:=(aV t k h t.root).toNat) (Int.toNat_of_nonneg q1.1).symm hj)));refine bB ?_;refine cL ?_;refine iX 21 (aq (take 3 _)) ?_ (fun _ h=>(Sublist.map _ (take_sublist _ _)).subset h);refine iD [0,1,2,3,4,6,7] ?_;refine cm 8 rfl (eE (r:=.int .i64 (((bn (t.pg (aV t k h t.root)) k)+1:Nat):Int)) rfl ot bP (mB Z1)) ?_;refine iD [10,11,12,14,15] ?_;refine cm 16 rfl (eE (r:=.int .i64 (((bn (t.pg (aV t k h t.root)) k)+1:Nat):Int)) rfl ot bP (mB Z1)) ?_;refine ew.later rfl ?_;refine mC (i:=5) (j:=13) aD ?_ ?_
 ·first|refine at_ rfl (ez (mk:=Op.load 163) rfl ot (mW (k:=3) (j:=1) (d:=aS (some ⟨bk,0,none⟩) p.keys.length ck) (ls:=L) jL rfl rfl rfl isAgg163 hj uv)) ?_|refine at_ rfl (ez (mk:=Op.load 163) rfl ot (mW (k:=4) (j:=1) (d:=aS (some ⟨bk,0,none⟩) p.keys.length ck) (ls:=L) jL rfl rfl rfl isAgg163 hj uv)) ?_
  refine mC (i:=9) (j:=13) aD ?_ ?_
  ·refine lq rfl au rfl rfl rfl call148 (L9 p.keys (bn (t.pg (aV t k h t.root)) k) ck bk ha eT vC w4) ⟨ot,ot,ot,trivial⟩ (nA (k:=4) rfl) jB ?_;rintro _ _ ⟨rfl,rfl⟩;refine gS (perm_middle (l₁:=[_,_,_,_])).symm ?_;refine bV (i:=13) aD ?_;first|refine at_ rfl (ez (mk:=Op.load 27) rfl ot (mW (k:=3) (j:=2) (d:=aS (some ⟨bi,0,none⟩) p.kids.length ci) (ls:=L) jL rfl rfl rfl isAgg27 hj uv)) ?_|refine at_ rfl (ez (mk:=Op.load 27) rfl ot (mW (k:=4) (j:=2) (d:=aS (some ⟨bi,0,none⟩) p.kids.length ci) (ls:=L) jL rfl rfl rfl isAgg27 hj uv)) ?_
   exact z5
  first|refine at_ rfl (ez (mk:=Op.load 27) rfl ot (mW (k:=3) (j:=2) (d:=aS (some ⟨bi,0,none⟩) p.kids.length ci) (ls:=L) jL rfl rfl rfl isAgg27 hj uv)) ?_|refine at_ rfl (ez (mk:=Op.load 27) rfl ot (mW (k:=4) (j:=2) (d:=aS (some ⟨bi,0,none⟩) p.kids.length ci) (ls:=L) jL rfl rfl rfl isAgg27 hj uv)) ?_
  refine bV (i:=9) aD ?_;refine lq rfl au rfl rfl rfl call148 (L9 p.keys (bn (t.pg (aV t k h t.root)) k) ck bk ha eT vC w4) ⟨ot,ot,ot,trivial⟩ (nA (k:=4) rfl) jB ?_;rintro _ _ ⟨rfl,rfl⟩;refine gS (perm_middle (l₁:=[_,_,_,_])).symm ?_;exact z5
 first|refine at_ rfl (ez (mk:=Op.load 27) rfl ot (mW (k:=3) (j:=2) (d:=aS (some ⟨bi,0,none⟩) p.kids.length ci) (ls:=L) jL rfl rfl rfl isAgg27 hj uv)) ?_|refine at_ rfl (ez (mk:=Op.load 27) rfl ot (mW (k:=4) (j:=2) (d:=aS (some ⟨bi,0,none⟩) p.kids.length ci) (ls:=L) jL rfl rfl rfl isAgg27 hj uv)) ?_
 refine bV (i:=5) aD ?_;first|refine at_ rfl (ez (mk:=Op.load 163) rfl ot (mW (k:=3) (j:=1) (d:=aS (some ⟨bk,0,none⟩) p.keys.length ck) (ls:=L) jL rfl rfl rfl isAgg163 hj uv)) ?_|refine at_ rfl (ez (mk:=Op.load 163) rfl ot (mW (k:=4) (j:=1) (d:=aS (some ⟨bk,0,none⟩) p.keys.length ck) (ls:=L) jL rfl rfl rfl isAgg163 hj uv)) ?_
 refine bV (i:=9) aD ?_;refine lq rfl au rfl rfl rfl call148 (L9 p.keys (bn (t.pg (aV t k h t.root)) k) ck bk ha eT vC w4) ⟨ot,ot,ot,trivial⟩ (nA (k:=4) rfl) jB ?_;rintro _ _ ⟨rfl,rfl⟩;refine gS (perm_middle (l₁:=[_,_,_,_])).symm ?_;refine bV (i:=17) aD ?_;refine lq rfl au rfl rfl rfl call149 (TW p.kids (bn (t.pg (aV t k h t.root)) k) ci bi rU gq Ky w4) ⟨ot,ot,ot,trivial⟩ (nA (k:=5) rfl) jB ?_;rintro _ _ ⟨rfl,rfl⟩;refine gS (perm_middle (l₁:=[_,_,_,_,_])).symm ?_;refine dX 18 rfl Kz ?_;refine dX 19 rfl (j3 1) ?_;refine bV (i:=20) aD ?_;refine xo (k:=3) (cs':=flatMap gO (L.set (aV t k h t.root).toNat (⟨{p with keys:=(p.keys.eraseIdx (bn (t.pg (aV t k h t.root)) k))},some ⟨bk,0,none⟩,ck,[⟨bk,83,ck*1,flatMap cK (p.keys.eraseIdx (bn (t.pg (aV t k h t.root)) k))⟩],some ⟨bi,0,none⟩,ci,[⟨bi,3,ci*1,flatMap cI p.kids⟩]⟩:bD))) rfl au rfl rfl ot rfl rfl ot rfl rfl sizeOf163 rfl aaj aad jB ?_;refine gd ?_;refine aF 2 ?_;refine pn (k:=3) (cs':=flatMap gO (L.set (aV t k h t.root).toNat (⟨(nI p (bn (t.pg (aV t k h t.root)) k)),some ⟨bk,0,none⟩,ck,[⟨bk,83,ck*1,flatMap cK (p.keys.eraseIdx (bn (t.pg (aV t k h t.root)) k))⟩],some ⟨bi,0,none⟩,ci,[⟨bi,3,ci*1,flatMap cI (p.kids.eraseIdx (bn (t.pg (aV t k h t.root)) k))⟩]⟩:bD))) au rfl rfl ot rfl rfl ot rfl rfl sizeOf27 rfl w32 w50 ?_
 have yB:(⟨bk,83,ck*1,flatMap cK (p.keys.eraseIdx (bn (t.pg (aV t k h t.root)) k))⟩::⟨bi,3,ci*1,flatMap cI (p.kids.eraseIdx (bn (t.pg (aV t k h t.root)) k))⟩::((L.eraseIdx (aV t k h t.root).toNat).flatMap bO)).Perm ((L.set (aV t k h t.root).toNat (⟨(nI p (bn (t.pg (aV t k h t.root)) k)),some ⟨bk,0,none⟩,ck,[⟨bk,83,ck*1,flatMap cK (p.keys.eraseIdx (bn (t.pg (aV t k h t.root)) k))⟩],some ⟨bi,0,none⟩,ci,[⟨bi,3,ci*1,flatMap cI (p.kids.eraseIdx (bn (t.pg (aV t k h t.root)) k))⟩]⟩:bD)).flatMap bO):=(Bv bO hj (⟨(nI p (bn (t.pg (aV t k h t.root)) k)),some ⟨bk,0,none⟩,ck,[⟨bk,83,ck*1,flatMap cK (p.keys.eraseIdx (bn (t.pg (aV t k h t.root)) k))⟩],some ⟨bi,0,none⟩,ci,[⟨bi,3,ci*1,flatMap cI (p.kids.eraseIdx (bn (t.pg (aV t k h t.root)) k))⟩]⟩:bD)).symm;refine cg (Perm.cons _ (Perm.cons _ (Perm.cons _ (Perm.cons _ yB)))) ?_;refine ap 58 [4,7] ?_;refine az 1 ?_;refine aN 1 [_,_] sizeOf74 ?_;refine ap 58 [4,5] ?_
 refine eD ([⟨bx,165,cap*5,flatMap gO (L.set (aV t k h t.root).toNat (⟨(nI p (bn (t.pg (aV t k h t.root)) k)),some ⟨bk,0,none⟩,ck,[⟨bk,83,ck*1,flatMap cK (p.keys.eraseIdx (bn (t.pg (aV t k h t.root)) k))⟩],some ⟨bi,0,none⟩,ci,[⟨bi,3,ci*1,flatMap cI (p.kids.eraseIdx (bn (t.pg (aV t k h t.root)) k))⟩]⟩:bD))⟩]++(L.set (aV t k h t.root).toNat (⟨(nI p (bn (t.pg (aV t k h t.root)) k)),some ⟨bk,0,none⟩,ck,[⟨bk,83,ck*1,flatMap cK (p.keys.eraseIdx (bn (t.pg (aV t k h t.root)) k))⟩],some ⟨bi,0,none⟩,ci,[⟨bi,3,ci*1,flatMap cI (p.kids.eraseIdx (bn (t.pg (aV t k h t.root)) k))⟩]⟩:bD)).flatMap bO) ?_;unfold uw;rw[if_pos hz,if_pos jo];refine⟨_,rfl,L.set (aV t k h t.root).toNat (⟨(nI p (bn (t.pg (aV t k h t.root)) k)),some ⟨bk,0,none⟩,ck,[⟨bk,83,ck*1,flatMap cK (p.keys.eraseIdx (bn (t.pg (aV t k h t.root)) k))⟩],some ⟨bi,0,none⟩,ci,[⟨bi,3,ci*1,flatMap cI (p.kids.eraseIdx (bn (t.pg (aV t k h t.root)) k))⟩]⟩:bD),some ⟨bx,0,none⟩,cap,_,by rw[length_set];rfl,cj zM Aw,fun x hx=>?_,?_,rfl⟩
 ·rcases mem_or_eq_of_mem_set hx with hx|rfl
  ·exact bf x hx
  exact⟨cj aah vC,cj aag Ky⟩
 rw[map_set,hL];show _=t.af.set (aV t k h t.root).toNat (nI (t.pg (aV t k h t.root)) (bn (t.pg (aV t k h t.root)) k));rw[<-jl]
theorem ahg(t:aI)(h:Nat)(k:K)(hb:∀p∈t.af,p.keys.length<=maxLen/\p.kids.length<=maxLen)(hv:gF t=0->Valid t h):VP Tryz.prog G 111 [.agg (cT t),aj 1 cB k] (.dF [.agg (cT (uw t k h).1),ae (uw t k h).2]):=(ahf t h k hb hv).cover fun r S hr=>hr.view
def abv(L:List bD)(b:Nat)(root:Int)(j:Nat)(p:dU)(r:D)(S:List ag):Prop:=r = .dF [.list 1 ((iY p).flatMap cB) (iY p).length,ae (L.length:Nat)]/\∃L' ad cap Sx,wM L' ad cap Sx/\(∀o∈L',tI o)/\L'.map bD.p=(L.map bD.p).set j (fa p L.length)++[dh p]/\S=⟨b,74,2,[aS ad (length L') cap,ae root]⟩::(Sx++L'.flatMap bO)
theorem TV:(Tryz.prog.info? 165).map (fun i=>(i.zero,i.size,i.bytes))=some (some (.agg #[.bool false,.slice none 0 0,.slice none 0 0,.slice none 0 0,.int .i64 0]),5,88):=by kernel_rfl
theorem ai0(L:List bD)(b:Nat)(root i:Int)(ad:Option Addr)(cap:Nat)(Sx:List ag)(hi:0<=i/\i<L.length)(hn:L.length<=10000)(eW:wM L ad cap Sx)(bf:∀o∈L,tI o)(h5:(L[i.toNat]'w4).p.keys.length=5)(eT:(L[i.toNat]'w4).p.leaf=true->(L[i.toNat]'w4).p.kids.length=5)(A8:(L[i.toNat]'w4).p.leaf=false->(L[i.toNat]'w4).p.kids.length=6)(nN:∀k∈(L[i.toNat]'w4).p.keys,k.length<=100)(hh:(L[i.toNat]'w4).p.high.length<=100) :
 VC Tryz.prog G 142 [dw b,ae i] (⟨b,74,2,[aS ad L.length cap,ae root]⟩::(Sx++L.flatMap bO)) (abv L b root i.toNat (L[i.toNat]'w4).p):=by
 refine bA func142 rfl ntmps142 aO fun X0 w0 bz=>?_;have dy:=ee;have hj:i.toNat<L.length:=(by omega)
 obtain⟨bx,rfl,gp,Aw,rfl⟩:=eW.pos w4;have AN:=bf _ (getElem_mem hj);obtain⟨o,ho⟩:∃o,o=L[i.toNat]:=⟨_,rfl⟩
 rw[<-ho] at AN h5 eT A8 nN hh |-;rcases o with ⟨p,ak,ck,sk,ai,ci,si⟩
 obtain⟨eK,mM⟩:pW p.keys ak ck sk/\oT p.kids ai ci si:=AN;change p.keys.length=5 at h5;change p.leaf=true->p.kids.length=5 at eT;change p.leaf=false->p.kids.length=6 at A8;change ∀k∈p.keys,k.length<=100 at nN;change p.high.length<=100 at hh;have Pt:(L.flatMap bO).Perm (sk++(si++((L.eraseIdx i.toNat).flatMap bO))):=(by have:=BW bO hj;rw[<-ho] at this;exact this.trans aar)
 refine rE (Perm.cons _ (Perm.cons _ Pt)) ?_;have wP:iY p=p.keys[2]'w4:=B6 h5;have hul:(p.keys[2]'w4).length<=100:=nN _ (getElem_mem _);refine ay [0,1] ?_;refine az 5 ?_;refine bS (ei 5 (h:=Z6)) ?_;refine bS (ez (mk:=Op.load 165) rfl ot (dM (k:=1) (ls:=L) (i:=i.toNat) jL rfl rfl rfl isAgg165 sizeOf165 hj)) ?_;refine cD (ds:=[_,_,_,_,_]) au rfl rfl zeroValue165 rfl (fun b6=>?_);refine aN 0 [_,_,_,_,_] sizeOf165 ?_;refine ap 98 [0,1,6] ?_;refine cL ?_;refine kX (Wk.cover (A:=⟨b6,165,5,gO L[i.toNat]⟩) (R:=⟨b,74,2,[aS (some ⟨bx,0,none⟩) L.length cap,ae root]⟩::⟨bx,165,cap*5,flatMap gO L⟩::((L.eraseIdx i.toNat).flatMap bO)) (Sd:=sk++si) (cs':=cP p) (Perm.cons _ (Perm.cons _ (Perm.cons _ (by rw[<-append_assoc];exact perm_append_comm)))) (by show iO _ (gO L[i.toNat]) _;rw[<-ho];exact⟨fN,n8 eK (dg iw _) (fun B hB=>mem_append_left _ hB),n8 mM (dg fp _) (fun B hB=>mem_append_right _ hB),fN,fN,trivial⟩)) ?_;refine dB 7 ?_;refine cD (ds:=[_,_,_,_,_]) au rfl rfl zeroValue165 rfl (fun b7=>?_);refine aN 0 [_,_,_,_,_] sizeOf165 ?_;refine ap 98 [0,1,6,7] ?_;refine cJ [0,1,6,7,8] ?_;refine aM 2 ?_ (h:=by exact(ny (mk:=Op.indexAddr 163) rfl ot bP (by first|exact qj runUnderlying163 sizeOf83 (j:=2) rfl w4|exact qp runUnderlying163 sizeOf83 (j:=2) rfl w4)));refine bB ?_
 refine ue (fun aE=>∃(b7:Nat),∃(O:Option Addr),∃(U:Nat),∃(E:List ag),∃(Z:Option Addr),∃(js:Nat),∃(I:List ag),∃(j5:Option Addr),∃(fM:Nat),∃(jJ:List ag),(pW (dh p).keys O U E)/\(oT (dh p).kids Z js I)/\(oT (fa p L.length).kids j5 fM jJ)/\aE=(⟨98,[(0,dw b),(1,ae i),(6,dw b6),(7,dw b7),(8,.list 1 ((iY p).flatMap cB) (iY p).length)],(⟨b7,165,5,[aW p.leaf,aS O (dh p).keys.length U,aS Z (dh p).kids.length js,aj 1 cB p.high,ae p.next]⟩::⟨b6,165,5,[aW p.leaf,aj 1 cK p.keys,aS j5 (fa p L.length).kids.length fM,aj 1 cB p.high,ae p.next]⟩::⟨b,74,2,[aS (some ⟨bx,0,none⟩) L.length cap,ae root]⟩::⟨bx,165,cap*5,flatMap gO L⟩::(jJ++(I++(E++((L.eraseIdx i.toNat).flatMap bO)))))⟩:St)) ?_ ?_
 ·refine ax [0,1,6,7,8,28] ?_ ?_<;>intro aP bH
  ·have gJ:p.leaf=true:=aP;have eT:=eT gJ;refine ue (fun aE=>∃(O:Option Addr),∃(U:Nat),∃(E:List ag),∃(Z:Option Addr),∃(js:Nat),∃(I:List ag),(pW (dh p).keys O U E)/\(oT (dh p).kids Z js I)/\aE=(⟨98,[(0,dw b),(1,ae i),(6,dw b6),(7,dw b7),(8,.list 1 ((iY p).flatMap cB) (iY p).length)],(⟨b7,165,5,[aW p.leaf,aS O (dh p).keys.length U,aS Z (dh p).kids.length js,aj 1 cB p.high,ae p.next]⟩::⟨b6,165,5,[aW p.leaf,aj 1 cK p.keys,aj 1 cI p.kids,aj 1 cB p.high,ae p.next]⟩::⟨b,74,2,[aS (some ⟨bx,0,none⟩) L.length cap,ae root]⟩::⟨bx,165,cap*5,flatMap gO L⟩::(I++(E++((L.eraseIdx i.toNat).flatMap bO))))⟩:St)) ?_ ?_
   ·refine iX 10 (aq (take 2 (drop 1 _))) ?_ (fun _ h=>(Sublist.map _ ((take_sublist _ _).trans (drop_sublist _ _))).subset h);refine iD [0,4] ?_;refine ew.later rfl ?_;refine mC (i:=1) (j:=5) aD ?_ ?_
    ·refine at_ rfl (gW 1) ?_;refine dX 2 rfl (fw (l:=2) rfl ot ⟨_,bP⟩ trivial Ks) ?_;refine mC (i:=3) (j:=5) aD ?_ ?_
     ·have EM:VC Tryz.prog G 169 [.list 1 ((p.keys.drop 2).flatMap cK) (p.keys.drop 2).length] [] (fun r S=>∃ad cap,r=aS ad (dh p).keys.length cap/\pW (dh p).keys ad cap S):=(by rw[show(p.keys.drop 2)=(dh p).keys from yu];exact y6 _ Rn)
      refine lq rfl au rfl rfl rfl call169 EM ⟨ot,trivial⟩ (fj _) jB ?_;rintro _ GK ⟨GL,GM,rfl,Fu⟩;refine gS (lP (A:=[_,_,_,_])) ?_;refine dX 8 rfl (j3 1) ?_;refine bV (i:=5) aD ?_;refine at_ rfl (gW 1) ?_;refine dX 6 rfl (fw (l:=2) rfl ot ⟨_,bP⟩ trivial CU) ?_;refine bV (i:=7) aD ?_;have EN:VC Tryz.prog G 138 [.list 1 ((p.kids.drop 2).flatMap cI) (p.kids.drop 2).length] [] (fun r S=>∃ad cap,r=aS ad (dh p).kids.length cap/\oT (dh p).kids ad cap S):=(by rw[show(p.kids.drop 2)=(dh p).kids from yt];exact tQ _ Rl)
      refine lq rfl au rfl rfl rfl call138 EN ⟨ot,trivial⟩ (fj _) jB ?_;rintro _ GN ⟨GO,GP,rfl,Fv⟩;refine gS (lP (A:=[_,_,_,_])) ?_;refine bV (i:=9) aD ?_;refine eN 0 [_,_,_,_,_] sizeOf163 ?_;refine gd ?_;refine aF 1 ?_;refine aN 0 [_,_,_,_,_] sizeOf27 ?_;refine ap 98 [0,1,6,7,8] ?_;refine⟨_,(aL (h:=w6)),GL,GM,GK,GO,GP,GN,Fu,Fv,rfl⟩
     refine at_ rfl (gW 1) ?_;refine dX 6 rfl (fw (l:=2) rfl ot ⟨_,bP⟩ trivial CU) ?_;refine bV (i:=3) aD ?_;have EM:VC Tryz.prog G 169 [.list 1 ((p.keys.drop 2).flatMap cK) (p.keys.drop 2).length] [] (fun r S=>∃ad cap,r=aS ad (dh p).keys.length cap/\pW (dh p).keys ad cap S):=(by rw[show(p.keys.drop 2)=(dh p).keys from yu];exact y6 _ Rn)
     refine lq rfl au rfl rfl rfl call169 EM ⟨ot,trivial⟩ (fj _) jB ?_;rintro _ GK ⟨GL,GM,rfl,Fu⟩;refine gS (lP (A:=[_,_,_,_])) ?_;refine dX 8 rfl (j3 1) ?_;refine bV (i:=7) aD ?_;have EN:VC Tryz.prog G 138 [.list 1 ((p.kids.drop 2).flatMap cI) (p.kids.drop 2).length] [] (fun r S=>∃ad cap,r=aS ad (dh p).kids.length cap/\oT (dh p).kids ad cap S):=(by rw[show(p.kids.drop 2)=(dh p).kids from yt];exact tQ _ Rl)
     refine lq rfl au rfl rfl rfl call138 EN ⟨ot,trivial⟩ (fj _) jB ?_;rintro _ GN ⟨GO,GP,rfl,Fv⟩;refine gS (lP (A:=[_,_,_,_])) ?_;refine bV (i:=9) aD ?_;refine eN 0 [_,_,_,_,_] sizeOf163 ?_;refine gd ?_;refine aF 1 ?_;refine aN 0 [_,_,_,_,_] sizeOf27 ?_;refine ap 98 [0,1,6,7,8] ?_;refine⟨_,(aL (h:=w6)),GL,GM,GK,GO,GP,GN,Fu,Fv,rfl⟩
    refine at_ rfl (gW 1) ?_;refine dX 6 rfl (fw (l:=2) rfl ot ⟨_,bP⟩ trivial CU) ?_;refine bV (i:=1) aD ?_;refine at_ rfl (gW 1) ?_;refine dX 2 rfl (fw (l:=2) rfl ot ⟨_,bP⟩ trivial Ks) ?_;refine bV (i:=3) aD ?_;have EM:VC Tryz.prog G 169 [.list 1 ((p.keys.drop 2).flatMap cK) (p.keys.drop 2).length] [] (fun r S=>∃ad cap,r=aS ad (dh p).keys.length cap/\pW (dh p).keys ad cap S):=(by rw[show(p.keys.drop 2)=(dh p).keys from yu];exact y6 _ Rn)
    refine lq rfl au rfl rfl rfl call169 EM ⟨ot,trivial⟩ (fj _) jB ?_;rintro _ GK ⟨GL,GM,rfl,Fu⟩;refine gS (lP (A:=[_,_,_,_])) ?_;refine dX 8 rfl (j3 1) ?_;refine bV (i:=7) aD ?_;have EN:VC Tryz.prog G 138 [.list 1 ((p.kids.drop 2).flatMap cI) (p.kids.drop 2).length] [] (fun r S=>∃ad cap,r=aS ad (dh p).kids.length cap/\oT (dh p).kids ad cap S):=(by rw[show(p.kids.drop 2)=(dh p).kids from yt];exact tQ _ Rl)
    refine lq rfl au rfl rfl rfl call138 EN ⟨ot,trivial⟩ (fj _) jB ?_;rintro _ GN ⟨GO,GP,rfl,Fv⟩;refine gS (lP (A:=[_,_,_,_])) ?_;refine bV (i:=9) aD ?_;refine eN 0 [_,_,_,_,_] sizeOf163 ?_;refine gd ?_;refine aF 1 ?_;refine aN 0 [_,_,_,_,_] sizeOf27 ?_;refine ap 98 [0,1,6,7,8] ?_;refine⟨_,(aL (h:=w6)),GL,GM,GK,GO,GP,GN,Fu,Fv,rfl⟩
   rintro _ ⟨O,U,E,Z,js,I,s9,Fw,rfl⟩;refine dB 2 ?_;refine bS (fw (l:=0) (h:=2) rfl ot trivial ⟨_,bP⟩ w63) ?_;have anv:VC Tryz.prog G 138 [.list 1 ((p.kids.take 2).flatMap cI) (p.kids.take 2).length] [] (fun r S=>∃ad cap,r=aS ad (fa p L.length).kids.length cap/\oT (fa p L.length).kids ad cap S):=(by rw[show(p.kids.take 2)=(fa p L.length).kids from Kv];exact tQ _ (by rw[<-show(p.kids.take 2)=(fa p L.length).kids from Kv];simp only[length_take,length_drop];omega))
   refine eH au rfl rfl rfl call138 anv ⟨ot,trivial⟩ (fj _) ?_;rintro _ S42 ⟨a42,c42,rfl,aqf⟩;refine cg (lP (A:=[_,_,_,_])) ?_;refine aF 1 ?_;refine aN 1 [_,_,_,_,_] sizeOf27 ?_;refine ap 98 [0,1,6,7,8] ?_;refine⟨_,(aL (h:=w6)),b7,O,U,E,Z,js,I,a42,c42,S42,s9,Fw,aqf,rfl⟩
  have gJ:p.leaf=false:=aP;have A8:=A8 gJ;refine ue (fun aE=>∃(O:Option Addr),∃(U:Nat),∃(E:List ag),∃(Z:Option Addr),∃(js:Nat),∃(I:List ag),(pW (dh p).keys O U E)/\(oT (dh p).kids Z js I)/\aE=(⟨98,[(0,dw b),(1,ae i),(6,dw b6),(7,dw b7),(8,.list 1 ((iY p).flatMap cB) (iY p).length)],(⟨b7,165,5,[aW p.leaf,aS O (dh p).keys.length U,aS Z (dh p).kids.length js,aj 1 cB p.high,ae p.next]⟩::⟨b6,165,5,[aW p.leaf,aj 1 cK p.keys,aj 1 cI p.kids,aj 1 cB p.high,ae p.next]⟩::⟨b,74,2,[aS (some ⟨bx,0,none⟩) L.length cap,ae root]⟩::⟨bx,165,cap*5,flatMap gO L⟩::(I++(E++((L.eraseIdx i.toNat).flatMap bO))))⟩:St)) ?_ ?_
  ·refine iX 10 (aq (take 2 (drop 1 _))) ?_ (fun _ h=>(Sublist.map _ ((take_sublist _ _).trans (drop_sublist _ _))).subset h);refine iD [0,4] ?_;refine ew.later rfl ?_;refine mC (i:=1) (j:=5) aD ?_ ?_
   ·refine at_ rfl (gW 1) ?_;refine dX 2 rfl (fw (l:=3) rfl ot ⟨_,bP⟩ trivial Ks) ?_;refine mC (i:=3) (j:=5) aD ?_ ?_
    ·have EO:VC Tryz.prog G 169 [.list 1 ((p.keys.drop 3).flatMap cK) (p.keys.drop 3).length] [] (fun r S=>∃ad cap,r=aS ad (dh p).keys.length cap/\pW (dh p).keys ad cap S):=(by rw[show(p.keys.drop 3)=(dh p).keys from yu];exact y6 _ Rm)
     refine lq rfl au rfl rfl rfl call169 EO ⟨ot,trivial⟩ (fj _) jB ?_;rintro _ GQ ⟨GR,GS,rfl,An⟩;refine gS (lP (A:=[_,_,_,_])) ?_;refine dX 8 rfl (j3 1) ?_;refine bV (i:=5) aD ?_;refine at_ rfl (gW 1) ?_;refine dX 6 rfl (fw (l:=3) rfl ot ⟨_,bP⟩ trivial CU) ?_;refine bV (i:=7) aD ?_;have EP:VC Tryz.prog G 138 [.list 1 ((p.kids.drop 3).flatMap cI) (p.kids.drop 3).length] [] (fun r S=>∃ad cap,r=aS ad (dh p).kids.length cap/\oT (dh p).kids ad cap S):=(by rw[show(p.kids.drop 3)=(dh p).kids from yt];exact tQ _ Rk)
     refine lq rfl au rfl rfl rfl call138 EP ⟨ot,trivial⟩ (fj _) jB ?_;rintro _ GU ⟨a51,GV,rfl,Fx⟩;refine gS (lP (A:=[_,_,_,_])) ?_;refine bV (i:=9) aD ?_;refine eN 0 [_,_,_,_,_] sizeOf163 ?_;refine gd ?_;refine aF 1 ?_;refine aN 0 [_,_,_,_,_] sizeOf27 ?_;refine ap 98 [0,1,6,7,8] ?_;refine⟨_,(aL (h:=w6)),GR,GS,GQ,a51,GV,GU,An,Fx,rfl⟩
    refine at_ rfl (gW 1) ?_;refine dX 6 rfl (fw (l:=3) rfl ot ⟨_,bP⟩ trivial CU) ?_;refine bV (i:=3) aD ?_;have EO:VC Tryz.prog G 169 [.list 1 ((p.keys.drop 3).flatMap cK) (p.keys.drop 3).length] [] (fun r S=>∃ad cap,r=aS ad (dh p).keys.length cap/\pW (dh p).keys ad cap S):=(by rw[show(p.keys.drop 3)=(dh p).keys from yu];exact y6 _ Rm)
    refine lq rfl au rfl rfl rfl call169 EO ⟨ot,trivial⟩ (fj _) jB ?_;rintro _ GQ ⟨GR,GS,rfl,An⟩;refine gS (lP (A:=[_,_,_,_])) ?_;refine dX 8 rfl (j3 1) ?_;refine bV (i:=7) aD ?_;have EP:VC Tryz.prog G 138 [.list 1 ((p.kids.drop 3).flatMap cI) (p.kids.drop 3).length] [] (fun r S=>∃ad cap,r=aS ad (dh p).kids.length cap/\oT (dh p).kids ad cap S):=(by rw[show(p.kids.drop 3)=(dh p).kids from yt];exact tQ _ Rk)
    refine lq rfl au rfl rfl rfl call138 EP ⟨ot,trivial⟩ (fj _) jB ?_;rintro _ GU ⟨a51,GV,rfl,Fx⟩;refine gS (lP (A:=[_,_,_,_])) ?_;refine bV (i:=9) aD ?_;refine eN 0 [_,_,_,_,_] sizeOf163 ?_;refine gd ?_;refine aF 1 ?_;refine aN 0 [_,_,_,_,_] sizeOf27 ?_;refine ap 98 [0,1,6,7,8] ?_;refine⟨_,(aL (h:=w6)),GR,GS,GQ,a51,GV,GU,An,Fx,rfl⟩
   refine at_ rfl (gW 1) ?_;refine dX 6 rfl (fw (l:=3) rfl ot ⟨_,bP⟩ trivial CU) ?_;refine bV (i:=1) aD ?_;refine at_ rfl (gW 1) ?_;refine dX 2 rfl (fw (l:=3) rfl ot ⟨_,bP⟩ trivial Ks) ?_;refine bV (i:=3) aD ?_;have EO:VC Tryz.prog G 169 [.list 1 ((p.keys.drop 3).flatMap cK) (p.keys.drop 3).length] [] (fun r S=>∃ad cap,r=aS ad (dh p).keys.length cap/\pW (dh p).keys ad cap S):=(by rw[show(p.keys.drop 3)=(dh p).keys from yu];exact y6 _ Rm)
   refine lq rfl au rfl rfl rfl call169 EO ⟨ot,trivial⟩ (fj _) jB ?_;rintro _ GQ ⟨GR,GS,rfl,An⟩;refine gS (lP (A:=[_,_,_,_])) ?_;refine dX 8 rfl (j3 1) ?_;refine bV (i:=7) aD ?_;have EP:VC Tryz.prog G 138 [.list 1 ((p.kids.drop 3).flatMap cI) (p.kids.drop 3).length] [] (fun r S=>∃ad cap,r=aS ad (dh p).kids.length cap/\oT (dh p).kids ad cap S):=(by rw[show(p.kids.drop 3)=(dh p).kids from yt];exact tQ _ Rk)
   refine lq rfl au rfl rfl rfl call138 EP ⟨ot,trivial⟩ (fj _) jB ?_;rintro _ GU ⟨a51,GV,rfl,Fx⟩;refine gS (lP (A:=[_,_,_,_])) ?_;refine bV (i:=9) aD ?_;refine eN 0 [_,_,_,_,_] sizeOf163 ?_;refine gd ?_;refine aF 1 ?_;refine aN 0 [_,_,_,_,_] sizeOf27 ?_;refine ap 98 [0,1,6,7,8] ?_;refine⟨_,(aL (h:=w6)),GR,GS,GQ,a51,GV,GU,An,Fx,rfl⟩
  rintro _ ⟨O,U,E,Z,js,I,s9,Fw,rfl⟩;refine dB 2 ?_;refine bS (fw (l:=0) (h:=3) rfl ot trivial ⟨_,bP⟩ w63) ?_;have anw:VC Tryz.prog G 138 [.list 1 ((p.kids.take 3).flatMap cI) (p.kids.take 3).length] [] (fun r S=>∃ad cap,r=aS ad (fa p L.length).kids.length cap/\oT (fa p L.length).kids ad cap S):=(by rw[show(p.kids.take 3)=(fa p L.length).kids from Kv];exact tQ _ (by rw[<-show(p.kids.take 3)=(fa p L.length).kids from Kv];simp only[length_take,length_drop];omega))
  refine eH au rfl rfl rfl call138 anw ⟨ot,trivial⟩ (fj _) ?_;rintro _ La ⟨a57,c57,rfl,J7⟩;refine cg (lP (A:=[_,_,_,_])) ?_;refine aF 1 ?_;refine aN 1 [_,_,_,_,_] sizeOf27 ?_;refine ap 98 [0,1,6,7,8] ?_;refine⟨_,(aL (h:=w6)),b7,O,U,E,Z,js,I,a57,c57,La,s9,Fw,J7,rfl⟩
 rintro _ ⟨b7,O,U,E,Z,js,I,j5,fM,jJ,s9,Fw,aqg,rfl⟩;refine az 2 ?_;refine bS (fw (l:=0) (h:=2) rfl ot trivial ⟨_,bP⟩ (by first|exact nC iw (fun h=>by cases h) runUnderlying163 sizeOf83 w4|exact nC fp (fun h=>by cases h) runUnderlying163 sizeOf83 w4|exact qq (fun h=>by cases h) runUnderlying163 sizeOf83 w4|exact pU (fun _=>rfl) (fun h=>by cases h) runUnderlying163 sizeOf83 w4 w4)) ?_;have anx:VC Tryz.prog G 169 [.list 1 ((p.keys.take 2).flatMap cK) (p.keys.take 2).length] [] (fun r S=>∃ad cap,r=aS ad (fa p L.length).keys.length cap/\pW (fa p L.length).keys ad cap S):=(by rw[show(p.keys.take 2)=(fa p L.length).keys from rfl];exact y6 _ (by rw[<-show(p.keys.take 2)=(fa p L.length).keys from rfl];simp only[length_take,length_drop];omega))
 refine eH au rfl rfl rfl call169 anx ⟨ot,trivial⟩ (fj _) ?_;rintro _ kD ⟨lj,lm,rfl,aqh⟩;refine cg (lP (A:=[_,_,_,_])) ?_;refine aF 1 ?_;refine aN 1 [_,_,_,_,_] sizeOf163 ?_;refine ap 98 [0,1,6,7,8] ?_;refine ue (fun aE=>(True)/\aE=(⟨98,[(0,dw b),(1,ae i),(6,dw b6),(7,dw b7),(8,.list 1 ((iY p).flatMap cB) (iY p).length)],(⟨b7,165,5,[aW p.leaf,aS O (dh p).keys.length U,aS Z (dh p).kids.length js,aj 1 cB p.high,ae p.next]⟩::⟨b6,165,5,[aW p.leaf,aS lj (fa p L.length).keys.length lm,aS j5 (fa p L.length).kids.length fM,.list 1 ((iY p).flatMap cB) (iY p).length,ae (L.length:Nat)]⟩::⟨b,74,2,[aS (some ⟨bx,0,none⟩) L.length cap,ae root]⟩::⟨bx,165,cap*5,flatMap gO L⟩::(kD++(jJ++(I++(E++((L.eraseIdx i.toNat).flatMap bO))))))⟩:St)) ?_ ?_
 ·refine iX 9 (aq (take 1 (drop 0 _))) ?_ (fun _ h=>(Sublist.map _ ((take_sublist _ _).trans (drop_sublist _ _))).subset h);refine iD [0,2,3,4] ?_;refine ew.later rfl ?_;refine mC (i:=1) (j:=5) aD ?_ ?_
  ·refine sj call93 (nY (iY p) (by rw[wP];omega)) ?_;refine dX 7 rfl (j3 3) ?_;refine mC (i:=5) (j:=8) aD ?_ ?_
   ·refine at_ rfl (gW 2) ?_;refine dX 6 rfl Dc ?_;refine bV (i:=8) aD ?_;refine eN 1 [_,_,_,_,_] sizeOf83 ?_;refine gd ?_;refine aF 1 ?_;refine aN 1 [_,_,_,_,_] sizeOf3 ?_;refine ap 98 [0,1,6,7,8] ?_;refine⟨_,(aL (h:=w6)),trivial,rfl⟩
   refine eN 1 [_,_,_,_,_] sizeOf83 ?_;refine bV (i:=5) aD ?_;refine at_ rfl (gW 2) ?_;refine dX 6 rfl Dc ?_;refine gd ?_;refine aF 1 ?_;refine aN 1 [_,_,_,_,_] sizeOf3 ?_;refine ap 98 [0,1,6,7,8] ?_;refine⟨_,(aL (h:=w6)),trivial,rfl⟩
  refine at_ rfl (gW 2) ?_;refine dX 6 rfl Dc ?_;refine bV (i:=1) aD ?_;refine sj call93 (nY (iY p) (by rw[wP];omega)) ?_;refine dX 7 rfl (j3 3) ?_;refine bV (i:=8) aD ?_;refine eN 1 [_,_,_,_,_] sizeOf83 ?_;refine gd ?_;refine aF 1 ?_;refine aN 1 [_,_,_,_,_] sizeOf3 ?_;refine ap 98 [0,1,6,7,8] ?_;refine⟨_,(aL (h:=w6)),trivial,rfl⟩
 rintro _ ⟨_,rfl⟩;refine cL ?_;refine nj 6 [0,7,8,76,77,78] ?_;refine bB ?_;refine bS (ei 5 (h:=Z6)) ?_;refine pn (k:=3) (cs':=flatMap gO (L.set i.toNat (⟨fa p L.length,lj,lm,kD,j5,fM,jJ⟩:bD))) au rfl rfl ot rfl rfl ot rfl rfl sizeOf165 rfl (by show 0+i.toNat*5+5<=(flatMap gO L).length;rw[dg jL];omega) (by show dY (L.flatMap gO) (0+i.toNat*5) (gO (⟨fa p L.length,lj,lm,kD,j5,fM,jJ⟩:bD))=_;rw[Nat.zero_add];exact rF jL L (⟨fa p L.length,lj,lm,kD,j5,fM,jJ⟩:bD) hj) ?_;refine ap 98 [0,7,8] ?_
 refine ue (fun aE=>∃(ry:Nat),∃(qC:Nat),(((L.set i.toNat (⟨fa p L.length,lj,lm,kD,j5,fM,jJ⟩:bD))++[(⟨dh p,O,U,E,Z,js,I⟩:bD)]).length<=qC)/\(qC<=maxLen)/\aE=(⟨98,[(0,dw b),(8,.list 1 ((iY p).flatMap cB) (iY p).length)],(⟨ry,165,qC*5,flatMap gO ((L.set i.toNat (⟨fa p L.length,lj,lm,kD,j5,fM,jJ⟩:bD))++[(⟨dh p,O,U,E,Z,js,I⟩:bD)])⟩::⟨b7,165,5,[aW p.leaf,aS O (dh p).keys.length U,aS Z (dh p).kids.length js,aj 1 cB p.high,ae p.next]⟩::⟨b6,165,5,[aW p.leaf,aS lj (fa p L.length).keys.length lm,aS j5 (fa p L.length).kids.length fM,.list 1 ((iY p).flatMap cB) (iY p).length,ae (L.length:Nat)]⟩::⟨b,74,2,[aS (some ⟨ry,0,none⟩) ((L.set i.toNat (⟨fa p L.length,lj,lm,kD,j5,fM,jJ⟩:bD))++[(⟨dh p,O,U,E,Z,js,I⟩:bD)]).length qC,ae root]⟩::(kD++(jJ++(I++(E++((L.eraseIdx i.toNat).flatMap bO))))))⟩:St)) ?_ ?_
 ·refine iX 8 (aq (take 2 _)) ?_ (fun _ h=>(Sublist.map _ (take_sublist _ _)).subset h);refine iD [0,1,2,3] ?_;refine cm 5 rfl (JO 0 [_,_,_,_,_]) ?_;refine ew.later rfl ?_;refine mC (i:=4) (j:=6) aD ?_ ?_
  ·refine at_ rfl (ez (mk:=Op.load 72) rfl ot (B3 (k:=2) (d:=aS (some ⟨bx,0,none⟩) (L.set i.toNat (⟨fa p L.length,lj,lm,kD,j5,fM,jJ⟩:bD)).length cap) rfl rfl isAgg72 (by rw[length_set];rfl))) ?_;refine bV (i:=6) aD ?_;refine oZ (cU 0 [_]) [.bool false,.slice none 0 0,.slice none 0 0,.slice none 0 0,.int .i64 0] [_,_,_,_,_] zeroValue165 runUnderlying72 sizeOf165 (fun b86=>?_);refine o8 0 86 5 1 ?_;refine bV (i:=7) aD ?_;refine rz (ls:=(L.set i.toNat (⟨fa p L.length,lj,lm,kD,j5,fM,jJ⟩:bD))) (new:=[(⟨dh p,O,U,E,Z,js,I⟩:bD)]) (Sq:=[⟨bx,165,cap*5,flatMap gO (L.set i.toNat (⟨fa p L.length,lj,lm,kD,j5,fM,jJ⟩:bD))⟩]) jL IR rfl au rfl rfl underlying72 TV rfl w7 ot (cj zM Aw) (nA (k:=3) rfl) ot bC aas (by simp only[length_set,length_cons,length_nil] at *;omega) (hT:=ZZ) (fun ry qC Fy Fz=>?_);refine gd ?_;refine aF 2 ?_;refine aN 3 [_,_] sizeOf72 ?_;refine ap 98 [0,8] ?_;refine⟨_,(aL (h:=w6)),ry,qC,Fy,Fz,rfl⟩
  refine oZ (cU 0 [_]) [.bool false,.slice none 0 0,.slice none 0 0,.slice none 0 0,.int .i64 0] [_,_,_,_,_] zeroValue165 runUnderlying72 sizeOf165 (fun b86=>?_);refine o8 0 86 5 1 ?_;refine bV (i:=4) aD ?_;refine at_ rfl (ez (mk:=Op.load 72) rfl ot (B3 (k:=2) (d:=aS (some ⟨bx,0,none⟩) (L.set i.toNat (⟨fa p L.length,lj,lm,kD,j5,fM,jJ⟩:bD)).length cap) rfl rfl isAgg72 (by rw[length_set];rfl))) ?_;refine bV (i:=7) aD ?_;refine rz (ls:=(L.set i.toNat (⟨fa p L.length,lj,lm,kD,j5,fM,jJ⟩:bD))) (new:=[(⟨dh p,O,U,E,Z,js,I⟩:bD)]) (Sq:=[⟨bx,165,cap*5,flatMap gO (L.set i.toNat (⟨fa p L.length,lj,lm,kD,j5,fM,jJ⟩:bD))⟩]) jL IR rfl au rfl rfl underlying72 TV rfl w7 ot (cj zM Aw) (nA (k:=3) rfl) ot bC aas (by simp only[length_set,length_cons,length_nil] at *;omega) (hT:=ZZ) (fun ry qC Fy Fz=>?_);refine gd ?_;refine aF 2 ?_;refine aN 3 [_,_] sizeOf72 ?_;refine ap 98 [0,8] ?_;refine⟨_,(aL (h:=w6)),ry,qC,Fy,Fz,rfl⟩
 rintro _ ⟨ry,qC,Fy,Fz,rfl⟩;refine cL ?_;refine iX 9 (aq _) ?_ (fun _ h=>h);refine iD [0,2,3,4,5,6] ?_;refine cm 7 rfl (eE (r:=.int .i64 (L.length:Nat)) rfl ot bP (je (by rw[length_append,length_set];exact(show IntKind.wrap .i64 (((L.length+[(⟨dh p,O,U,E,Z,js,I⟩:bD)].length:Nat):Int)-1)=_ from by rw[show(((L.length+[(⟨dh p,O,U,E,Z,js,I⟩:bD)].length:Nat):Int)-1)=(L.length:Int) from by simp];exact wrap_i64 w4 w4)))) ?_;refine ew.later rfl ?_;refine bV (i:=1) aD ?_;refine sj call93 (nY (iY p) (by rw[wP];omega)) ?_;have yz:(kD++(jJ++(I++(E++((L.eraseIdx i.toNat).flatMap bO))))).Perm (((L.set i.toNat (⟨fa p L.length,lj,lm,kD,j5,fM,jJ⟩:bD))++[(⟨dh p,O,U,E,Z,js,I⟩:bD)]).flatMap bO):=kS fun oq=>by have hq:=ah7 (Bv bO hj (⟨fa p L.length,lj,lm,kD,j5,fM,jJ⟩:bD)) oq;rw[flatMap_append,show[(⟨dh p,O,U,E,Z,js,I⟩:bD)].flatMap bO=E++(I++[]) from by simp[bO]];simp only[show bO (⟨fa p L.length,lj,lm,kD,j5,fM,jJ⟩:bD)=kD++jJ from rfl,map_append,map_cons,map_nil,sum_append,sum_cons,sum_nil] at *;omega
 refine gS (S':=⟨b7,165,5,gO (⟨dh p,O,U,E,Z,js,I⟩:bD)⟩::⟨b6,165,5,gO (⟨fa p L.length,lj,lm,kD,j5,fM,jJ⟩:bD)⟩::⟨b,74,2,[aS (some ⟨ry,0,none⟩) ((L.set i.toNat (⟨fa p L.length,lj,lm,kD,j5,fM,jJ⟩:bD))++[(⟨dh p,O,U,E,Z,js,I⟩:bD)]).length qC,ae root]⟩::(([⟨ry,165,qC*5,flatMap gO ((L.set i.toNat (⟨fa p L.length,lj,lm,kD,j5,fM,jJ⟩:bD))++[(⟨dh p,O,U,E,Z,js,I⟩:bD)])⟩]:List ag)++((L.set i.toNat (⟨fa p L.length,lj,lm,kD,j5,fM,jJ⟩:bD))++[(⟨dh p,O,U,E,Z,js,I⟩:bD)]).flatMap bO)) (by exact(perm_middle (l₁:=[_,_,_])).symm.trans (Perm.cons _ (Perm.cons _ (Perm.cons _ (Perm.cons _ yz))))) ?_;refine dX 8 rfl eV ?_;refine gd ?_;refine bL [4,5] ?_;refine eD (⟨b,74,2,[aS (some ⟨ry,0,none⟩) ((L.set i.toNat (⟨fa p L.length,lj,lm,kD,j5,fM,jJ⟩:bD))++[(⟨dh p,O,U,E,Z,js,I⟩:bD)]).length qC,ae root]⟩::([⟨ry,165,qC*5,flatMap gO ((L.set i.toNat (⟨fa p L.length,lj,lm,kD,j5,fM,jJ⟩:bD))++[(⟨dh p,O,U,E,Z,js,I⟩:bD)])⟩]++((L.set i.toNat (⟨fa p L.length,lj,lm,kD,j5,fM,jJ⟩:bD))++[(⟨dh p,O,U,E,Z,js,I⟩:bD)]).flatMap bO)) ?_
 refine⟨rfl,((L.set i.toNat (⟨fa p L.length,lj,lm,kD,j5,fM,jJ⟩:bD))++[(⟨dh p,O,U,E,Z,js,I⟩:bD)]),some ⟨ry,0,none⟩,qC,[⟨ry,165,qC*5,flatMap gO ((L.set i.toNat (⟨fa p L.length,lj,lm,kD,j5,fM,jJ⟩:bD))++[(⟨dh p,O,U,E,Z,js,I⟩:bD)])⟩],cj Fy Fz,fun x hx=>?_,?_,rfl⟩
 ·rcases mem_append.1 hx with hx|hx
  ·rcases mem_or_eq_of_mem_set hx with hx|rfl
   ·exact bf x hx
   exact⟨aqh,aqg⟩
  rw[mem_singleton] at hx;subst hx;exact⟨s9,Fw⟩
 rw[map_append,map_set];rfl
def jn(q:List α)(i:Nat)(a:α):List α:=q.take i++a::q.drop i
theorem BE{q:List α}{a:α}(hi:i<=q.length):(jn q i a).length=q.length+1:=by unfold jn;rw[length_append,length_take,length_cons,length_drop];omega
theorem WG{q:List α}{a:α}:jn q q.length a=q++[a]:=by unfold jn;rw[take_length,drop_length]
theorem HI{g:α->List D}(hg:∀a,(g a).length=1){q:List α}{a:α}:(jn q i a).flatMap g=(q.flatMap g).take i++(g a++(q.flatMap g).drop i):=by
 have h1:=v8 hg q i;have h2:=xF hg q i;rw[Nat.mul_one] at h1 h2;unfold jn;rw[flatMap_append,flatMap_cons,h1,h2]
theorem Hq{A ds:List D}{off:Nat}(hA:A.length=off)(hl:ds.length<=J.length):dY (A++J) off ds=A++(ds++J.drop ds.length):=by
 rw[yZ _ _ _ yy,take_left' hA,append_assoc,<-drop_drop,drop_left' hA]
theorem WH{T R c:List D}(hT:T.length=i)(hc:c.length=1)(E:R.length+1<=J.length):T++(c++R) <+: dY (dY (T++J) i c) (i+1) R:=by
 rw[Hq hT w4,show T++(c++J.drop c.length)=(T++c)++J.drop c.length from(append_assoc _ _ _).symm,Hq (A:=T++c) yy (by rw[length_drop];omega)];exact⟨_,by simp only[append_assoc];rfl⟩
theorem X9{T R c:List D}(hT:T.length=i)(hc:c.length=1)(O:1<=J.length):T++(c++R) <+: dY (dY ((T++R)++J) (i+1) R) i c:=by
 obtain⟨E,I,hX,h1⟩:∃E I,R++J=E++I/\E.length=1:=⟨(R++J).take 1,(R++J).drop 1,(take_append_drop 1 _).symm,by rw[length_take,length_append];omega⟩
 have h2:R.length<=I.length:=(by have:=congrArg length hX;rw[length_append,length_append] at this;omega)
 have e1:(T++R)++J=(T++E)++I:=(by rw[append_assoc,hX,<-append_assoc])
 have e2:(T++E)++(R++I.drop R.length)=T++(E++(R++I.drop R.length)):=append_assoc _ _ _;rw[e1,Hq (A:=T++E) yy h2,e2,Hq hT yy,drop_left' w4];exact⟨I.drop R.length,by simp only[append_assoc]⟩
theorem sP(n:Nat)(x:α):(replicate n x).length=n:=length_replicate
theorem G5:(Tryz.prog.info? 83).map (fun i=>i.size)=some 1:=by kernel_rfl
theorem Ma:(Tryz.prog.info? 83).map (fun i=>(i.zero,i.size,i.bytes))=some (some (.slice none 0 0),1,24):=by kernel_rfl
theorem afW(q:List K)(i:Nat)(a:K)(cap b bv:Nat)(hi:i<=q.length)(hc:q.length<=cap)(hm:cap<=maxLen)(hs:q.length<=1000):VC Tryz.prog G 140 [aS (some ⟨b,0,none⟩) q.length cap,ae (i:Nat),aS (some ⟨bv,0,none⟩) 1 1] [⟨bv,83,1*1,cK a⟩,⟨b,83,cap*1,q.flatMap cK⟩] (fun r S=>∃ad bj,r=aS ad (q.length+1) bj/\bF 83 1 ((jn q i a).flatMap cK) (jn q i a).length ad bj S):=by
 refine bA func140 rfl ntmps140 aO fun X0 w0 bz=>?_;refine ay [0,1,2] ?_;refine az 2 ?_;refine bS (fw (l:=i) rfl ot ⟨_,ot⟩ trivial yw) ?_;refine ap 95 [0,1,2] ?_;refine ay [0,1,2,7] ?_;refine ax [0,1,2,7,16] ?_ ?_<;>intro aP bH
 ·exact absurd aP (by simp at *)
 refine ay [0,1,2,7,8] ?_;refine ax [0,1,2,7,8,22] ?_ ?_<;>intro bg cM
 ·obtain rfl:i=q.length:=(by simp at *;omega)
  refine az 2 ?_;refine gb 0 24 1 1 ?_;refine gi (ls:=q) (new:=[a]) (Sq:=[⟨b,83,cap*1,q.flatMap cK⟩]) iw rJ au rfl rfl underlying163 Ma rfl w7 ot (cj hc hm) (dL (A:=[])) ot bC x7 jk (fun AZ FB QK QL=>?_);refine cg (eM (S1:=[⟨AZ,83,FB*1,flatMap cK (q++[a])⟩]) (A:=[])) ?_;refine eA 95 [6] [⟨AZ,83,FB*1,flatMap cK (q++[a])⟩] ?_;exact⟨_,_,by rw[length_append];rfl,by rw[WG];exact cj QK QL⟩
 have aa:i<q.length:=(by omega)
 have hQ:(q.flatMap cK).length=q.length:=(by rw[dg iw];omega)
 have Z:((q.flatMap cK).take i).length=i:=(by rw[length_take];omega)
 have U:((q.flatMap cK).drop i).length=q.length-i:=(by rw[length_drop];omega)
 have lf:∀d∈(q.flatMap cK),V.one d=true:=wq rJ _;refine cJ [0,1,2,7,8,31] ?_;refine aM 4 ?_ (h:=by exact(HA rfl rfl ot runUnderlying163));refine bB ?_;refine bX ?_ ?_<;>intro cl di
 ·have I:fy cap (i) 1 0=i:=(by unfold fy;rw[if_neg w4];omega)
  have sc:Nat.min (q.length-i) (q.length+1-(i+1))=q.length-i:=Nat.min_eq_left w4;refine az 2 ?_;refine bS (fw (l:=0) (h:=i) rfl ot trivial ⟨_,ot⟩ Q9) ?_;refine aF 5 ?_;refine T6 (n:=i) (m:=q.length+1-i) (k:=1) au rfl rfl underlying163 underlying3 Ma rfl ot rfl rfl (by show i<=(q.flatMap cK).length;omega) (Eq.trans ot (congrArg (fun z=>D.v (.int .i64 z)) (show((q.length:Int)+(1:Nat)-(i:Int))=((q.length+1-i:Nat):Int) by omega))) w4 w4 JM w4 (fun KD E FC QM=>?_);have qI:i+(q.length+1-i)=q.length+1:=(by omega)
  rw[qI] at FC |-;refine ap 95 [0,1,2,7,9] ?_;refine az 2 ?_;refine bS (fw (l:=i) (h:=q.length+1) rfl ot ⟨_,ot⟩ trivial yw) ?_;have yI:fy E (i) 1 0=i:=(by unfold fy;rw[if_neg w4];omega)
  rw[yI];refine aF 1 ?_;have O:fy E (i+1) 1 0=i+1:=(by unfold fy;rw[if_neg w4];omega)
  refine fF (Wk.toEnd (k:=0) rfl) ?_;refine xG (k:=0) (k2:=1) (od:=i) (new:=cK a) (cs':=dY ((q.flatMap cK).take i++replicate (E*1-((q.flatMap cK).take i).length) D.cy) i (cK a)) au rfl rfl underlying163 G5 ot rfl rfl ot rfl rfl aaa (Nat.min_eq_left (by omega:1<=q.length+1-i)).symm (fun d hd=>all_eq_true.1 (rJ a) d hd) (by show i+1<=((q.flatMap cK).take i++replicate (E*1-((q.flatMap cK).take i).length) D.cy).length;rw[length_append,sP,Z];omega) rfl ?_;refine ap 95 [0,1,7,9] ?_;refine cL ?_;refine nj 8 [9,50,53] ?_;refine aM 4 ?_ (h:=aap);refine aM 2 ?_ (h:=by exact(fw (l:=i) (h:=q.length) rfl ot ⟨_,ot⟩ trivial yw));refine kN ?_
  refine xG (k:=0) (k2:=2) (od:=fy E (i+1) 1 0) (oy:=fy cap i 1 0) (new:=(q.flatMap cK).drop i) (cs':=dY (dY ((q.flatMap cK).take i++replicate (E*1-((q.flatMap cK).take i).length) D.cy) i (cK a)) (i+1) ((q.flatMap cK).drop i)) au rfl rfl underlying163 G5 ot rfl rfl ot rfl rfl (by show take (Nat.min (q.length-i) (q.length+1-(i+1))) (drop (fy cap i 1 0) (q.flatMap cK))=_;rw[I,sc,take_of_length_le w4]) (by show _=Nat.min (q.length-i) (q.length+1-(i+1));rw[sc,U]) (fun d hd=>lf d (mem_of_mem_drop hd)) (by show fy E (i+1) 1 0+_<=(dY ((q.flatMap cK).take i++replicate (E*1-((q.flatMap cK).take i).length) D.cy) i (cK a)).length;rw[O,U,Bl,length_append,sP,Z];omega) (by show dY (dY ((q.flatMap cK).take i++replicate (E*1-((q.flatMap cK).take i).length) D.cy) i (cK a)) (fy E (i+1) 1 0) _=_;rw[O]) ?_;refine ap 95 [9] ?_;refine az 1 ?_;refine Br (k:=0) (cs':=(jn q i a).flatMap cK) rfl (by rw[HI iw];exact WH Z rfl (by rw[sP,U,Z];omega)) ?_;refine eA 95 [6] [⟨KD,83,E*1,(jn q i a).flatMap cK⟩] ?_;exact⟨_,_,rfl,cj (by rw[BE hi];exact FC) QM⟩
 have I:fy cap (i) 1 0=i:=(by unfold fy;rw[if_neg w4];omega)
 have O:fy cap (i+1) 1 0=i+1:=(by unfold fy;rw[if_neg w4];omega)
 have sc:Nat.min (q.length+1-i) (q.length+1-(i+1))=q.length-i:=(by rw[show q.length+1-(i+1)=q.length-i from by omega];exact Nat.min_eq_right w4)
 refine cJ [0,1,2,7,8] ?_;refine aM 4 ?_ (h:=by exact(fw (l:=0) (h:=q.length+1) rfl ot trivial ⟨_,ot⟩ Q9));refine bB ?_;refine az 5 ?_;refine bS (fw (l:=i+1) (h:=q.length+1) rfl ot ⟨_,ot⟩ trivial yw) ?_;refine fF (Wk.toEnd (k:=1) rfl) ?_;refine TM (r:=4) (k:=0) (k2:=1) au rfl rfl func165 aD aD aD aD underlying163 sizeOf83 ot rfl rfl ot rfl rfl w7 (by show cap*1≠0;omega) ?_;refine ap 95 [0,1,2,7,8,68] ?_;refine bX ?_ ?_<;>intro da eP
 ·refine cL ?_;refine nj 8 [0,1,2,73,76] ?_;refine aM 4 ?_ (h:=aap);refine aM 2 ?_ (h:=by exact(fw (l:=i) (h:=q.length+1) rfl ot ⟨_,ot⟩ trivial yw));refine kN ?_;refine xG (k:=1) (k2:=1) (od:=fy cap (i+1) 1 0) (oy:=fy cap i 1 0) (new:=(q.flatMap cK).drop i) (cs':=dY ((q.flatMap cK)++replicate (cap*1-(q.flatMap cK).length) D.cy) (i+1) ((q.flatMap cK).drop i)) au rfl rfl underlying163 G5 ot rfl rfl ot rfl rfl (by show take (Nat.min (q.length+1-i) (q.length+1-(i+1))) (drop (fy cap i 1 0) ((q.flatMap cK)++replicate (cap*1-(q.flatMap cK).length) D.cy))=_;rw[I,sc,drop_append_of_le_length w4,take_left' U]) (by show _=Nat.min (q.length+1-i) (q.length+1-(i+1));rw[sc,U]) (fun d hd=>lf d (mem_of_mem_drop hd)) (by show fy cap (i+1) 1 0+_<=((q.flatMap cK)++replicate (cap*1-(q.flatMap cK).length) D.cy).length;rw[O,U,length_append,sP,hQ];omega) (by show dY ((q.flatMap cK)++replicate (cap*1-(q.flatMap cK).length) D.cy) (fy cap (i+1) 1 0) _=_;rw[O]) ?_;refine ap 95 [0,1,2] ?_;refine az 2 ?_;refine bS (fw (l:=i) (h:=q.length+1) rfl ot ⟨_,ot⟩ trivial yw) ?_;refine aF 1 ?_
  refine xG (k:=1) (k2:=0) (od:=fy cap i 1 0) (new:=cK a) (cs':=dY (dY ((q.flatMap cK)++replicate (cap*1-(q.flatMap cK).length) D.cy) (i+1) ((q.flatMap cK).drop i)) i (cK a)) au rfl rfl underlying163 G5 ot rfl rfl ot rfl rfl aaa (Nat.min_eq_left (by omega:1<=q.length+1-i)).symm (fun d hd=>all_eq_true.1 (rJ a) d hd) (by show fy cap i 1 0+1<=(dY ((q.flatMap cK)++replicate (cap*1-(q.flatMap cK).length) D.cy) (i+1) ((q.flatMap cK).drop i)).length;rw[I,Bl,length_append,sP,hQ];omega) (by show dY (dY ((q.flatMap cK)++replicate (cap*1-(q.flatMap cK).length) D.cy) (i+1) ((q.flatMap cK).drop i)) (fy cap i 1 0) _=_;rw[I]) ?_;refine ap 95 [0] ?_;refine az 1 ?_;refine Br (k:=1) (cs':=(jn q i a).flatMap cK) rfl (by rw[HI iw];show _ <+: dY (dY ((q.flatMap cK)++_) (i+1) ((q.flatMap cK).drop i)) i (cK a);rw[show(q.flatMap cK)++replicate (cap*1-(q.flatMap cK).length) D.cy=((q.flatMap cK).take i++(q.flatMap cK).drop i)++replicate (cap*1-(q.flatMap cK).length) D.cy from by rw[take_append_drop]];exact X9 Z rfl (by rw[sP,hQ];omega)) ?_;refine eA 95 [6] [⟨b,83,cap*1,(jn q i a).flatMap cK⟩] ?_;exact⟨_,_,rfl,cj (by rw[BE hi];omega) hm⟩
 exact absurd da (by simp at *)
theorem G6:(Tryz.prog.info? 3).map (fun i=>i.size)=some 1:=by kernel_rfl
theorem MB:(Tryz.prog.info? 3).map (fun i=>(i.zero,i.size,i.bytes))=some (some (.int .i64 0),1,8):=by kernel_rfl
theorem afX(q:List Int)(i:Nat)(a:Int)(cap b bv:Nat)(hi:i<=q.length)(hc:q.length<=cap)(hm:cap<=maxLen)(hs:q.length<=1000):VC Tryz.prog G 141 [aS (some ⟨b,0,none⟩) q.length cap,ae (i:Nat),aS (some ⟨bv,0,none⟩) 1 1] [⟨bv,3,1*1,cI a⟩,⟨b,3,cap*1,q.flatMap cI⟩] (fun r S=>∃ad bj,r=aS ad (q.length+1) bj/\bF 3 1 ((jn q i a).flatMap cI) (jn q i a).length ad bj S):=by
 refine bA func141 rfl ntmps141 aO fun X0 w0 bz=>?_;refine ay [0,1,2] ?_;refine az 2 ?_;refine bS (fw (l:=i) rfl ot ⟨_,ot⟩ trivial yx) ?_;refine ap 95 [0,1,2] ?_;refine ay [0,1,2,7] ?_;refine ax [0,1,2,7,16] ?_ ?_<;>intro aP bH
 ·exact absurd aP (by simp at *)
 refine ay [0,1,2,7,8] ?_;refine ax [0,1,2,7,8,22] ?_ ?_<;>intro bg cM
 ·obtain rfl:i=q.length:=(by simp at *;omega)
  refine az 2 ?_;refine gb 0 24 1 1 ?_;refine gi (ls:=q) (new:=[a]) (Sq:=[⟨b,3,cap*1,q.flatMap cI⟩]) fp pV au rfl rfl underlying27 MB rfl w7 ot (cj hc hm) (dL (A:=[])) ot bC x7 jk (fun AZ FB QK QL=>?_);refine cg (eM (S1:=[⟨AZ,3,FB*1,flatMap cI (q++[a])⟩]) (A:=[])) ?_;refine eA 95 [6] [⟨AZ,3,FB*1,flatMap cI (q++[a])⟩] ?_;exact⟨_,_,by rw[length_append];rfl,by rw[WG];exact cj QK QL⟩
 have aa:i<q.length:=(by omega)
 have hQ:(q.flatMap cI).length=q.length:=(by rw[dg fp];omega)
 have Z:((q.flatMap cI).take i).length=i:=(by rw[length_take];omega)
 have U:((q.flatMap cI).drop i).length=q.length-i:=(by rw[length_drop];omega)
 have lf:∀d∈(q.flatMap cI),V.one d=true:=wq pV _;refine cJ [0,1,2,7,8,31] ?_;refine aM 4 ?_ (h:=by exact(HA rfl rfl ot runUnderlying27));refine bB ?_;refine bX ?_ ?_<;>intro cl di
 ·have I:fy cap (i) 1 0=i:=(by unfold fy;rw[if_neg w4];omega)
  have sc:Nat.min (q.length-i) (q.length+1-(i+1))=q.length-i:=Nat.min_eq_left w4;refine az 2 ?_;refine bS (fw (l:=0) (h:=i) rfl ot trivial ⟨_,ot⟩ Ra) ?_;refine aF 5 ?_;refine T6 (n:=i) (m:=q.length+1-i) (k:=1) au rfl rfl underlying27 underlying3 MB rfl ot rfl rfl (by show i<=(q.flatMap cI).length;omega) (Eq.trans ot (congrArg (fun z=>D.v (.int .i64 z)) (show((q.length:Int)+(1:Nat)-(i:Int))=((q.length+1-i:Nat):Int) by omega))) w4 w4 JM w4 (fun KD E FC QM=>?_);have qI:i+(q.length+1-i)=q.length+1:=(by omega)
  rw[qI] at FC |-;refine ap 95 [0,1,2,7,9] ?_;refine az 2 ?_;refine bS (fw (l:=i) (h:=q.length+1) rfl ot ⟨_,ot⟩ trivial yx) ?_;have yI:fy E (i) 1 0=i:=(by unfold fy;rw[if_neg w4];omega)
  rw[yI];refine aF 1 ?_;have O:fy E (i+1) 1 0=i+1:=(by unfold fy;rw[if_neg w4];omega)
  refine fF (Wk.toEnd (k:=0) rfl) ?_;refine xG (k:=0) (k2:=1) (od:=i) (new:=cI a) (cs':=dY ((q.flatMap cI).take i++replicate (E*1-((q.flatMap cI).take i).length) D.cy) i (cI a)) au rfl rfl underlying27 G6 ot rfl rfl ot rfl rfl aab (Nat.min_eq_left (by omega:1<=q.length+1-i)).symm (fun d hd=>all_eq_true.1 (pV a) d hd) (by show i+1<=((q.flatMap cI).take i++replicate (E*1-((q.flatMap cI).take i).length) D.cy).length;rw[length_append,sP,Z];omega) rfl ?_;refine ap 95 [0,1,7,9] ?_;refine cL ?_;refine nj 8 [9,50,53] ?_;refine aM 4 ?_ (h:=aao);refine aM 2 ?_ (h:=by exact(fw (l:=i) (h:=q.length) rfl ot ⟨_,ot⟩ trivial yx));refine kN ?_
  refine xG (k:=0) (k2:=2) (od:=fy E (i+1) 1 0) (oy:=fy cap i 1 0) (new:=(q.flatMap cI).drop i) (cs':=dY (dY ((q.flatMap cI).take i++replicate (E*1-((q.flatMap cI).take i).length) D.cy) i (cI a)) (i+1) ((q.flatMap cI).drop i)) au rfl rfl underlying27 G6 ot rfl rfl ot rfl rfl (by show take (Nat.min (q.length-i) (q.length+1-(i+1))) (drop (fy cap i 1 0) (q.flatMap cI))=_;rw[I,sc,take_of_length_le w4]) (by show _=Nat.min (q.length-i) (q.length+1-(i+1));rw[sc,U]) (fun d hd=>lf d (mem_of_mem_drop hd)) (by show fy E (i+1) 1 0+_<=(dY ((q.flatMap cI).take i++replicate (E*1-((q.flatMap cI).take i).length) D.cy) i (cI a)).length;rw[O,U,Bl,length_append,sP,Z];omega) (by show dY (dY ((q.flatMap cI).take i++replicate (E*1-((q.flatMap cI).take i).length) D.cy) i (cI a)) (fy E (i+1) 1 0) _=_;rw[O]) ?_;refine ap 95 [9] ?_;refine az 1 ?_;refine Br (k:=0) (cs':=(jn q i a).flatMap cI) rfl (by rw[HI fp];exact WH Z rfl (by rw[sP,U,Z];omega)) ?_;refine eA 95 [6] [⟨KD,3,E*1,(jn q i a).flatMap cI⟩] ?_;exact⟨_,_,rfl,cj (by rw[BE hi];exact FC) QM⟩
 have I:fy cap (i) 1 0=i:=(by unfold fy;rw[if_neg w4];omega)
 have O:fy cap (i+1) 1 0=i+1:=(by unfold fy;rw[if_neg w4];omega)
 have sc:Nat.min (q.length+1-i) (q.length+1-(i+1))=q.length-i:=(by rw[show q.length+1-(i+1)=q.length-i from by omega];exact Nat.min_eq_right w4)
 refine cJ [0,1,2,7,8] ?_;refine aM 4 ?_ (h:=by exact(fw (l:=0) (h:=q.length+1) rfl ot trivial ⟨_,ot⟩ Ra));refine bB ?_;refine az 5 ?_;refine bS (fw (l:=i+1) (h:=q.length+1) rfl ot ⟨_,ot⟩ trivial yx) ?_;refine fF (Wk.toEnd (k:=1) rfl) ?_;refine TM (r:=4) (k:=0) (k2:=1) au rfl rfl func167 aD aD aD aD underlying27 sizeOf3 ot rfl rfl ot rfl rfl w7 (by show cap*1≠0;omega) ?_;refine ap 95 [0,1,2,7,8,68] ?_;refine bX ?_ ?_<;>intro da eP
 ·refine cL ?_;refine nj 8 [0,1,2,73,76] ?_;refine aM 4 ?_ (h:=aao);refine aM 2 ?_ (h:=by exact(fw (l:=i) (h:=q.length+1) rfl ot ⟨_,ot⟩ trivial yx));refine kN ?_;refine xG (k:=1) (k2:=1) (od:=fy cap (i+1) 1 0) (oy:=fy cap i 1 0) (new:=(q.flatMap cI).drop i) (cs':=dY ((q.flatMap cI)++replicate (cap*1-(q.flatMap cI).length) D.cy) (i+1) ((q.flatMap cI).drop i)) au rfl rfl underlying27 G6 ot rfl rfl ot rfl rfl (by show take (Nat.min (q.length+1-i) (q.length+1-(i+1))) (drop (fy cap i 1 0) ((q.flatMap cI)++replicate (cap*1-(q.flatMap cI).length) D.cy))=_;rw[I,sc,drop_append_of_le_length w4,take_left' U]) (by show _=Nat.min (q.length+1-i) (q.length+1-(i+1));rw[sc,U]) (fun d hd=>lf d (mem_of_mem_drop hd)) (by show fy cap (i+1) 1 0+_<=((q.flatMap cI)++replicate (cap*1-(q.flatMap cI).length) D.cy).length;rw[O,U,length_append,sP,hQ];omega) (by show dY ((q.flatMap cI)++replicate (cap*1-(q.flatMap cI).length) D.cy) (fy cap (i+1) 1 0) _=_;rw[O]) ?_;refine ap 95 [0,1,2] ?_;refine az 2 ?_;refine bS (fw (l:=i) (h:=q.length+1) rfl ot ⟨_,ot⟩ trivial yx) ?_;refine aF 1 ?_
  refine xG (k:=1) (k2:=0) (od:=fy cap i 1 0) (new:=cI a) (cs':=dY (dY ((q.flatMap cI)++replicate (cap*1-(q.flatMap cI).length) D.cy) (i+1) ((q.flatMap cI).drop i)) i (cI a)) au rfl rfl underlying27 G6 ot rfl rfl ot rfl rfl aab (Nat.min_eq_left (by omega:1<=q.length+1-i)).symm (fun d hd=>all_eq_true.1 (pV a) d hd) (by show fy cap i 1 0+1<=(dY ((q.flatMap cI)++replicate (cap*1-(q.flatMap cI).length) D.cy) (i+1) ((q.flatMap cI).drop i)).length;rw[I,Bl,length_append,sP,hQ];omega) (by show dY (dY ((q.flatMap cI)++replicate (cap*1-(q.flatMap cI).length) D.cy) (i+1) ((q.flatMap cI).drop i)) (fy cap i 1 0) _=_;rw[I]) ?_;refine ap 95 [0] ?_;refine az 1 ?_;refine Br (k:=1) (cs':=(jn q i a).flatMap cI) rfl (by rw[HI fp];show _ <+: dY (dY ((q.flatMap cI)++_) (i+1) ((q.flatMap cI).drop i)) i (cI a);rw[show(q.flatMap cI)++replicate (cap*1-(q.flatMap cI).length) D.cy=((q.flatMap cI).take i++(q.flatMap cI).drop i)++replicate (cap*1-(q.flatMap cI).length) D.cy from by rw[take_append_drop]];exact X9 Z rfl (by rw[sP,hQ];omega)) ?_;refine eA 95 [6] [⟨b,3,cap*1,(jn q i a).flatMap cI⟩] ?_;exact⟨_,_,rfl,cj (by rw[BE hi];omega) hm⟩
 exact absurd da (by simp at *)
theorem ahh(a:K)(Z:Nat):VC Tryz.prog G 140 [aJ,ae (0:Nat),aS (some ⟨Z,0,none⟩) 1 1] [⟨Z,83,1*1,cK a⟩] (fun r S=>∃ad bj,r=aS ad 1 bj/\bF 83 1 ((jn ([]:List K) 0 a).flatMap cK) (jn ([]:List K) 0 a).length ad bj S):=by
 refine bA func140 rfl ntmps140 aO fun X0 w0 bz=>?_;refine ay [0,1,2] ?_;refine az 2 ?_;refine bS (G7 rfl ot ⟨_,_,ot,rfl⟩ rfl runUnderlying163 sizeOf83) ?_;refine ap 95 [0,1,2] ?_;refine ay [0,1,2,7] ?_;refine ax [0,1,2,7,16] ?_ ?_<;>intro aP bH
 ·exact absurd aP (by simp at *)
 refine ay [0,1,2,7,8] ?_;refine ax [0,1,2,7,8,22] ?_ ?_<;>intro bg cM
 ·refine az 2 ?_;refine gb 0 24 1 1 ?_;refine gi (ls:=([]:List K)) (new:=[a]) (Sq:=[]) iw rJ au rfl rfl underlying163 Ma rfl w7 ot jt (dL (A:=[])) ot bC (by simp[maxLen]) bC (fun I E O U=>?_);refine cg (eM (S1:=[⟨I,83,E*1,flatMap cK (([]:List K)++[a])⟩]) (A:=[])) ?_;refine eA 95 [6] [⟨I,83,E*1,flatMap cK (([]:List K)++[a])⟩] ?_;exact⟨_,_,rfl,cj O U⟩
 exact absurd bg (by simp at *)
theorem afY(q:List K)(i:Nat)(a:K)(ad:Option Addr)(cap:Nat)(Sq:List ag)(E:Nat)(hi:i<=q.length)(hs:q.length<=1000)(ho:bF 83 1 (q.flatMap cK) q.length ad cap Sq):VC Tryz.prog G 140 [aS ad q.length cap,ae (i:Nat),aS (some ⟨E,0,none⟩) 1 1] (⟨E,83,1*1,cK a⟩::Sq) (fun r S=>∃ad bj,r=aS ad (q.length+1) bj/\bF 83 1 ((jn q i a).flatMap cK) (jn q i a).length ad bj S):=by
 rcases ho with ⟨h1,h2,rfl,rfl,rfl⟩|⟨b,rfl,h1,h2,rfl⟩
 ·obtain rfl:=length_eq_zero_iff.1 h1;obtain rfl:i=0:=Nat.le_zero.1 hi;exact ahh a E
 exact afW q i a cap b E hi h1 h2 hs
theorem ahi(a:Int)(Z:Nat):VC Tryz.prog G 141 [aJ,ae (0:Nat),aS (some ⟨Z,0,none⟩) 1 1] [⟨Z,3,1*1,cI a⟩] (fun r S=>∃ad bj,r=aS ad 1 bj/\bF 3 1 ((jn ([]:List Int) 0 a).flatMap cI) (jn ([]:List Int) 0 a).length ad bj S):=by
 refine bA func141 rfl ntmps141 aO fun X0 w0 bz=>?_;refine ay [0,1,2] ?_;refine az 2 ?_;refine bS (G7 rfl ot ⟨_,_,ot,rfl⟩ rfl runUnderlying27 sizeOf3) ?_;refine ap 95 [0,1,2] ?_;refine ay [0,1,2,7] ?_;refine ax [0,1,2,7,16] ?_ ?_<;>intro aP bH
 ·exact absurd aP (by simp at *)
 refine ay [0,1,2,7,8] ?_;refine ax [0,1,2,7,8,22] ?_ ?_<;>intro bg cM
 ·refine az 2 ?_;refine gb 0 24 1 1 ?_;refine gi (ls:=([]:List Int)) (new:=[a]) (Sq:=[]) fp pV au rfl rfl underlying27 MB rfl w7 ot jt (dL (A:=[])) ot bC (by simp[maxLen]) bC (fun I E O U=>?_);refine cg (eM (S1:=[⟨I,3,E*1,flatMap cI (([]:List Int)++[a])⟩]) (A:=[])) ?_;refine eA 95 [6] [⟨I,3,E*1,flatMap cI (([]:List Int)++[a])⟩] ?_;exact⟨_,_,rfl,cj O U⟩
 exact absurd bg (by simp at *)
theorem afZ(q:List Int)(i:Nat)(a:Int)(ad:Option Addr)(cap:Nat)(Sq:List ag)(E:Nat)(hi:i<=q.length)(hs:q.length<=1000)(ho:bF 3 1 (q.flatMap cI) q.length ad cap Sq):VC Tryz.prog G 141 [aS ad q.length cap,ae (i:Nat),aS (some ⟨E,0,none⟩) 1 1] (⟨E,3,1*1,cI a⟩::Sq) (fun r S=>∃ad bj,r=aS ad (q.length+1) bj/\bF 3 1 ((jn q i a).flatMap cI) (jn q i a).length ad bj S):=by
 rcases ho with ⟨h1,h2,rfl,rfl,rfl⟩|⟨b,rfl,h1,h2,rfl⟩
 ·obtain rfl:=length_eq_zero_iff.1 h1;obtain rfl:i=0:=Nat.le_zero.1 hi;exact ahi a E
 exact afX q i a cap b E hi h1 h2 hs
end Tw
end Go.Proofs.YtihmfhcjbmlnaaaGreatDoor
