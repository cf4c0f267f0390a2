/-
  What the proof of InsertOne leans on, part 7 of 9: walks of the program's functions at the level of values, and plain facts of what they compute.
-/
import Derived.Test.YtdgichenhdikgaaGreatDoorPInsertOne6
set_option linter.unusedVariables false
set_option linter.unusedSimpArgs false
set_option maxRecDepth 100000
set_option maxHeartbeats 4000000
namespace Go.Proofs.YtdgichenhdikgaaGreatDoor.Tw
open List
open Go.Proofs.Tryz
open Go.RowKit V Tr Pk
variable {α:Type} {i h:Nat} {J:List D} {t u:aG} {k up:K} {row:Int}
def ik(q:List α)(i:Nat)(a:α):List α:=q.take i++a::q.drop i
theorem yQ{q:List α}{a:α}(hi:i≤q.length):(ik q i a).length=q.length+1:=by unfold ik;rw[length_append,length_take,length_cons,length_drop];omega
theorem R6{q:List α}{a:α}:ik q q.length a=q++[a]:=by unfold ik;rw[take_length,drop_length]
theorem EM{g:α→List D}(hg:∀a,(g a).length=1){q:List α}{a:α}:(ik q i a).flatMap g=(q.flatMap g).take i++(g a++(q.flatMap g).drop i):=by
 have h1:=tN hg q i;have h2:=uQ hg q i;rw[Nat.mul_one] at h1 h2;unfold ik;rw[flatMap_append,flatMap_cons,h1,h2]
theorem Ey{A ds:List D}{off:Nat}(hA:A.length=off)(hl:ds.length≤J.length):dw (A++J) off ds=A++(ds++J.drop ds.length):=by
 rw[wg _ _ _ vD,take_left' hA,append_assoc,←drop_drop,drop_left' hA]
theorem R7{T R c:List D}(hT:T.length=i)(hc:c.length=1)(E:R.length+1≤J.length):T++(c++R) <+: dw (dw (T++J) i c) (i+1) R:=by
 rw[Ey hT w4,show T++(c++J.drop c.length)=(T++c)++J.drop c.length from(append_assoc _ _ _).symm,Ey (A:=T++c) vD (by rw[length_drop];omega)];exact⟨_,by simp only[append_assoc];rfl⟩
theorem T1{T R c:List D}(hT:T.length=i)(hc:c.length=1)(O:1≤J.length):T++(c++R) <+: dw (dw ((T++R)++J) (i+1) R) i c:=by
 obtain⟨E,I,hX,h1⟩:∃E I,R++J=E++I∧E.length=1:=⟨(R++J).take 1,(R++J).drop 1,(take_append_drop 1 _).symm,by rw[length_take,length_append];omega⟩
 have h2:R.length≤I.length:=(by have:=congrArg length hX;rw[length_append,length_append] at this;omega)
 have e1:(T++R)++J=(T++E)++I:=(by rw[append_assoc,hX,←append_assoc])
 have e2:(T++E)++(R++I.drop R.length)=T++(E++(R++I.drop R.length)):=append_assoc _ _ _;rw[e1,Ey (A:=T++E) vD h2,e2,Ey hT vD,drop_left' w4];exact⟨I.drop R.length,by simp only[append_assoc]⟩
theorem qp(n:Nat)(x:α):(replicate n x).length=n:=length_replicate
variable {G:List (Nat×List Value)}
theorem Ej:(Tryz.prog.info? 88).map (fun i=>i.size)=some 1:=by kernel_rfl
theorem It:(Tryz.prog.info? 88).map (fun i=>(i.zero,i.size,i.bytes))=some (some (.slice none 0 0),1,24):=by kernel_rfl
theorem aat(q:List K)(i:Nat)(a:K)(cap b bv:Nat)(hi:i≤q.length)(hc:q.length≤cap)(hm:cap≤maxLen)(hs:q.length≤1000):VC Tryz.prog G 124 [aN (some ⟨b,0,none⟩) q.length cap,ae (i:Nat),aN (some ⟨bv,0,none⟩) 1 1] [⟨bv,88,1*1,cK a⟩,⟨b,88,cap*1,q.flatMap cK⟩] (fun r S=>∃ad kI,r=aN ad (q.length+1) kI∧bn 88 1 ((ik q i a).flatMap cK) (ik q i a).length ad kI S):=by
 refine VC.body func124 rfl ntmps124 aR fun X0 w0 aZ=>?_;refine af [0,1,2] ?_;refine aD 2 ?_;refine bN (ey (l:=i) rfl ot ⟨_,ot⟩ trivial uj) ?_;refine an 95 [0,1,2] ?_;refine af [0,1,2,7] ?_;refine af [0,1,2,7,16] ?_;refine au ?_ ?_<;>intro aM bD
 ·exact absurd aM (by simp at *)
 refine af [0,1,2,7,8] ?_;refine af [0,1,2,7,8,22] ?_;refine au ?_ ?_<;>intro aY cy
 ·obtain rfl:i=q.length:=(by simp at *;omega)
  refine aD 2 ?_;refine fw 0 24 1 1 ?_;refine OD.ek (ls:=q) (new:=[a]) (Sq:=[⟨b,88,cap*1,q.flatMap cK⟩]) gl pI ap rfl rfl underlying151 It rfl w7 ot (bE hc hm) (de (A:=[])) ot bf vG iq (fun yh CM Mh Mi=>?_);refine OD.perm (dZ (S1:=[⟨yh,88,CM*1,flatMap cK (q++[a])⟩]) (A:=[])) ?_;refine an 95 [6] ?_;refine aI [⟨yh,88,CM*1,flatMap cK (q++[a])⟩] ?_;exact⟨_,_,by rw[length_append];rfl,by rw[R6];exact bE Mh Mi⟩
 have aa:i<q.length:=(by omega)
 have hQ:(q.flatMap cK).length=q.length:=(by rw[cr gl];omega)
 have Z:((q.flatMap cK).take i).length=i:=(by rw[length_take];omega)
 have U:((q.flatMap cK).drop i).length=q.length-i:=(by rw[length_drop];omega)
 have jO:∀d∈(q.flatMap cK),V.one d=true:=tU pI _;refine cZ [0,1,2,7,8,31] ?_;refine aS 4 ?_ (h:=by exact(EE rfl rfl ot runUnderlying151));refine bG ?_;refine au ?_ ?_<;>intro bZ cN
 ·have I:eM cap (i) 1 0=i:=(by unfold eM;rw[if_neg w4];omega)
  have rP:Nat.min (q.length-i) (q.length+1-(i+1))=q.length-i:=Nat.min_eq_left w4;refine aD 2 ?_;refine bN (ey (l:=0) (h:=i) rfl ot trivial ⟨_,ot⟩ MH) ?_;refine aE 5 ?_;refine OD.Tm (n:=i) (m:=q.length+1-i) (k:=1) ap rfl rfl underlying151 underlying3 It rfl ot rfl rfl (by show i≤(q.flatMap cK).length;omega) (Eq.trans ot (congrArg (fun z=>D.v (.int .i64 z)) (show((q.length:Int)+(1:Nat)-(i:Int))=((q.length+1-i:Nat):Int) by omega))) w4 w4 Gl w4 (fun He E CN Mj=>?_);have j8:i+(q.length+1-i)=q.length+1:=(by omega)
  rw[j8] at CN ⊢;refine an 95 [0,1,2,7,9] ?_;refine aD 2 ?_;refine bN (ey (l:=i) (h:=q.length+1) rfl ot ⟨_,ot⟩ trivial uj) ?_;have vQ:eM E (i) 1 0=i:=(by unfold eM;rw[if_neg w4];omega)
  rw[vQ];refine aE 1 ?_;have O:eM E (i+1) 1 0=i+1:=(by unfold eM;rw[if_neg w4];omega)
  refine OD.wk (Wk.toEnd (k:=0) rfl) ?_;refine OD.copy (k:=0) (k2:=1) (od:=i) (new:=cK a) (cs':=dw ((q.flatMap cK).take i++replicate (E*1-((q.flatMap cK).take i).length) D.bU) i (cK a)) ap rfl rfl underlying151 Ej ot rfl rfl ot rfl rfl (by show take (Nat.min 1 (q.length+1-i)) (cK a)=_;rw[show Nat.min 1 (q.length+1-i)=1 from Nat.min_eq_left w4];rfl) (Nat.min_eq_left (by omega:1≤q.length+1-i)).symm (fun d hd=>all_eq_true.1 (pI a) d hd) (by show i+1≤((q.flatMap cK).take i++replicate (E*1-((q.flatMap cK).take i).length) D.bU).length;rw[length_append,qp,Z];omega) rfl ?_;refine an 95 [0,1,7,9] ?_;refine CD.seq ?_;refine lF 8 [9,50,53] ?_;refine aS 4 ?_ (h:=by exact(ey (l:=i+1) (h:=q.length+1) rfl ot ⟨_,ot⟩ trivial uj));refine aS 2 ?_ (h:=by exact(ey (l:=i) (h:=q.length) rfl ot ⟨_,ot⟩ trivial uj));refine jW ?_
  refine OD.copy (k:=0) (k2:=2) (od:=eM E (i+1) 1 0) (oy:=eM cap i 1 0) (new:=(q.flatMap cK).drop i) (cs':=dw (dw ((q.flatMap cK).take i++replicate (E*1-((q.flatMap cK).take i).length) D.bU) i (cK a)) (i+1) ((q.flatMap cK).drop i)) ap rfl rfl underlying151 Ej ot rfl rfl ot rfl rfl (by show take (Nat.min (q.length-i) (q.length+1-(i+1))) (drop (eM cap i 1 0) (q.flatMap cK))=_;rw[I,rP,take_of_length_le w4]) (by show _=Nat.min (q.length-i) (q.length+1-(i+1));rw[rP,U]) (fun d hd=>jO d (mem_of_mem_drop hd)) (by show eM E (i+1) 1 0+_≤(dw ((q.flatMap cK).take i++replicate (E*1-((q.flatMap cK).take i).length) D.bU) i (cK a)).length;rw[O,U,yD,length_append,qp,Z];omega) (by show dw (dw ((q.flatMap cK).take i++replicate (E*1-((q.flatMap cK).take i).length) D.bU) i (cK a)) (eM E (i+1) 1 0) _=_;rw[O]) ?_;refine an 95 [9] ?_;refine aD 1 ?_;refine OD.shrink (k:=0) (cs':=(ik q i a).flatMap cK) rfl (by rw[EM gl];exact R7 Z rfl (by rw[qp,U,Z];omega)) ?_;refine an 95 [6] ?_;refine aI [⟨He,88,E*1,(ik q i a).flatMap cK⟩] ?_;exact⟨_,_,rfl,bE (by rw[yQ hi];exact CN) Mj⟩
 have I:eM cap (i) 1 0=i:=(by unfold eM;rw[if_neg w4];omega)
 have O:eM cap (i+1) 1 0=i+1:=(by unfold eM;rw[if_neg w4];omega)
 have rP:Nat.min (q.length+1-i) (q.length+1-(i+1))=q.length-i:=(by rw[show q.length+1-(i+1)=q.length-i from by omega];exact Nat.min_eq_right w4)
 refine cZ [0,1,2,7,8] ?_;refine aS 4 ?_ (h:=by exact(ey (l:=0) (h:=q.length+1) rfl ot trivial ⟨_,ot⟩ MH));refine bG ?_;refine aD 5 ?_;refine bN (ey (l:=i+1) (h:=q.length+1) rfl ot ⟨_,ot⟩ trivial uj) ?_;refine OD.wk (Wk.toEnd (k:=1) rfl) ?_;refine OD.overlaps (r:=4) (k:=0) (k2:=1) ap rfl rfl func146 aA aA aA aA underlying151 sizeOf88 ot rfl rfl ot rfl rfl w7 (by show cap*1≠0;omega) ?_;refine an 95 [0,1,2,7,8,68] ?_;refine au ?_ ?_<;>intro cX en
 ·refine CD.seq ?_;refine lF 8 [0,1,2,73,76] ?_;refine aS 4 ?_ (h:=by exact(ey (l:=i+1) (h:=q.length+1) rfl ot ⟨_,ot⟩ trivial uj));refine aS 2 ?_ (h:=by exact(ey (l:=i) (h:=q.length+1) rfl ot ⟨_,ot⟩ trivial uj));refine jW ?_;refine OD.copy (k:=1) (k2:=1) (od:=eM cap (i+1) 1 0) (oy:=eM cap i 1 0) (new:=(q.flatMap cK).drop i) (cs':=dw ((q.flatMap cK)++replicate (cap*1-(q.flatMap cK).length) D.bU) (i+1) ((q.flatMap cK).drop i)) ap rfl rfl underlying151 Ej ot rfl rfl ot rfl rfl (by show take (Nat.min (q.length+1-i) (q.length+1-(i+1))) (drop (eM cap i 1 0) ((q.flatMap cK)++replicate (cap*1-(q.flatMap cK).length) D.bU))=_;rw[I,rP,drop_append_of_le_length w4,take_left' U]) (by show _=Nat.min (q.length+1-i) (q.length+1-(i+1));rw[rP,U]) (fun d hd=>jO d (mem_of_mem_drop hd)) (by show eM cap (i+1) 1 0+_≤((q.flatMap cK)++replicate (cap*1-(q.flatMap cK).length) D.bU).length;rw[O,U,length_append,qp,hQ];omega) (by show dw ((q.flatMap cK)++replicate (cap*1-(q.flatMap cK).length) D.bU) (eM cap (i+1) 1 0) _=_;rw[O]) ?_;refine an 95 [0,1,2] ?_;refine aD 2 ?_;refine bN (ey (l:=i) (h:=q.length+1) rfl ot ⟨_,ot⟩ trivial uj) ?_;refine aE 1 ?_
  refine OD.copy (k:=1) (k2:=0) (od:=eM cap i 1 0) (new:=cK a) (cs':=dw (dw ((q.flatMap cK)++replicate (cap*1-(q.flatMap cK).length) D.bU) (i+1) ((q.flatMap cK).drop i)) i (cK a)) ap rfl rfl underlying151 Ej ot rfl rfl ot rfl rfl (by show take (Nat.min 1 (q.length+1-i)) (cK a)=_;rw[show Nat.min 1 (q.length+1-i)=1 from Nat.min_eq_left w4];rfl) (Nat.min_eq_left (by omega:1≤q.length+1-i)).symm (fun d hd=>all_eq_true.1 (pI a) d hd) (by show eM cap i 1 0+1≤(dw ((q.flatMap cK)++replicate (cap*1-(q.flatMap cK).length) D.bU) (i+1) ((q.flatMap cK).drop i)).length;rw[I,yD,length_append,qp,hQ];omega) (by show dw (dw ((q.flatMap cK)++replicate (cap*1-(q.flatMap cK).length) D.bU) (i+1) ((q.flatMap cK).drop i)) (eM cap i 1 0) _=_;rw[I]) ?_;refine an 95 [0] ?_;refine aD 1 ?_;refine OD.shrink (k:=1) (cs':=(ik q i a).flatMap cK) rfl (by rw[EM gl];show _ <+: dw (dw ((q.flatMap cK)++_) (i+1) ((q.flatMap cK).drop i)) i (cK a);rw[show(q.flatMap cK)++replicate (cap*1-(q.flatMap cK).length) D.bU=((q.flatMap cK).take i++(q.flatMap cK).drop i)++replicate (cap*1-(q.flatMap cK).length) D.bU from by rw[take_append_drop]];exact T1 Z rfl (by rw[qp,hQ];omega)) ?_;refine an 95 [6] ?_;refine aI [⟨b,88,cap*1,(ik q i a).flatMap cK⟩] ?_;exact⟨_,_,rfl,bE (by rw[yQ hi];omega) hm⟩
 exact absurd cX (by simp at *)
theorem Ek:(Tryz.prog.info? 3).map (fun i=>i.size)=some 1:=by kernel_rfl
theorem IU:(Tryz.prog.info? 3).map (fun i=>(i.zero,i.size,i.bytes))=some (some (.int .i64 0),1,8):=by kernel_rfl
theorem aau(q:List Int)(i:Nat)(a:Int)(cap b bv:Nat)(hi:i≤q.length)(hc:q.length≤cap)(hm:cap≤maxLen)(hs:q.length≤1000):VC Tryz.prog G 125 [aN (some ⟨b,0,none⟩) q.length cap,ae (i:Nat),aN (some ⟨bv,0,none⟩) 1 1] [⟨bv,3,1*1,cI a⟩,⟨b,3,cap*1,q.flatMap cI⟩] (fun r S=>∃ad kI,r=aN ad (q.length+1) kI∧bn 3 1 ((ik q i a).flatMap cI) (ik q i a).length ad kI S):=by
 refine VC.body func125 rfl ntmps125 aR fun X0 w0 aZ=>?_;refine af [0,1,2] ?_;refine aD 2 ?_;refine bN (ey (l:=i) rfl ot ⟨_,ot⟩ trivial uk) ?_;refine an 95 [0,1,2] ?_;refine af [0,1,2,7] ?_;refine af [0,1,2,7,16] ?_;refine au ?_ ?_<;>intro aM bD
 ·exact absurd aM (by simp at *)
 refine af [0,1,2,7,8] ?_;refine af [0,1,2,7,8,22] ?_;refine au ?_ ?_<;>intro aY cy
 ·obtain rfl:i=q.length:=(by simp at *;omega)
  refine aD 2 ?_;refine fw 0 24 1 1 ?_;refine OD.ek (ls:=q) (new:=[a]) (Sq:=[⟨b,3,cap*1,q.flatMap cI⟩]) eC nF ap rfl rfl underlying67 IU rfl w7 ot (bE hc hm) (de (A:=[])) ot bf vG iq (fun yh CM Mh Mi=>?_);refine OD.perm (dZ (S1:=[⟨yh,3,CM*1,flatMap cI (q++[a])⟩]) (A:=[])) ?_;refine an 95 [6] ?_;refine aI [⟨yh,3,CM*1,flatMap cI (q++[a])⟩] ?_;exact⟨_,_,by rw[length_append];rfl,by rw[R6];exact bE Mh Mi⟩
 have aa:i<q.length:=(by omega)
 have hQ:(q.flatMap cI).length=q.length:=(by rw[cr eC];omega)
 have Z:((q.flatMap cI).take i).length=i:=(by rw[length_take];omega)
 have U:((q.flatMap cI).drop i).length=q.length-i:=(by rw[length_drop];omega)
 have jO:∀d∈(q.flatMap cI),V.one d=true:=tU nF _;refine cZ [0,1,2,7,8,31] ?_;refine aS 4 ?_ (h:=by exact(EE rfl rfl ot runUnderlying67));refine bG ?_;refine au ?_ ?_<;>intro bZ cN
 ·have I:eM cap (i) 1 0=i:=(by unfold eM;rw[if_neg w4];omega)
  have rP:Nat.min (q.length-i) (q.length+1-(i+1))=q.length-i:=Nat.min_eq_left w4;refine aD 2 ?_;refine bN (ey (l:=0) (h:=i) rfl ot trivial ⟨_,ot⟩ MI) ?_;refine aE 5 ?_;refine OD.Tm (n:=i) (m:=q.length+1-i) (k:=1) ap rfl rfl underlying67 underlying3 IU rfl ot rfl rfl (by show i≤(q.flatMap cI).length;omega) (Eq.trans ot (congrArg (fun z=>D.v (.int .i64 z)) (show((q.length:Int)+(1:Nat)-(i:Int))=((q.length+1-i:Nat):Int) by omega))) w4 w4 Gl w4 (fun He E CN Mj=>?_);have j8:i+(q.length+1-i)=q.length+1:=(by omega)
  rw[j8] at CN ⊢;refine an 95 [0,1,2,7,9] ?_;refine aD 2 ?_;refine bN (ey (l:=i) (h:=q.length+1) rfl ot ⟨_,ot⟩ trivial uk) ?_;have vQ:eM E (i) 1 0=i:=(by unfold eM;rw[if_neg w4];omega)
  rw[vQ];refine aE 1 ?_;have O:eM E (i+1) 1 0=i+1:=(by unfold eM;rw[if_neg w4];omega)
  refine OD.wk (Wk.toEnd (k:=0) rfl) ?_;refine OD.copy (k:=0) (k2:=1) (od:=i) (new:=cI a) (cs':=dw ((q.flatMap cI).take i++replicate (E*1-((q.flatMap cI).take i).length) D.bU) i (cI a)) ap rfl rfl underlying67 Ek ot rfl rfl ot rfl rfl (by show take (Nat.min 1 (q.length+1-i)) (cI a)=_;rw[show Nat.min 1 (q.length+1-i)=1 from Nat.min_eq_left w4];rfl) (Nat.min_eq_left (by omega:1≤q.length+1-i)).symm (fun d hd=>all_eq_true.1 (nF a) d hd) (by show i+1≤((q.flatMap cI).take i++replicate (E*1-((q.flatMap cI).take i).length) D.bU).length;rw[length_append,qp,Z];omega) rfl ?_;refine an 95 [0,1,7,9] ?_;refine CD.seq ?_;refine lF 8 [9,50,53] ?_;refine aS 4 ?_ (h:=by exact(ey (l:=i+1) (h:=q.length+1) rfl ot ⟨_,ot⟩ trivial uk));refine aS 2 ?_ (h:=by exact(ey (l:=i) (h:=q.length) rfl ot ⟨_,ot⟩ trivial uk));refine jW ?_
  refine OD.copy (k:=0) (k2:=2) (od:=eM E (i+1) 1 0) (oy:=eM cap i 1 0) (new:=(q.flatMap cI).drop i) (cs':=dw (dw ((q.flatMap cI).take i++replicate (E*1-((q.flatMap cI).take i).length) D.bU) i (cI a)) (i+1) ((q.flatMap cI).drop i)) ap rfl rfl underlying67 Ek ot rfl rfl ot rfl rfl (by show take (Nat.min (q.length-i) (q.length+1-(i+1))) (drop (eM cap i 1 0) (q.flatMap cI))=_;rw[I,rP,take_of_length_le w4]) (by show _=Nat.min (q.length-i) (q.length+1-(i+1));rw[rP,U]) (fun d hd=>jO d (mem_of_mem_drop hd)) (by show eM E (i+1) 1 0+_≤(dw ((q.flatMap cI).take i++replicate (E*1-((q.flatMap cI).take i).length) D.bU) i (cI a)).length;rw[O,U,yD,length_append,qp,Z];omega) (by show dw (dw ((q.flatMap cI).take i++replicate (E*1-((q.flatMap cI).take i).length) D.bU) i (cI a)) (eM E (i+1) 1 0) _=_;rw[O]) ?_;refine an 95 [9] ?_;refine aD 1 ?_;refine OD.shrink (k:=0) (cs':=(ik q i a).flatMap cI) rfl (by rw[EM eC];exact R7 Z rfl (by rw[qp,U,Z];omega)) ?_;refine an 95 [6] ?_;refine aI [⟨He,3,E*1,(ik q i a).flatMap cI⟩] ?_;exact⟨_,_,rfl,bE (by rw[yQ hi];exact CN) Mj⟩
 have I:eM cap (i) 1 0=i:=(by unfold eM;rw[if_neg w4];omega)
 have O:eM cap (i+1) 1 0=i+1:=(by unfold eM;rw[if_neg w4];omega)
 have rP:Nat.min (q.length+1-i) (q.length+1-(i+1))=q.length-i:=(by rw[show q.length+1-(i+1)=q.length-i from by omega];exact Nat.min_eq_right w4)
 refine cZ [0,1,2,7,8] ?_;refine aS 4 ?_ (h:=by exact(ey (l:=0) (h:=q.length+1) rfl ot trivial ⟨_,ot⟩ MI));refine bG ?_;refine aD 5 ?_;refine bN (ey (l:=i+1) (h:=q.length+1) rfl ot ⟨_,ot⟩ trivial uk) ?_;refine OD.wk (Wk.toEnd (k:=1) rfl) ?_;refine OD.overlaps (r:=4) (k:=0) (k2:=1) ap rfl rfl func148 aA aA aA aA underlying67 sizeOf3 ot rfl rfl ot rfl rfl w7 (by show cap*1≠0;omega) ?_;refine an 95 [0,1,2,7,8,68] ?_;refine au ?_ ?_<;>intro cX en
 ·refine CD.seq ?_;refine lF 8 [0,1,2,73,76] ?_;refine aS 4 ?_ (h:=by exact(ey (l:=i+1) (h:=q.length+1) rfl ot ⟨_,ot⟩ trivial uk));refine aS 2 ?_ (h:=by exact(ey (l:=i) (h:=q.length+1) rfl ot ⟨_,ot⟩ trivial uk));refine jW ?_;refine OD.copy (k:=1) (k2:=1) (od:=eM cap (i+1) 1 0) (oy:=eM cap i 1 0) (new:=(q.flatMap cI).drop i) (cs':=dw ((q.flatMap cI)++replicate (cap*1-(q.flatMap cI).length) D.bU) (i+1) ((q.flatMap cI).drop i)) ap rfl rfl underlying67 Ek ot rfl rfl ot rfl rfl (by show take (Nat.min (q.length+1-i) (q.length+1-(i+1))) (drop (eM cap i 1 0) ((q.flatMap cI)++replicate (cap*1-(q.flatMap cI).length) D.bU))=_;rw[I,rP,drop_append_of_le_length w4,take_left' U]) (by show _=Nat.min (q.length+1-i) (q.length+1-(i+1));rw[rP,U]) (fun d hd=>jO d (mem_of_mem_drop hd)) (by show eM cap (i+1) 1 0+_≤((q.flatMap cI)++replicate (cap*1-(q.flatMap cI).length) D.bU).length;rw[O,U,length_append,qp,hQ];omega) (by show dw ((q.flatMap cI)++replicate (cap*1-(q.flatMap cI).length) D.bU) (eM cap (i+1) 1 0) _=_;rw[O]) ?_;refine an 95 [0,1,2] ?_;refine aD 2 ?_;refine bN (ey (l:=i) (h:=q.length+1) rfl ot ⟨_,ot⟩ trivial uk) ?_;refine aE 1 ?_
  refine OD.copy (k:=1) (k2:=0) (od:=eM cap i 1 0) (new:=cI a) (cs':=dw (dw ((q.flatMap cI)++replicate (cap*1-(q.flatMap cI).length) D.bU) (i+1) ((q.flatMap cI).drop i)) i (cI a)) ap rfl rfl underlying67 Ek ot rfl rfl ot rfl rfl (by show take (Nat.min 1 (q.length+1-i)) (cI a)=_;rw[show Nat.min 1 (q.length+1-i)=1 from Nat.min_eq_left w4];rfl) (Nat.min_eq_left (by omega:1≤q.length+1-i)).symm (fun d hd=>all_eq_true.1 (nF a) d hd) (by show eM cap i 1 0+1≤(dw ((q.flatMap cI)++replicate (cap*1-(q.flatMap cI).length) D.bU) (i+1) ((q.flatMap cI).drop i)).length;rw[I,yD,length_append,qp,hQ];omega) (by show dw (dw ((q.flatMap cI)++replicate (cap*1-(q.flatMap cI).length) D.bU) (i+1) ((q.flatMap cI).drop i)) (eM cap i 1 0) _=_;rw[I]) ?_;refine an 95 [0] ?_;refine aD 1 ?_;refine OD.shrink (k:=1) (cs':=(ik q i a).flatMap cI) rfl (by rw[EM eC];show _ <+: dw (dw ((q.flatMap cI)++_) (i+1) ((q.flatMap cI).drop i)) i (cI a);rw[show(q.flatMap cI)++replicate (cap*1-(q.flatMap cI).length) D.bU=((q.flatMap cI).take i++(q.flatMap cI).drop i)++replicate (cap*1-(q.flatMap cI).length) D.bU from by rw[take_append_drop]];exact T1 Z rfl (by rw[qp,hQ];omega)) ?_;refine an 95 [6] ?_;refine aI [⟨b,3,cap*1,(ik q i a).flatMap cI⟩] ?_;exact⟨_,_,rfl,bE (by rw[yQ hi];omega) hm⟩
 exact absurd cX (by simp at *)
theorem abS(a:K)(bv:Nat):VC Tryz.prog G 124 [cf,ae (0:Nat),aN (some ⟨bv,0,none⟩) 1 1] [⟨bv,88,1*1,cK a⟩] (fun r S=>∃ad E,r=aN ad 1 E∧bn 88 1 ((ik ([]:List K) 0 a).flatMap cK) (ik ([]:List K) 0 a).length ad E S):=by
 refine VC.body func124 rfl ntmps124 aR fun X0 w0 aZ=>?_;refine af [0,1,2] ?_;refine aD 2 ?_;refine bN (Em rfl ot ⟨_,_,ot,rfl⟩ rfl runUnderlying151 sizeOf88) ?_;refine an 95 [0,1,2] ?_;refine af [0,1,2,7] ?_;refine af [0,1,2,7,16] ?_;refine au ?_ ?_<;>intro aM bD
 ·exact absurd aM (by simp at *)
 refine af [0,1,2,7,8] ?_;refine af [0,1,2,7,8,22] ?_;refine au ?_ ?_<;>intro aY cy
 ·refine aD 2 ?_;refine fw 0 24 1 1 ?_;refine OD.ek (ls:=([]:List K)) (new:=[a]) (Sq:=[]) gl pI ap rfl rfl underlying151 It rfl w7 ot iv (de (A:=[])) ot bf (by simp[maxLen]) bf (fun O I U Z=>?_);refine OD.perm (dZ (S1:=[⟨O,88,I*1,flatMap cK (([]:List K)++[a])⟩]) (A:=[])) ?_;refine an 95 [6] ?_;refine aI [⟨O,88,I*1,flatMap cK (([]:List K)++[a])⟩] ?_;exact⟨_,_,rfl,bE U Z⟩
 exact absurd aY (by simp at *)
theorem aav(q:List K)(i:Nat)(a:K)(ad:Option Addr)(cap:Nat)(Sq:List ah)(I:Nat)(hi:i≤q.length)(hs:q.length≤1000)(ho:bn 88 1 (q.flatMap cK) q.length ad cap Sq):VC Tryz.prog G 124 [aN ad q.length cap,ae (i:Nat),aN (some ⟨I,0,none⟩) 1 1] (⟨I,88,1*1,cK a⟩::Sq) (fun r S=>∃ad E,r=aN ad (q.length+1) E∧bn 88 1 ((ik q i a).flatMap cK) (ik q i a).length ad E S):=by
 rcases ho with ⟨h1,h2,rfl,rfl,rfl⟩|⟨b,rfl,h1,h2,rfl⟩
 ·obtain rfl:=length_eq_zero_iff.1 h1;obtain rfl:i=0:=Nat.le_zero.1 hi;exact abS a I
 exact aat q i a cap b I hi h1 h2 hs
theorem abT(a:Int)(bv:Nat):VC Tryz.prog G 125 [cf,ae (0:Nat),aN (some ⟨bv,0,none⟩) 1 1] [⟨bv,3,1*1,cI a⟩] (fun r S=>∃ad E,r=aN ad 1 E∧bn 3 1 ((ik ([]:List Int) 0 a).flatMap cI) (ik ([]:List Int) 0 a).length ad E S):=by
 refine VC.body func125 rfl ntmps125 aR fun X0 w0 aZ=>?_;refine af [0,1,2] ?_;refine aD 2 ?_;refine bN (Em rfl ot ⟨_,_,ot,rfl⟩ rfl runUnderlying67 sizeOf3) ?_;refine an 95 [0,1,2] ?_;refine af [0,1,2,7] ?_;refine af [0,1,2,7,16] ?_;refine au ?_ ?_<;>intro aM bD
 ·exact absurd aM (by simp at *)
 refine af [0,1,2,7,8] ?_;refine af [0,1,2,7,8,22] ?_;refine au ?_ ?_<;>intro aY cy
 ·refine aD 2 ?_;refine fw 0 24 1 1 ?_;refine OD.ek (ls:=([]:List Int)) (new:=[a]) (Sq:=[]) eC nF ap rfl rfl underlying67 IU rfl w7 ot iv (de (A:=[])) ot bf (by simp[maxLen]) bf (fun O I U Z=>?_);refine OD.perm (dZ (S1:=[⟨O,3,I*1,flatMap cI (([]:List Int)++[a])⟩]) (A:=[])) ?_;refine an 95 [6] ?_;refine aI [⟨O,3,I*1,flatMap cI (([]:List Int)++[a])⟩] ?_;exact⟨_,_,rfl,bE U Z⟩
 exact absurd aY (by simp at *)
theorem aaw(q:List Int)(i:Nat)(a:Int)(ad:Option Addr)(cap:Nat)(Sq:List ah)(I:Nat)(hi:i≤q.length)(hs:q.length≤1000)(ho:bn 3 1 (q.flatMap cI) q.length ad cap Sq):VC Tryz.prog G 125 [aN ad q.length cap,ae (i:Nat),aN (some ⟨I,0,none⟩) 1 1] (⟨I,3,1*1,cI a⟩::Sq) (fun r S=>∃ad E,r=aN ad (q.length+1) E∧bn 3 1 ((ik q i a).flatMap cI) (ik q i a).length ad E S):=by
 rcases ho with ⟨h1,h2,rfl,rfl,rfl⟩|⟨b,rfl,h1,h2,rfl⟩
 ·obtain rfl:=length_eq_zero_iff.1 h1;obtain rfl:i=0:=Nat.le_zero.1 hi;exact abT a I
 exact aau q i a cap b I hi h1 h2 hs

noncomputable def oU(t:aG)(k:K)(row:Int)(h:Nat):aG×Int:=if lE t k=0 then (if row<0 then (vU,3) else if gE t k h=true then (vU,9) else if 4000<(gp t h k row).ag.length then (vU,10) else (gp t h k row,0)) else (vU,lE t k)
theorem afd{ls:List Int}{r:D}{S:List ah}(h:gm cI 3 1 ls r S):kQ r=true∧∀B∈S,∀d∈B.cs,kQ d=true:=by
 obtain⟨ad,cap,rfl,ho⟩:=h;refine⟨rfl,fun B E d hd=>?_⟩;rcases ho with ⟨_,_,_,_,rfl⟩|⟨b,_,_,_,rfl⟩
 ·cases E
 rw[mem_singleton] at E;subst E;obtain⟨n,_,hn⟩:=mem_flatMap.1 hd;rw[cI,mem_singleton] at hn;subst hn;rfl
theorem Qw(v:Valid t h)(hf:gE t k h=false):∀x∈kZ t h,x.1≠k:=fun x hx e=>by
 have:gE t k h=true:=(Ev v k).2 ((Bj v k).2 ⟨x.2,by rw[←e];exact hx⟩);rw[hf] at this;cases this
theorem abU{G:List (Nat×List Value)}(L:List aB)(b:Nat)(root i:Int)(ad:Option Addr)(cap:Nat)(Sx:List ah)(hi:0≤i∧i<L.length)(p:da)(E:(L[i.toNat]'w4).p=p)(hn:L.length≤10000)(dW:uf L ad cap Sx)(aQ:∀o∈L,qR o)(h5:p.keys.length=5)(ee:p.leaf=true→p.kids.length=5)(I:p.leaf=false→p.kids.length=6)(O:∀k∈p.keys,k.length≤100)(U:p.high.length≤100) :
 VC Tryz.prog G 126 [dL b,ae i] (⟨b,51,2,[aN ad L.length cap,ae root]⟩::(Sx++L.flatMap bO)) (WK L b root i.toNat p):=by
 subst E;exact adD L b root i ad cap Sx hi hn dW aQ h5 ee I O U
theorem adE{aC:Int}(e:kD t k row h (h+1)=(u,some (up,aC)))(hr:u.root=t.root):gp t h k row=⟨u.ag++[⟨false,[up],[t.root,aC],[],-1⟩],u.ag.length⟩:=by
 unfold gp;rw[←RZ,e];show(⟨u.ag++[⟨false,[up],[u.root,aC],[],-1⟩],u.ag.length⟩:aG)=_;rw[hr]
theorem afe{aC:Int}{m:Nat}(hm:m≤h)(e:kD t k row h m=(u,some (up,aC)))(h4:(bC (u.pg (dx t k h t.root m)) up aC).keys.length≤4):gp t h k row=u.set (dx t k h t.root m) (bC (u.pg (dx t k h t.root m)) up aC):=by
 have:=Qs hm e;rw[Jk h4] at this;unfold gp;rw[Qt (h-m) (m+1) w4 w4 this];rfl
theorem adG{aC:Int}{m:Nat}(hm:m≤h)(e:kD t k row h m=(u,some (up,aC)))(h4:¬(bC (u.pg (dx t k h t.root m)) up aC).keys.length≤4) :
  kD t k row h (m+1)=(jo u (dx t k h t.root m) (bq (bC (u.pg (dx t k h t.root m)) up aC) u.ag.length) (bz (bC (u.pg (dx t k h t.root m)) up aC)),some (jj (bC (u.pg (dx t k h t.root m)) up aC),(u.ag.length:Int))):=by
 rw[Qs hm e,IP h4]
theorem ZZ:(Tryz.prog.info? 153).map (fun i=>(i.zero,i.size,i.bytes))=some (some (.agg #[.bool false,.slice none 0 0,.slice none 0 0,.slice none 0 0,.int .i64 0]),5,88):=by kernel_rfl
theorem IV(t:aG)(h:Nat)(k:K)(row:Int)(hb:∀p∈t.ag,p.keys.length≤maxLen∧p.kids.length≤maxLen)(hv:gD t=0→Valid t h):VC Tryz.prog G 84 [.agg [av 5 cP t.ag,ae t.root],av 1 cB k,ae row] [] (CE (oU t k row h)):=by
 refine VC.body func84 rfl ntmps84 aR fun X0 w0 aZ=>?_;have fb:=Ir (G:=G) t k hb;unfold cT at fb;have dm:=ec;refine bY ?_;refine OD.box (ds:=[_,_]) ap rfl rfl ot rfl rfl (fun b3=>?_);refine OD.alloc (ds:=[_,_]) ap rfl rfl zeroValue51 rfl (fun b6=>?_);refine an 131 [1,2,3,6] ?_;refine cJ [1,2,3,6,8] (fb) ?_;refine af [1,2,3,6,8,23] ?_;refine au ?_ ?_<;>intro aM bD
 ·have hn:¬lE t k=0:=(by simpa using aM)
  refine aD 2 ?_;refine aP 0 [_,_] sizeOf51 ?_;refine an 131 [6,7] ?_;refine aI [] ?_;unfold oU;rw[if_neg hn];exact y7 _
 have hz:lE t k=0:=(by simpa using aM)
 obtain⟨hc,Ou⟩:=Qv hz;have v:=hv hc;have CF:=Jq Ou;have fO:=qt (G:=G) t h v k w4 (Ew v k);unfold cT at fO;have aoV:=v.high;have aoW:=v.nO;refine af [1,2,3,6,27] ?_;refine au ?_ ?_<;>intro aY cy
 ·have vt:row<0:=(by omega)
  refine aD 1 ?_;refine aP 0 [_,_] sizeOf51 ?_;refine an 131 [6,7] ?_;refine aI [] ?_;unfold oU;rw[if_pos hz,if_pos vt];exact y7 _
 have vt:0≤row:=(by omega)
 refine cJ [1,2,3,6,11] (fO) ?_;refine af [1,2,3,6,36] ?_;refine au ?_ ?_<;>intro bZ cN
 ·have gg:gE t k h=true:=bZ;refine aD 1 ?_;refine aP 0 [_,_] sizeOf51 ?_;refine an 131 [6,7] ?_;refine aI [] ?_;unfold oU;rw[if_pos hz,if_neg w4,if_pos gg];exact y7 _
 have gg:gE t k h=false:=bZ;have hne:=Qw v gg;refine aD 1 ?_;refine OD.call ap rfl rfl rfl call121 (FP t h v) ⟨ot,trivial⟩ (eO _) ?_;rintro _ _ ⟨L,ad,cap,Sx,rfl,dW,aQ,hL,rfl⟩;refine OD.perm (dZ (A:=[_,_])) ?_;refine OD.alloc (ds:=[_,_]) ap rfl rfl zeroValue51 rfl (fun vV=>?_);refine aP 0 [_,_] sizeOf51 ?_;refine an 131 [1,2,6,12] ?_;refine aD 2 ?_;refine OD.K1 ap rfl rfl rfl call122 (TT t h v k) (fun r S=>afd) ⟨⟨_,ot,(by have:=KG (root:=t.root) dW aQ (fun B hB=>mem_cons_of_mem ⟨vV,51,2,[aN ad L.length cap,ae t.root]⟩ (mem_cons_of_mem ⟨b6,51,2,[cf,ae 0]⟩ (mem_cons_of_mem ⟨b3,51,2,[av 5 cP t.ag,ae t.root]⟩ hB)));rw[hL] at this;exact this)⟩,⟨_,ot,eR⟩,trivial⟩ ?_;rintro _ Sw ⟨aw,cw,rfl,how⟩;refine OD.gN (t:=42) (Sq:=Sw) lk how (cr eC _) (Perm.refl _) ?_;refine an 131 [1,2,6,12,13] ?_;refine cJ [6,12,13,14,15] (j3 k w4) ?_;refine jB [6,12] (fun aU _ aH=>∃(L:List aB),∃(ad:Option Addr),∃(cap:Nat),∃(Sx:List ah),∃(root:Int),(uf L ad cap Sx)∧(∀o∈L,qR o)∧(gp t h k row=⟨L.map aB.p,root⟩)∧(L.length≤10000)∧aH=(⟨131,aU,(⟨vV,51,2,[aN ad L.length cap,ae root]⟩::⟨b6,51,2,[cf,ae 0]⟩::(Sx++L.flatMap bO))⟩:St)) ?_ ?_
 ·refine cZ [6,12,13,14,15,16] ?_;refine aS 2 ?_ (h:=by exact(dj (r:=.int .i64 ((h:Nat):Int)) rfl ot bI (gj (by rw[E4,show(((h+1:Nat):Int)-1)=(h:Int) from by omega];exact wrap_i64 w4 w4))));refine bG ?_;refine eA [6,12,13] (fun aU _ (kJ:Nat×K×Int×List aB×Option Addr×Nat×List ah) aH=>match kJ with|(m,up,aC,L,ad,cap,Sx)=>(m≤h+1)∧(kD t k row h m=(⟨L.map aB.p,t.root⟩,some (up,aC)))∧(uf L ad cap Sx)∧(∀o∈L,qR o)∧aH=(⟨131,(14,av 1 cB up)::(15,ae aC)::(16,ae ((h:Int)-(m:Nat)))::aU,(⟨vV,51,2,[aN ad L.length cap,ae t.root]⟩::⟨b6,51,2,[cf,ae 0]⟩::(Sx++L.flatMap bO))⟩:St)) (fun (kJ:Nat×K×Int×List aB×Option Addr×Nat×List ah)=>match kJ with|(m,up,aC,L,ad,cap,Sx)=>h+1-m) (0,k,row,L,ad,cap,Sx) ⟨(Nat.zero_le _),(by unfold kD;rw[if_pos rfl,hL]),dW,aQ,rfl⟩ ?_;rintro⟨m,up,aC,L,ad,cap,Sx⟩ _ ⟨hm0,he,dW,aQ,rfl⟩;refine af [6,12,13,14,15,16,52] ?_;refine au ?_ ?_<;>intro cX en
  ·obtain rfl:m=h+1:=(by omega)
   obtain⟨s1,s2,s3,s4⟩:=IS v hne CF vt w4 he;have px:L.length≤t.ag.length+(h+1):=(by rw[←length_map (f:=aB.p)];exact s2)
   have YW:=ae8 v hne CF vt w4 he;refine aD 3 ?_;refine ei (bW 0 [_]) [.slice none 0 0] [_] zeroValue88 runUnderlying151 sizeOf88 (fun U=>?_);refine aE 3 ?_;refine ei (bW 0 [_,_]) [.int .i64 0,.int .i64 0] [_,_] zeroValue3 runUnderlying67 sizeOf3 (fun Z=>?_);refine aE 1 ?_;refine ei (bW 0 [_]) [.bool false,.slice none 0 0,.slice none 0 0,.slice none 0 0,.int .i64 0] [_,_,_,_,_] zeroValue153 runUnderlying49 sizeOf153 (fun N5=>?_);refine OD.afZ (cs':=gO (⟨⟨false,[up],[t.root,aC],[],-1⟩,some ⟨U,0,none⟩,1,[⟨U,88,1*1,flatMap cK [up]⟩],some ⟨Z,0,none⟩,2,[⟨Z,3,2*1,flatMap cI [t.root,aC]⟩]⟩:aB)) rfl ⟨eR,eR,eR,yJ,eR,trivial⟩ ?_;refine fw 0 62 5 1 ?_;refine OD.ek (ls:=L) (new:=[(⟨⟨false,[up],[t.root,aC],[],-1⟩,some ⟨U,0,none⟩,1,[⟨U,88,1*1,flatMap cK [up]⟩],some ⟨Z,0,none⟩,2,[⟨Z,3,2*1,flatMap cI [t.root,aC]⟩]⟩:aB)]) (Sq:=Sx) gk uV ap rfl rfl underlying49 ZZ rfl w7 ot dW (oN (A:=[_,_,_,_])) ot bf w9 lY (fun D6 xF akx aky=>?_);refine aE 1 ?_;refine aP 3 [_,_] sizeOf49 ?_;refine an 131 [6,12] ?_;refine aD 3 ?_
   refine bN (dj (r:=.int .i64 (L.length:Nat)) rfl ot bI (gj (by rw[length_append,show(((L.length+[(⟨⟨false,[up],[t.root,aC],[],-1⟩,some ⟨U,0,none⟩,1,[⟨U,88,1*1,flatMap cK [up]⟩],some ⟨Z,0,none⟩,2,[⟨Z,3,2*1,flatMap cI [t.root,aC]⟩]⟩:aB)].length:Nat):Int)-1)=(L.length:Int) from by simp];exact wrap_i64 w4 w4))) ?_;refine aE 1 ?_;refine aP 3 [_,_] sizeOf3 ?_;have hX:((⟨Z,3,2*1,flatMap cI [t.root,aC]⟩:ah)::⟨U,88,1*1,flatMap cK [up]⟩::L.flatMap bO).Perm ((L++[(⟨⟨false,[up],[t.root,aC],[],-1⟩,some ⟨U,0,none⟩,1,[⟨U,88,1*1,flatMap cK [up]⟩],some ⟨Z,0,none⟩,2,[⟨Z,3,2*1,flatMap cI [t.root,aC]⟩]⟩:aB)]).flatMap bO):=(by rw[SM];exact(Perm.swap _ _ _).trans (perm_append_comm (l₁:=[_,_])))
   refine OD.perm (S':=⟨vV,51,2,[aN (some ⟨D6,0,none⟩) (L++[(⟨⟨false,[up],[t.root,aC],[],-1⟩,some ⟨U,0,none⟩,1,[⟨U,88,1*1,flatMap cK [up]⟩],some ⟨Z,0,none⟩,2,[⟨Z,3,2*1,flatMap cI [t.root,aC]⟩]⟩:aB)]).length xF,ae (L.length:Nat)]⟩::⟨b6,51,2,[cf,ae 0]⟩::(([⟨D6,153,xF*5,flatMap gO (L++[(⟨⟨false,[up],[t.root,aC],[],-1⟩,some ⟨U,0,none⟩,1,[⟨U,88,1*1,flatMap cK [up]⟩],some ⟨Z,0,none⟩,2,[⟨Z,3,2*1,flatMap cI [t.root,aC]⟩]⟩:aB)])⟩]:List ah)++(L++[(⟨⟨false,[up],[t.root,aC],[],-1⟩,some ⟨U,0,none⟩,1,[⟨U,88,1*1,flatMap cK [up]⟩],some ⟨Z,0,none⟩,2,[⟨Z,3,2*1,flatMap cI [t.root,aC]⟩]⟩:aB)]).flatMap bO)) (by exact(perm_middle (l₁:=[_,_,_])).trans (Perm.cons _ ((perm_middle (l₁:=[_,_,_])).trans (Perm.cons _ (Perm.cons _ hX))))) ?_;refine an 131 [6,12] ?_;refine CD.exit ?_
   refine⟨_,aK,(L++[(⟨⟨false,[up],[t.root,aC],[],-1⟩,some ⟨U,0,none⟩,1,[⟨U,88,1*1,flatMap cK [up]⟩],some ⟨Z,0,none⟩,2,[⟨Z,3,2*1,flatMap cI [t.root,aC]⟩]⟩:aB)]),(some ⟨D6,0,none⟩),xF,[⟨D6,153,xF*5,flatMap gO (L++[(⟨⟨false,[up],[t.root,aC],[],-1⟩,some ⟨U,0,none⟩,1,[⟨U,88,1*1,flatMap cK [up]⟩],some ⟨Z,0,none⟩,2,[⟨Z,3,2*1,flatMap cI [t.root,aC]⟩]⟩:aB)])⟩],(L.length:Nat),(bE akx aky),(fun o ho=>by rcases mem_append.1 ho with ho|ho;exact aQ o ho;rw[mem_singleton] at ho;subst ho;exact⟨bE (Nat.le_refl _) (show 1≤maxLen by decide),bE (Nat.le_refl _) (show 2≤maxLen by decide)⟩),(by rw[adE he rfl];show(⟨map aB.p L++[_],((map aB.p L).length:Int)⟩:aG)=_;rw[map_append,length_map];rfl),G4,rfl⟩
  have hm:m≤h:=(by omega)
  have hP:=ae9 v hne CF vt hm he;obtain⟨s1,s2,s3,s4⟩:=IS v hne CF vt w4 he;have px:L.length≤t.ag.length+m:=(by rw[←length_map (f:=aB.p)];exact s2)
  have Ov:0≤(dx t k h t.root m)∧(dx t k h t.root m)<L.length:=(by have:=hP.rg;rw[←length_map (f:=aB.p)];exact this)
  have hj:(dx t k h t.root m).toNat<L.length:=(by omega)
  have YX:L[(dx t k h t.root m).toNat].p=(⟨L.map aB.p,t.root⟩:aG).pg (dx t k h t.root m):=U0 (t:=(⟨L.map aB.p,t.root⟩:aG)) rfl hP.rg hj;have po:eG ((⟨L.map aB.p,t.root⟩:aG).pg (dx t k h t.root m)) (⟨L.map aB.p,t.root⟩:aG).ag.length:=s4 _ (jF hP.rg);have full:=Ji po hP.out hP.len hP.high hP.nn hP.nnl;obtain⟨bx,rfl,fZ,rG,rfl⟩:=dW.pos w4;have yd:=aQ _ (getElem_mem hj);obtain⟨o,ho⟩:∃o,o=L[(dx t k h t.root m).toNat]:=⟨_,rfl⟩
  rw[←ho] at yd YX;rcases o with ⟨p,ak,ck,sk,ai,ci,si⟩
  have gS:p=(⟨L.map aB.p,t.root⟩:aG).pg (dx t k h t.root m):=YX;obtain⟨dP,kg⟩:oT p.keys ak ck sk∧lV p.kids ai ci si:=yd;rw[←gS] at po full;have mN:=po.eJ;have fN:=RW po up;have YW:=hP.len.2;have Ge:(if p.leaf=true then aL p up else aL p up+1)≤p.kids.length∧p.kids.length≤5:=(by cases fL:p.leaf;(have:=(po.node fL).1;rw[if_neg w7];omega);(have:=po.leaf fL;rw[if_pos rfl];omega))
  have hW:h-m<(je t k h t.root).length:=(by rw[E4];omega)
  have YY:(je t k h t.root)[h-m]=(dx t k h t.root m):=(by have:=Qr (t:=t) (k:=k) (h:=h) (i:=t.root) hm;exact(List.getElem?_eq_some_iff.1 this).2)
  have B7:=v.high;have VB:=v.nO;have Lc:(L.flatMap bO).Perm (sk++(si++((L.eraseIdx (dx t k h t.root m).toNat).flatMap bO))):=(by have:=y6 bO hj;rw[←ho] at this;exact this.trans (by rw[show bO ⟨p,ak,ck,sk,ai,ci,si⟩=sk++si from rfl,append_assoc]))
  refine CD.perm (Perm.cons _ (Perm.cons _ (Perm.cons _ Lc))) ?_;refine cZ [6,12,13,14,15,16,17] ?_;refine aS 4 ?_ (h:=by exact(dF 1 (h:=by first|exact .l (j:=h-m) w4 hW|exact .r (j:=h-m) w4 hW)));refine aS 0 ?_ (h:=by exact(cW (mk:=Op.load 3) rfl ot (qu (d:=ae (dx t k h t.root m)) (i:=h-m) eC isAgg3 hW (by rw[YY];rfl))));refine aS 0 ?_ (h:=by exact(dF 5 (h:=by first|exact .l (j:=(dx t k h t.root m).toNat) (Int.toNat_of_nonneg Ov.1).symm hj|exact .r (j:=(dx t k h t.root m).toNat) (Int.toNat_of_nonneg Ov.1).symm hj)));refine bG ?_;refine cZ [6,12,13,14,15,16,17,18] ?_;refine aS 2 ?_ (h:=by exact(cW (mk:=Op.load 153) rfl ot (dR (k:=2) (ls:=L) (i:=(dx t k h t.root m).toNat) gk rfl rfl rfl isAgg153 sizeOf153 hj)));refine ny 1 ?_;refine zL (Jp p up po.jV w4) (ha:=by exact⟨⟨_,ot,(by rw[←ho];exact uM ⟨eR,lK dP (cr gl _) (fun B hB=>.tail _ (.tail _ (.tail _ (mem_append_left _ hB)))),lK kg (cr eC _) (fun B hB=>.tail _ (.tail _ (.tail _ (mem_append_right _ (mem_append_left _ hB))))),eR,eR,trivial⟩)⟩,⟨_,ot,eR⟩,trivial⟩) (K:=?_);refine bG ?_;refine aD 4 ?_;refine bN (cW (mk:=Op.load 151) rfl ot (lp (k:=2) (j:=1) (d:=aN ak p.keys.length ck) (ls:=L) gk rfl rfl rfl isAgg151 hj rE)) ?_;refine aE 2 ?_;refine ei (bW 0 [_]) [.slice none 0 0] [_] zeroValue88 runUnderlying151 sizeOf88 (fun b89=>?_)
  refine OD.call ap rfl rfl rfl call124 (aav p.keys (aL p up) up ak ck sk b89 fN w4 dP) ⟨ot,ot,ot,trivial⟩ (Perm.cons _ (oN (A:=[_,_,_]))) ?_;rintro _ E ⟨I,O,rfl,fB⟩;refine OD.perm (jk (A:=[_,_,_])) ?_;refine aE 2 ?_;refine OD.storeAt (k:=2) (cs':=flatMap gO (L.set (dx t k h t.root m).toNat (⟨{p with keys:=ik p.keys (aL p up) up},I,O,E,ai,ci,si⟩:aB))) ap rfl rfl ot rfl rfl ot rfl rfl sizeOf151 rfl (by show 0+(dx t k h t.root m).toNat*5+1+1≤(flatMap gO L).length;rw[cr gk];omega) (by show(L.flatMap gO).set (0+(dx t k h t.root m).toNat*5+1) _=_;rw[Nat.zero_add];exact wc gk w7 hj (by rw[←ho];unfold gO;rw[yQ fN];rfl)) ?_;refine an 131 [6,12,13,15,16,17,18] ?_;refine CD.cut (fun aH=>aH=(⟨131,[(6,dL b6),(12,dL vV),(13,.list 1 ((je t k h t.root).flatMap cI) (je t k h t.root).length),(15,ae aC),(16,ae ((h:Int)-(m:Nat))),(17,.v (.pointer (some ⟨bx,0+(dx t k h t.root m).toNat*5,none⟩))),(18,ae (((if p.leaf=true then aL p up else aL p up+1):Nat):Int))],(⟨vV,51,2,[aN (some ⟨bx,0,none⟩) L.length cap,ae t.root]⟩::⟨b6,51,2,[cf,ae 0]⟩::⟨bx,153,cap*5,flatMap gO (L.set (dx t k h t.root m).toNat (⟨{p with keys:=ik p.keys (aL p up) up},I,O,E,ai,ci,si⟩:aB))⟩::(E++(si++((L.eraseIdx (dx t k h t.root m).toNat).flatMap bO))))⟩:St)) ?_ ?_
  ·refine cZ [6,12,13,15,16,17,18,97] ?_;refine aS 3 ?_ (h:=by exact(cW (mk:=Op.load 4) rfl ot (lp (k:=2) (j:=0) (d:=cj p.leaf) (ls:=(L.set (dx t k h t.root m).toNat (⟨{p with keys:=ik p.keys (aL p up) up},I,O,E,ai,ci,si⟩:aB))) gk rfl rfl rfl isAgg4 xN (by rw[getElem_set_self];rfl))));refine bG ?_;refine au ?_ ?_<;>intro er fq
   ·have dG:(((if p.leaf=true then aL p up else aL p up+1):Nat):Int)=(((aL p up):Nat):Int)+1:=(by rw[if_neg (by simpa using er)];rfl)
    refine cm [6,12,13,15,16,17,18] ?_;exact XR
   have dG:(((if p.leaf=true then aL p up else aL p up+1):Nat):Int)=(((aL p up):Nat):Int):=(by rw[if_pos (by simpa using er)])
   refine CD.skip ?_;exact XR
  rintro _ ⟨rfl⟩;refine aD 4 ?_;refine bN (cW (mk:=Op.load 67) rfl ot (lp (k:=2) (j:=2) (d:=aN ai p.kids.length ci) (ls:=(L.set (dx t k h t.root m).toNat (⟨{p with keys:=ik p.keys (aL p up) up},I,O,E,ai,ci,si⟩:aB))) gk rfl rfl rfl isAgg67 xN (by rw[getElem_set_self];rfl))) ?_;refine aE 2 ?_;refine ei (bW 0 [_]) [.int .i64 0] [_] zeroValue3 runUnderlying67 sizeOf3 (fun akz=>?_);refine OD.call ap rfl rfl rfl call125 (aaw p.kids (if p.leaf=true then aL p up else aL p up+1) aC ai ci si akz Ge.1 w4 kg) ⟨ot,ot,ot,trivial⟩ (Perm.cons _ (tw (A:=[_,_,_]))) ?_;rintro _ bA ⟨bK,bL,rfl,mb⟩;refine OD.perm (wu (A:=[_,_,_])) ?_;refine aE 2 ?_
  refine OD.storeAt (k:=2) (cs':=flatMap gO (L.set (dx t k h t.root m).toNat (⟨(bC p up aC),I,O,E,bK,bL,bA⟩:aB))) ap rfl rfl ot rfl rfl ot rfl rfl sizeOf67 rfl (by show 0+(dx t k h t.root m).toNat*5+2+1≤(flatMap gO (L.set (dx t k h t.root m).toNat (⟨{p with keys:=ik p.keys (aL p up) up},I,O,E,ai,ci,si⟩:aB))).length;rw[cr gk,length_set];omega) (by show(flatMap gO (L.set (dx t k h t.root m).toNat (⟨{p with keys:=ik p.keys (aL p up) up},I,O,E,ai,ci,si⟩:aB))).set (0+(dx t k h t.root m).toNat*5+2) _=_;rw[Nat.zero_add,wc gk (a':=(⟨(bC p up aC),I,O,E,bK,bL,bA⟩:aB)) w7 xN (by rw[getElem_set_self];show gO (⟨(bC p up aC),I,O,E,bK,bL,bA⟩:aB)=(gO (⟨{p with keys:=ik p.keys (aL p up) up},I,O,E,ai,ci,si⟩:aB)).set 2 _;unfold gO;rw[show((⟨(bC p up aC),I,O,E,bK,bL,bA⟩:aB)).p.kids.length=p.kids.length+1 from yQ Ge.1];rfl),set_set]) ?_;have vK:(E++(bA++((L.eraseIdx (dx t k h t.root m).toNat).flatMap bO))).Perm ((L.set (dx t k h t.root m).toNat (⟨(bC p up aC),I,O,E,bK,bL,bA⟩:aB)).flatMap bO):=(by have:=(qT bO hj (⟨(bC p up aC),I,O,E,bK,bL,bA⟩:aB)).symm;rw[show bO (⟨(bC p up aC),I,O,E,bK,bL,bA⟩:aB)=E++bA from rfl,append_assoc] at this;exact this)
  refine OD.perm (S':=⟨vV,51,2,[aN (some ⟨bx,0,none⟩) (L.set (dx t k h t.root m).toNat (⟨(bC p up aC),I,O,E,bK,bL,bA⟩:aB)).length cap,ae t.root]⟩::⟨b6,51,2,[cf,ae 0]⟩::(([⟨bx,153,cap*5,flatMap gO (L.set (dx t k h t.root m).toNat (⟨(bC p up aC),I,O,E,bK,bL,bA⟩:aB))⟩]:List ah)++(L.set (dx t k h t.root m).toNat (⟨(bC p up aC),I,O,E,bK,bL,bA⟩:aB)).flatMap bO)) (by rw[length_set];exact Perm.cons _ (Perm.cons _ (Perm.cons _ vK))) ?_;have WL:uf (L.set (dx t k h t.root m).toNat (⟨(bC p up aC),I,O,E,bK,bL,bA⟩:aB)) (some ⟨bx,0,none⟩) cap [⟨bx,153,cap*5,flatMap gO (L.set (dx t k h t.root m).toNat (⟨(bC p up aC),I,O,E,bK,bL,bA⟩:aB))⟩]:=bE rD rG;have jT:∀o∈(L.set (dx t k h t.root m).toNat (⟨(bC p up aC),I,O,E,bK,bL,bA⟩:aB)),qR o:=fun x hx=>by rcases mem_or_eq_of_mem_set hx with hx|rfl;exact aQ x hx;exact⟨fB,mb⟩
  refine an 131 [6,12,13,16,17] ?_;refine cZ [6,12,13,16,116] ?_;refine aS 3 ?_ (h:=by exact(cW (mk:=Op.load 151) rfl ot (lp (k:=2) (j:=1) (d:=aN I (bC p up aC).keys.length O) (ls:=(L.set (dx t k h t.root m).toNat (⟨(bC p up aC),I,O,E,bK,bL,bA⟩:aB))) gk rfl rfl rfl isAgg151 xN (by rw[getElem_set_self];rfl))));refine bG ?_;refine au ?_ ?_<;>intro fx gG
  ·have h4:(bC p up aC).keys.length≤4:=(by have:=of_decide_eq_true fx;omega)
   refine CD.exit ?_;refine⟨_,aK,(L.set (dx t k h t.root m).toNat (⟨(bC p up aC),I,O,E,bK,bL,bA⟩:aB)),(some ⟨bx,0,none⟩),cap,[⟨bx,153,cap*5,flatMap gO (L.set (dx t k h t.root m).toNat (⟨(bC p up aC),I,O,E,bK,bL,bA⟩:aB))⟩],t.root,WL,jT,(by rw[afe hm he (by rw[←gS];exact h4),←gS,map_set];rfl),vE,rfl⟩
  have h4:¬(bC p up aC).keys.length≤4:=(by have:=of_decide_eq_false fx;omega)
  have h5:(bC p up aC).keys.length=5:=(by have:=full.eJ;omega)
  refine dM 2 ?_;refine bN (dF 1 (h:=by first|exact .l (j:=h-m) w4 hW|exact .r (j:=h-m) w4 hW)) ?_;refine bN (cW (mk:=Op.load 3) rfl ot (qu (d:=ae (dx t k h t.root m)) (i:=h-m) eC isAgg3 hW (by rw[YY];rfl))) ?_;have me:(L.set (dx t k h t.root m).toNat (⟨(bC p up aC),I,O,E,bK,bL,bA⟩:aB)).length=L.length:=length_set ..;refine OD.call ap rfl rfl rfl call126 (abU (L.set (dx t k h t.root m).toNat (⟨(bC p up aC),I,O,E,bK,bL,bA⟩:aB)) vV t.root (dx t k h t.root m) (some ⟨bx,0,none⟩) cap [⟨bx,153,cap*5,flatMap gO (L.set (dx t k h t.root m).toNat (⟨(bC p up aC),I,O,E,bK,bL,bA⟩:aB))⟩] (by rw[me];exact Ov) (bC p up aC) (by rw[getElem_set_self]) (by rw[me];omega) WL jT h5 (fun hl=>by have:=full.leaf hl;omega) (fun hl=>by have:=(full.node hl).1;omega) (fun x hx=>(full.lD x hx).2) full.hlen) ⟨ot,ot,trivial⟩ (Perm.cons _ (perm_append_singleton _ _).symm) ?_;rintro _ _ ⟨rfl,L3,HN,GM,HO,akA,xH,hL3,rfl⟩;refine OD.perm (Perm.cons _ (perm_append_singleton _ _)) ?_;have CY:kD t k row h (m+1)=(⟨L3.map aB.p,t.root⟩,some (jj (bC p up aC),((L.set (dx t k h t.root m).toNat (⟨(bC p up aC),I,O,E,bK,bL,bA⟩:aB)).length:Int))):=(by rw[adG hm he (by rw[←gS];exact h4),←gS,hL3,me];unfold jo;show(({ag:=(map aB.p L).set _ _++_,root:=t.root}:aG),_)=_;rw[map_set,set_set,length_map])
  refine an 131 [6,12,13,14,15,16] ?_;refine cm [6,12,13,14,15,16] ?_;refine⟨((m+1),(jj (bC p up aC)),((L.set (dx t k h t.root m).toNat (⟨(bC p up aC),I,O,E,bK,bL,bA⟩:aB)).length:Int),L3,HN,GM,HO),_,cD,aK,w4,CY,akA,xH,rfl⟩
 rintro _ ⟨L,ad,cap,Sx,root,dW,aQ,GO,px,rfl⟩;refine af [6,12,128] ?_;refine au ?_ ?_<;>intro gU kU
 ·refine aD 1 ?_;refine aP 1 [_,_] sizeOf51 ?_;refine an 131 [6,7] ?_;refine aI [] ?_;unfold oU;rw[if_pos hz,if_neg w4,if_neg vH,if_pos (by rw[GO];show 4000<(L.map aB.p).length;rw[length_map];omega)];exact y7 _
 refine aD 1 ?_;refine aP 1 [_,_] sizeOf51 ?_;refine an 131 [6,7] ?_;refine aI (Sx++L.flatMap bO) ?_;unfold oU;rw[if_pos hz,if_neg w4,if_neg vH,if_neg (by rw[GO];show ¬4000<(L.map aB.p).length;rw[length_map];omega)];exact⟨_,rfl,L,ad,cap,Sx,by rw[GO],dW,aQ,by rw[GO],rfl⟩
theorem abV(t:aG)(h:Nat)(k:K)(row:Int)(hb:∀p∈t.ag,p.keys.length≤maxLen∧p.kids.length≤maxLen)(E:gD t=0→Valid t h):VP Tryz.prog G 84 [.agg (cT t),av 1 cB k,ae row] (.dI [.agg (cT (oU t k row h).1),ae (oU t k row h).2]):=(IV t h k row hb E).cover fun r S hr=>hr.view

end Go.Proofs.YtdgichenhdikgaaGreatDoor.Tw
namespace Go.Proofs.YtdgichenhdikgaaGreatDoor.Tr
open List
open Go.Proofs.Tryz
open Go.Lib (compareBytes)
variable {t:aG} {h:Nat} {k:K}
variable {n:Nat}
theorem R8(hp:∀p∈t.ag,eG p t.ag.length):∀{h h':Nat} {i:Int} {a b c d:K},dY t h i a b→dY t h' i c d→h=h'
 | 0,0,_,_,_,_,_,_,_=>rfl
 | 0,h'+1,i,_,_,_,_,h1,h2=>by have:=h1.2.1;rw[h2.2.1] at this;cases this
 | h+1,0,i,_,_,_,_,h1,h2=>by have:=h1.2.1;rw[h2.2.1] at this;cases this
 | h+1,h'+1,i,_,_,_,_,h1,h2=>by
  obtain⟨p1,p2,p3,p4,E⟩:=h1;obtain⟨q1,q2,q3,q4,I⟩:=h2;have hn:=((hp _ (jF p1)).node p2).1;have:=R8 hp (E 0 w4) (I 0 w4);rw[this]
noncomputable def dc(t:aG):Nat:=Classical.epsilon fun h=>Valid t h
theorem EN(v:Valid t h):Valid t (dc t):=Classical.epsilon_spec (p:=fun h=>Valid t h) ⟨h,v⟩
theorem KI(v:Valid t h):dc t=h:=R8 v.fF (EN v).ok v.ok
noncomputable def eo(t:aG):List (K×Int):=kZ t (dc t)
theorem Ke(hp:∀p∈t.ag,eG p t.ag.length):∀{h:Nat} {i:Int} {a b:K},dY t h i a b→2 ^ h≤(ids t h i).length
 | 0,i,_,_,_=>by simp[ids]
 | h+1,i,_,_,ok=>by
  obtain⟨p1,p2,p3,p4,E⟩:=ok;have hn:=(hp _ (jF p1)).node p2;have hk:1≤(t.pg i).keys.length:=by
   have:=hn.2;cases lG:(t.pg i).keys with
   | nil=>exact absurd lG this
   | cons _ _=>simp
  have h0:=Ke hp (E 0 w4);have h1:=Ke hp (E 1 w4);have key:∀(l:List Int) (h2:2≤l.length),2 ^ h≤(ids t h (l[0]'w4)).length→2 ^ h≤(ids t h (l[1]'w4)).length→2 ^ h+2 ^ h≤(l.flatMap (ids t h)).length:=by
   intro l h2 I a1;match l,h2 with
   | x::y::r,_ =>
    simp only[flatMap_cons,length_append];simp only[getElem_cons_zero,getElem_cons_succ] at I a1;omega
  have:=key _ w4 h0 h1;rw[ids,length_cons,Nat.pow_succ];omega
theorem aff(v:Valid t h):h≤11:=by
 have h1:=Ke v.fF v.ok;rw[v.all] at h1;have h2:=v.nO;refine Nat.le_of_not_lt fun h3=>?_;have:2 ^ 12≤2 ^ h:=Nat.pow_le_pow_right w7 h3;omega
structure iL (t:aG) (n:Nat):Prop where
 val:Valid t (dc t)
 eJ:t.ag.length≤1+13*n
theorem iL.mono{m:Nat}(g:iL t n)(h:n≤m):iL t m:=⟨g.val,by have:=g.eJ;omega⟩
theorem adH:iL pU 0:=⟨EN Qk,by decide⟩
theorem adI:eo pU=[]:=by unfold eo;rw[KI Qk];exact adf
theorem Bw{row:Int}(g:iL t n)(hn:n≤300)(jv:∀x∈eo t,x.1≠k)(hk:1≤k.length∧k.length≤100)(hr:0≤row) :
  iL (gp t (dc t) k row) (n+1)∧(gp t (dc t) k row).ag.length≤4000∧∀x,x∈eo (gp t (dc t) k row)↔x=(k,row)∨x∈eo t:=by
 have E:=aff g.val;have hf:=g.eJ;obtain⟨h',_,v,⟨_,hm⟩,he⟩:=abu g.val jv hk hr w4;refine⟨⟨EN v,by omega⟩,v.nO,fun x=>?_⟩;unfold eo;rw[KI v];exact he x
theorem Jr(g:iL t n)(ht:BO t k (dc t)):iL (gI t (dc t) k) n∧∀x,x∈eo (gI t (dc t) k)↔x∈eo t∧x.1≠k:=by
 obtain⟨v,hl,he⟩:=abv g.val ht;refine⟨⟨EN v,by have:=g.eJ;omega⟩,fun x=>?_⟩;unfold eo;rw[KI v];exact he x
theorem R9:∀{a b:List (K×Int)},a.Pairwise (fun x y=>bB x.1 y.1)→b.Pairwise (fun x y=>bB x.1 y.1)→(∀x,x∈a↔x∈b)→a=b
 | [],[],_,_,_=>rfl
 | [],y::b,_,_,h=>absurd ((h y).2 mem_cons_self) bf
 | x::a,[],_,_,h=>absurd ((h x).1 mem_cons_self) bf
 | x::a,y::b,ha,hb,h=>by
  obtain⟨a1,a2⟩:=pairwise_cons.1 ha;obtain⟨b1,b2⟩:=pairwise_cons.1 hb;have E:x=y:=by
   rcases mem_cons.1 ((h x).1 mem_cons_self) with e|e
   ·exact e
   rcases mem_cons.1 ((h y).2 mem_cons_self) with e2|e2
   ·exact e2.symm
   exact absurd (a1 y e2) (wN (b1 x e))
  subst E;congr 1;refine R9 a2 b2 fun z=>⟨fun hz=>?_,fun hz=>?_⟩
  ·rcases mem_cons.1 ((h z).1 (mem_cons_of_mem _ hz)) with e|e
   ·subst e;exact absurd (a1 z hz) (iZ _)
   exact e
  rcases mem_cons.1 ((h z).2 (mem_cons_of_mem _ hz)) with e|e
  ·subst e;exact absurd (b1 z hz) (iZ _)
  exact e

end Go.Proofs.YtdgichenhdikgaaGreatDoor.Tr
namespace Go.Proofs.YtdgichenhdikgaaGreatDoor.Tw
open List
open Go.Proofs.Tryz
open Go.RowKit V Tr Pk
open Go.Lib (compareBytes)
variable {k:K} {t:aG} {n:Nat} {row:Int}
theorem afg(h:1≤k.length∧k.length≤100):ox k=true:=decide_eq_true h
theorem BQ(g:iL t n)(hk:1≤k.length∧k.length≤100):lE t k=0:=JF (Jo g.val) (afg hk)
theorem Bl(g:iL t n)(k:K):gE t k (dc t)=true↔∃row,(k,row)∈eo t:=(Ev g.val k).trans (Bj g.val k)
theorem wC(g:iL t n):gE t k (dc t)=false↔∀x∈eo t,x.1≠k:=by
 constructor
 ·exact fun h=>Qw g.val h
 intro h;cases hq:gE t k (dc t) with
 | false=>rfl
 | true=>obtain⟨row,hr⟩:=(Bl g k).1 hq;exact absurd rfl (h _ hr)
theorem afh(g:iL t n)(hk:1≤k.length∧k.length≤100)(hr:0≤row)(h:gE t k (dc t)=true):oU t k row (dc t)=(vU,9):=by
 unfold oU;rw[if_pos (BQ g hk),if_neg w4,if_pos h]
theorem U1(g:iL t n)(hn:n≤300)(hk:1≤k.length∧k.length≤100)(hr:0≤row)(h:gE t k (dc t)=false):oU t k row (dc t)=(gp t (dc t) k row,0):=by
 have:=(Bw g hn ((wC g).1 h) hk hr).2.1;unfold oU;rw[if_pos (BQ g hk),if_neg w4,if_neg (by rw[h];decide),if_neg w4]
theorem T2(g:iL t n)(hk:1≤k.length∧k.length≤100)(h:gE t k (dc t)=true):ri t k (dc t)=(gI t (dc t) k,0):=by
 unfold ri;rw[if_pos (BQ g hk),if_pos h]
theorem afi(g:iL t n)(hk:1≤k.length∧k.length≤100)(h:gE t k (dc t)=false):findF t k (dc t)=(0,8):=by
 unfold findF;rw[if_pos (BQ g hk),if_neg (by rw[h];decide)]
theorem Se(g:iL t n)(hk:1≤k.length∧k.length≤100)(h:(k,row)∈eo t):findF t k (dc t)=(row,0):=by
 unfold findF dO;rw[if_pos (BQ g hk),if_pos ((Bl g k).2 ⟨row,h⟩)];obtain⟨_,_,e⟩:=(found g.val k row).1 h;rw[e]
theorem BH(g:iL t n):∀p∈t.ag,p.keys.length≤maxLen∧p.kids.length≤maxLen:=ads g.val
variable {G:List (Nat×List Value)}
theorem Si(g:iL t n)(k:K)(row:Int):VP Tryz.prog G 84 [.agg (cT t),av 1 cB k,ae row] (.dI [.agg (cT (oU t k row (dc t)).1),ae (oU t k row (dc t)).2]):=abV t (dc t) k row (BH g) fun _=>g.val
theorem Sj(g:iL t n)(k:K):VP Tryz.prog G 90 [.agg (cT t),av 1 cB k] (.dI [.agg (cT (ri t k (dc t)).1),ae (ri t k (dc t)).2]):=abR t (dc t) k (BH g) fun _=>g.val
theorem KJ(g:iL t n)(k:K):VP Tryz.prog G 65 [.agg (cT t),av 1 cB k] (.dI [ae (findF t k (dc t)).1,ae (findF t k (dc t)).2]):=agz t (dc t) k (BH g) fun _=>g.val
theorem afj(g:iL t n):VP Tryz.prog G 49 [.agg (cT t)] (ae 0):=by have:=pB (G:=G) t (BH g);rwa [Jo g.val] at this
noncomputable def pL(t:aG)(f eV:K):List (K×Int):=xm t (dc t) f eV
theorem U2(g:iL t n)(f eV:K)(hf:f.length≤100)(ht:eV.length≤100):VP Tryz.prog G 30 [.agg (cT t),av 1 cB f,av 1 cB eV] (.dI [.list 2 ((pL t f eV).flatMap cE) (pL t f eV).length,ae 0]):=by
 have:=afc (G:=G) t (dc t) (BH g) (fun _=>g.val) f eV;unfold wU at this;rwa [if_pos (Jo g.val),if_pos ⟨hf,ht⟩] at this
theorem Js(t:aG):pL t [] []=eo t:=by
 unfold pL xm eo;rw[adu,IT fun x _=>by simp[u7]]
theorem T3(g:iL t n):VP Tryz.prog G 30 [.agg (cT t),cf,cf] (.dI [.list 2 ((pL t [] []).flatMap cE) (pL t [] []).length,ae 0]):=VC.eV (args':=[.agg (cT t),cf,cf]) (U2 g [] [] w7 w7) ⟨.inl rfl,.inr ⟨1,rfl,rfl⟩,.inr ⟨1,rfl,rfl⟩,trivial⟩

end Go.Proofs.YtdgichenhdikgaaGreatDoor.Tw
namespace Go.Proofs.YtdgichenhdikgaaGreatDoor.Ba
open List
open Go.Proofs.Tryz
open Go.RowKit V Pk Tr Vl Go.Proofs.YtdgichenhdikgaaGreatDoor.Nm Pc Cd Ex Tw
structure aO where
 nm:ByteArray
 ay:List cz
 rows:List (List Vl)
 ix:aG
def fa(r:List Vl):List D:=[av 3 cV r]
theorem jE(r:List Vl):(fa r).length=1:=rfl
theorem Bx(r:List Vl):(fa r).all V.one=true:=rfl
def c9(t:aO):List D:=[bw t.nm,av 2 cC t.ay,av 1 fa t.rows,av 5 cP t.ix.ag,ae t.ix.root]
theorem j4(t:aO):(c9 t).length=5:=rfl
def aT(b:List aO)(nm:ByteArray):Int:=dU (fun t=>t.nm.toList==nm.toList) b
def cH(r:List Vl):K:=(fY (r.take 1)).1
variable {G:List (Nat×List Value)}
theorem adJ(t:aO)(nm:ByteArray)(b:Nat):VC Tryz.prog G 48 [.agg (c9 t),dL b] [⟨b,9,1,[bw nm]⟩] (fun r S=>r=cj (t.nm.toList==nm.toList)∧S=[⟨b,9,1,[bw nm]⟩]):=by
 refine VC.body func48 rfl ntmps48 aR fun X0 w0 aZ=>?_;unfold c9;refine bY ?_;refine OD.box (ds:=[_,_,_,_,_]) ap rfl rfl ot rfl rfl (fun b2=>?_);refine an 8 [1,2] ?_;refine af [3] ?_;refine aI [⟨b,9,1,[bw nm]⟩] ?_;exact⟨rfl,rfl⟩
theorem abW(ls:List aO)(I:Nat)(E:List D)(S:List ah)(p:aO→Bool)(fm:∀args w,(callFunc I args).run Tryz.prog w = .ok (.enter I args) w)(hp:∀x∈ls,VC Tryz.prog G I (.agg (c9 x)::E) S (fun r S'=>r=cj (p x)∧S'=S))(hlen:ls.length≤1000000):VC Tryz.prog G 47 [av 5 c9 ls,.ez (.func I) E] S (fun r S'=>r=ae (dU p ls)∧S'=S):=by
 refine VC.body func47 rfl ntmps47 aR fun X0 w0 aZ=>?_;refine aD 1 ?_;refine OD.wk (Wk.dV (n:=19) (l':=[(0,_),(1,_)]) (S':=S) rfl mQ fk) ?_;refine OD.nil ?_;refine aD 3 ?_;refine OD.wk (Wk.dV (n:=19) (l':=[(0,_),(1,_),(7,_),(8,_)]) (S':=S) rfl mQ fk) ?_;refine OD.nil ?_;refine eA [0,1,7] (fun aU _ (k:Nat) aH=>(k≤ls.length)∧(∀x∈ls.take k,p x=false)∧aH=(⟨19,(8,ae (k:Nat))::aU,S⟩:St)) (fun (k:Nat)=>ls.length-k) 0 ⟨Nat.zero_le _,bf,rfl⟩ ?_;rintro k _ ⟨hk,h0,rfl⟩;refine aD 1 ?_;refine OD.wk (Wk.dV (n:=19) (l':=[(0,_),(1,_),(7,_),(8,_),(9,_)]) (S':=S) rfl mQ fk) ?_;refine OD.nil ?_;refine au ?_ ?_<;>intro aM bD
 ·refine aD 2 ?_;refine OD.wk (Wk.dV (n:=19) (l':=[(0,_),(1,_),(5,_),(7,_),(8,_)]) (S':=S) rfl mQ fk) ?_;refine OD.nil ?_;refine aD 5 ?_;refine OD.kv (f:=I) (args:=[_]) ap rfl rfl (tJ rfl lk) fm (hp (ls[k]'w4) (getElem_mem _)) rfl ⟨tJ rfl lk,trivial⟩ (I4 _) ?_;rintro _ S2 ⟨rfl,iE⟩;rw[iE];clear iE;refine OD.wk (Wk.dV (n:=19) (l':=[(0,_),(1,_),(5,_),(7,_),(8,_),(16,_)]) (S':=S) rfl mQ fk) ?_;refine OD.nil ?_;refine au ?_ ?_<;>intro aY cy
  ·refine aD 2 ?_;refine OD.wk (Wk.dV (n:=19) (l':=[(4,_)]) (S':=S) rfl mQ fk) ?_;refine OD.nil ?_;refine aI S ?_;refine⟨?_,rfl⟩;first|(rw[uL w4 h0 tY])|(rw[we w4 h0])
  refine dM 2 ?_;refine OD.wk (Wk.dV (n:=19) (l':=[(0,_),(1,_),(7,_),(8,_)]) (S':=S) rfl mQ fk) ?_;refine OD.nil ?_;refine⟨k+1,_,cD,aK,w4,(by rw[take_succ_eq_append_getElem w4];intro x hx;rcases mem_append.1 hx with hx|hx;exact h0 x hx;simp only[mem_singleton] at hx;subst hx;assumption),rfl⟩
 refine aD 1 ?_;refine OD.wk (Wk.dV (n:=19) (l':=[(4,_)]) (S':=S) rfl mQ fk) ?_;refine OD.nil ?_;refine aI S ?_;refine⟨?_,rfl⟩;first|(rw[uL w4 h0 tY])|(rw[we w4 h0])
theorem qt(l:List aO)(hl:l.length≤1000)(nm:ByteArray):VP Tryz.prog G 29 [av 5 c9 (l),bw nm] (ae (aT l nm)):=by
 refine VC.body func29 rfl ntmps29 aR fun X0 w0 aZ=>?_;refine bY ?_;refine OD.box (ds:=[_]) ap rfl rfl ot rfl rfl (fun b3=>?_);refine an 8 [0,3] ?_;refine aD 1 ?_;refine bN (pA (ds:=[_]) rfl ⟨ot,trivial⟩) ?_;refine OD.call ap rfl rfl rfl call47 (abW l 48 [dL b3] _ (fun t=>t.nm.toList==nm.toList) call48 (fun h _=>adJ h nm b3) w4) ⟨ot,ot,trivial⟩ (ko (k:=0) rfl) ?_;rintro _ S2 ⟨rfl,iE⟩;rw[iE];clear iE;refine an 8 [4] ?_;exact nT
theorem adK(c:cz)(nm:ByteArray)(b:Nat):VC Tryz.prog G 127 [.agg (cC c),dL b] [⟨b,9,1,[bw nm]⟩] (fun r S=>r=cj (c.n.toList==nm.toList)∧S=[⟨b,9,1,[bw nm]⟩]):=by
 refine VC.body func127 rfl ntmps127 aR fun X0 w0 aZ=>?_;exact XO
theorem IW(t:aO)(hl:t.ay.length≤1000)(nm:ByteArray):VP Tryz.prog G 85 [.agg (c9 t),bw nm] (ae (bM t.ay nm)):=by
 refine VC.body func85 rfl ntmps85 aR fun X0 w0 aZ=>?_;unfold c9;refine bY ?_;refine OD.box (ds:=[_,_,_,_,_]) ap rfl rfl ot rfl rfl (fun b2=>?_);refine OD.box (ds:=[_]) ap rfl rfl ot rfl rfl (fun b3=>?_);refine an 9 [2,3] ?_;refine aD 2 ?_;refine bN (pA (ds:=[_]) rfl ⟨ot,trivial⟩) ?_;refine OD.call ap rfl rfl rfl call106 (Pc.Jc t.ay 127 [dL b3] _ (fun c=>c.n.toList==nm.toList) call127 (fun h _=>adK h nm b3) w4) ⟨ot,ot,trivial⟩ (ko (k:=0) rfl) ?_;rintro _ S2 ⟨rfl,iE⟩;rw[iE];clear iE;refine an 9 [4] ?_;exact nT

end Go.Proofs.YtdgichenhdikgaaGreatDoor.Ba
namespace Go.Proofs.YtdgichenhdikgaaGreatDoor.Ba
open List
open Go.Proofs.Tryz
open Go.RowKit V Pk Tr Vl Go.Proofs.YtdgichenhdikgaaGreatDoor.Nm Pc Cd Ex Tw
variable {G:List (Nat×List Value)} {m:Int}
variable {S:List ah} {t:aO} {n:Nat} {p:List Int×Int}
def CO(k:K)(r:D)(S:List ah):Prop:=∃ad cap,r=aN ad k.length cap∧bn 5 1 (k.flatMap cB) k.length ad cap S
theorem CO.view{k:K}{r:D}(h:CO k r S):View S r (av 1 cB k):=by
 obtain⟨ad,cap,rfl,ho⟩:=h;exact lK ho (cr pG _) (fun B h=>h)
theorem CO.flat{k:K}{r:D}(h:CO k r S):kQ r=true∧∀B∈S,∀d∈B.cs,kQ d=true:=by
 obtain⟨ad,cap,rfl,ho⟩:=h;refine⟨rfl,fun B E d hd=>?_⟩;rcases ho with ⟨_,_,_,_,rfl⟩|⟨b,_,_,_,rfl⟩
 ·cases E
 rw[mem_singleton] at E;subst E;obtain⟨n,_,hn⟩:=mem_flatMap.1 hd;rw[cB,mem_singleton] at hn;subst hn;rfl
theorem KK(hG:(2,[Value.int .i64 m])∈G)(r:List Vl)(h1:1≤r.length)(h2:r.length≤1000000)(aQ:∀v∈r,v.Ok):VC Tryz.prog G 66 [av 3 cV r] [] (CO (cH r)):=by
 refine VC.body func66 rfl ntmps66 aR fun X0 w0 aZ=>?_;have dm:=ec;refine af [0] ?_;refine aD 1 ?_;refine bN (ey (h:=1) rfl ot trivial ⟨_,bI⟩ (by exact oO fi (fun h=>by cases h) runUnderlying28 sizeOf41 w4)) ?_;refine OD.call ap rfl rfl rfl call111 (UJ hG (r.take 1) oW (fun v U=>aQ v (mem_of_mem_take U))) ⟨ot,trivial⟩ (eO _) ?_;rintro _ O ⟨E,I,rfl,jT⟩;refine OD.perm (Perm.of_eq (append_nil O)) ?_;refine an 12 [3] ?_;refine af [2] ?_;refine aI O ?_;exact⟨E,I,rfl,jT⟩
theorem ze(hG:(2,[Value.int .i64 m])∈G)(r:List Vl)(h1:1≤r.length)(h2:r.length≤1000000)(aQ:∀v∈r,v.Ok):VP Tryz.prog G 66 [av 3 cV r] (.list 1 ((cH r).flatMap cB) (cH r).length):=(KK hG r h1 h2 aQ).cover fun r S hr=>hr.view
theorem aax:(Tryz.prog.info? 41).map (fun i=>(i.zero,i.size,i.bytes))=some (some (.agg #[.int .i64 0,.int .i64 0,.string ⟨#[]⟩]),3,32):=by kernel_rfl
theorem Qx(a:List Vl)(ha:a.length≤1000000):VC Tryz.prog G 31 [av 3 cV a] [] (fun r S=>∃ad cap,r=aN ad a.length cap∧bn 41 3 (a.flatMap cV) a.length ad cap S):=by
 refine VC.body func31 rfl ntmps31 aR fun X0 w0 aZ=>?_;have dm:=ec;refine af [0] ?_;refine aD 1 ?_;refine OD.zm ap rfl rfl ot bI underlying28 (fun O xX=>?_);refine an 8 [0,4] ?_;refine au ?_ ?_<;>intro aM bD
 ·exact Hh
 refine bY ?_;refine OD.zn ap rfl rfl runUnderlying28 sizeOf41 (fun b5=>?_);refine aE 1 ?_;refine OD.pz (ls:=([]:List Vl)) (new:=a) (Sq:=[⟨b5,41,0*3,[]⟩]) fi FD ap rfl rfl underlying28 aax rfl w7 runUnderlying28 sizeOf41 ot (.inr ⟨b5,rfl,Nat.le_refl _,Nat.zero_le _,rfl⟩) (de (A:=[])) ot iq iq (fun E I S7 p8=>?_);exact Hj
theorem Qy(a:List Vl)(ha:a.length≤1000000):VP Tryz.prog G 31 [av 3 cV a] (av 3 cV a):=(Qx a ha).cover fun r S ⟨ad,cap,h,ho⟩=>by subst h;exact lK ho (cr fi _) (fun B h=>h)
theorem aay:(Tryz.prog.info? 69).map (fun i=>(i.zero,i.size,i.bytes))=some (some (.agg #[.string ⟨#[]⟩,.int .i64 0]),2,24):=by kernel_rfl
theorem abX(a:List cz)(ha:a.length≤1000000):VC Tryz.prog G 81 [av 2 cC a] [] (fun r S=>∃ad cap,r=aN ad a.length cap∧bn 69 2 (a.flatMap cC) a.length ad cap S):=by
 refine VC.body func81 rfl ntmps81 aR fun X0 w0 aZ=>?_;have dm:=ec;refine af [0] ?_;refine aD 1 ?_;refine OD.zm ap rfl rfl ot bI underlying27 (fun O xX=>?_);refine an 8 [0,4] ?_;refine au ?_ ?_<;>intro aM bD
 ·exact Hh
 refine bY ?_;refine OD.zn ap rfl rfl runUnderlying27 sizeOf69 (fun b5=>?_);refine aE 1 ?_;refine OD.pz (ls:=([]:List cz)) (new:=a) (Sq:=[⟨b5,69,0*2,[]⟩]) lM agf ap rfl rfl underlying27 aay rfl w7 runUnderlying27 sizeOf69 ot (.inr ⟨b5,rfl,Nat.le_refl _,Nat.zero_le _,rfl⟩) (de (A:=[])) ot iq iq (fun E I S7 p8=>?_);exact Hj
theorem Qz(a:List cz)(ha:a.length≤1000000):VP Tryz.prog G 81 [av 2 cC a] (av 2 cC a):=(abX a ha).cover fun r S ⟨ad,cap,h,ho⟩=>by subst h;exact lK ho (cr lM _) (fun B h=>h)
theorem abY(a:List Int)(ha:a.length≤1000000):VP Tryz.prog G 120 [av 1 Tw.cI a] (av 1 Tw.cI a):=(Tw.nY a ha).cover fun r S ⟨ad,cap,h,ho⟩=>by subst h;exact lK ho (cr Tw.eC _) (fun B h=>h)

structure cl where
 r:List Vl
 ad:Option Addr
 cap:Nat
 S:List ah
def gR(o:cl):List D:=[aN o.ad o.r.length o.cap]
theorem u0(o:cl):(gR o).length=1:=rfl
theorem U3(o:cl):(gR o).all V.one=true:=rfl
def bR(o:cl):List ah:=o.S
def nV(o:cl):Prop:=bn 41 3 (o.r.flatMap cV) o.r.length o.ad o.cap o.S
theorem Fw{S:List ah}:∀{L:List cl},(∀o∈L,nV o)→(∀B∈L.flatMap bR,B∈S)→gF S (L.flatMap gR) ((L.map cl.r).flatMap fa)
 | [],_,_=>trivial
 | o::L,h,hs=>by
  rw[map_cons,flatMap_cons,flatMap_cons];refine gF.append ⟨lK (h o mem_cons_self) (cr fi _) (fun B E=>hs B ?_),trivial⟩ (Fw (fun o ho=>h o (mem_cons_of_mem _ ho)) fun B E=>hs B ?_)
  ·rw[flatMap_cons];exact mem_append_left _ E
  rw[flatMap_cons];exact mem_append_right _ E
abbrev sL(L:List cl)(ad:Option Addr)(cap:Nat)(S:List ah):Prop:=bn 28 1 (L.flatMap gR) L.length ad cap S
structure aV where
 t:aO
 cs:List D
 ad:Option Addr
 cap:Nat
 sr:List ah
 sx:List ah
variable {o:aV}
def gT(o:aV):List D:=[bw o.t.nm,av 2 cC o.t.ay,aN o.ad o.t.rows.length o.cap,av 5 cP o.t.ix.ag,ae o.t.ix.root]
theorem uU(o:aV):(gT o).length=5:=rfl
theorem U4(o:aV):(gT o).all V.one=true:=rfl
def bT(o:aV):List ah:=o.sr++o.sx
structure okW (o:aV):Prop where
 own:bn 28 1 o.cs o.t.rows.length o.ad o.cap o.sr
 ah2:∀S:List ah,(∀B∈o.sx,B∈S)→gF S o.cs (o.t.rows.flatMap fa)
def qh(o:aV):Prop:=∃L:List cl,o.cs=L.flatMap gR∧o.sx=L.flatMap bR∧(∀x∈L,nV x)∧L.map cl.r=o.t.rows∧sL L o.ad o.cap o.sr
theorem qh.w(h:qh o):okW o:=by
 obtain⟨L,h1,h2,h3,h4,h5⟩:=h;refine⟨?_,fun S hS=>?_⟩
 ·rw[h1,←h4,length_map];exact h5
 rw[h1,←h4];exact Fw h3 (by rw[←h2];exact hS)
theorem QA(h:okW o)(hs:∀B∈bT o,B∈S):View S (aN o.ad o.t.rows.length o.cap) (av 1 fa o.t.rows) :=
 Be h.own (h.ah2 S fun B E=>hs B (mem_append_right _ E)) (cr jE _) (fun B E=>hs B (mem_append_left _ E))
theorem T4(h:okW o)(hs:∀B∈bT o,B∈S):View S (.agg (gT o)) (.agg (c9 o.t)):=uM ⟨eR,eR,QA h hs,eR,eR,trivial⟩
theorem T5{S:List ah}:∀{L:List aV},(∀o∈L,okW o)→(∀B∈L.flatMap bT,B∈S)→gF S (L.flatMap gT) ((L.map aV.t).flatMap c9)
 | [],_,_=>trivial
 | o::L,h,hs=>by
  rw[map_cons,flatMap_cons,flatMap_cons];refine gF.append ⟨eR,eR,QA (h o mem_cons_self) (fun B E=>hs B ?_),eR,eR,trivial⟩ (T5 (fun o ho=>h o (mem_cons_of_mem _ ho)) fun B E=>hs B ?_)
  ·rw[flatMap_cons];exact mem_append_left _ E
  rw[flatMap_cons];exact mem_append_right _ E
abbrev xI(L:List aV)(ad:Option Addr)(cap:Nat)(S:List ah):Prop:=bn 53 5 (L.flatMap gT) L.length ad cap S
theorem FQ{Sx:List ah}{L:List aV}{ad:Option Addr}{cap:Nat}(ho:xI L ad cap Sx)(h:∀o∈L,okW o)(hs:∀B∈Sx++L.flatMap bT,B∈S):View S (aN ad L.length cap) (.list 5 ((L.map aV.t).flatMap c9) L.length) :=
 Be ho (T5 h fun B E=>hs B (mem_append_right _ E)) (by rw[cr j4,length_map]) (fun B E=>hs B (mem_append_left _ E))
def ah3(t:aO)(r:D)(S:List ah):Prop:=∃o:aV,o.t=t∧r = .agg (gT o)∧qh o∧S=bT o
def Ld(l:List aO)(r:D)(S:List ah):Prop:=∃(L:List aV) (ad:Option Addr) (cap:Nat) (Sx:List ah),r = .agg [aN ad L.length cap]∧xI L ad cap Sx∧(∀o∈L,qh o)∧L.map aV.t=l∧S=Sx++L.flatMap bT
theorem Ld.view{l:List aO}{r:D}(h:Ld l r S):View S r (.agg [av 5 c9 l]):=by
 obtain⟨L,ad,cap,Sx,rfl,ho,aQ,rfl,rfl⟩:=h;first|rw[length_map]|(show View _ _ (.list _ _ (length _));rw[length_map])|(show View _ _ (.agg [.list _ _ (length _)]);rw[length_map])
 exact uM ⟨FQ ho (fun o h=>(aQ o h).w) (fun B h=>h),trivial⟩
theorem T6(L:List cl)(o:cl):(L++[o]).flatMap bR=L.flatMap bR++bR o:=by simp
theorem T7(L:List aV)(o:aV):(L++[o]).flatMap bT=L.flatMap bT++bT o:=by simp
theorem aaz:(Tryz.prog.info? 88).map (fun i=>(i.zero,i.size,i.bytes))=some (some (.slice none 0 0),1,24):=by kernel_rfl
theorem Z0:(Tryz.prog.info? 153).map (fun i=>(i.zero,i.size,i.bytes))=some (some (.agg #[.bool false,.slice none 0 0,.slice none 0 0,.slice none 0 0,.int .i64 0]),5,88):=by kernel_rfl
theorem aaA(t:aG)(h:Nat)(v:Valid t h):VC Tryz.prog G 82 [.agg (cT t)] [] (fun r S=>∃ad cap,r = .agg [aN ad t.ag.length cap,ae t.root]∧bn 153 5 (t.ag.flatMap cP) t.ag.length ad cap S):=by
 refine VC.body func82 rfl ntmps82 aR fun X0 w0 aZ=>?_;unfold Tw.cT;have dm:=ec;have Oc:=v.nO;refine bY ?_;refine OD.box (ds:=[_,_]) ap rfl rfl ot rfl rfl (fun b1=>?_);refine OD.alloc (ds:=[_,_]) ap rfl rfl zeroValue51 rfl (fun b2=>?_);refine an 53 [1,2] ?_;refine aD 3 ?_;refine OD.alloc (ds:=[_,_]) ap rfl rfl zeroValue51 rfl (fun b3=>?_);refine aP 0 [_,_] sizeOf51 ?_;refine an 53 [1,2,3] ?_;refine bY ?_;refine bg [2,3,13,14,15] ?_;refine eA [2,3,13,14] (fun aU _ (E:Nat×List da×Option Addr×Nat×List ah) aH=>match E with|(i,L,dg,cR,Sx)=>(i≤t.ag.length)∧(L=t.ag.take i)∧(bn 153 5 ((L).flatMap cP) (L).length dg cR Sx)∧aH=(⟨53,(15,ae (i:Nat))::aU,(⟨b3,51,2,[aN dg (L).length cR,ae t.root]⟩::⟨b2,51,2,[cf,ae 0]⟩::Sx)⟩:St)) (fun (E:Nat×List da×Option Addr×Nat×List ah)=>match E with|(i,L,dg,cR,Sx)=>t.ag.length-i) (0,([]:List da),none,0,[]) ⟨(Nat.zero_le _),rfl,(bn.cast iv j6),rfl⟩ ?_;rintro⟨i,L,dg,cR,Sx⟩ _ ⟨hi,hL,dW,rfl⟩;refine af [2,3,13,14,15,16] ?_;refine au ?_ ?_<;>intro aM bD
 ·have aa:i<t.ag.length:=(by omega)
  have rO:L.length=i:=(by rw[hL,length_take];omega)
  have po:=v.fF _ (getElem_mem aa);have mN:=po.eJ;have YR:=po.hlen;have Ge:(t.ag[i]'aa).kids.length≤6:=by
      exact XW
  refine aD 2 ?_;refine OD.alloc (ds:=[_,_,_,_,_]) ap rfl rfl zeroValue153 rfl (fun b5=>?_);refine aP 0 [_,_,_,_,_] sizeOf153 ?_;refine an 53 [2,3,5,13,14,15] ?_;refine CD.seq ?_;refine uu 12 11 [2,3,5,6,13,14,15,29] ?_;refine dh (abY (t.ag[i]'aa).kids w4) ?_;refine dh (j3 (t.ag[i]'aa).high w4) ?_;refine ny 3 ?_;refine rJ ?_;refine jW ?_;refine⟨rfl,fun b6=>?_⟩;refine aP 0 [_,_,_,_,_] sizeOf153 ?_;refine an 53 [2,3,5,6,13,14,15] ?_;refine bY ?_;refine bg [2,3,6,13,14,15,31,32,33] ?_
  refine eA [2,3,6,13,14,15,31,32] (fun aU _ (E:Nat×List K×Option Addr×Nat×List ah×Option Addr×Nat×List ah) aH=>match E with|(j,M,iC,iD,Sy,dg,cR,Sx)=>(j≤(t.ag[i]'aa).keys.length)∧(M=(t.ag[i]'aa).keys.take j)∧(bn 88 1 ((M).flatMap Tw.cK) (M).length iC iD Sy)∧(bn 153 5 ((L).flatMap cP) (L).length dg cR Sx)∧aH=(⟨53,(33,ae (j:Nat))::aU,(⟨b6,153,5,[cj (t.ag[i]'aa).leaf,aN iC (M).length iD,.list 1 ((t.ag[i]'aa).kids.flatMap Tw.cI) (t.ag[i]'aa).kids.length,.list 1 ((t.ag[i]'aa).high.flatMap cB) (t.ag[i]'aa).high.length,ae (t.ag[i]'aa).next]⟩::⟨b3,51,2,[aN dg L.length cR,ae t.root]⟩::⟨b2,51,2,[cf,ae 0]⟩::(Sy++Sx))⟩:St)) (fun (E:Nat×List K×Option Addr×Nat×List ah×Option Addr×Nat×List ah)=>match E with|(j,M,iC,iD,Sy,dg,cR,Sx)=>(t.ag[i]'aa).keys.length-j) (0,([]:List K),none,0,[],dg,cR,Sx) ⟨(Nat.zero_le _),rfl,(bn.cast iv j6),(bn.cast dW j6),rfl⟩ ?_;rintro⟨j,M,iC,iD,Sy,dg,cR,Sx⟩ _ ⟨hj,hM,D7,dW,rfl⟩;refine af [2,3,6,13,14,15,31,32,33,34] ?_;refine au ?_ ?_<;>intro aY cy
  ·have l9:j<(t.ag[i]'aa).keys.length:=(by omega)
   have Mc:=(po.lD _ (getElem_mem l9)).2;have xO:M.length=j:=(by rw[hM,length_take];omega)
   refine af [2,3,6,8,13,14,15,31,32,33] ?_;refine fR 6 (aq (take 3 _)) ?_ (fun _ h=>(Sublist.map _ (take_sublist _ _)).subset h);refine az 0 rfl (dr 1) ?_;refine az 1 rfl (dK 0) ?_;refine az 2 rfl bp ?_;refine dD.later rfl ?_;refine AD.one (i:=3) aA ?_;refine jJ call95 (j3 (t.ag[i]'aa).keys[j] w4) ?_;refine AD.one (i:=4) aA ?_;refine js (bW 0 [_]) [.slice none 0 0] [_] zeroValue88 runUnderlying151 sizeOf88 (fun vN=>?_);refine jt 0 41 1 1 ?_;refine AD.one (i:=5) aA ?_;refine bj.ek (ls:=(M)) (new:=[(t.ag[i]'aa).keys[j]]) (Sq:=Sy) Tw.gl Tw.pI rfl ap rfl rfl underlying151 aaz rfl w7 ot D7 (oN (A:=[_,_,_])) ot bf vG iq (fun U I akB akC=>?_);refine AD.perm (jk (S1:=[⟨U,88,I*1,flatMap Tw.cK ((M)++[(t.ag[i]'aa).keys[j]])⟩]) (A:=[_,_,_])) ?_;refine eH ?_;refine aE 1 ?_;refine aP 0 [_,_,_,_,_] sizeOf151 ?_;refine an 53 [2,3,6,13,14,15,31,32,33] ?_;refine s9 ?_;refine bg [2,3,6,13,14,15,31,32,33] ?_;refine⟨((j+1),(M++[(t.ag[i]'aa).keys[j]]),(some ⟨U,0,none⟩),I,[⟨U,88,I*1,flatMap Tw.cK ((M)++[(t.ag[i]'aa).keys[j]])⟩],dg,cR,Sx),_,cD,aK,w4,(by rw[hM];exact py l9),(bn.cast (bE akB akC) j6),(bn.cast dW j6),rfl⟩
  refine CD.exit ?_;have hMk:M=(t.ag[i]'aa).keys:=(by rw[hM,take_of_length_le w4])
  subst hMk;refine CD.Ja (i:=1) (j:=0) (Sq:=Sy) (S':=⟨b6,153,5,[cj (t.ag[i]'aa).leaf,.list 1 ((t.ag[i]'aa).keys.flatMap Tw.cK) (t.ag[i]'aa).keys.length,.list 1 ((t.ag[i]'aa).kids.flatMap Tw.cI) (t.ag[i]'aa).kids.length,.list 1 ((t.ag[i]'aa).high.flatMap cB) (t.ag[i]'aa).high.length,ae (t.ag[i]'aa).next]⟩::⟨b3,51,2,[aN dg L.length cR,ae t.root]⟩::⟨b2,51,2,[cf,ae 0]⟩::Sx) D7 (cr Tw.gl _) (oN (A:=[_,_,_])) rfl rfl rfl rfl ?_;refine dM 3 ?_;refine ei (bW 0 [_]) [.bool false,.slice none 0 0,.slice none 0 0,.slice none 0 0,.int .i64 0] [_,_,_,_,_] zeroValue153 runUnderlying49 sizeOf153 (fun Ow=>?_);refine fw 0 48 5 1 ?_;refine OD.ek (ls:=(L)) (new:=[(t.ag[i]'aa)]) (Sq:=Sx) FO agt ap rfl rfl underlying49 Z0 rfl w7 ot dW (de (A:=[_,_,_])) ot bf w9 lY (fun Z O akD akE=>?_);refine OD.perm (dZ (S1:=[⟨Z,153,O*5,flatMap cP ((L)++[(t.ag[i]'aa)])⟩]) (A:=[_,_,_])) ?_;refine aE 1 ?_;refine aP 1 [_,_] sizeOf49 ?_;refine an 53 [2,3,13,14,15] ?_;refine cm [2,3,13,14,15] ?_;refine⟨((i+1),(L++[(t.ag[i]'aa)]),(some ⟨Z,0,none⟩),O,[⟨Z,153,O*5,flatMap cP ((L)++[(t.ag[i]'aa)])⟩]),_,cD,aK,w4,(by rw[hL];exact py aa),(bn.cast (bE akD akE) j6),rfl⟩
 refine aD 1 ?_;refine aP 1 [_,_] sizeOf51 ?_;refine an 53 [2] ?_;refine aI Sx ?_;have hLe:L=t.ag:=(by rw[hL,take_of_length_le w4])
 subst hLe;exact⟨dg,cR,rfl,dW⟩
theorem aaB(t:aG)(h:Nat)(v:Valid t h):VP Tryz.prog G 82 [.agg (cT t)] (.agg (cT t)):=(aaA t h v).cover fun r S ⟨ad,cap,h,ho⟩=>by subst h;exact uM ⟨lK ho (cr FO _) (fun B h=>h),eR,trivial⟩
structure zh (t:aO):Prop where
 ay:t.ay.length≤1000
 rows:t.rows.length≤1000
 row:∀r∈t.rows,r.length≤1000
 ix:∃h,Valid t.ix h
theorem aaC:(Tryz.prog.info? 28).map (fun i=>(i.zero,i.size,i.bytes))=some (some (.slice none 0 0),1,24):=by kernel_rfl
theorem FP(t:aO)(hs:zh t):VC Tryz.prog G 40 [.agg (c9 t)] [] (ah3 t):=by
 refine VC.body func40 rfl ntmps40 aR fun X0 w0 aZ=>?_;unfold c9;have dm:=ec;have hc:=hs.ay;have hn:=hs.rows;obtain⟨h,v⟩:=hs.ix;have U:=aaB (G:=G) t.ix h v;unfold Tw.cT at U;refine bY ?_;refine OD.box (ds:=[_,_,_,_,_]) ap rfl rfl ot rfl rfl (fun b1=>?_);refine OD.alloc (ds:=[_,_,_,_,_]) ap rfl rfl zeroValue53 rfl (fun b2=>?_);refine an 31 [1,2] ?_;refine CD.seq ?_;refine uu 10 9 [1,2,3,14] ?_;refine dh (Qz t.ay w4) ?_;refine dh (U) ?_;refine ny 1 ?_;refine rJ ?_;refine jW ?_;refine⟨rfl,fun b3=>?_⟩;refine aP 0 [_,_,_,_,_] sizeOf53 ?_;refine an 31 [1,2,3] ?_;refine af [2,3,16,17,18] ?_;refine eA [2,3,16,17] (fun aU _ (I:Nat×List cl×Option Addr×Nat×List ah) aH=>match I with|(i,L,dg,cR,Sx)=>(i≤t.rows.length)∧(L.map cl.r=t.rows.take i)∧(∀o∈L,nV o)∧(sL L dg cR Sx)∧aH=(⟨31,(18,ae (i:Nat))::aU,(⟨b3,53,5,[bw t.nm,av 2 cC t.ay,aN dg L.length cR,av 5 cP t.ix.ag,ae t.ix.root]⟩::⟨b2,53,5,[gb,cf,cf,cf,ae 0]⟩::(Sx++L.flatMap bR))⟩:St)) (fun (I:Nat×List cl×Option Addr×Nat×List ah)=>match I with|(i,L,dg,cR,Sx)=>t.rows.length-i) (0,([]:List cl),none,0,[]) ⟨(Nat.zero_le _),rfl,(fun o h=>by cases h),iv,rfl⟩ ?_;rintro⟨i,L,dg,cR,Sx⟩ _ ⟨hi,hL,aQ,dW,rfl⟩;refine af [2,3,16,17,18,19] ?_;refine au ?_ ?_<;>intro aM bD
 ·have aa:i<t.rows.length:=(by omega)
  have rO:L.length=i:=(by have:=congrArg length hL;rw[length_map,length_take] at this;omega)
  have mY:=hs.row _ (getElem_mem aa);refine af [2,3,5,16,17,18] ?_;refine fR 6 (aq (take 2 _)) ?_ (fun _ h=>(Sublist.map _ (take_sublist _ _)).subset h);refine az 0 rfl (dr 2) ?_;refine az 1 rfl (dK 0) ?_;refine az 2 rfl bp ?_;refine dD.later rfl ?_;refine AD.one (i:=3) aA ?_;refine bj.call rfl ap rfl rfl rfl call31 (Qx (t.rows[i]'aa) w4) ⟨ot,trivial⟩ (eO _) (fun b hb=>by simp[aq,St.put] at hb ⊢;first|(simp[hb];done)|(rcases hb with hb|hb<;>simp[hb])|(rcases hb with hb|hb|hb<;>simp[hb])) ?_;rintro _ Sz ⟨l5,l6,rfl,yo⟩;refine AD.perm (jk (A:=[_,_])) ?_;have vL:(L++[(⟨(t.rows[i]'aa),l5,l6,Sz⟩:cl)]).map cl.r=t.rows.take (i+1):=(by rw[map_append,hL];exact py aa)
  have jT:∀o∈L++[(⟨(t.rows[i]'aa),l5,l6,Sz⟩:cl)],nV o:=fun o ho=>by rcases mem_append.1 ho with ho|ho;exact aQ o ho;rw[mem_singleton] at ho;subst ho;exact yo
  refine AD.one (i:=4) aA ?_;refine js (bW 0 [_]) [.slice none 0 0] [_] zeroValue28 runUnderlying34 sizeOf28 (fun b26=>?_);refine jt 0 26 1 1 ?_;refine AD.one (i:=5) aA ?_;refine bj.ek (ls:=L) (new:=[(⟨(t.rows[i]'aa),l5,l6,Sz⟩:cl)]) (Sq:=Sx) u0 U3 rfl ap rfl rfl underlying34 aaC rfl w7 ot dW (tw (A:=[_,_])) ot bf w9 lY (fun O E Z akF=>?_);refine AD.perm (wu (S2:=[⟨O,28,E*1,flatMap gR (L++[(⟨(t.rows[i]'aa),l5,l6,Sz⟩:cl)])⟩]) (A:=[_,_])) ?_;refine AD.perm (S':=⟨b3,53,5,[bw t.nm,av 2 cC t.ay,aN dg L.length cR,av 5 cP t.ix.ag,ae t.ix.root]⟩::⟨b2,53,5,[gb,cf,cf,cf,ae 0]⟩::([⟨O,28,E*1,flatMap gR (L++[(⟨(t.rows[i]'aa),l5,l6,Sz⟩:cl)])⟩]++(L++[(⟨(t.rows[i]'aa),l5,l6,Sz⟩:cl)]).flatMap bR)) (iH fun jg=>by rw[T6];simp only[bR,map_append,map_cons,map_nil,sum_append,sum_cons,sum_nil];omega) ?_;refine eH ?_;refine aE 1 ?_;refine aP 0 [_,_,_,_,_] sizeOf34 ?_;refine an 31 [2,3,16,17,18] ?_;refine cm [2,3,16,17,18] ?_;refine⟨((i+1),(L++[(⟨(t.rows[i]'aa),l5,l6,Sz⟩:cl)]),(some ⟨O,0,none⟩),E,[⟨O,28,E*1,flatMap gR (L++[(⟨(t.rows[i]'aa),l5,l6,Sz⟩:cl)])⟩]),_,cD,aK,w4,vL,jT,(bE Z akF),rfl⟩
 refine aD 1 ?_;refine aP 1 [_,_,_,_,_] sizeOf53 ?_;refine an 31 [2] ?_;refine aI (Sx++L.flatMap bR) ?_;have px:L.map cl.r=t.rows:=(by rw[hL,take_of_length_le w4])
 have hLn:t.rows.length=L.length:=(by rw[←px,length_map])
 exact⟨⟨t,L.flatMap gR,dg,cR,Sx,L.flatMap bR⟩,rfl,(by unfold gT;rw[hLn]),⟨L,rfl,rfl,aQ,px,dW⟩,rfl⟩
theorem aaD:(Tryz.prog.info? 53).map (fun i=>(i.zero,i.size,i.bytes))=some (some (.agg #[.string ⟨#[]⟩,.slice none 0 0,.slice none 0 0,.slice none 0 0,.int .i64 0]),5,96):=by kernel_rfl
theorem QB(l:List aO)(hl:l.length≤1000)(H:∀t∈l,zh t):VC Tryz.prog G 26 [.agg [av 5 c9 l]] [] (Ld l):=by
 refine VC.body func26 rfl ntmps26 aR fun X0 w0 aZ=>?_;have dm:=ec;refine bY ?_;refine OD.box (ds:=[_]) ap rfl rfl ot rfl rfl (fun b1=>?_);refine OD.alloc (ds:=[_]) ap rfl rfl zeroValue25 rfl (fun b2=>?_);refine an 22 [1,2] ?_;refine bY ?_;refine OD.alloc (ds:=[_]) ap rfl rfl zeroValue25 rfl (fun b3=>?_);refine an 22 [1,2,3] ?_;refine af [2,3,7,8,9] ?_;refine eA [2,3,7,8] (fun aU _ (I:Nat×List aV×Option Addr×Nat×List ah) aH=>match I with|(i,L,dg,cR,Sx)=>(i≤l.length)∧(L.map aV.t=l.take i)∧(∀o∈L,qh o)∧(xI L dg cR Sx)∧aH=(⟨22,(9,ae (i:Nat))::aU,(⟨b3,25,1,[aN dg L.length cR]⟩::⟨b2,25,1,[cf]⟩::(Sx++L.flatMap bT))⟩:St)) (fun (I:Nat×List aV×Option Addr×Nat×List ah)=>match I with|(i,L,dg,cR,Sx)=>l.length-i) (0,([]:List aV),none,0,[]) ⟨(Nat.zero_le _),rfl,(fun o h=>by cases h),iv,rfl⟩ ?_;rintro⟨i,L,dg,cR,Sx⟩ _ ⟨hi,hL,aQ,dW,rfl⟩;refine af [2,3,7,8,9,10] ?_;refine au ?_ ?_<;>intro aM bD
 ·have aa:i<l.length:=(by omega)
  have rO:L.length=i:=(by have:=congrArg length hL;rw[length_map,length_take] at this;omega)
  refine aD 2 ?_;refine OD.alloc (ds:=[_,_,_,_,_]) ap rfl rfl zeroValue53 rfl (fun b5=>?_);refine aP 0 [_,_,_,_,_] sizeOf53 ?_;refine an 22 [2,3,5,7,8,9] ?_;refine fR 6 (aq (take 3 _)) ?_ (fun _ h=>(Sublist.map _ (take_sublist _ _)).subset h);refine az 0 rfl (dr 0) ?_;refine az 1 rfl (dK 1) ?_;refine az 2 rfl (cW (mk:=Op.load 53) rfl ot (by first|exact qq (k:=0) (ds:=[_,_,_,_,_]) rfl rfl isAgg53 sizeOf53 rfl rfl|exact j5 j4 isAgg53 sizeOf53 w5|exact j5 uU isAgg53 sizeOf53 w5|exact dR (k:=0) j4 rfl rfl rfl isAgg53 sizeOf53 w5|exact dR (k:=1) j4 rfl rfl rfl isAgg53 sizeOf53 w5|exact dR (k:=2) j4 rfl rfl rfl isAgg53 sizeOf53 w5|exact dR (k:=0) uU rfl rfl rfl isAgg53 sizeOf53 w5|exact dR (k:=1) uU rfl rfl rfl isAgg53 sizeOf53 w5|exact dR (k:=2) uU rfl rfl rfl isAgg53 sizeOf53 w5|exact qx (ds:=[_,_,_,_,_]) isAgg53 sizeOf53 rfl rfl)) ?_;refine dD.later rfl ?_;refine AD.one (i:=3) aA ?_;refine bj.call rfl ap rfl rfl rfl call40 (FP (l[i]'aa) (H _ (getElem_mem aa))) ⟨ot,trivial⟩ (eO _) (fun b hb=>by simp[aq,St.put] at hb ⊢;first|(simp[hb];done)|(rcases hb with hb|hb<;>simp[hb])|(rcases hb with hb|hb|hb<;>simp[hb])) ?_;rintro _ _ ⟨o,HR,rfl,DA,rfl⟩;refine AD.perm (jk (A:=[_,_,_])) ?_;have vL:(L++[o]).map aV.t=l.take (i+1):=(by rw[map_append,hL,map_cons,map_nil,HR];exact py aa)
  have jT:∀x∈L++[o],qh x:=fun x hx=>by rcases mem_append.1 hx with hx|hx;exact aQ x hx;rw[mem_singleton] at hx;subst hx;exact DA
  refine AD.one (i:=4) aA ?_;refine js (bW 0 [_]) [.string ⟨#[]⟩,.slice none 0 0,.slice none 0 0,.slice none 0 0,.int .i64 0] [_,_,_,_,_] zeroValue53 runUnderlying23 sizeOf53 (fun b17=>?_);refine jt 0 17 5 1 ?_;refine AD.one (i:=5) aA ?_;refine bj.ek (ls:=L) (new:=[o]) (Sq:=Sx) uU U4 rfl ap rfl rfl underlying23 aaD rfl w7 ot dW (tw (A:=[_,_,_])) ot bf w9 lY (fun O E U Z=>?_);refine AD.perm (wu (S2:=[⟨O,53,E*5,flatMap gT (L++[o])⟩]) (A:=[_,_,_])) ?_;have Yr:(bT o++(([⟨O,53,E*5,flatMap gT (L++[o])⟩]:List ah)++L.flatMap bT)).Perm (([⟨O,53,E*5,flatMap gT (L++[o])⟩]:List ah)++(L++[o]).flatMap bT):=(iH fun jg=>by rw[T7];simp only[map_append,map_cons,map_nil,sum_append,sum_cons,sum_nil];omega)
  refine AD.perm (Perm.cons _ (Perm.cons _ (Perm.cons _ Yr))) ?_;refine eH ?_;refine aE 1 ?_;refine aP 1 [_] sizeOf23 ?_;refine an 22 [2,3,7,8,9] ?_;refine cm [2,3,7,8,9] ?_;refine⟨((i+1),(L++[o]),(some ⟨O,0,none⟩),E,[⟨O,53,E*5,flatMap gT (L++[o])⟩]),_,cD,aK,w4,vL,jT,(bE U Z),rfl⟩
 refine aD 1 ?_;refine aP 1 [_] sizeOf25 ?_;refine an 22 [2] ?_;refine aI (Sx++L.flatMap bT) ?_;have px:L.map aV.t=l:=(by rw[hL,take_of_length_le w4])
 exact⟨L,dg,cR,Sx,rfl,dW,aQ,px,rfl⟩
theorem abZ(l:List aO)(hl:l.length≤1000)(H:∀t∈l,zh t):VP Tryz.prog G 26 [.agg [av 5 c9 l]] (.agg [av 5 c9 l]):=(QB l hl H).cover fun r S hr=>hr.view

structure eD (t:aO) (n:Nat):Prop where
 nm:cY t.nm=0
 ay:t.ay=c8
 eJ:t.rows.length≤40
 ix:iL t.ix n
 row:∀i (h:i<t.rows.length),t.rows[i]≠[]→Pc.dO c8 t.rows[i]=0∧(∀v∈t.rows[i],v.Ok)∧(cH t.rows[i],(i:Int))∈eo t.ix
 iG:∀x∈eo t.ix,0≤x.2∧∃h:x.2.toNat<t.rows.length,t.rows[x.2.toNat]≠[]∧x.1=cH t.rows[x.2.toNat]
theorem nH{r:List Vl}(h:Pc.dO c8 r=0):r.length=4:=by
 unfold Pc.dO at h;rw[if_neg Ar] at h;split at h
 ·cases h
 rename_i h2;exact Decidable.not_not.1 h2
theorem eD.len(g:eD t n){r:List Vl}(hr:r∈t.rows):r=[]∨(r.length=4∧∀v∈r,v.Ok):=by
 obtain⟨i,hi,rfl⟩:=mem_iff_getElem.1 hr;rcases Classical.em (t.rows[i]=[]) with h|h
 ·exact .inl h
 exact .inr ⟨nH (g.row i hi h).1,(g.row i hi h).2.1⟩
theorem eD.small(g:eD t n):zh t :=
 ⟨by rw[g.ay];decide,Nat.le_trans g.eJ w7,fun r hr=>by rcases g.len hr with h|h;rw[h];exact Nat.zero_le _;omega,_,g.ix.val⟩
def rowAt(t:aO)(i:Int):List Vl:=t.rows.getD i.toNat []
theorem iX{i:Int}(h:i.toNat<t.rows.length):rowAt t i=t.rows[i.toNat]:=by unfold rowAt;rw[getD_eq_getElem?_getD,getElem?_eq_getElem h];rfl
def mO(t:aO)(w:List aX):List Int→List (K×Int)→List Int×Int
 | acc,[]=>(acc,0)
 | acc,x::r=>if 0<w.length then (if (fp t.ay (rowAt t x.2) w).2≠0 then ([],(fp t.ay (rowAt t x.2) w).2) else if (fp t.ay (rowAt t x.2) w).1.n≠1 then mO t w acc r else mO t w (acc++[x.2]) r) else mO t w (acc++[x.2]) r
noncomputable def ax(t:aO)(w:List aX):List Int×Int:=if (iP t.ay w).2≠0 then ([],(iP t.ay w).2) else mO t w [] (pL t.ix (iP t.ay w).1.1 (iP t.ay w).1.2)
def CP(p:List Int×Int)(r:D)(S:List ah):Prop:=∃ad cap,r = .dI [aN ad p.1.length cap,ae p.2]∧bn 3 1 (p.1.flatMap Tw.cI) p.1.length ad cap S
theorem CP.view{r:D}(h:CP p r S):View S r (.dI [av 1 Tw.cI p.1,ae p.2]):=by
 obtain⟨ad,cap,rfl,ho⟩:=h;exact EX ⟨lK ho (cr Tw.eC _) (fun B h=>h),eR,trivial⟩
theorem CP.flat{r:D}(h:CP p r S):kQ r=true∧∀B∈S,∀d∈B.cs,kQ d=true:=by
 obtain⟨ad,cap,rfl,ho⟩:=h;refine⟨rfl,fun B E d hd=>?_⟩;rcases ho with ⟨_,_,_,_,rfl⟩|⟨b,_,_,_,rfl⟩
 ·cases E
 rw[mem_singleton] at E;subst E;obtain⟨n,_,hn⟩:=mem_flatMap.1 hd;rw[Tw.cI,mem_singleton] at hn;subst hn;rfl
theorem E6{t:aG}{f u:K}:∀x∈pL t f u,x∈eo t:=fun x hx=>by
 unfold pL xm at hx;have h1:=(takeWhile_sublist _).subset hx;unfold nk at h1;exact(mem_filter.1 h1).1
theorem Sk{t:aG}(g:iL t n)(f u:K):(pL t f u).length≤16000:=by
 unfold pL xm;exact Nat.le_trans (takeWhile_sublist _).length_le (R5 g.val f)
theorem T8(l:List Vl):(fY l).1.length≤100:=by
 unfold fY;repeat' split
 all_goals first|exact Nat.zero_le _|(simp only;omega)
def Sm(b:lm):Prop:=b.1.length≤100∧b.2.length≤100
theorem T9{key:ByteArray}{ops:List aX}{no:Bool}{b:lm}(h:Sm b):Sm (nh key ops no b):=by
 have hk:(zR ops).length≤100:=T8 _;have hl:∀b,Sm b→Sm (ou (zR ops) b):=fun b h=>by unfold ou;split;exact⟨hk,h.2⟩;exact h
 have E:∀b,Sm b→Sm (sb (zR ops) b):=fun b h=>by unfold sb;split;exact⟨h.1,hk⟩;exact h
 unfold nh;split
 ·exact h
 split
 ·exact h
 unfold vk;cases(nC ops (ops.length-1)==6||(dU (mi key) (ops.take 2)==0)!=no)<;>cases(nC ops (ops.length-1)==6||(dU (mi key) (ops.take 2)==0)==no)<;>first|exact h|exact hl _ h|exact E _ h|exact E _ (hl _ h)
theorem KL{key:ByteArray}:∀(f:Nat) (ops:List aX) (b:lm),Sm b→Sm (gd key f ops b)
 | 0,_,_,h=>h
 | f+1,ops,b,h=>by
  unfold gd;split
  ·exact KL f _ _ (KL f _ _ h)
  split
  ·exact T9 h
  exact T9 h
theorem agH(l:List cz)(ops:List aX):Sm (iP l ops).1:=by
 have h0:Sm (([],[]):lm):=⟨Nat.zero_le _,Nat.zero_le _⟩
 unfold iP;repeat' split
 all_goals first|exact h0|exact KL _ _ _ h0
theorem QC:(Tryz.prog.info? 3).map (fun i=>(i.zero,i.size,i.bytes))=some (some (.int .i64 0),1,8):=by kernel_rfl
theorem KM(hm:(3,marksC)∈G)(hw:(1,wordsC)∈G)(ht:(0,typesC)∈G)(hG:(2,[Value.int .i64 m])∈G)(t:aO)(g:eD t n)(w:List aX)(ho:∀o∈w,o.nm.size≤maxLen)(fS:∀o∈w,o.v.Ok):VC Tryz.prog G 86 [.agg (c9 t),av 5 cO w] [] (CP (ax t w)):=by
 refine VC.body func86 rfl ntmps86 aR fun X0 w0 aZ=>?_;have AT:=agH t.ay w;have oB:=abp (G:=G) hm hw ht hG t.ay xQ xP w ho fS;unfold N9 at oB;have dm:=ec;have AU:=U2 (G:=G) g.ix (iP t.ay w).1.1 (iP t.ay w).1.2 AT.1 AT.2;unfold Tw.cT at AU;have mN:=Sk g.ix (iP t.ay w).1.1 (iP t.ay w).1.2;generalize hL:(pL t.ix (iP t.ay w).1.1 (iP t.ay w).1.2)=L at *;unfold c9;have LL:∀x∈L,x∈eo t.ix:=fun x hx=>E6 x (hL ▸ hx);refine bY ?_;refine OD.box (ds:=[_,_,_,_,_]) ap rfl rfl ot rfl rfl (fun b2=>?_);refine an 70 [1,2] ?_;refine cJ [1,2,6,7,8] (oB) ?_;refine af [1,2,6,7,8,25] ?_;refine au ?_ ?_<;>intro aM bD
 ·have hne:(iP t.ay w).2≠0:=(by simpa using aM)
  have aW:ax t w=([],(iP t.ay w).2):=if_pos hne;refine af [4,5] ?_;refine aI [] ?_;rw[aW];exact⟨none,0,rfl,iv⟩
 have hz:(iP t.ay w).2=0:=(by simpa using aM)
 have ah4:ax t w=mO t w [] (L.drop 0):=(by unfold ax;rw[if_neg (by simp[hz]),hL,drop_zero])
 refine cJ [1,2,9] (AU) ?_;refine bY ?_;refine bg [1,2,9,11] ?_;refine af [1,2,11,35,36,37] ?_;refine eA [1,2,35,36] (fun aU _ (O:Nat×List Int×Option Addr×Nat×List ah) aH=>match O with|(k,acc,dg,cR,Sx)=>(k≤L.length)∧((acc).length≤k)∧(ax t w=mO t w acc (L.drop k))∧(bn 3 1 ((acc).flatMap Tw.cI) (acc).length dg cR Sx)∧aH=(⟨70,(11,aN dg (acc).length cR)::(37,ae (k:Nat))::aU,(⟨b2,53,5,[bw t.nm,av 2 cC t.ay,av 1 fa t.rows,av 5 cP t.ix.ag,ae t.ix.root]⟩::Sx)⟩:St)) (fun (O:Nat×List Int×Option Addr×Nat×List ah)=>match O with|(k,acc,dg,cR,Sx)=>L.length-k) (0,([]:List Int),none,0,[]) ⟨(Nat.zero_le _),(Nat.zero_le _),ah4,(bn.cast iv j6),rfl⟩ ?_;rintro⟨k,acc,dg,cR,Sx⟩ _ ⟨hk,rz,aW,dW,rfl⟩;refine af [1,2,11,35,36,37,38] ?_;refine au ?_ ?_<;>intro aY cy
 ·have aa:k<L.length:=(by omega)
  obtain⟨gC,U,nW,Nr⟩:=g.iG _ (LL _ (getElem_mem aa));have E:=iX (t:=t) U;have ju:L.drop k=(L[k]'aa)::L.drop (k+1):=drop_eq_getElem_cons aa;have hrw:=(g.row _ U nW).2.1;have Ox:=nH (g.row _ U nW).1;refine aD 2 ?_;refine OD.alloc (ds:=[_,_]) ap rfl rfl zeroValue90 rfl (fun mB=>?_);refine aP 0 [_,_] sizeOf90 ?_;refine an 70 [1,2,11,13,35,36,37] ?_;refine af [1,2,11,13,35,36,37,43] ?_;refine au ?_ ?_<;>intro bZ cN
  ·have Z:0<w.length:=(by omega)
   have ym:=TN (G:=G) hm hw ht t.ay xQ xP (t.rows[(L[k]'aa).2.toNat]) w4 hrw w ho fS;rw[←E] at ym;unfold mX at ym;rw[E] at ym;refine CD.seq ?_;refine uu 14 13 [1,2,11,13,14,35,36,37,55,56] ?_;refine aS 6 ?_ (h:=by exact(dF 1 (h:=by first|exact .l (j:=(L[k]'aa).2.toNat) (Int.toNat_of_nonneg gC).symm U|exact .r (j:=(L[k]'aa).2.toNat) (Int.toNat_of_nonneg gC).symm U)));refine dh (ym) ?_;refine ny 3 ?_;refine rJ ?_;refine jW ?_;refine⟨rfl,fun Az=>?_⟩;refine aP 0 [_,_,_] sizeOf41 ?_;refine an 70 [1,2,11,13,14,15,35,36,37] ?_;refine af [1,2,11,13,14,15,35,36,37,58] ?_;refine au ?_ ?_<;>intro cX en
   ·have hne:(fp t.ay (rowAt t (L[k]'aa).2) w).2≠0:=(by rw[E];simpa using cX)
    have I:ax t w=([],(fp t.ay (rowAt t (L[k]'aa).2) w).2):=(by rw[aW,ju,mO,if_pos Z,if_pos hne])
    rw[E] at I;refine af [4,5] ?_;refine aI [] ?_;rw[I];exact⟨none,0,rfl,iv⟩
   have hne:¬(fp t.ay (rowAt t (L[k]'aa).2) w).2≠0:=(by rw[E];simpa using cX)
   refine af [1,2,11,13,35,36,37,62] ?_;refine au ?_ ?_<;>intro er fq
   ·have gv:(fp t.ay (rowAt t (L[k]'aa).2) w).1.n≠1:=(by rw[E];simpa using er)
    have nS:ax t w=mO t w acc (L.drop (k+1)):=(by rw[aW,ju,mO,if_pos Z,if_neg hne,if_pos gv])
    refine cm [1,2,11,35,36,37] ?_;refine⟨((k+1),acc,dg,cR,Sx),_,cD,aK,w4,w4,nS,(bn.cast dW j6),rfl⟩
   have gv:¬(fp t.ay (rowAt t (L[k]'aa).2) w).1.n≠1:=(by rw[E];simpa using er)
   have nS:ax t w=mO t w (acc++[(L[k]'aa).2]) (L.drop (k+1)):=(by rw[aW,ju,mO,if_pos Z,if_neg hne,if_neg gv])
   refine dM 3 ?_;refine ei (bW 0 [_]) [.int .i64 0] [_] zeroValue3 runUnderlying67 sizeOf3 (fun pn=>?_);refine fw 0 66 1 1 ?_;refine OD.ek (ls:=(acc)) (new:=[(L[k]'aa).2]) (Sq:=Sx) Tw.eC Tw.nF ap rfl rfl underlying67 QC rfl w7 ot dW (de (A:=[_,_,_])) ot bf w9 lY (fun qJ rm Gs Gt=>?_);refine OD.perm (dZ (S1:=[⟨qJ,3,rm*1,flatMap Tw.cI ((acc)++[(L[k]'aa).2])⟩]) (A:=[_,_,_])) ?_;exact z70
  have Z:¬0<w.length:=(by omega)
  have nS:ax t w=mO t w (acc++[(L[k]'aa).2]) (L.drop (k+1)):=(by rw[aW,ju,mO,if_neg Z])
  refine dM 3 ?_;refine ei (bW 0 [_]) [.int .i64 0] [_] zeroValue3 runUnderlying67 sizeOf3 (fun pn=>?_);refine fw 0 66 1 1 ?_;refine OD.ek (ls:=(acc)) (new:=[(L[k]'aa).2]) (Sq:=Sx) Tw.eC Tw.nF ap rfl rfl underlying67 QC rfl w7 ot dW (de (A:=[_,_])) ot bf w9 lY (fun qJ rm Gs Gt=>?_);refine OD.perm (dZ (S1:=[⟨qJ,3,rm*1,flatMap Tw.cI ((acc)++[(L[k]'aa).2])⟩]) (A:=[_,_])) ?_;exact z70
 have I:ax t w=(acc,0):=(by rw[aW,drop_of_length_le w4];rfl)
 refine af [4,5] ?_;refine aI Sx ?_;rw[I];exact⟨dg,cR,rfl,dW⟩

end Go.Proofs.YtdgichenhdikgaaGreatDoor.Ba
namespace Go.Proofs.YtdgichenhdikgaaGreatDoor.So
open List
open Go.Proofs.Tryz
variable {α:Type} {R:α→α→Prop} {l L M X Y:List α} {x y:α} {k:Nat}
theorem Iu(ht:∀{x y z:α},R x y→R y z→R x z)(hs:L.Pairwise R)(hk:k≤L.length)(h:k=0∨∃h:k-1<L.length,R (L[k-1]) x):∀z∈L.take k,R z x:=by
 intro z hz;obtain⟨i,hi,rfl⟩:=mem_iff_getElem.1 hz;rw[length_take] at hi;rw[getElem_take];rcases h with rfl|⟨h1,h2⟩
 ·omega
 rcases Nat.lt_or_ge i (k-1) with h3|h3
 ·exact ht (pairwise_iff_getElem.1 hs i (k-1) w4 h1 h3) h2
 have:i=k-1:=(by omega)
 subst this;exact h2
theorem Ig(ht:∀{x y z:α},R x y→R y z→R x z)(hs:L.Pairwise R)(h:k=L.length∨∃h:k<L.length,R x (L[k])):∀z∈L.drop k,R x z:=by
 intro z hz;obtain⟨i,hi,rfl⟩:=mem_iff_getElem.1 hz;rw[length_drop] at hi;rw[getElem_drop];rcases h with rfl|⟨h1,h2⟩
 ·omega
 rcases Nat.eq_zero_or_pos i with rfl|h3
 ·simpa using h2
 exact ht h2 (pairwise_iff_getElem.1 hs k (k+i) h1 w4 w4)
theorem adL(hs:(X++Y).Pairwise R)(h1:∀z∈X,R z x)(h2:∀z∈Y,R x z):(X++x::Y).Pairwise R:=by
 rw[pairwise_append] at hs ⊢;obtain⟨p1,p2,p3⟩:=hs;refine⟨p1,pairwise_cons.2 ⟨h2,p2⟩,fun a ha b hb=>?_⟩;rcases mem_cons.1 hb with rfl|hb
 ·exact h1 a ha
 exact p3 a ha b hb
theorem Ua(ht:∀{x y z:α},R x y→R y z→R x z)(hs:L.Pairwise R)(hk:k≤L.length)(h1:k=0∨∃h:k-1<L.length,R (L[k-1]) x)(h2:k=L.length∨∃h:k<L.length,R x (L[k])):(L.take k++x::L.drop k).Pairwise R :=
 adL (by rw[take_append_drop];exact hs) (Iu ht hs hk h1) (Ig ht hs h2)
theorem ab0 (ht:∀{x y z:α},R x y→R y z→R x z) {A B:List α} {i j:Nat} (ha:A.Pairwise R) (hb:B.Pairwise R) (hi:i≤A.length) (hj:j≤B.length)
  (h1:i=0∨j=B.length∨∃(p:i-1<A.length) (q:j<B.length),R A[i-1] B[j]) (h2:j=0∨i=A.length∨∃(p:j-1<B.length) (q:i<A.length),R B[j-1] A[i]) :
  ∀a∈A.take i++B.take j,∀b∈A.drop i++B.drop j,R a b:=by
 have E:∀a∈A.take i,∀b∈A.drop i,R a b:=(by rw[←take_append_drop i A] at ha;exact(pairwise_append.1 ha).2.2)
 have I:∀a∈B.take j,∀b∈B.drop j,R a b:=(by rw[←take_append_drop j B] at hb;exact(pairwise_append.1 hb).2.2)
 intro a hm b hn;rcases mem_append.1 hm with hm|hm<;>rcases mem_append.1 hn with hn|hn
 ·exact E a hm b hn
 ·rcases h1 with rfl|rfl|⟨p,q,hr⟩
  ·simp at hm
  ·simp at hn
  exact Iu (R:=R) ht ha hi (.inr ⟨p,by
   rcases Ig (R:=R) ht hb (k:=j) (x:=A[i-1]) (.inr ⟨q,hr⟩) b hn with h
   exact h⟩) a hm
 ·rcases h2 with rfl|rfl|⟨p,q,hr⟩
  ·simp at hm
  ·simp at hn
  exact Iu (R:=R) ht hb hj (.inr ⟨p,Ig (R:=R) ht ha (k:=i) (x:=B[j-1]) (.inr ⟨q,hr⟩) b hn⟩) a hm
 exact I a hm b hn
theorem IY{l1 l2:List α}:((l1++x::y::l2).set l1.length y).set (l1.length+1) x=l1++y::x::l2:=by
 rw[set_append_right _ _ (Nat.le_refl _),Nat.sub_self,set_cons_zero,set_append_right _ _ w4,show l1.length+1-l1.length=1 by omega,set_cons_succ,set_cons_zero]
def sw(l:List Int)(i j:Nat):List Int:=(l.set i (l.getD j 0)).set j (l.getD i 0)
theorem agI{l:List Int}{i j:Nat}:(sw l i j).length=l.length:=by unfold sw;simp
theorem mF{l:List Int}{i:Nat}(h:i<l.length):l.getD i 0=l[i]:=by simp[h]
def jX(l:List Int)(a b:Nat):Nat→List Int
 | 0=>l
 | k+1=>sw (jX l a b k) (a+k) (b+k)
theorem BI{l:List Int}{a b:Nat}:∀{k:Nat},(jX l a b k).length=l.length
 | 0=>rfl
 | k+1=>by rw[jX,agI,BI]
theorem Ub{l:List Int}{a b:Nat}:∀{k:Nat},a+k≤b→b+k≤l.length→∀j,(jX l a b k)[j]?=if a≤j∧j<a+k then l[b+(j-a)]? else if b≤j∧j<b+k then l[a+(j-b)]? else l[j]?
 | 0,_,_,j=>by rw[if_neg w4,if_neg w4];try rfl
 | k+1,h1,h2,j=>by
  have E:=Ub (l:=l) (a:=a) (b:=b) (k:=k) w4 w4;have e1:(jX l a b k).getD (b+k) 0=l.getD (b+k) 0:=(by rw[getD_eq_getElem?_getD,E,if_neg w4,if_neg w4,getD_eq_getElem?_getD])
  have e2:(jX l a b k).getD (a+k) 0=l.getD (a+k) 0:=(by rw[getD_eq_getElem?_getD,E,if_neg w4,if_neg w4,getD_eq_getElem?_getD])
  rw[jX,sw,e1,e2,getElem?_set,getElem?_set,length_set,BI,E];by_cases q1:b+k=j
  ·subst q1;rw[if_pos rfl,if_pos w4,if_neg w4,if_pos w4,mF w4,show a+(b+k-b)=a+k by omega,getElem?_eq_getElem w4]
  rw[if_neg q1];by_cases q2:a+k=j
  ·subst q2;rw[if_pos rfl,if_pos w4,if_pos w4,mF w4,show b+(a+k-a)=b+k by omega,getElem?_eq_getElem w4]
  rw[if_neg q2];simp only[show(a≤j∧j<a+(k+1))↔(a≤j∧j<a+k) by omega,show(b≤j∧j<b+(k+1))↔(b≤j∧j<b+k) by omega]
theorem Kf{P U M W Q:List Int}(h:U.length=W.length):jX (P++(U++(M++(W++Q)))) P.length (P.length+U.length+M.length) U.length=P++(W++(M++(U++Q))):=by
 refine ext_getElem? fun j=>?_;rw[Ub w4 (by simp only[length_append];omega)];simp only[getElem?_append];repeat' split
 all_goals first|omega|(congr 1<;>omega)
def rQ(T cur:List Int)(m i j:Nat):Prop:=∃P X Y Q,cur=P++(X++(Y++Q))∧X.length=i∧Y.length=j∧P.length+i=m∧T=P++(Y++(X++Q))
variable {T cur:List Int} {m i j:Nat}
theorem rQ.len(h:rQ T cur m i j):i≤m∧m+j≤cur.length∧T.length=cur.length:=by
 obtain⟨P,X,Y,Q,rfl,rfl,rfl,hm,rfl⟩:=h;simp only[length_append];omega
theorem agJ(h:rQ T cur m i j)(E:j<i):rQ T (jX cur (m-i) m j) m (i-j) j:=by
 obtain⟨P,X,Y,Q,rfl,rfl,rfl,hm,rfl⟩:=h;have l1:(X.take Y.length).length=Y.length:=(by rw[length_take];omega)
 have l2:(X.drop Y.length).length=X.length-Y.length:=length_drop;have e:=Kf (P:=P) (U:=X.take Y.length) (M:=X.drop Y.length) (W:=Y) (Q:=Q) l1;rw[l1,l2,←append_assoc (X.take _) (X.drop _),take_append_drop,show P.length+Y.length+(X.length-Y.length)=m by omega,show P.length=m-X.length by omega] at e;exact⟨P++Y,X.drop Y.length,X.take Y.length,Q,by rw[e];simp,l2,l1,by rw[length_append];omega,by rw[←append_assoc (X.take _) (X.drop _),take_append_drop];simp⟩
theorem agK(h:rQ T cur m i j)(E:i<j):rQ T (jX cur (m-i) (m+j-i) i) m i (j-i):=by
 obtain⟨P,X,Y,Q,rfl,rfl,rfl,hm,rfl⟩:=h;have l1:(Y.take (Y.length-X.length)).length=Y.length-X.length:=(by rw[length_take];omega)
 have l2:(Y.drop (Y.length-X.length)).length=X.length:=(by rw[length_drop];omega)
 have e:=Kf (P:=P) (U:=X) (M:=Y.take (Y.length-X.length)) (W:=Y.drop (Y.length-X.length)) (Q:=Q) l2.symm;rw[l1,←append_assoc (Y.take _) (Y.drop _),take_append_drop,show P.length+X.length+(Y.length-X.length)=m+Y.length-X.length by omega,show P.length=m-X.length by omega] at e;exact⟨P,Y.drop (Y.length-X.length),Y.take (Y.length-X.length),X++Q,e,l2,l1,hm,by rw[←append_assoc (Y.take _) (Y.drop _),take_append_drop]⟩
theorem agL(h:rQ T cur m i i):jX cur (m-i) m i=T:=by
 obtain⟨P,X,Y,Q,rfl,rfl,hl,hm,rfl⟩:=h;have e:=Kf (P:=P) (U:=X) (M:=[]) (W:=Y) (Q:=Q) hl.symm;rw[length_nil,Nat.add_zero,show P.length+X.length=m by omega,show P.length=m-X.length by omega] at e;simpa using e

end Go.Proofs.YtdgichenhdikgaaGreatDoor.So
namespace Go.Proofs.YtdgichenhdikgaaGreatDoor.So
open List
open Go.Proofs.Tryz
open Go.RowKit V Tw
variable {G:List (Nat×List Value)}
theorem Kg(l:List Int)(E la lb k cap I:Nat)(ez:D)(Sc:List ah)(gi:l.length=E)(h1:la+k≤lb)(h2:lb+k≤E)(h3:E≤cap)(h4:cap≤maxLen):VC Tryz.prog G 173 [aN (some ⟨I,0,none⟩) E cap,ae (la:Nat),ae (lb:Nat),ae (k:Nat),ez] (⟨I,3,cap*1,(l).flatMap cI⟩::Sc) (fun r S'=>r = .dI []∧S'=⟨I,3,cap*1,(jX l la lb k).flatMap cI⟩::Sc):=by
 refine VC.body func173 rfl ntmps173 aR fun X0 w0 aZ=>?_;have dm:=ec;refine af [0,1,2,3,10] ?_;refine eA [0,1,2,3] (fun aU _ (i:Nat) aH=>(i≤k)∧aH=(⟨38,(10,ae (i:Nat))::aU,(⟨I,3,cap*1,(jX l la lb i).flatMap cI⟩::Sc)⟩:St)) (fun (i:Nat)=>k-i) 0 ⟨(Nat.zero_le _),rfl⟩ ?_;rintro i _ ⟨hi,rfl⟩;refine af [0,1,2,3,10,13] ?_;refine au ?_ ?_<;>intro aM bD
 ·have O:i<k:=(by omega)
  have hlen:(jX l la lb i).length=E:=(by rw[BI,gi])
  have ha:la+i<(jX l la lb i).length:=(by omega)
  have hb:lb+i<(jX l la lb i).length:=(by omega)
  refine CD.skip ?_;refine CD.seq ?_;refine CD.block ?_;refine fR 22 (aq (eraseIdx _ 0)) ?_ (fun _ h=>(Sublist.map _ (eraseIdx_sublist _ 0)).subset h);refine az 0 rfl bp ?_;refine az 1 rfl bp ?_;refine az 2 rfl bp ?_;refine az 3 rfl mT ?_;refine az 4 rfl bp ?_;refine az 5 rfl bp ?_;refine az 6 rfl bp ?_;refine az 7 rfl mT ?_;refine az 8 rfl bp ?_;refine az 9 rfl bp ?_;refine az 10 rfl bp ?_;refine az 11 rfl mT ?_;refine az 12 rfl (dF 1) ?_;refine az 14 rfl bp ?_;refine az 15 rfl bp ?_;refine az 16 rfl bp ?_;refine az 17 rfl mT ?_;refine az 18 rfl (dF 1) ?_;refine dD.later rfl ?_;refine AD.two (i:=13) (j:=19) aA ?_ ?_
  ·refine at_ rfl eT ?_;refine AD.one (i:=19) aA ?_;exact Xv
  refine at_ rfl eT ?_;refine AD.one (i:=13) aA ?_;exact Xv
 obtain rfl:i=k:=(by omega)
 refine aI _ ?_;exact⟨by first|rfl|(simp[*];done),rfl⟩

theorem agM(l Tt:List Int)(Z a m b cap bd:Nat)(ez:D)(Sc:List ah)(h:rQ Tt l m (m-a) (b-m))(h1:a<m)(h2:m<b)(gi:l.length=Z)(E:Z≤cap)(I:cap≤maxLen):VC Tryz.prog G 163 [aN (some ⟨bd,0,none⟩) Z cap,ae (a:Nat),ae (m:Nat),ae (b:Nat),ez] (⟨bd,3,cap*1,(l).flatMap cI⟩::Sc) (fun r S'=>r = .dI []∧S'=⟨bd,3,cap*1,(Tt).flatMap cI⟩::Sc):=by
 refine VC.body func163 rfl ntmps163 aR fun X0 w0 aZ=>?_;have dm:=ec;have hlen:=h.len;refine cZ [0,2,3,4,10] ?_;refine aS 2 ?_ (h:=by exact(dj rfl ot ot (gj (r:=((m-a:Nat):Int)) qG)));refine bG ?_;refine cZ [0,2,4,10,11] ?_;refine aS 2 ?_ (h:=by exact(dj rfl ot ot (gj (r:=((b-m:Nat):Int)) qG)));refine bG ?_;refine eA [0,2,4] (fun aU _ (O:Nat×Nat×List Int) aH=>match O with|(i,j,cur)=>(rQ Tt cur m i j)∧(0<i)∧(0<j)∧((cur).length=Z)∧aH=(⟨58,(10,ae (i:Nat))::(11,ae (j:Nat))::aU,(⟨bd,3,cap*1,(cur).flatMap cI⟩::Sc)⟩:St)) (fun (O:Nat×Nat×List Int)=>match O with|(i,j,cur)=>i+j) ((m-a),(b-m),l) ⟨h,w4,w4,gi,rfl⟩ ?_;rintro⟨i,j,cur⟩ _ ⟨hr,hi,hj,U,rfl⟩;refine af [0,2,4,10,11,20] ?_;refine au ?_ ?_<;>intro aM bD
 ·have mY:=hr.len;have hne:i≠j:=(by omega)
  refine af [0,2,4,10,11,23] ?_;refine au ?_ ?_<;>intro aY cy
  ·have AV:j<i:=(by omega)
   refine aD 3 ?_;refine bN (dj rfl ot ot (gj (r:=((m-i:Nat):Int)) qG)) ?_;refine aE 3 ?_;refine OD.call (R:=Sc) ap rfl rfl rfl call173 (Kg cur Z (m-i) m j cap bd ez [] U w4 w4 E I) ⟨ot,ot,ot,ot,ot,trivial⟩ (Perm.refl _) ?_;rintro _ _ ⟨rfl,rfl⟩;refine an 58 [0,2,4,10,11] ?_;refine ie [0,2,4,10,11] ?_;refine aS 2 ?_ (h:=by exact(dj rfl ot ot (gj (r:=((i-j:Nat):Int)) qG)));refine bG ?_;refine⟨((i-j),j,(jX cur (m-i) m j)),_,cD,aK,(agJ hr AV),w4,hj,(by rw[BI];exact U),rfl⟩
  have aa:i<j:=(by omega)
  refine aD 3 ?_;refine bN (dj rfl ot ot (gj (r:=((m-i:Nat):Int)) qG)) ?_;refine aE 4 ?_;refine bN (dj rfl ot ot (gj (r:=((m+j-i:Nat):Int)) (by rw[show((m:Int)+j-i)=((m+j-i:Nat):Int) by omega];exact wrap_i64 w4 w4))) ?_;refine aE 2 ?_;refine OD.call (R:=Sc) ap rfl rfl rfl call173 (Kg cur Z (m-i) (m+j-i) i cap bd ez [] U w4 w4 E I) ⟨ot,ot,ot,ot,ot,trivial⟩ (Perm.refl _) ?_;rintro _ _ ⟨rfl,rfl⟩;refine an 58 [0,2,4,10,11] ?_;refine ie [0,2,4,10,11] ?_;refine aS 2 ?_ (h:=by exact(dj rfl ot ot (gj (r:=((j-i:Nat):Int)) qG)));refine bG ?_;refine⟨(i,(j-i),(jX cur (m-i) (m+j-i) i)),_,cD,aK,(agK hr aa),hi,w4,(by rw[BI];exact U),rfl⟩
 have mY:=hr.len;obtain rfl:i=j:=(by omega)
 have he:=agL hr;refine dM 3 ?_;refine bN (dj rfl ot ot (gj (r:=((m-i:Nat):Int)) qG)) ?_;refine aE 3 ?_;refine OD.call (R:=Sc) ap rfl rfl rfl call173 (Kg cur Z (m-i) m i cap bd ez [] U w4 w4 E I) ⟨ot,ot,ot,ot,ot,trivial⟩ (Perm.refl _) ?_;rintro _ _ ⟨rfl,rfl⟩;refine an 58 [] ?_;refine aI _ ?_;exact⟨rfl,by rw[he];rfl⟩

end Go.Proofs.YtdgichenhdikgaaGreatDoor.So
namespace Go.Proofs.YtdgichenhdikgaaGreatDoor.So
open List
open Go.Proofs.Tryz
variable {x y:Int} {Z S:List Int} {cF:Int→Int→Int}
def oH(R:Int→Int→Prop)(l0 l:List Int)(a i:Nat):Prop :=
 ∃(P A B A0:List Int),l=P++(A++B)∧P.length=a∧a+A.length=i∧A.Pairwise R∧A.Perm A0∧l0=P++(A0++B)
def sM(R:Int→Int→Prop)(l0 l:List Int)(a i j:Nat):Prop :=
 ∃(P A:List Int) (x:Int) (B A0:List Int) (k:Nat),l=P++(A.take k++x::(A.drop k++B))∧P.length=a∧k≤A.length∧a+k=j∧a+A.length=i∧A.Pairwise R∧(k=A.length∨∃h:k<A.length,R x A[k])∧A.Perm A0∧l0=P++(A0++x::B)
variable {R Lt:Int→Int→Prop} {l0 l:List Int} {a i j:Nat}
theorem sM.len(h:sM R l0 l a i j):a≤j∧j≤i∧i<l.length∧l.length=l0.length:=by
 obtain⟨P,A,x,B,E,k,rfl,rfl,hk,rfl,rfl,hs,hx,hp,rfl⟩:=h;have:=hp.length_eq;simp only[length_append,length_cons,length_take,length_drop];omega
theorem Jm(h:a≤l.length):oH R l l a a :=
 ⟨l.take a,[],l.drop a,[],by simp,by rw[length_take];omega,by simp,Pairwise.nil,.refl _,by simp⟩
theorem afk(h:a<l.length):oH R l l a (a+1) :=
 ⟨l.take a,[l[a]],l.drop (a+1),[l[a]],by simp,by rw[length_take];omega,by simp,pairwise_singleton _ _,.refl _,by simp⟩
theorem ab1(h:oH R l0 l a i)(hi:i<l.length):sM R l0 l a i i:=by
 obtain⟨P,A,B,E,rfl,rfl,rfl,hs,hp,rfl⟩:=h;cases B with
 | nil=>simp at hi
 | cons x B=>exact⟨P,A,x,B,E,A.length,by simp,rfl,Nat.le_refl _,rfl,rfl,hs,.inl rfl,hp,rfl⟩
theorem Fx{P A B:List Int}{k:Nat}(hk:k<A.length):P++(A.take (k+1)++x::(A.drop (k+1)++B))=(P++A.take k)++A[k]::x::(A.drop (k+1)++B):=by
 rw[take_succ_eq_append_getElem hk];simp only[append_assoc,singleton_append]
theorem D8(n:Nat)(hn:n=Z.length)(h:n<(Z++y::S).length):(Z++y::S)[n]'h=y:=by subst hn;simp
theorem D9(n:Nat)(hn:n=Z.length+1)(h:n<(Z++y::x::S).length):(Z++y::x::S)[n]'h=x:=by subst hn;simp[getElem_append_right]
theorem aaR(h:sM R l0 l a i j)(hj:a<j)(h1:j<l.length)(h0:j-1<l.length)(hr:R l[j] l[j-1]):sM R l0 ((l.set j l[j-1]).set (j-1) l[j]) a i (j-1):=by
 obtain⟨P,A,x,B,E,k,rfl,rfl,hk,rfl,rfl,hs,hx,hp,rfl⟩:=h;obtain⟨k,rfl⟩:∃m,k=m+1:=⟨k-1,by omega⟩
 have e:=Fx (P:=P) (B:=B) (x:=x) hk;have hl:(P++A.take k).length=P.length+k:=(by rw[length_append,length_take];omega)
 simp only[e] at hr ⊢;rw[D8 (P.length+(k+1)-1) w4,D9 (P.length+(k+1)) w4] at hr ⊢;refine⟨P,A,x,B,E,k,?_,rfl,by omega,by omega,rfl,hs,.inr ⟨hk,hr⟩,hp,rfl⟩;rw[set_comm _ _ w4,show P.length+(k+1)-1=(P++A.take k).length by omega,show P.length+(k+1)=(P++A.take k).length+1 by omega,IY];rw[show A.drop k=A[k]::A.drop (k+1) from drop_eq_getElem_cons hk];simp only[append_assoc,cons_append]
theorem acn(ht:∀{x y z:Int},R x y→R y z→R x z)(h:sM R l0 l a i j)(h1:j<l.length)(h0:j-1<l.length)(hr:j=a∨R l[j-1] l[j]):oH R l0 l a (i+1):=by
 obtain⟨P,A,x,B,E,k,rfl,rfl,hk,rfl,rfl,hs,hx,hp,rfl⟩:=h;refine⟨P,A.take k++x::A.drop k,B,E++[x],by simp,rfl,by simp;omega,Ua ht hs hk ?_ hx,?_,by simp⟩
 ·rcases Nat.eq_zero_or_pos k with rfl|hp
  ·exact .inl rfl
  right;obtain⟨k,rfl⟩:∃m,k=m+1:=⟨k-1,by omega⟩
  refine⟨by omega,?_⟩;rcases hr with hr|hr
  ·omega
  have e:=Fx (P:=P) (B:=B) (x:=x) hk;have hl:(P++A.take k).length=P.length+k:=(by rw[length_append,length_take];omega)
  simp only[e] at hr;rw[D8 (P.length+(k+1)-1) w4,D9 (P.length+(k+1)) w4] at hr;exact hr
 refine List.perm_middle.trans ?_;rw[take_append_drop];exact(Perm.cons x hp).trans (perm_append_singleton x E).symm
theorem aeh(h:sM R l0 l a i j)(hj:a<j)(h1:j<l.length)(h0:j-1<l.length)(hq:(l0.drop a).Pairwise Lt):Lt l[j-1] l[j]:=by
 obtain⟨P,A,x,B,E,k,rfl,rfl,hk,rfl,rfl,hs,hx,hp,rfl⟩:=h;obtain⟨k,rfl⟩:∃m,k=m+1:=⟨k-1,by omega⟩
 have e:=Fx (P:=P) (B:=B) (x:=x) hk;have hl:(P++A.take k).length=P.length+k:=(by rw[length_append,length_take];omega)
 simp only[e];rw[D8 (P.length+(k+1)-1) w4,D9 (P.length+(k+1)) w4];rw[drop_left' rfl,pairwise_append] at hq;exact hq.2.2 _ (hp.subset (getElem_mem hk)) x (mem_cons_self)
theorem sM.perm(h:sM R l0 l a i j):l.Perm l0:=by
 obtain⟨P,A,x,B,E,k,rfl,rfl,hk,rfl,rfl,hs,hx,hp,rfl⟩:=h;refine(perm_append_left_iff P).2 (List.perm_middle.trans ?_);rw[←append_assoc,take_append_drop];exact(Perm.cons x ((perm_append_right_iff B).2 hp)).trans List.perm_middle.symm
def Rc(cF:Int→Int→Int)(Lt:Int→Int→Prop)(x y:Int):Prop:=cF x y<0∨cF x y=0∧Lt x y
theorem Fc(h:cF y x<0):Rc cF Lt y x:=.inl h
theorem FF(ha:∀x y,0≤cF y x→cF x y≤0)(E:Lt x y)(h:¬cF y x<0):Rc cF Lt x y:=by
 have:=ha x y w4;unfold Rc;rcases Int.lt_or_eq_of_le this with q|q
 ·exact .inl q
 exact .inr ⟨q,E⟩
def Part(R:Int→Int→Prop)(l0 l:List Int)(a b:Nat):Prop:=∃(P M M0 Q:List Int),l=P++(M++Q)∧l0=P++(M0++Q)∧P.length=a∧a+M.length=b∧M.Perm M0∧M.Pairwise R
theorem oH.part{b:Nat}(h:oH R l0 l a b):Part R l0 l a b:=by
 obtain⟨P,A,B,E,h1,h2,h3,hs,hp,h4⟩:=h;exact⟨P,A,E,B,h1,h4,h2,h3,hp,hs⟩

end Go.Proofs.YtdgichenhdikgaaGreatDoor.So
namespace Go.Proofs.YtdgichenhdikgaaGreatDoor.So
open List
open Go.Proofs.Tryz
open Go.RowKit V Tw
variable {G:List (Nat×List Value)}
theorem U5(l:List Int)(U a b cap bd fc:Nat)(O:List D)(Z:List ah)(cF:Int→Int→Int)(V:Int→Prop)(Lt:Int→Int→Prop)(hV:∀x∈l,V x)(hc:∀x y,V x→V y→VC Tryz.prog G fc ([ae x,ae y]++O) Z (fun r S'=>r=ae (cF x y)∧S'=Z))(vu:∀args w,(callFunc fc args).run Tryz.prog w = .ok (.enter fc args) w)(ht:∀{x y z:Int},Rc cF Lt x y→Rc cF Lt y z→Rc cF Lt x z)(ha:∀x y,0≤cF y x→cF x y≤0)(hq:(l.drop a).Pairwise Lt)(h1:a≤b)(h2:b≤U)(gi:l.length=U)(pS:U≤cap)(ry:cap≤maxLen)(aqj:U<maxLen):VC Tryz.prog G 152 [aN (some ⟨bd,0,none⟩) U cap,ae (a:Nat),ae (b:Nat),.ez (.func fc) O] (⟨bd,3,cap*1,(l).flatMap cI⟩::Z) (fun r S'=>r = .dI []∧∃lz,Part (Rc cF Lt) l lz a b∧S'=⟨bd,3,cap*1,(lz).flatMap cI⟩::Z):=by
 refine VC.body func152 rfl ntmps152 aR fun X0 w0 aZ=>?_;have dm:=ec;refine af [0,1,2,3,8] ?_;refine eA [0,1,2,3] (fun aU _ (E:Nat×List Int) aH=>match E with|(i,cur)=>((i≤b→oH (Rc cF Lt) l cur a i))∧(a<i)∧((a<b→i≤b))∧((a=b→cur=l))∧((cur).length=U)∧aH=(⟨53,(8,ae (i:Nat))::aU,(⟨bd,3,cap*1,(cur).flatMap cI⟩::Z)⟩:St)) (fun (E:Nat×List Int)=>match E with|(i,cur)=>b-i) ((a+1),l) ⟨(fun q=>afk w4),(Nat.lt_succ_self _),(fun q=>q),(fun _=>rfl),gi,rfl⟩ ?_;rintro⟨i,cur⟩ _ ⟨hs,YZ,hib,qP,lg,rfl⟩;refine af [0,1,2,3,8,14] ?_;refine au ?_ ?_<;>intro aM bD
 ·have aa:i<b:=(by omega)
  refine af [0,1,2,3,8,9] ?_;refine eA [0,1,2,3,8] (fun aU _ (E:Nat×List Int) aH=>match E with|(j,lH)=>(sM (Rc cF Lt) l lH a i j)∧((lH).length=U)∧aH=(⟨53,(9,ae (j:Nat))::aU,(⟨bd,3,cap*1,(lH).flatMap cI⟩::Z)⟩:St)) (fun (E:Nat×List Int)=>match E with|(j,lH)=>j) (i,cur) ⟨(ab1 (hs w4) w4),lg,rfl⟩ ?_;rintro⟨j,lH⟩ _ ⟨hj,zD,rfl⟩;have l9:=hj.len;have qI:j<lH.length:=(by omega)
  have qH:j-1<lH.length:=(by omega)
  refine CD.seq ?_;refine CD.seq ?_;refine fR 14 (aq (take 1 _)) ?_ (fun _ h=>(Sublist.map _ (take_sublist _ _)).subset h);refine az 0 rfl bp ?_;refine az 1 rfl bp ?_;refine az 2 rfl mT ?_;refine az 3 rfl bp ?_;refine dD.split (t:=21) lk (fun qE=>?_) (fun qE=>?_)
  ·have I:=qE;(try simp only[V.nv,ne_eq] at I)
   refine az 4 rfl bp ?_;refine az 5 rfl bp ?_;refine az 6 rfl bp ?_;refine az 7 rfl (dF 1 (h:=by first|exact .l (j:=j) rfl w4|exact .r (j:=j) rfl w4)) ?_;refine az 8 rfl eT ?_;refine az 9 rfl bp ?_;refine az 10 rfl bp ?_;refine az 11 rfl (dj rfl ot bI (gj (r:=((j-1:Nat):Int)) (by rw[show((j:Int)-1)=((j-1:Nat):Int) by have vT:=of_decide_eq_true qE;omega];exact wrap_i64 (by have vT:=of_decide_eq_true qE;omega) w4))) ?_;refine az 12 rfl (dF 1 (h:=by first|exact .l (j:=j-1) rfl w4|exact .r (j:=j-1) rfl w4)) ?_;refine az 13 rfl eT ?_;refine dD.later rfl ?_;refine eH ?_;have Y0:∀x∈lH,V x:=fun x hx=>hV x (hj.perm.subset hx);refine OD.kv (f:=fc) (args:=[_,_]) (Sf:=Z) gW rfl rfl ot vu (hc _ _ (Y0 _ (getElem_mem qI)) (Y0 _ (getElem_mem qH))) rfl ⟨ot,ot,trivial⟩ (perm_append_singleton _ _).symm ?_;rintro _ S2 ⟨rfl,iE⟩;rw[iE];clear iE;refine OD.perm (perm_append_singleton _ _) ?_;refine an 53 [0,1,2,3,8,9,34] ?_;refine au ?_ ?_<;>intro aY cy
   ·have hja:a<j:=(by have q:=of_decide_eq_true qE;omega)
    have ag9:cF (lH[j]'qI) (lH[j-1]'qH)<0:=cy;refine CD.skip ?_;refine CD.seq ?_;refine CD.block ?_;refine fR 16 (aq (eraseIdx _ 0)) ?_ (fun _ h=>(Sublist.map _ (eraseIdx_sublist _ 0)).subset h);refine az 0 rfl bp ?_;refine az 1 rfl bp ?_;refine az 2 rfl bp ?_;refine az 3 rfl bp ?_;refine az 4 rfl (dj rfl ot bI (gj (r:=((j-1:Nat):Int)) MT)) ?_;refine az 5 rfl bp ?_;refine az 6 rfl bp ?_;refine az 7 rfl (dj rfl ot bI (gj (r:=((j-1:Nat):Int)) MT)) ?_;refine az 8 rfl (dF 1 (h:=by first|exact .l (j:=j-1) rfl w4|exact .r (j:=j-1) rfl w4)) ?_;refine az 10 rfl bp ?_;refine az 11 rfl bp ?_;refine az 12 rfl (dF 1 (h:=by first|exact .l (j:=j) rfl w4|exact .r (j:=j) rfl w4)) ?_;refine dD.later rfl ?_;refine AD.two (i:=9) (j:=13) aA ?_ ?_
    ·refine at_ rfl eT ?_;refine AD.one (i:=13) aA ?_;exact Xn
    refine at_ rfl eT ?_;refine AD.one (i:=9) aA ?_;exact Xn
   exact XE
  have I:=qE;(try simp only[V.nv,ne_eq] at I)
  refine mv 4 rfl ?_;refine mv 5 rfl ?_;refine mv 6 rfl ?_;refine mv 7 rfl ?_;refine mv 8 rfl ?_;refine mv 9 rfl ?_;refine mv 10 rfl ?_;refine mv 11 rfl ?_;refine mv 12 rfl ?_;refine mv 13 rfl ?_;refine dD.later rfl ?_;refine eH ?_;refine bg [0,1,2,3,8,9,34] ?_;refine fM ?_;exact XE
 have nq:oH (Rc cF Lt) l cur a b:=(Nat.eq_or_lt_of_le h1).elim (fun q=>by subst q;rw[qP rfl];exact Jm w4) (fun q=>(show i=b by omega) ▸ hs w4);refine aI _ ?_;exact⟨rfl,_,nq.part,rfl⟩

end Go.Proofs.YtdgichenhdikgaaGreatDoor.So
namespace Go.Proofs.YtdgichenhdikgaaGreatDoor.So
open List
open Go.Proofs.Tryz
variable {i:Nat}
def Mv(P B Q:List Int)(x:Int)(t:Nat):List Int:=P++(B.take t++x::(B.drop t++Q))
variable {P B Q:List Int} {x:Int} {t:Nat}
theorem FR(h:t≤B.length):(Mv P B Q x t).length=P.length+(B.length+1+Q.length):=by
 unfold Mv;simp only[length_append,length_cons,length_take,length_drop];omega
theorem Fy(h:t<B.length):Mv P B Q x t=(P++B.take t)++x::B[t]::(B.drop (t+1)++Q):=by
 unfold Mv;rw[drop_eq_getElem_cons h];simp only[append_assoc,cons_append]
theorem Fz(h:t<B.length):Mv P B Q x (t+1)=(P++B.take t)++B[t]::x::(B.drop (t+1)++Q):=Fx h
theorem zB(h:t<B.length):(P++B.take t).length=P.length+t:=by rw[length_append,length_take];omega
theorem agN(h:t<B.length)(h0:P.length+t<(Mv P B Q x t).length):(Mv P B Q x t)[P.length+t]=x:=by
 simp only[Fy h];rw[D8 _ (zB h).symm]
theorem afl(h:t<B.length)(h0:P.length+t+1<(Mv P B Q x t).length):(Mv P B Q x t)[P.length+t+1]=B[t]:=by
 simp only[Fy h];rw[D9 _ (by rw[zB h])]
theorem adM(h:t<B.length):((Mv P B Q x t).set (P.length+t) B[t]).set (P.length+t+1) x=Mv P B Q x (t+1):=by
 rw[Fy h,Fz h,←zB (P:=P) h,IY]
theorem afm(h:t<B.length):((Mv P B Q x (t+1)).set (P.length+t+1) B[t]).set (P.length+t) x=Mv P B Q x t:=by
 rw[Fy h,Fz h,←zB (P:=P) h,set_comm _ _ w4,IY]

variable {R Lt:Int→Int→Prop} {l l1 l2 l3:List Int} {a s m e b mid:Nat}
theorem Uc(ht:∀{x y z:Int},R x y→R y z→R x z){P B Q:List Int}{x:Int}{s t:Nat}(E:B.Pairwise R)(hs:s≤B.length)(hk:t≤B.length)(h1:t=0∨∃h:t-1<B.length,R B[t-1] x)(h2:t=B.length∨∃h:t<B.length,R x B[t]) :
  Part R (Mv P B Q x s) (Mv P B Q x t) P.length (P.length+(B.length+1)):=by
 have hp:∀t,(B.take t++x::B.drop t).Perm (x::B):=fun t=>List.perm_middle.trans (by rw[take_append_drop]);refine⟨P,B.take t++x::B.drop t,B.take s++x::B.drop s,Q,by unfold Mv;simp,by unfold Mv;simp,rfl,?_,(hp t).trans (hp s).symm,Ua ht E hk h1 h2⟩;have:=(hp t).length_eq;simp only[length_cons] at this;rw[this]
def qi(R Lt:Int→Int→Prop)(l:List Int)(a m b:Nat):Prop:=∃(P A B Q:List Int),l=P++(A++(B++Q))∧P.length=a∧a+A.length=m∧m+B.length=b∧A.Pairwise R∧B.Pairwise R∧∀x∈A,∀y∈B,Lt x y
theorem qi.len(h:qi R Lt l a m b):a≤m∧m≤b∧b≤l.length:=by
 obtain⟨P,A,B,Q,rfl,rfl,rfl,rfl,_⟩:=h;simp only[length_append];omega
theorem qi.lt(h:qi R Lt l a m b){j:Nat}(h1:a≤i)(h2:i<m)(h3:m≤j)(h4:j<b)(hi:i<l.length)(hj:j<l.length):Lt l[i] l[j]:=by
 obtain⟨P,A,B,Q,rfl,rfl,rfl,rfl,_,_,h⟩:=h;refine h _ ?_ _ ?_
 ·rw[getElem_append_right h1,getElem_append_left w4];exact getElem_mem _
 rw[getElem_append_right w4,getElem_append_right w4,getElem_append_left w4];exact getElem_mem _
theorem QD{P M Q:List Int}(h:M.Pairwise R):Part R (P++(M++Q)) (P++(M++Q)) P.length (P.length+M.length):=⟨P,M,M,Q,rfl,rfl,rfl,rfl,.refl _,h⟩
theorem Sn{P E Q:List Int}{x y:Nat}(h:Part R (P++(E++Q)) l x y)(hx:x=P.length)(hy:y=P.length+E.length):∃M,l=P++(M++Q)∧M.Perm E∧M.Pairwise R:=by
 obtain⟨P',M,U,Q',h1,h2,h3,h4,h5,h6⟩:=h;have hl:=h5.length_eq;obtain⟨e1,e2⟩:=append_inj h2 w4;obtain⟨I,O⟩:=append_inj e2 w4;subst e1 I O;exact⟨M,h1,h5,h6⟩
def uh(R Lt:Int→Int→Prop)(l l1:List Int)(a s m e b mid:Nat):Prop:=∃(P A1 A2 B1 B2 Q:List Int),l=P++(A1++(A2++(B1++(B2++Q))))∧l1=P++(A1++(B1++(A2++(B2++Q))))∧P.length=a∧a+A1.length=s∧s+A2.length=m∧m+B1.length=e∧e+B2.length=b∧s+B1.length=mid ∧
 A1.Pairwise R∧A2.Pairwise R∧B1.Pairwise R∧B2.Pairwise R∧(∀x∈A1,∀y∈B1,Lt x y)∧(∀x∈A2,∀y∈B2,Lt x y)∧∀x∈A1++B1,∀y∈A2++B2,R x y
theorem afn (ht:∀{x y z:Int},R x y→R y z→R x z) (h:qi R Lt l a m b) (h1:a≤s) (h2:s≤m) (h3:m≤e) (h4:e≤b) (hm:s+(e-m)=mid)
  (k1:s=a∨e=b∨∃(p:s-1<l.length) (q:e<l.length),R l[s-1] l[e]) (k2:e=m∨s=m∨∃(p:e-1<l.length) (q:s<l.length),R l[e-1] l[s]):∃l1,uh R Lt l l1 a s m e b mid∧rQ l1 l m (m-s) (e-m):=by
 obtain⟨P,A,B,Q,rfl,rfl,rfl,rfl,hA,hB,aa⟩:=h;obtain⟨i,rfl⟩:∃i,s=P.length+i:=⟨s-P.length,by omega⟩
 obtain⟨j,rfl⟩:∃j,e=P.length+A.length+j:=⟨e-(P.length+A.length),by omega⟩
 have E:∀k (h:k<A.length) (q:P.length+k<(P++(A++(B++Q))).length),(P++(A++(B++Q)))[P.length+k]=A[k]:=fun k h q=>by
  rw[getElem_append_right w4,getElem_append_left w4];simp
 have I:∀k (h:k<B.length) (q:P.length+A.length+k<(P++(A++(B++Q))).length),(P++(A++(B++Q)))[P.length+A.length+k]=B[k]:=fun k h q=>by
  rw[getElem_append_right w4,getElem_append_right w4,getElem_append_left w4];congr 1;omega
 have hc:=ab0 (R:=R) ht hA hB (i:=i) (j:=j) w4 w4 (by
  rcases Nat.eq_zero_or_pos i with q|q
  ·exact .inl q
  rcases k1 with k1|k1|⟨p1,p2,k1⟩
  ·omega
  ·exact .inr (.inl w4)
  ·rcases Nat.lt_or_ge j B.length with q2|q2
   ·refine .inr (.inr ⟨by omega,q2,?_⟩);have e1:=E (i-1) w4 w4;simp only[show P.length+i-1=P.length+(i-1) by omega] at k1;rw[e1,I j q2] at k1;exact k1
   exact .inr (.inl w4)) (by
  rcases Nat.eq_zero_or_pos j with q|q
  ·exact .inl q
  rcases k2 with k2|k2|⟨p1,p2,k2⟩
  ·omega
  ·exact .inr (.inl w4)
  rcases Nat.lt_or_ge i A.length with q2|q2
  ·refine .inr (.inr ⟨by omega,q2,?_⟩);have e1:=I (j-1) w4 w4;simp only[show P.length+A.length+j-1=P.length+A.length+(j-1) by omega] at k2;rw[e1,E i q2] at k2;exact k2
  exact .inr (.inl w4))
 have la1:(A.take i).length=i:=(by rw[length_take];omega)
 have lb1:(B.take j).length=j:=(by rw[length_take];omega)
 have la2:(A.drop i).length=A.length-i:=length_drop;have lb2:(B.drop j).length=B.length-j:=length_drop;have O:A.take i++A.drop i=A:=take_append_drop ..;have U:B.take j++B.drop j=B:=take_append_drop ..;have Z:(A.take i++A.drop i).Pairwise R:=(by rw[O];exact hA)
 have pb:(B.take j++B.drop j).Pairwise R:=(by rw[U];exact hB)
 have ea:A++(B++Q)=A.take i++(A.drop i++(B.take j++(B.drop j++Q))):=(by rw[←append_assoc (A.take i),O,←append_assoc (B.take j),U])
 refine⟨P++(A.take i++(B.take j++(A.drop i++(B.drop j++Q)))),⟨P,A.take i,A.drop i,B.take j,B.drop j,Q,by rw[ea],rfl,rfl,by omega,by omega,by omega,by omega,by omega,(pairwise_append.1 Z).1,(pairwise_append.1 Z).2.1,(pairwise_append.1 pb).1,(pairwise_append.1 pb).2.1,fun x hx y hy=>aa x (mem_of_mem_take hx) y (mem_of_mem_take hy),fun x hx y hy=>aa x (mem_of_mem_drop hx) y (mem_of_mem_drop hy),hc⟩,
  P++A.take i,A.drop i,B.take j,B.drop j++Q,by rw[ea];simp,by omega,by omega,by rw[length_append];omega,by simp⟩
theorem uh.perm(h:uh R Lt l l1 a s m e b mid):l1.Perm l:=by
 obtain⟨P,E,I,O,B2,Q,rfl,rfl,_⟩:=h;refine Perm.append_left P (Perm.append_left E ?_);rw[←append_assoc O,←append_assoc I];exact List.perm_append_comm.append_right _
theorem afo(h:uh R Lt l l1 a s m e b mid):qi R Lt l1 a s mid:=by
 obtain⟨P,E,I,O,B2,Q,rfl,rfl,e1,e2,Z,e4,e5,U,p1,p2,p3,p4,q1,q2,q3⟩:=h;exact⟨P,E,O,I++(B2++Q),rfl,e1,e2,U,p1,p3,q1⟩
theorem Ss(h:uh R Lt l l1 a s m e b mid)(hn:¬(a<s∧s<mid)):Part R l1 l1 a mid:=by
 obtain⟨P,E,O,I,B2,Q,rfl,rfl,rfl,e2,U,Z,e5,e6,p1,p2,p3,p4,q1,q2,q3⟩:=h;have:(E++I).Pairwise R:=by
  rcases Nat.eq_zero_or_pos E.length with h|h
  ·rw[length_eq_zero_iff.1 h];exact p3
  rw[length_eq_zero_iff.1 (show I.length=0 by omega),append_nil];exact p1
 have:=QD (P:=P) (Q:=O++(B2++Q)) this;rw[append_assoc,length_append] at this;rwa [show P.length+(E.length+I.length)=mid by omega] at this
theorem Kh(h:uh R Lt l l1 a s m e b mid)(k:Part R l1 l2 a mid):∃(P I E O B2 Q M:List Int),l=P++(I++(E++(O++(B2++Q))))∧l2=P++(M++(E++(B2++Q)))∧P.length=a∧M.length+a=mid∧M.Perm (I++O)∧mid+E.length=e∧e+B2.length=b∧M.Pairwise R∧E.Pairwise R∧B2.Pairwise R∧(∀x∈E,∀y∈B2,Lt x y)∧∀x∈M,∀y∈E++B2,R x y:=by
 obtain⟨P,I,E,O,B2,Q,rfl,rfl,rfl,e2,U,Z,e5,e6,p1,p2,p3,p4,q1,q2,q3⟩:=h;rw[←append_assoc I] at k;obtain⟨M,h1,h2,h3⟩:=Sn k rfl vD;have:=h2.length_eq;rw[length_append] at this;exact⟨P,I,E,O,B2,Q,M,rfl,h1,rfl,by omega,h2,by omega,by omega,h3,p2,p4,q2,fun x hx=>q3 x (h2.subset hx)⟩
theorem adN(h:uh R Lt l l1 a s m e b mid)(k:Part R l1 l2 a mid):qi R Lt l2 mid e b:=by
 obtain⟨P,I,E,O,B2,Q,M,rfl,rfl,rfl,e1,e2,U,Z,p1,p2,p3,q1,q2⟩:=Kh h k;exact⟨P++M,E,B2,Q,by simp,by rw[length_append];omega,by omega,by omega,p2,p3,q1⟩
theorem PM(h:uh R Lt l l1 a s m e b mid)(k:Part R l1 l2 a mid)(hn:¬(mid<e∧e<b)):Part R l2 l2 mid b:=by
 obtain⟨P,I,E,O,B2,Q,M,rfl,rfl,rfl,e1,e2,U,Z,p1,p2,p3,q1,q2⟩:=Kh h k;have:(E++B2).Pairwise R:=by
  rcases Nat.eq_zero_or_pos E.length with h|h
  ·rw[length_eq_zero_iff.1 h];exact p3
  rw[length_eq_zero_iff.1 (show B2.length=0 by omega),append_nil];exact p2
 have:=QD (P:=P++M) (Q:=Q) this;rw[append_assoc,length_append,length_append,append_assoc] at this;rwa [show P.length+M.length+(E.length+B2.length)=b by omega,show P.length+M.length=mid by omega] at this
theorem Ff(h:uh R Lt l l1 a s m e b mid)(k:Part R l1 l2 a mid)(j:Part R l2 l3 mid b):Part R l l3 a b:=by
 obtain⟨P,E,I,O,B2,Q,M,rfl,rfl,rfl,e1,e2,Z,e4,p1,p2,p3,q1,q2⟩:=Kh h k;rw[←append_assoc I,←append_assoc P] at j;obtain⟨U,h1,h2,h3⟩:=Sn j vD (by rw[length_append,length_append];omega);have hl:=e2.length_eq;have iO:=h2.length_eq;rw[length_append] at hl iO;refine⟨P,M++U,E++(I++(O++B2)),Q,by rw[h1];simp,by simp,rfl,by rw[length_append];omega,?_,pairwise_append.2 ⟨p1,h3,fun x hx y hy=>q2 x hx y (h2.subset hy)⟩⟩;refine(e2.append h2).trans ?_;rw[append_assoc E];refine Perm.append_left E ?_;rw[←append_assoc O,←append_assoc I];exact List.perm_append_comm.append_right B2
theorem Part.perm(h:Part R l l1 a b):l1.Perm l:=by
 obtain⟨P,M,E,Q,rfl,rfl,_,_,hp,_⟩:=h;exact(hp.append_right Q).append_left P
theorem Part.len(h:Part R l l1 a b):l1.length=l.length:=h.perm.length_eq
theorem aco{T cur:List Int}{j:Nat}(h:rQ T cur m i j)(hz:i=0∨j=0):T=cur:=by
 obtain⟨P,X,Y,Q,rfl,rfl,rfl,hm,rfl⟩:=h;rcases hz with h|h
 ·rw[length_eq_zero_iff.1 h];rfl
 rw[length_eq_zero_iff.1 h];rfl
theorem adO(ht:∀{x y z:Int},R x y→R y z→R x z)(h:qi R Lt l a m b)(hm:m=a+1)(h1:m≤i)(h2:i≤b)(k1:i=m∨∃(p:i-1<l.length) (q:a<l.length),R l[i-1] l[a])(k2:i=b∨∃(p:a<l.length) (q:i<l.length),R l[a] l[i]) :
  ∃(P B Q:List Int) (x:Int),P.length=a∧l=Mv P B Q x 0∧i-m≤B.length∧m+B.length=b∧Part R l (Mv P B Q x (i-m)) a b:=by
 obtain⟨P,A,B,Q,rfl,rfl,rfl,rfl,hA,hB,aa⟩:=h;obtain⟨x,rfl⟩:=length_eq_one_iff.1 (show A.length=1 by omega);have E:∀(q:P.length<(P++([x]++(B++Q))).length),(P++([x]++(B++Q)))[P.length]=x:=fun q=>by rw[getElem_append_right w4];simp
 have I:∀k (h:k<B.length) (q:P.length+1+k<(P++([x]++(B++Q))).length),(P++([x]++(B++Q)))[P.length+1+k]=B[k]:=fun k h q=>by
  rw[getElem_append_right w4,getElem_append_right iq,getElem_append_left iq];simp only[length_singleton];congr 1;omega
 have j7:([x]:List Int).length=1:=rfl;rw[j7] at *;obtain⟨t,rfl⟩:∃t,i=P.length+1+t:=⟨i-(P.length+1),by omega⟩
 rw[show P.length+1+t-(P.length+1)=t by omega];have hp:=Uc (R:=R) (P:=P) (B:=B) (Q:=Q) (x:=x) (s:=0) (t:=t) ht hB (Nat.zero_le _) w4 (by
  rcases Nat.eq_zero_or_pos t with q|q
  ·exact .inl q
  rcases k1 with k1|⟨p1,p2,k1⟩
  ·omega
  ·refine .inr ⟨by omega,?_⟩;have e1:=I (t-1) w4 w4;simp only[show P.length+1+t-1=P.length+1+(t-1) by omega] at k1;rw[E,e1] at k1;exact k1) (by
  rcases k2 with k2|⟨p1,p2,k2⟩
  ·exact .inl w4
  rcases Nat.lt_or_ge t B.length with q|q
  ·exact .inr ⟨q,by rw[E,I t q] at k2;exact k2⟩
  exact .inl w4)
 refine⟨P,B,Q,x,rfl,rfl,by omega,rfl,?_⟩;rw[show P.length+(B.length+1)=P.length+1+B.length by omega] at hp;exact hp
theorem ab2(ht:∀{x y z:Int},R x y→R y z→R x z)(h:qi R Lt l a m b)(hm:b=m+1)(h1:a≤i)(h2:i≤m)(k1:i=a∨∃(p:i-1<l.length) (q:m<l.length),R l[i-1] l[m])(k2:i=m∨∃(p:m<l.length) (q:i<l.length),R l[m] l[i]) :
  ∃(P B Q:List Int) (x:Int),P.length=a∧l=Mv P B Q x (m-a)∧i-a≤B.length∧a+B.length=m∧Part R l (Mv P B Q x (i-a)) a b:=by
 obtain⟨P,A,B,Q,rfl,rfl,rfl,rfl,hA,hB,aa⟩:=h;obtain⟨x,rfl⟩:=length_eq_one_iff.1 (show B.length=1 by omega);have E:∀(q:P.length+A.length<(P++(A++([x]++Q))).length),(P++(A++([x]++Q)))[P.length+A.length]=x:=fun q=>by
  rw[getElem_append_right w4,getElem_append_right w4];simp
 have I:∀k (h:k<A.length) (q:P.length+k<(P++(A++([x]++Q))).length),(P++(A++([x]++Q)))[P.length+k]=A[k]:=fun k h q=>by
  rw[getElem_append_right w4,getElem_append_left w4];simp
 have j7:([x]:List Int).length=1:=rfl;rw[j7] at *;obtain⟨t,rfl⟩:∃t,i=P.length+t:=⟨i-P.length,by omega⟩
 rw[show P.length+t-P.length=t by omega,show P.length+A.length-P.length=A.length by omega];have he:P++(A++([x]++Q))=Mv P A Q x A.length:=(by unfold Mv;simp)
 have hp:=Uc (R:=R) (P:=P) (B:=A) (Q:=Q) (x:=x) (s:=A.length) (t:=t) ht hA (Nat.le_refl _) w4 (by
  rcases Nat.eq_zero_or_pos t with q|q
  ·exact .inl q
  rcases k1 with k1|⟨p1,p2,k1⟩
  ·omega
  ·refine .inr ⟨by omega,?_⟩;have e1:=I (t-1) w4 w4;simp only[show P.length+t-1=P.length+(t-1) by omega] at k1;rw[E,e1] at k1;exact k1) (by
  rcases k2 with k2|⟨p1,p2,k2⟩
  ·exact .inl w4
  rcases Nat.lt_or_ge t A.length with q|q
  ·exact .inr ⟨q,by rw[E,I t q] at k2;exact k2⟩
  exact .inl w4)
 refine⟨P,A,Q,x,rfl,he,by omega,rfl,?_⟩;rw[he,show P.length+A.length+1=P.length+(A.length+1) by omega];exact hp
theorem adP(h:t<B.length)(h0:P.length+t<(Mv P B Q x (t+1)).length):(Mv P B Q x (t+1))[P.length+t]=B[t]:=by
 simp only[Fz h];rw[D8 _ (zB h).symm]
theorem adQ(h:t<B.length)(h0:P.length+t+1<(Mv P B Q x (t+1)).length):(Mv P B Q x (t+1))[P.length+t+1]=x:=by
 simp only[Fz h];rw[D9 _ (by rw[zB h])]
theorem afP(h:t<B.length)(ha:P.length=a)(h0:a+t<(Mv P B Q x t).length)(h1:a+t+1<(Mv P B Q x t).length):((Mv P B Q x t).set (a+t) (Mv P B Q x t)[a+t+1]).set (a+t+1) (Mv P B Q x t)[a+t]=Mv P B Q x (t+1):=by
 subst ha;rw[afl h,agN h,adM h]
theorem afO(h:t<B.length)(ha:P.length=a)(h0:a+t<(Mv P B Q x (t+1)).length)(h1:a+t+1<(Mv P B Q x (t+1)).length):((Mv P B Q x (t+1)).set (a+t+1) (Mv P B Q x (t+1))[a+t]).set (a+t) (Mv P B Q x (t+1))[a+t+1]=Mv P B Q x t:=by
 subst ha;rw[adP h,adQ h,afm h]

end Go.Proofs.YtdgichenhdikgaaGreatDoor.So
namespace Go.Proofs.YtdgichenhdikgaaGreatDoor.So
open List
open Go.Proofs.Tryz
open Go.RowKit V Tw
variable {G:List (Nat×List Value)}
theorem adR(ln cap O fc:Nat)(U:List D)(I:List ah)(cF:Int→Int→Int)(V:Int→Prop)(Lt:Int→Int→Prop)(hc:∀x y,V x→V y→VC Tryz.prog G fc ([ae x,ae y]++U) I (fun r S'=>r=ae (cF x y)∧S'=I))(Z:∀args w,(callFunc fc args).run Tryz.prog w = .ok (.enter fc args) w)(ht:∀{x y z:Int},Rc cF Lt x y→Rc cF Lt y z→Rc cF Lt x z)(ha:∀x y,0≤cF y x→cF x y≤0)(pS:ln≤cap)(ry:cap≤maxLen)(nx:ln≤1000000)(n:Nat)(ih:∀k,k<n→∀(l:List Int) (a m b:Nat),b-a=k→qi (Rc cF Lt) Lt l a m b→a<m→m<b→l.length=ln→(∀x∈l,V x)→VC Tryz.prog G 153 [aN (some ⟨O,0,none⟩) ln cap,ae (a:Nat),ae (m:Nat),ae (b:Nat),.ez (.func fc) U] (⟨O,3,cap*1,(l).flatMap cI⟩::I) (fun r S'=>r = .dI []∧∃lz,Part (Rc cF Lt) l lz a b∧S'=⟨O,3,cap*1,(lz).flatMap cI⟩::I))(l:List Int)(a m b:Nat)(hn:b-a=n)(h:qi (Rc cF Lt) Lt l a m b)(h1:a<m)(h2:m<b)(gi:l.length=ln)(hV:∀x∈l,V x):VC Tryz.prog G 153 [aN (some ⟨O,0,none⟩) ln cap,ae (a:Nat),ae (m:Nat),ae (b:Nat),.ez (.func fc) U] (⟨O,3,cap*1,(l).flatMap cI⟩::I) (fun r S'=>r = .dI []∧∃lz,Part (Rc cF Lt) l lz a b∧S'=⟨O,3,cap*1,(lz).flatMap cI⟩::I):=by
 refine VC.body func153 rfl ntmps153 aR fun X0 w0 aZ=>?_;have dm:=ec;have hlen:=h.len;refine cZ [0,1,2,3,4,28] ?_;refine aS 2 ?_ (h:=by exact(dj rfl ot ot (gj (r:=((m-a:Nat):Int)) qG)));refine bG ?_;refine au ?_ ?_<;>intro aM bD
 ·have DC:m=a+1:=(by omega)
  refine af [0,1,3,4,10] ?_;refine af [0,1,4,10,11] ?_;refine eA [0,1,4] (fun aU _ (E:Nat×Nat) aH=>match E with|(i,j)=>(m≤i)∧(i≤j)∧(j≤b)∧((i=m∨∃(p:i-1<l.length) (q:a<l.length),(Rc cF Lt) l[i-1] l[a]))∧((j=b∨∃(p:a<l.length) (q:j<l.length),(Rc cF Lt) l[a] l[j]))∧aH=(⟨220,(10,ae (i:Nat))::(11,ae (j:Nat))::aU,(⟨O,3,cap*1,(l).flatMap cI⟩::I)⟩:St)) (fun (E:Nat×Nat)=>match E with|(i,j)=>j-i) (m,b) ⟨(Nat.le_refl _),w4,(Nat.le_refl _),(.inl rfl),(.inl rfl),rfl⟩ ?_;rintro⟨i,j⟩ _ ⟨mC,YQ,hjb,dP,fB,rfl⟩;refine af [0,1,4,10,11,33] ?_;refine au ?_ ?_<;>intro aY cy
  ·have hh:i<j:=(by omega)
   have hH:((i+j)/2)<l.length:=(by omega)
   have hA:a<l.length:=(by omega)
   refine cZ [0,1,4,10,11,12] ?_;refine aS 2 ?_ (h:=by exact(dj rfl ot ot (kr (r:=((i+j:Nat):Int)) Ak)));refine aS 0 ?_ (h:=by exact(oK rfl ot (oL (r:=((i+j:Nat):Int)) runUnderlying3 runUnderlying231 (IntWalk.u64_in _ w4))));refine aS 0 ?_ (h:=by exact(dj rfl ot bI (y4 w7 B5)));refine aS 0 ?_ (h:=by exact(oK rfl ot (oL (r:=((((i+j)/2):Nat):Int)) runUnderlying231 runUnderlying3 (wrap_i64 w4 w4))));refine bG ?_;refine CD.seq ?_;refine fR 9 (aq (take 1 _)) ?_ (fun _ h=>(Sublist.map _ (take_sublist _ _)).subset h);refine az 0 rfl bp ?_;refine az 1 rfl bp ?_;refine az 2 rfl bp ?_;refine az 3 rfl (dF 1 (h:=by first|exact .l (j:=((i+j)/2)) rfl w4|exact .r (j:=((i+j)/2)) rfl w4)) ?_;refine az 4 rfl eT ?_;refine az 5 rfl bp ?_;refine az 6 rfl bp ?_;refine az 7 rfl (dF 1 (h:=by first|exact .l (j:=a) rfl w4|exact .r (j:=a) rfl w4)) ?_;refine az 8 rfl eT ?_;refine dD.later rfl ?_;refine eH ?_;refine OD.kv (f:=fc) (args:=[_,_]) (Sf:=I) ap rfl rfl ot Z (hc _ _ (hV _ (getElem_mem hH)) (hV _ (getElem_mem hA))) rfl ⟨ot,ot,trivial⟩ (perm_append_singleton _ _).symm ?_;rintro _ S2 ⟨rfl,iE⟩;rw[iE];clear iE;refine OD.perm (perm_append_singleton _ _) ?_;refine an 220 [0,1,4,10,11,12,50] ?_;refine au ?_ ?_<;>intro bZ cN
   ·have xM:(Rc cF Lt) (l[((i+j)/2)]'hH) (l[a]'hA):=Fc cN;refine cm [0,1,4,10,11] ?_;exact VT
   have Ay:(Rc cF Lt) (l[a]'hA) (l[((i+j)/2)]'hH):=FF ha (h.lt (Nat.le_refl _) w4 w4 w4 hA hH) w4;refine cm [0,1,4,10,11] ?_;exact z107
  obtain rfl:i=j:=(by omega)
  obtain⟨P,B,Q,x,hP,hl,hiB,hB,KT⟩:=adO (R:=Rc cF Lt) (l:=l) (a:=a) (m:=m) (b:=b) (i:=i) ht h DC mC hjb dP fB;subst hl;have me:∀t,t≤B.length→(Mv P B Q x (t)).length=ln:=fun t ht=>by rw[FR ht,←gi,FR (Nat.zero_le _)]
  refine af [0,10,13] ?_;refine eA [0,10] (fun aU _ (t:Nat) aH=>(t≤i-m)∧aH=(⟨220,(13,ae (a+t:Nat))::aU,(⟨O,3,cap*1,(Mv P B Q x (t)).flatMap cI⟩::I)⟩:St)) (fun (t:Nat)=>i-m-t) 0 ⟨(Nat.zero_le _),rfl⟩ ?_;rintro t _ ⟨hti,rfl⟩;refine cZ [0,10,13,58] ?_;refine aS 2 ?_ (h:=by exact(dj rfl ot bI (gj (r:=((i-1:Nat):Int)) (by rw[show(((i:Nat):Int)-1)=((i-1:Nat):Int) by omega];exact wrap_i64 w4 w4))));refine bG ?_;refine au ?_ ?_<;>intro cX en
  ·have Nb:t<B.length:=(by omega)
   have oV:=me t w4;refine CD.skip ?_;refine CD.seq ?_;refine CD.block ?_;refine fR 16 (aq (eraseIdx _ 0)) ?_ (fun _ h=>(Sublist.map _ (eraseIdx_sublist _ 0)).subset h);refine az 0 rfl bp ?_;refine az 1 rfl bp ?_;refine az 2 rfl bp ?_;refine az 3 rfl bp ?_;refine az 4 rfl (dj rfl ot bI (kr (r:=((a+t+1:Nat):Int)) (by rw[show(((a+t:Nat):Int)+1)=((a+t+1:Nat):Int) by omega];exact wrap_i64 w4 w4))) ?_;refine az 5 rfl bp ?_;refine az 6 rfl bp ?_;refine az 7 rfl (dj rfl ot bI (kr (r:=((a+t+1:Nat):Int)) (by rw[show(((a+t:Nat):Int)+1)=((a+t+1:Nat):Int) by omega];exact wrap_i64 w4 w4))) ?_;refine az 8 rfl (dF 1 (h:=by first|exact .l (j:=a+t+1) rfl w4|exact .r (j:=a+t+1) rfl w4)) ?_;refine az 10 rfl bp ?_;refine az 11 rfl bp ?_;refine az 12 rfl (dF 1 (h:=by first|exact .l (j:=a+t) rfl w4|exact .r (j:=a+t) rfl w4)) ?_;refine dD.later rfl ?_;refine AD.two (i:=9) (j:=13) aA ?_ ?_
   ·refine at_ rfl eT ?_;refine AD.one (i:=13) aA ?_;exact Xm
   refine at_ rfl eT ?_;refine AD.one (i:=9) aA ?_;exact Xm
  obtain rfl:t=i-m:=(by omega)
  exact Hi
 refine cZ [0,1,2,3,4,80] ?_;refine aS 2 ?_ (h:=by exact(dj rfl ot ot (gj (r:=((b-m:Nat):Int)) qG)));refine bG ?_;refine au ?_ ?_<;>intro er fq
 ·have DC:b=m+1:=(by omega)
  refine af [0,2,4,14] ?_;refine af [0,2,4,14,15] ?_;refine eA [0,2,4] (fun aU _ (E:Nat×Nat) aH=>match E with|(i,j)=>(a≤i)∧(i≤j)∧(j≤m)∧((i=a∨∃(p:i-1<l.length) (q:m<l.length),(Rc cF Lt) l[i-1] l[m]))∧((j=m∨∃(p:m<l.length) (q:j<l.length),(Rc cF Lt) l[m] l[j]))∧aH=(⟨220,(14,ae (i:Nat))::(15,ae (j:Nat))::aU,(⟨O,3,cap*1,(l).flatMap cI⟩::I)⟩:St)) (fun (E:Nat×Nat)=>match E with|(i,j)=>j-i) (a,m) ⟨(Nat.le_refl _),w4,(Nat.le_refl _),(.inl rfl),(.inl rfl),rfl⟩ ?_;rintro⟨i,j⟩ _ ⟨YZ,YQ,NI,dP,fB,rfl⟩;refine af [0,2,4,14,15,85] ?_;refine au ?_ ?_<;>intro fx gG
  ·have hh:i<j:=(by omega)
   have hH:((i+j)/2)<l.length:=(by omega)
   have hM:m<l.length:=(by omega)
   refine cZ [0,2,4,14,15,16] ?_;refine aS 2 ?_ (h:=by exact(dj rfl ot ot (kr (r:=((i+j:Nat):Int)) Ak)));refine aS 0 ?_ (h:=by exact(oK rfl ot (oL (r:=((i+j:Nat):Int)) runUnderlying3 runUnderlying231 (IntWalk.u64_in _ w4))));refine aS 0 ?_ (h:=by exact(dj rfl ot bI (y4 w7 B5)));refine aS 0 ?_ (h:=by exact(oK rfl ot (oL (r:=((((i+j)/2):Nat):Int)) runUnderlying231 runUnderlying3 (wrap_i64 w4 w4))));refine bG ?_;refine CD.seq ?_;refine fR 9 (aq (take 1 _)) ?_ (fun _ h=>(Sublist.map _ (take_sublist _ _)).subset h);refine az 0 rfl bp ?_;refine az 1 rfl bp ?_;refine az 2 rfl bp ?_;refine az 3 rfl (dF 1 (h:=by first|exact .l (j:=m) rfl w4|exact .r (j:=m) rfl w4)) ?_;refine az 4 rfl eT ?_;refine az 5 rfl bp ?_;refine az 6 rfl bp ?_;refine az 7 rfl (dF 1 (h:=by first|exact .l (j:=((i+j)/2)) rfl w4|exact .r (j:=((i+j)/2)) rfl w4)) ?_;refine az 8 rfl eT ?_;refine dD.later rfl ?_;refine eH ?_;refine OD.kv (f:=fc) (args:=[_,_]) (Sf:=I) ap rfl rfl ot Z (hc _ _ (hV _ (getElem_mem hM)) (hV _ (getElem_mem hH))) rfl ⟨ot,ot,trivial⟩ (perm_append_singleton _ _).symm ?_;rintro _ S2 ⟨rfl,iE⟩;rw[iE];clear iE;refine OD.perm (perm_append_singleton _ _) ?_;refine an 220 [0,2,4,14,15,16,103] ?_;refine au ?_ ?_<;>intro gU kU
   ·have xM:(Rc cF Lt) (l[((i+j)/2)]'hH) (l[m]'hM):=FF ha (h.lt w4 w4 (Nat.le_refl _) w4 hH hM) w4;refine cm [0,2,4,14,15] ?_;exact VT
   have Ay:(Rc cF Lt) (l[m]'hM) (l[((i+j)/2)]'hH):=Fc kU;refine cm [0,2,4,14,15] ?_;exact z107
  obtain rfl:i=j:=(by omega)
  obtain⟨P,B,Q,x,hP,hl,hiB,hB,KT⟩:=ab2 (R:=Rc cF Lt) (l:=l) (a:=a) (m:=m) (b:=b) (i:=i) ht h DC YZ NI dP fB;subst hl;have me:∀t,t≤B.length→(Mv P B Q x (t)).length=ln:=fun t ht=>by rw[FR ht,←gi,FR w4]
  refine af [0,14,17] ?_;refine eA [0,14] (fun aU _ (t:Nat) aH=>(i-a≤t)∧(t≤m-a)∧aH=(⟨220,(17,ae (a+t:Nat))::aU,(⟨O,3,cap*1,(Mv P B Q x (t)).flatMap cI⟩::I)⟩:St)) (fun (t:Nat)=>t) (m-a) ⟨w4,(Nat.le_refl _),rfl⟩ ?_;rintro t _ ⟨hti,htm,rfl⟩;refine af [0,14,17,110] ?_;refine au ?_ ?_<;>intro gq lA
  ·obtain⟨t,rfl⟩:∃k,t=k+1:=⟨t-1,by omega⟩
   have Nb:t<B.length:=(by omega)
   have oV:=me (t+1) w4;refine CD.skip ?_;refine CD.seq ?_;refine CD.block ?_;refine fR 16 (aq (eraseIdx _ 0)) ?_ (fun _ h=>(Sublist.map _ (eraseIdx_sublist _ 0)).subset h);refine az 0 rfl bp ?_;refine az 1 rfl bp ?_;refine az 2 rfl bp ?_;refine az 3 rfl bp ?_;refine az 4 rfl (dj rfl ot bI (gj (r:=((a+t:Nat):Int)) MR)) ?_;refine az 5 rfl bp ?_;refine az 6 rfl bp ?_;refine az 7 rfl (dj rfl ot bI (gj (r:=((a+t:Nat):Int)) MR)) ?_;refine az 8 rfl (dF 1 (h:=by first|exact .l (j:=a+t) rfl w4|exact .r (j:=a+t) rfl w4)) ?_;refine az 10 rfl bp ?_;refine az 11 rfl bp ?_;refine az 12 rfl (dF 1 (h:=by first|exact .l (j:=a+t+1) rfl w4|exact .r (j:=a+t+1) rfl w4)) ?_;refine dD.later rfl ?_;refine AD.two (i:=9) (j:=13) aA ?_ ?_
   ·refine at_ rfl eT ?_;refine AD.one (i:=13) aA ?_;exact Xl
   refine at_ rfl eT ?_;refine AD.one (i:=9) aA ?_;exact Xl
  obtain rfl:t=i-a:=(by omega)
  exact Hi
 obtain⟨mid,akG⟩:∃q,q=(a+b)/2:=⟨_,rfl⟩
 refine cZ [0,1,2,3,4,18] ?_;refine aS 2 ?_ (h:=by exact(dj rfl ot ot (kr (r:=((a+b:Nat):Int)) Ak)));refine aS 0 ?_ (h:=by exact(oK rfl ot (oL (r:=((a+b:Nat):Int)) runUnderlying3 runUnderlying231 (IntWalk.u64_in _ w4))));refine aS 0 ?_ (h:=by exact(dj rfl ot bI (y4 w7 B5)));refine aS 0 ?_ (h:=by exact(oK rfl ot (oL (r:=((mid:Nat):Int)) runUnderlying231 runUnderlying3 (by rw[show(((a+b)/2:Nat):Int)=((mid:Nat):Int) by rw[akG]];exact wrap_i64 w4 w4))));refine bG ?_;refine cZ [0,1,2,3,4,18,19] ?_;refine aS 2 ?_ (h:=by exact(dj rfl ot ot (kr (r:=((mid+m:Nat):Int)) Ak)));refine bG ?_;refine af [0,1,2,3,4,18,19] ?_;refine jB [0,1,2,3,4,18,19] (fun aU rN aH=>∃(s0:Nat),∃(r0:Nat),((mid<m∧s0=mid+m-b∧r0=mid)∨(m≤mid∧s0=a∧r0=m))∧aH=(⟨220,(20,ae (s0:Nat))::(21,ae (r0:Nat))::aU,rN⟩:St)) ?_ ?_
 ·refine af [0,1,2,3,4,18,19,140] ?_;refine au ?_ ?_<;>intro pZ GF
  ·refine cZ [0,1,2,3,4,18,19,20] ?_;refine aS 2 ?_ (h:=by exact(dj rfl ot ot (gj (r:=(((mid+m)-b:Nat):Int)) qG)));refine bG ?_;refine cm [0,1,2,3,4,18,19,20,21] ?_;refine⟨_,aK,(mid+m-b),mid,(.inl ⟨by omega,rfl,rfl⟩),rfl⟩
  refine af [0,1,2,3,4,18,19,20] ?_;refine cm [0,1,2,3,4,18,19,20,21] ?_;refine⟨_,aK,a,m,(.inr ⟨by omega,rfl,rfl⟩),rfl⟩
 rintro _ ⟨s0,r0,HS,rfl⟩;refine cZ [0,1,2,3,4,18,19,20,21,22] ?_;refine aS 1 ?_ (h:=by exact(dj rfl ot bI (gj (r:=(((mid+m)-1:Nat):Int)) (by rw[show((((mid+m):Nat):Int)-1)=(((mid+m)-1:Nat):Int) by omega];exact wrap_i64 w4 w4))));refine bG ?_;refine eA [0,1,2,3,4,18,19,22] (fun aU _ (E:Nat×Nat) aH=>match E with|(s,r)=>(s0≤s)∧(s≤r)∧(r≤r0)∧((s=s0∨∃(p:s-1<l.length) (q:mid+m-s<l.length),(Rc cF Lt) l[s-1] l[mid+m-s]))∧((r=r0∨∃(p:mid+m-r-1<l.length) (q:r<l.length),(Rc cF Lt) l[mid+m-r-1] l[r]))∧aH=(⟨220,(20,ae (s:Nat))::(21,ae (r:Nat))::aU,(⟨O,3,cap*1,(l).flatMap cI⟩::I)⟩:St)) (fun (E:Nat×Nat)=>match E with|(s,r)=>r-s) (s0,r0) ⟨(Nat.le_refl _),w4,(Nat.le_refl _),(.inl rfl),(.inl rfl),rfl⟩ ?_;rintro⟨s,r⟩ _ ⟨nx,aqk,Y1,dP,fB,rfl⟩;refine af [0,1,2,3,4,18,19,20,21,22,151] ?_;refine au ?_ ?_<;>intro Dx L0
 ·have hh:s<r:=(by omega)
  have hC:((s+r)/2)<l.length:=(by omega)
  have hQ:(mid+m-1-((s+r)/2))<l.length:=(by omega)
  refine cZ [0,1,2,3,4,18,19,20,21,22,23] ?_;refine aS 2 ?_ (h:=by exact(dj rfl ot ot (kr (r:=((s+r:Nat):Int)) Ak)));refine aS 0 ?_ (h:=by exact(oK rfl ot (oL (r:=((s+r:Nat):Int)) runUnderlying3 runUnderlying231 (IntWalk.u64_in _ w4))));refine aS 0 ?_ (h:=by exact(dj rfl ot bI (y4 w7 B5)));refine aS 0 ?_ (h:=by exact(oK rfl ot (oL (r:=((((s+r)/2):Nat):Int)) runUnderlying231 runUnderlying3 (wrap_i64 w4 w4))));refine bG ?_;refine CD.seq ?_;refine fR 11 (aq (take 1 _)) ?_ (fun _ h=>(Sublist.map _ (take_sublist _ _)).subset h);refine az 0 rfl bp ?_;refine az 1 rfl bp ?_;refine az 2 rfl bp ?_;refine az 3 rfl bp ?_;refine az 4 rfl (dj rfl ot ot (gj (r:=(((mid+m-1)-((s+r)/2):Nat):Int)) qG)) ?_;refine az 5 rfl (dF 1 (h:=by first|exact .l (j:=(mid+m-1-((s+r)/2))) rfl w4|exact .r (j:=(mid+m-1-((s+r)/2))) rfl w4)) ?_;refine az 6 rfl eT ?_;refine az 7 rfl bp ?_;refine az 8 rfl bp ?_;refine az 9 rfl (dF 1 (h:=by first|exact .l (j:=((s+r)/2)) rfl w4|exact .r (j:=((s+r)/2)) rfl w4)) ?_;refine az 10 rfl eT ?_;refine dD.later rfl ?_;refine eH ?_;refine OD.kv (f:=fc) (args:=[_,_]) (Sf:=I) ap rfl rfl ot Z (hc _ _ (hV _ (getElem_mem hQ)) (hV _ (getElem_mem hC))) rfl ⟨ot,ot,trivial⟩ (perm_append_singleton _ _).symm ?_;rintro _ S2 ⟨rfl,iE⟩;rw[iE];clear iE;refine OD.perm (perm_append_singleton _ _) ?_
  refine an 220 [0,1,2,3,4,18,19,20,21,22,23,171] ?_;refine au ?_ ?_<;>intro Gn BS
  ·have akH:(Rc cF Lt) (l[((s+r)/2)]'hC) (l[(mid+m-1-((s+r)/2))]'hQ):=FF ha (h.lt w4 w4 w4 w4 hC hQ) w4;have xM:(Rc cF Lt) (l[((s+r)/2)+1-1]'w4) (l[mid+m-(((s+r)/2)+1)]'w4):=(by simpa only[show((s+r)/2)+1-1=((s+r)/2) by omega,show mid+m-(((s+r)/2)+1)=(mid+m-1-((s+r)/2)) by omega] using akH)
   refine cm [0,1,2,3,4,18,19,20,21,22] ?_;refine⟨((((s+r)/2)+1),r),_,cD,aK,w4,w4,w4,(.inr ⟨by omega,by omega,xM⟩),fB,rfl⟩
  have akI:(Rc cF Lt) (l[(mid+m-1-((s+r)/2))]'hQ) (l[((s+r)/2)]'hC):=Fc BS;have Ay:(Rc cF Lt) (l[mid+m-((s+r)/2)-1]'w4) (l[((s+r)/2)]'w4):=(by simpa only[show mid+m-((s+r)/2)-1=(mid+m-1-((s+r)/2)) by omega] using akI)
  refine cm [0,1,2,3,4,18,19,20,21,22] ?_;refine⟨(s,((s+r)/2)),_,cD,aK,w4,w4,w4,dP,(.inr ⟨by omega,by omega,Ay⟩),rfl⟩
 obtain rfl:s=r:=(by omega)
 obtain⟨l1,qD,Lw⟩:=afn (R:=Rc cF Lt) (l:=l) (a:=a) (m:=m) (b:=b) (s:=s) (e:=mid+m-s) (mid:=mid) ht h w4 w4 w4 w4 w4 (by rcases dP with q|q;(rcases HS with q2|q2;exact .inr (.inl w4);exact .inl w4);exact .inr (.inr q)) (by rcases fB with q|q;(rcases HS with q2|q2;exact .inl w4;exact .inr (.inl w4));exact .inr (.inr q));have j7:=Lw.len.2.2;refine cZ [0,1,2,3,4,18,20,24] ?_;refine aS 2 ?_ (h:=by exact(dj rfl ot ot (gj (r:=(((mid+m)-s:Nat):Int)) qG)));refine bG ?_;refine jB [0,1,3,4,18,20,24] (fun aU _ aH=>aH=(⟨220,aU,(⟨O,3,cap*1,(l1).flatMap cI⟩::I)⟩:St)) ?_ ?_
 ·refine aD 4 ?_;refine bV 181 (fun ah5 agO=>?_) (fun ah5 agO=>?_)
  ·refine bg [0,1,2,3,4,18,20,24,185] ?_;refine au ?_ ?_<;>intro vh FY
   ·refine dM 5 ?_;refine OD.call (R:=I) ap rfl rfl rfl call163 (agM l l1 ln s m (mid+m-s) cap O (.ez (.func fc) U) [] Lw w4 w4 gi pS w4) ⟨ot,ot,ot,ot,ot,trivial⟩ (Perm.refl _) ?_;rintro _ _ ⟨rfl,rfl⟩;refine an 220 [0,1,3,4,18,20,24] ?_;refine⟨_,aK,rfl⟩
   exact VY
  refine bg [0,1,2,3,4,18,20,24,185] ?_;refine fM ?_;exact VY
 rintro _ ⟨rfl⟩;refine jB [0,3,4,18,24] (fun aU _ aH=>∃(l2:List Int),(Part (Rc cF Lt) l1 l2 a mid)∧aH=(⟨220,aU,(⟨O,3,cap*1,(l2).flatMap cI⟩::I)⟩:St)) ?_ ?_
 ·refine aD 4 ?_;refine bV 195 (fun ah6 agP=>?_) (fun ah6 agP=>?_)
  ·refine bg [0,1,3,4,18,20,24,199] ?_;refine au ?_ ?_<;>intro Gp ag5
   ·refine dM 5 ?_;refine OD.call (R:=[]) ap rfl rfl rfl call153 (ih (mid-a) w4 l1 a s mid rfl (afo qD) w4 w4 (j7.trans gi) (fun z hz=>hV z (qD.perm.subset hz))) ⟨ot,ot,ot,ot,ot,trivial⟩ oX ?_;rintro _ _ ⟨rfl,l2,oD,rfl⟩;refine OD.perm (S':=⟨O,3,cap*1,(l2).flatMap cI⟩::I) oX ?_;refine an 220 [0,3,4,18,24] ?_;refine⟨_,aK,l2,oD,rfl⟩
   refine CD.skip ?_;refine⟨_,aK,l1,(Ss qD w4),rfl⟩
  refine bg [0,1,3,4,18,20,24,199] ?_;refine fM ?_;refine CD.skip ?_;refine⟨_,aK,l1,(Ss qD w4),rfl⟩
 rintro _ ⟨l2,oD,rfl⟩;refine aD 4 ?_;refine bV 209 (fun ah7 agR=>?_) (fun ah7 agR=>?_)
 ·refine bg [0,3,4,18,24,213] ?_;refine au ?_ ?_<;>intro Ls ag6
  ·refine dM 5 ?_;refine OD.call (R:=[]) ap rfl rfl rfl call153 (ih (b-mid) w4 l2 mid (mid+m-s) b rfl (adN qD oD) w4 w4 (oD.len.trans (j7.trans gi)) (fun z hz=>hV z (qD.perm.subset (oD.perm.subset hz)))) ⟨ot,ot,ot,ot,ot,trivial⟩ oX ?_;rintro _ _ ⟨rfl,l3,XC,rfl⟩;refine OD.perm (S':=⟨O,3,cap*1,(l3).flatMap cI⟩::I) oX ?_;refine an 220 [] ?_;exact Hi
  exact Hi
 refine bg [0,3,4,18,24,213] ?_;refine fM ?_;refine aI _ ?_;first|exact⟨rfl,_,KT,rfl⟩|exact⟨rfl,_,Ff qD oD XC,rfl⟩|exact⟨rfl,_,Ff qD oD (PM qD oD w4),rfl⟩
theorem U6(I cap bd O:Nat)(E:List D)(U:List ah)(cF:Int→Int→Int)(V:Int→Prop)(Lt:Int→Int→Prop)(hc:∀x y,V x→V y→VC Tryz.prog G O ([ae x,ae y]++E) U (fun r S'=>r=ae (cF x y)∧S'=U))(Z:∀args w,(callFunc O args).run Tryz.prog w = .ok (.enter O args) w)(ht:∀{x y z:Int},Rc cF Lt x y→Rc cF Lt y z→Rc cF Lt x z)(ha:∀x y,0≤cF y x→cF x y≤0)(pS:I≤cap)(ry:cap≤maxLen)(nx:I≤1000000):∀(n:Nat) (l:List Int) (a m b:Nat),b-a=n→qi (Rc cF Lt) Lt l a m b→a<m→m<b→l.length=I→(∀x∈l,V x)→VC Tryz.prog G 153 [aN (some ⟨bd,0,none⟩) I cap,ae (a:Nat),ae (m:Nat),ae (b:Nat),.ez (.func O) E] (⟨bd,3,cap*1,(l).flatMap cI⟩::U) (fun r S'=>r = .dI []∧∃lz,Part (Rc cF Lt) l lz a b∧S'=⟨bd,3,cap*1,(lz).flatMap cI⟩::U):=fun n=>Nat.strongRecOn n (adR I cap bd O E U cF V Lt hc Z ht ha pS ry nx)

end Go.Proofs.YtdgichenhdikgaaGreatDoor.So
namespace Go.Proofs.YtdgichenhdikgaaGreatDoor.So
open List
open Go.Proofs.Tryz
variable {R Lt:Int→Int→Prop} {l l1 cur nM:List Int} {a b m n k:Nat}
theorem IZ(h:Part R l l1 a b):l1.drop b=l.drop b:=by
 obtain⟨P,M,E,Q,rfl,rfl,rfl,rfl,hp,_⟩:=h;rw[←append_assoc,drop_left' (by rw[length_append]),←append_assoc,drop_left' (by rw[length_append,hp.length_eq])]
theorem Su(h:Part R l l1 a a):l1=l:=by
 obtain⟨P,M,E,Q,rfl,rfl,rfl,h1,hp,_⟩:=h;have hl:=hp.length_eq;rw[length_eq_zero_iff.1 (show M.length=0 by omega),length_eq_zero_iff.1 (show E.length=0 by omega)]
theorem Jt(h:Part R l l1 0 n)(hn:l.length=n):l1.Perm l∧l1.Pairwise R:=by
 refine⟨h.perm,?_⟩;obtain⟨P,M,E,Q,rfl,rfl,h1,h2,hp,hs⟩:=h;have hl:=hp.length_eq;simp only[length_append] at hn;rw[length_eq_zero_iff.1 h1,length_eq_zero_iff.1 (show Q.length=0 by omega)];simpa using hs
def yt(R:Int→Int→Prop)(l cur:List Int)(k:Nat):Prop:=(k=0∧cur=l)∨(k=1∧Part R l cur 0 20)∨(k=2∧∃l1,Part R l l1 0 20∧Part R l1 cur 20 40)
def GP(R:Int→Int→Prop)(l cur:List Int)(n:Nat):Prop:=∃l1,Part R l l1 0 20∧Part R l1 cur 20 n
theorem yt.perm(h:yt R l cur k):cur.Perm l:=by
 rcases h with ⟨_,rfl⟩|⟨_,h⟩|⟨_,l1,h1,h2⟩
 ·exact .refl _
 ·exact h.perm
 exact h2.perm.trans h1.perm
theorem adS(h:yt R l cur k)(hk:k≤1)(hp:Part R cur nM (20*k) (20*(k+1))):yt R l nM (k+1):=by
 rcases h with ⟨rfl,rfl⟩|⟨rfl,h⟩|⟨rfl,_⟩
 ·exact .inr (.inl ⟨rfl,hp⟩)
 ·exact .inr (.inr ⟨rfl,_,h,hp⟩)
 omega
theorem adT(h:yt R l cur k):cur.drop (20*k)=l.drop (20*k):=by
 rcases h with ⟨rfl,rfl⟩|⟨rfl,h⟩|⟨rfl,l1,h1,h2⟩
 ·rfl
 ·exact IZ h
 rw[IZ h2];have:=congrArg (drop 20) (IZ h1);rw[drop_drop,drop_drop] at this;exact this
theorem afp(h:yt R l cur k)(h1:20*k≤n)(h2:n<20*(k+1))(h3:n≤40)(hl:l.length=n)(hp:Part R cur nM (20*k) n):(n≤20∧nM.Perm l∧nM.Pairwise R)∨(20<n∧GP R l nM n):=by
 rcases h with ⟨rfl,rfl⟩|⟨rfl,h⟩|⟨rfl,l1,p1,p2⟩
 ·exact .inl ⟨by omega,Jt hp hl⟩
 ·rcases Nat.lt_or_ge 20 n with q|q
  ·exact .inr ⟨q,_,h,hp⟩
  obtain rfl:n=20:=(by omega)
  rw[Su hp];exact .inl ⟨q,Jt h hl⟩
 obtain rfl:n=40:=(by omega)
 rw[Su hp];exact .inr ⟨by omega,_,p1,p2⟩
theorem adU(h:GP R l cur n)(hq:l.Pairwise Lt):qi R Lt cur 0 20 n:=by
 obtain⟨l1,⟨P,M,M0,Q,rfl,rfl,h1,h2,hp,hs⟩,p2⟩:=h;obtain rfl:=length_eq_zero_iff.1 h1;obtain⟨O,U,Z,I,rfl,h4,h5,h6,oD,E⟩:=p2;obtain⟨e1,e2⟩:=append_inj (show M++Q=O++(Z++I) from h4) w4;subst e1 e2;rw[nil_append,pairwise_append] at hq;exact⟨[],M,U,I,by simp,rfl,by omega,by omega,hs,E,fun x hx y hy=>hq.2.2 x (hp.subset hx) y (mem_append_left _ (oD.subset hy))⟩
theorem SA(h:GP R l cur n)(hp:Part R cur nM 0 n)(hl:l.length=n):nM.Perm l∧nM.Pairwise R:=by
 obtain⟨l1,p1,p2⟩:=h;have:=Jt hp (by rw[p2.len,p1.len,hl]);exact⟨this.1.trans (p2.perm.trans p1.perm),this.2⟩

end Go.Proofs.YtdgichenhdikgaaGreatDoor.So
namespace Go.Proofs.YtdgichenhdikgaaGreatDoor.So
open List
open Go.Proofs.Tryz
open Go.RowKit V Tw
variable {G:List (Nat×List Value)}
theorem ab3(I cap U fc:Nat)(O:List D)(Z:List ah)(cF:Int→Int→Int)(V:Int→Prop)(Lt:Int→Int→Prop)(hc:∀x y,V x→V y→VC Tryz.prog G fc ([ae x,ae y]++O) Z (fun r S'=>r=ae (cF x y)∧S'=Z))(vu:∀args w,(callFunc fc args).run Tryz.prog w = .ok (.enter fc args) w)(ht:∀{x y z:Int},Rc cF Lt x y→Rc cF Lt y z→Rc cF Lt x z)(ha:∀x y,0≤cF y x→cF x y≤0)(pS:I≤cap)(ry:cap≤maxLen)(nx:I≤40)(l:List Int)(hq:l.Pairwise Lt)(gi:l.length=I)(hV:∀x∈l,V x):VC Tryz.prog G 129 [aN (some ⟨U,0,none⟩) I cap,ae (I:Nat),.ez (.func fc) O] (⟨U,3,cap*1,(l).flatMap cI⟩::Z) (fun r S'=>r = .dI []∧∃(lz:List Int),(lz.Perm l∧lz.Pairwise (Rc cF Lt))∧S'=⟨U,3,cap*1,(lz).flatMap cI⟩::Z):=by
 refine VC.body func129 rfl ntmps129 aR fun X0 w0 aZ=>?_;have dm:=ec;refine af [0,1,2,6] ?_;refine af [0,1,2,6,7,8] ?_;refine CD.seq ?_;refine CD.block ?_;refine mV (fun (E:Nat×List Int) aH=>match E with|(k,cur)=>(20*k≤I)∧(yt (Rc cF Lt) l cur k)∧aH=(⟨63,[(0,aN (some ⟨U,0,none⟩) I cap),(1,ae (I:Nat)),(2,.ez (.func fc) O),(6,ae 20),(7,ae (20*k:Nat)),(8,ae (20*(k+1):Nat))],(⟨U,3,cap*1,(cur).flatMap cI⟩::Z)⟩:St)) (fun (E:Nat×List Int)=>match E with|(k,cur)=>3-k) (0,l) ⟨(Nat.zero_le _),(.inl ⟨rfl,rfl⟩),rfl⟩ (aK (h:=by repeat (first|exact trivial|refine⟨(by (repeat (first|exact fD|(apply fV;focus (first|rfl|(rw[show(20*(k+1):Nat)=20*k+20 by omega];rfl)|(simp;done)|(congr 3;omega)))|(apply fH;focus rfl)));done),?_⟩))) ?_;rintro⟨k,cur⟩ _ ⟨hk,fG,rfl⟩;have lg:=fG.perm.length_eq;have sX:(cur.drop (20*k)).Pairwise Lt:=(by rw[adT fG];exact hq.drop)
 have Ea:∀x∈cur,V x:=fun x hx=>hV x (fG.perm.subset hx);refine af [0,1,2,6,7,8,13] ?_;refine au ?_ ?_<;>intro aM bD
 ·have yq:20*(k+1)≤I:=(by omega)
  refine aD 4 ?_;refine OD.call (R:=[]) ap rfl rfl rfl call152 (U5 cur I (20*k) (20*(k+1)) cap U fc O Z cF V Lt Ea hc vu ht ha sX w4 w4 w4 pS ry w4) ⟨ot,ot,ot,ot,trivial⟩ oX ?_;rintro _ _ ⟨rfl,c1,akJ,rfl⟩;refine OD.perm (S':=⟨U,3,cap*1,(c1).flatMap cI⟩::Z) oX ?_;refine an 63 [0,1,2,6,8] ?_;refine af [0,1,2,6,7,8] ?_;refine ie [0,1,2,6,7,8] ?_;refine aS 2 ?_ (h:=by exact(dj rfl ot ot (kr (r:=((20*(k+1+1):Nat):Int)) (by rw[show(((20*(k+1):Nat):Int)+20)=((20*(k+1+1):Nat):Int) by omega];exact wrap_i64 w4 w4))));refine bG ?_;refine⟨((k+1),c1),_,cD,(aK (h:=by repeat (first|exact trivial|refine⟨(by (repeat (first|exact fD|(apply fV;focus (first|rfl|(rw[show(20*(k+1):Nat)=20*k+20 by omega];rfl)|(simp;done)|(congr 3;omega)))|(apply fH;focus rfl)));done),?_⟩))),w4,(adS fG w4 akJ),rfl⟩
 have yq:I<20*(k+1):=(by omega)
 refine aD 4 ?_;refine OD.call (R:=[]) ap rfl rfl rfl call152 (U5 cur I (20*k) I cap U fc O Z cF V Lt Ea hc vu ht ha sX w4 w4 w4 pS ry w4) ⟨ot,ot,ot,ot,trivial⟩ oX ?_;rintro _ _ ⟨rfl,c2,WM,rfl⟩;refine OD.perm (S':=⟨U,3,cap*1,(c2).flatMap cI⟩::Z) oX ?_;have eZ:=afp fG hk yq nx gi WM;have WN:c2.Perm l:=WM.perm.trans fG.perm;refine an 63 [0,1,2,6] ?_;refine eA [0,1,2] (fun aU _ (E:Nat×List Int) aH=>match E with|(q,cur)=>((q=20∧cur=c2)∨(q=40∧(cur.Perm l∧cur.Pairwise (Rc cF Lt))))∧aH=(⟨63,(6,ae (q:Nat))::aU,(⟨U,3,cap*1,(cur).flatMap cI⟩::Z)⟩:St)) (fun (E:Nat×List Int)=>match E with|(q,cur)=>40-q) (20,c2) ⟨(.inl ⟨rfl,rfl⟩),rfl⟩ ?_;rintro⟨q,cur⟩ _ ⟨vT,rfl⟩;refine af [0,1,2,6,30] ?_;refine au ?_ ?_<;>intro aY cy
 ·obtain⟨rfl,rfl⟩:q=20∧cur=c2:=(by (rcases vT with h|h;exact h;omega))
  have Le:GP (Rc cF Lt) l cur I:=(by (rcases eZ with h|h;omega;exact h.2))
  have WO:=adU Le hq;have lg:=WN.length_eq;have Ea:∀x∈cur,V x:=fun x hx=>hV x (WN.subset hx);refine af [0,1,2,6,7,8] ?_;refine eA [0,1,2,6] (fun aU _ (E:Nat×List Int) aH=>match E with|(j,c3)=>((j=0∧c3=cur)∨(j=1∧I=40∧(c3.Perm l∧c3.Pairwise (Rc cF Lt))))∧aH=(⟨63,(7,ae (40*j:Nat))::(8,ae (40*(j+1):Nat))::aU,(⟨U,3,cap*1,(c3).flatMap cI⟩::Z)⟩:St)) (fun (E:Nat×List Int)=>match E with|(j,c3)=>1-j) (0,cur) ⟨(.inl ⟨rfl,rfl⟩),rfl⟩ ?_;rintro⟨j,c3⟩ _ ⟨qI,rfl⟩;refine af [0,1,2,6,7,8,35] ?_;refine au ?_ ?_<;>intro bZ cN
  ·obtain⟨qH,rfl⟩:j=0∧c3=cur:=(by (rcases qI with h|h;exact h;omega))
   have LW:I=40:=(by omega)
   refine aD 4 ?_;refine bN (dj rfl ot ot (kr (r:=((20:Nat):Int)) (by rw[qH];rfl))) ?_;refine aE 2 ?_;have apo:=LW;refine OD.call (R:=[]) ap rfl rfl rfl call153 (U6 I cap U fc O Z cF V Lt hc vu ht ha pS ry w4 _ c3 (40*j) 20 (40*(j+1)) rfl (by rw[show 40*j=0 by omega,show 40*(j+1)=I by omega];exact WO) w4 w4 w4 Ea) ⟨ot,ot,ot,ot,ot,trivial⟩ oX ?_;rintro _ _ ⟨rfl,c5,akK,rfl⟩;refine OD.perm (S':=⟨U,3,cap*1,(c5).flatMap cI⟩::Z) oX ?_;have akL:Part (Rc cF Lt) c3 c5 0 I:=(by have:=akK;rwa [show 40*j=0 by omega,show 40*(j+1)=I by omega] at this)
   refine an 63 [0,1,2,6,8] ?_;refine af [0,1,2,6,7,8] ?_;refine cm [0,1,2,6,7,8] ?_;refine⟨(1,c5),_,cD,aK,(.inr ⟨rfl,LW,SA Le akL gi⟩),rfl⟩
  refine CD.exit ?_;refine jB [0,1,2,6] (fun aU _ aH=>∃(c4:List Int),((c4.Perm l∧c4.Pairwise (Rc cF Lt)))∧aH=(⟨63,aU,(⟨U,3,cap*1,(c4).flatMap cI⟩::Z)⟩:St)) ?_ ?_
  ·refine cZ [0,1,2,6,7,9] ?_;refine aS 2 ?_ (h:=by exact(dj rfl ot ot (kr (r:=((40*j+20:Nat):Int)) (by rw[show(((40*j:Nat):Int)+((20:Nat):Int))=((40*j+20:Nat):Int) by omega];exact wrap_i64 w4 w4))));refine bG ?_;refine af [0,1,2,6,7,9,54] ?_;refine au ?_ ?_<;>intro cX en
   ·obtain⟨qH,rfl⟩:j=0∧c3=cur:=(by (rcases qI with h|h;exact h;omega))
    refine dM 5 ?_;refine OD.call (R:=[]) ap rfl rfl rfl call153 (U6 I cap U fc O Z cF V Lt hc vu ht ha pS ry w4 _ c3 (40*j) (40*j+20) I rfl (by rw[show 40*j=0 by omega];exact WO) w4 w4 w4 Ea) ⟨ot,ot,ot,ot,ot,trivial⟩ oX ?_;rintro _ _ ⟨rfl,c6,akM,rfl⟩;refine OD.perm (S':=⟨U,3,cap*1,(c6).flatMap cI⟩::Z) oX ?_;have akN:Part (Rc cF Lt) c3 c6 0 I:=(by have:=akM;rwa [show 40*j=0 by omega] at this)
    refine an 63 [0,1,2,6] ?_;refine⟨_,aK,c6,(SA Le akN gi),rfl⟩
   have HS:(c3.Perm l∧c3.Pairwise (Rc cF Lt)):=(by (rcases qI with h|h;omega;exact h.2.2))
   refine CD.skip ?_;refine⟨_,aK,c3,HS,rfl⟩
  rintro _ ⟨c4,er,rfl⟩;refine cm [0,1,2,6] ?_;refine⟨(40,c4),_,cD,aK,(.inr ⟨rfl,er⟩),rfl⟩
 have nq:(cur.Perm l∧cur.Pairwise (Rc cF Lt)):=(by (rcases vT with ⟨rfl,rfl⟩|h;(rcases eZ with h|h;exact h.2;omega);exact h.2))
 refine aI _ ?_;exact⟨rfl,_,nq,rfl⟩
theorem afq(O cap U Z:Nat)(E:List D)(I:List ah)(cF:Int→Int→Int)(V:Int→Prop)(Lt:Int→Int→Prop)(hc:∀x y,V x→V y→VC Tryz.prog G Z ([ae x,ae y]++E) I (fun r S'=>r=ae (cF x y)∧S'=I))(vu:∀args w,(callFunc Z args).run Tryz.prog w = .ok (.enter Z args) w)(ht:∀{x y z:Int},Rc cF Lt x y→Rc cF Lt y z→Rc cF Lt x z)(ha:∀x y,0≤cF y x→cF x y≤0)(pS:O≤cap)(ry:cap≤maxLen)(nx:O≤40)(l:List Int)(hq:l.Pairwise Lt)(gi:l.length=O)(hV:∀x∈l,V x):VC Tryz.prog G 87 [aN (some ⟨U,0,none⟩) O cap,.ez (.func Z) E] (⟨U,3,cap*1,(l).flatMap cI⟩::I) (fun r S'=>r = .dI []∧∃(lz:List Int),(lz.Perm l∧lz.Pairwise (Rc cF Lt))∧S'=⟨U,3,cap*1,(lz).flatMap cI⟩::I):=by
 refine VC.body func87 rfl ntmps87 aR fun X0 w0 aZ=>?_;have dm:=ec;refine dM 4 ?_;refine OD.call (R:=[]) ap rfl rfl rfl call129 (ab3 O cap U Z E I cF V Lt hc vu ht ha pS ry nx l hq gi hV) ⟨ot,ot,ot,trivial⟩ oX ?_;rintro _ _ ⟨rfl,lz,yl,rfl⟩;refine OD.perm (S':=⟨U,3,cap*1,(lz).flatMap cI⟩::I) oX ?_;refine an 9 [] ?_;refine aI _ ?_;exact⟨rfl,_,yl,rfl⟩

end Go.Proofs.YtdgichenhdikgaaGreatDoor.So
namespace Go.Proofs.YtdgichenhdikgaaGreatDoor.Ba
open List
open Go.Proofs.Tryz
open Go.RowKit V Pk Tr Vl Go.Proofs.YtdgichenhdikgaaGreatDoor.Nm Pc Cd Ex Tw Go.Proofs.YtdgichenhdikgaaGreatDoor.So
variable {t:aO} {o n:Nat} {i k:Int}
theorem Ki(a b:Vl):fu a b<0↔a.k<b.k∨(a.k=b.k∧(a.n<b.n∨(a.n=b.n∧Go.Lib.compareBytes a.s.data.toList b.s.data.toList<0))):=by
 exact XP
theorem QE{a b:Vl}(h:fu a b=0):a=b:=by
 unfold fu cmpL gh gh gh gh at h;have hs:a.k=b.k∧a.n=b.n∧Go.Lib.compareBytes a.s.data.toList b.s.data.toList=0:=by
  rcases rW a.k b.k with ⟨h1,h2⟩|⟨h1,h2⟩|⟨h1,h2⟩<;>rcases rW a.n b.n with ⟨k1,k2⟩|⟨k1,k2⟩|⟨k1,k2⟩<;>simp only[h1,k1] at h<;>(repeat' split at h)<;>first|omega|(refine⟨h2,k2,?_⟩;omega)
 obtain⟨e1,e2,E⟩:=hs;obtain⟨k,n,s⟩:=a;obtain⟨k',n',s'⟩:=b;simp only at e1 e2 E;subst e1 e2;rw[Fg (tW.1 E)]
theorem Ud{a b c:Vl}(h1:fu a b<0)(h2:fu b c<0):fu a c<0:=by
 rw[Ki] at h1 h2 ⊢;rcases h1 with h1|⟨h1,h1|⟨E,h1⟩⟩<;>rcases h2 with h2|⟨h2,h2|⟨I,h2⟩⟩<;>first|omega|(refine .inr ⟨by omega,.inr ⟨by omega,?_⟩⟩;exact lP h1 h2)
def cellAt(t:aO)(o:Nat)(i:Int):Vl:=(rowAt t i).getD o bJ
def lW(t:aO)(down:Bool)(o:Nat)(i k:Int):Int:=if down=true then -(fu (cellAt t o i) (cellAt t o k)) else fu (cellAt t o i) (cellAt t o k)
def HT(t:aO)(i k:Int):Prop:=bB (cH (rowAt t i)) (cH (rowAt t k))
theorem QF(t:aO)(down:Bool)(o:Nat)(i k:Int):lW t down o k i = -(lW t down o i k):=by
 unfold lW;rw[Bg (cellAt t o i) (cellAt t o k)];split<;>omega
theorem afr{down:Bool}{l:Int}(h1:lW t down o i k<0)(h2:lW t down o k l<0):lW t down o i l<0:=by
 unfold lW at *;split at h1
 ·rename_i hd;rw[if_pos hd] at h2 ⊢;have e1:=Bg (cellAt t o i) (cellAt t o k);have e2:=Bg (cellAt t o k) (cellAt t o l);have E:=Bg (cellAt t o i) (cellAt t o l);have:=Ud (a:=cellAt t o l) (b:=cellAt t o k) (c:=cellAt t o i) w4 w4;omega
 rename_i hd;rw[if_neg hd] at h2 ⊢;exact Ud h1 h2
theorem I0{down:Bool}(h:lW t down o i k=0):cellAt t o i=cellAt t o k:=by
 unfold lW at h;split at h
 ·exact QE w4
 exact QE h
theorem Ue{down:Bool}(h:cellAt t o i=cellAt t o k)(l:Int):lW t down o i l=lW t down o k l:=by unfold lW;rw[h]
theorem adV{down:Bool}(h:cellAt t o i=cellAt t o k)(l:Int):lW t down o l i=lW t down o l k:=by unfold lW;rw[h]
abbrev vW(t:aO)(down:Bool)(o:Nat):Int→Int→Prop:=Rc (lW t down o) (HT t)
theorem agS(t:aO)(down:Bool)(o:Nat){x y z:Int}(h1:vW t down o x y)(h2:vW t down o y z):vW t down o x z:=by
 rcases h1 with h1|⟨h1,E⟩<;>rcases h2 with h2|⟨h2,I⟩
 ·exact .inl (afr h1 h2)
 ·exact .inl (by rw[←adV (I0 h2)];exact h1)
 ·exact .inl (by rw[Ue (I0 h1)];exact h2)
 exact .inr ⟨by rw[Ue (I0 h1)];exact h2,lP E I⟩
theorem adW{down:Bool}{x y:Int}(h1:vW t down o x y)(h2:vW t down o y x):False:=by
 have e:=QF t down o x y;rcases h1 with h1|⟨h1,E⟩<;>rcases h2 with h2|⟨h2,I⟩
 ·omega
 ·omega
 ·omega
 exact iZ _ (lP E I)
noncomputable def Lf(t:aO)(down:Bool)(o:Nat)(l:List Int):List Int:=Classical.epsilon fun lz=>lz.Perm l∧lz.Pairwise (vW t down o)
theorem Uf{down:Bool}{l lz:List Int}(h:lz.Perm l∧lz.Pairwise (vW t down o)):lz=Lf t down o l:=by
 have hs:=Classical.epsilon_spec (p:=fun lz=>lz.Perm l∧lz.Pairwise (vW t down o)) ⟨lz,h⟩;exact Perm.eq_of_pairwise (fun a b _ _ h1 h2=>(adW h1 h2).elim) h.2 hs.2 (h.1.trans hs.1.symm)
theorem E7(t:aO)(w:List aX):∀(l:List (K×Int)) (acc:List Int),(mO t w acc l).1.Sublist (acc++l.map Prod.snd)
 | [],acc=>by unfold mO;simp
 | x::r,acc=>by
  have h1:(mO t w acc r).1.Sublist (acc++(x::r).map Prod.snd):=(E7 t w r acc).trans (Sublist.append_left (sublist_cons_self _ _) acc);have h2:(mO t w (acc++[x.2]) r).1.Sublist (acc++(x::r).map Prod.snd):=(by have:=E7 t w r (acc++[x.2]);rwa [append_assoc] at this)
  unfold mO;split
  ·split
   ·exact nil_sublist _
   split
   ·exact h1
   exact h2
  exact h2
def gz(t:aO)(i:Int):Prop:=0≤i∧∃h:i.toNat<t.rows.length,t.rows[i.toNat]≠[]
theorem adX{i:Nat}{c:Pc.cz}{v:Vl}(h:Pc.jL i c v=0):cn v=0:=by
 unfold Pc.jL at h;split at h
 ·exact h
 rename_i h1;exact Decidable.not_not.1 h1
theorem QG:∀(i:Nat) (cs:List Pc.cz) (vs:List Vl),Pc.nN i cs vs=0→vs.length≤cs.length→∀v∈vs,cn v=0
 | i,c::cs,v::vs,h,hl,w,hw=>by
  unfold Pc.nN at h;split at h
  ·rename_i h1;exact absurd h h1
  rename_i h1;rcases mem_cons.1 hw with rfl|hw
  ·exact adX (Decidable.not_not.1 h1)
  exact QG (i+1) cs vs h xo w hw
 | _,_,[],_,_,_,hw=>by cases hw
 | _,[],_::_,_,hl,_,_=>by simp at hl
theorem Ju{r:List Vl}(h:Pc.dO c8 r=0):∀v∈r,cn v=0:=by
 have h4:=nH h;unfold Pc.dO at h;rw[if_neg Ar,if_neg xS] at h;exact QG 0 c8 r h xS
theorem gz.ok(g:eD t n)(h:gz t i):(rowAt t i).length=4∧(∀v∈rowAt t i,v.Ok∧cn v=0):=by
 obtain⟨h0,h1,h2⟩:=h;rw[iX h1];obtain⟨g1,g2,_⟩:=g.row _ h1 h2;exact⟨nH g1,fun v E=>⟨g2 v E,Ju g1 v E⟩⟩
theorem u3(g:eD t n)(w:List aX):∀i∈(ax t w).1,gz t i:=fun i hi=>by
 unfold ax at hi;split at hi
 ·cases hi
 have h1:=(E7 t w _ []).subset hi;rw[nil_append] at h1;obtain⟨x,hx,rfl⟩:=mem_map.1 h1;obtain⟨h2,h3,h4,_⟩:=g.iG x (E6 x hx);exact⟨h2,h3,h4⟩
theorem Jv(g:eD t n)(w:List aX):(ax t w).1.Pairwise (HT t):=by
 unfold ax;split
 ·exact Pairwise.nil
 refine Pairwise.sublist (E7 t w _ []) ?_;rw[nil_append,pairwise_map];have hr:(pL t.ix (iP t.ay w).1.1 (iP t.ay w).1.2).Pairwise fun x y=>bB x.1 y.1:=(abP g.ix.val _).sublist (takeWhile_sublist _);refine hr.imp_of_mem fun {x y} hx hy h=>?_;obtain⟨_,p1,_,p2⟩:=g.iG x (E6 x hx);obtain⟨_,q1,_,q2⟩:=g.iG y (E6 y hy);unfold HT;rw[iX p1,iX q1,←p2,←q2];exact h
theorem FB(g:eD t n)(w:List aX):(ax t w).1.length≤40:=by
 have hp:=Jv g w;have E:=u3 g w;have hnd:((ax t w).1.map Int.toNat).Nodup:=by
  rw[Nodup,pairwise_map];refine hp.imp_of_mem fun {x y} hx hy h e=>?_;obtain⟨x0,_⟩:=E x hx;obtain⟨y0,_⟩:=E y hy;have:x=y:=(by omega)
  subst this;exact iZ _ h
 have I:∀j∈(ax t w).1.map Int.toNat,j∈range t.rows.length:=fun j hj=>by
  obtain⟨x,hx,rfl⟩:=mem_map.1 hj;obtain⟨_,h1,_⟩:=E x hx;exact mem_range.2 h1
 have:=hnd.length_le_of_subset I;rw[length_map,length_range] at this;exact Nat.le_trans this g.eJ
variable {G:List (Nat×List Value)} {m:Int}

open Pa (cU bX)
theorem VE:∀x y:K,-1≤Go.Lib.compareBytes x y∧Go.Lib.compareBytes x y≤1
 | [],[]=>⟨by decide,by decide⟩
 | [],_::_=>⟨(by show(-1:Int)≤-1;decide),(by show(-1:Int)≤1;decide)⟩
 | _::_,[]=>⟨(by show(-1:Int)≤1;decide),(by show(1:Int)≤1;decide)⟩
 | a::x,b::y=>by
  have:=VE x y;rw[HI];repeat' split
  all_goals first|exact this|omega
theorem afs(a b:Vl):-1≤fu a b∧fu a b≤1:=by
 have:=VE a.s.data.toList b.s.data.toList;exact XP
def vX(t:aO)(names:List ByteArray):List Int:=if names.length=0 then (range t.ay.length).map Int.ofNat else names.map (bM t.ay)
def sN(t:aO)(s:cU):Int:=if (s.order.toList==(⟨#[]⟩:ByteArray).toList)=true then 0 else bM t.ay s.order
def vm(Oy:Int)(l:List Int):List Int:=if 0≤Oy∧Oy<l.length then l.take Oy.toNat else l
def zY(t:aO)(ats:List Int)(i:Int):List Vl:=ats.map fun c=>(rowAt t i).getD c.toNat bJ
noncomputable def wK(t:aO)(s:cU):List Int:=vm s.ij (Lf t s.down (sN t s).toNat (ax t s.aj).1)
noncomputable def qB(t:aO)(s:cU):(List (List Vl)×Int)×Int :=
 if (s.names.any fun n=>decide (bM t.ay n<0))=true then (([],0),8)
 else if sN t s<0 then (([],0),8)
 else if (ax t s.aj).2≠0 then (([],0),(ax t s.aj).2)
 else if s.count=true then (([[⟨2,(wK t s).length,⟨#[]⟩⟩]],(wK t s).length),0)
 else (((wK t s).map (zY t (vX t s.names)),(wK t s).length),0)
def AW(p:(List (List Vl)×Int)×Int):D:=.dI [.agg [av 1 fa p.1.1,ae p.1.2],ae p.2]
theorem KN{l:List cz}{nm:ByteArray}:-1≤bM l nm∧bM l nm<l.length:=by
 unfold bM dU;split
 ·rename_i i h;have:=(findIdx?_eq_some_iff_getElem.1 h).1;omega
 omega
theorem aft(t:aO)(g:eD t n)(s:cU)(o:Nat)(ho:o<4)(b2 jN b3:Nat)(i k:Int)(hi:gz t i)(hk:gz t k):VC Tryz.prog G 88 ([ae i,ae k]++[dL b2,dL jN,dL b3]) [⟨b2,53,5,c9 t⟩,⟨jN,3,1,[ae (o:Nat)]⟩,⟨b3,32,12,bX s⟩] (fun r S=>r=ae (lW t s.down o i k)∧S=[⟨b2,53,5,c9 t⟩,⟨jN,3,1,[ae (o:Nat)]⟩,⟨b3,32,12,bX s⟩]):=by
 refine VC.body func88 rfl ntmps88 aR fun X0 w0 aZ=>?_;obtain⟨I,E,mb⟩:=hi;obtain⟨xV,dP,fB⟩:=hk;obtain⟨gi1,O⟩:=gz.ok g ⟨I,E,mb⟩;obtain⟨gk1,U⟩:=gz.ok g ⟨xV,dP,fB⟩;rw[iX E] at gi1 O;rw[iX dP] at gk1 U;have Z:o<(t.rows[i.toNat]'E).length:=(by omega)
 have pu:o<(t.rows[k.toNat]'dP).length:=(by omega)
 have hci:cellAt t o i=(t.rows[i.toNat]'E)[o]:=(by unfold cellAt;rw[iX E,getD_eq_getElem?_getD,getElem?_eq_getElem Z];rfl)
 have yu:cellAt t o k=(t.rows[k.toNat]'dP)[o]:=(by unfold cellAt;rw[iX dP,getD_eq_getElem?_getD,getElem?_eq_getElem pu];rfl)
 have fb:=aag (G:=G) (t.rows[i.toNat]'E)[o] (t.rows[k.toNat]'dP)[o] (O _ (getElem_mem Z)).1 (U _ (getElem_mem pu)).1;have oA:mJ (t.rows[i.toNat]'E)[o] (t.rows[k.toNat]'dP)[o]=0:=(by unfold mJ;rw[if_neg (by simp[(O _ (getElem_mem Z)).2]),(U _ (getElem_mem pu)).2])
 unfold LV at fb;rw[oA,if_neg w7] at fb;have HB:=afs (t.rows[i.toNat]'E)[o] (t.rows[k.toNat]'dP)[o];unfold c9 bX;have aW:lW t s.down o i k=if s.down=true then -(fu (t.rows[i.toNat]'E)[o] (t.rows[k.toNat]'dP)[o]) else fu (t.rows[i.toNat]'E)[o] (t.rows[k.toNat]'dP)[o]:=by unfold lW;rw[hci,yu]
 refine af [0,1,2,3,4] ?_;refine cZ [4,8] ?_;refine aS 3 ?_ (h:=by exact(dF 1 (h:=by first|exact .l (j:=i.toNat) (Int.toNat_of_nonneg I).symm E|exact .r (j:=i.toNat) (Int.toNat_of_nonneg I).symm E)));refine aS 7 ?_ (h:=by exact(dF 1 (h:=by first|exact .l (j:=k.toNat) (Int.toNat_of_nonneg xV).symm dP|exact .r (j:=k.toNat) (Int.toNat_of_nonneg xV).symm dP)));refine dh (fb) ?_;refine bG ?_;refine af [8,31] ?_;refine au ?_ ?_<;>intro aM bD
 ·have hd:s.down=true:=aM;refine cZ [7] ?_;refine aS 1 ?_ (h:=by exact(EV rfl ot (Ks (wrap_i64 w4 w4))));refine bG ?_;refine aI [_,_,_] ?_;first|(rw[aW,hd,if_pos rfl,←Int.zero_sub];exact⟨rfl,rfl⟩)|(rw[aW,hd,if_neg w7];exact⟨rfl,rfl⟩)
 have hd:s.down=false:=aM;refine af [7] ?_;refine aI [_,_,_] ?_;first|(rw[aW,hd,if_pos rfl,←Int.zero_sub];exact⟨rfl,rfl⟩)|(rw[aW,hd,if_neg w7];exact⟨rfl,rfl⟩)
theorem afu(ez:D):VP Tryz.prog G 152 [cf,ae 0,ae 0,ez] (.dI []):=by
 refine VC.body func152 rfl ntmps152 aR fun X0 w0 aZ=>?_;refine af [0,1,2,3,8] ?_;refine eA [0,1,2,3] (fun aU _ (z:Nat) aH=>(True)∧aH=(⟨53,(8,ae (0+1))::aU,[]⟩:St)) (fun (z:Nat)=>0) 0 ⟨trivial,rfl⟩ ?_;rintro z _ ⟨_,rfl⟩;refine af [0,1,2,3,8,14] ?_;refine au ?_ ?_<;>intro aM bD
 ·exact absurd aM (by simp at aM)
 exact nT
theorem aaE(ez:D):VP Tryz.prog G 129 [cf,ae 0,ez] (.dI []):=by
 refine VC.body func129 rfl ntmps129 aR fun X0 w0 aZ=>?_;refine af [0,1,2,6] ?_;refine af [0,1,2,6,7,8] ?_;refine eA [0,1,2,6] (fun aU _ (z:Nat) aH=>(True)∧aH=(⟨63,(7,ae 0)::(8,ae 20)::aU,[]⟩:St)) (fun (z:Nat)=>0) 0 ⟨trivial,rfl⟩ ?_;rintro z _ ⟨_,rfl⟩;refine af [0,1,2,6,7,8,13] ?_;refine au ?_ ?_<;>intro aM bD
 ·exact absurd aM (by simp at aM)
 refine cJ [0,1,2,6] (afu ez) ?_;refine eA [0,1,2] (fun aU _ (z:Nat) aH=>(True)∧aH=(⟨63,(6,ae 20)::aU,[]⟩:St)) (fun (z:Nat)=>0) 0 ⟨trivial,rfl⟩ ?_;rintro z _ ⟨_,rfl⟩;refine af [0,1,2,6,30] ?_;refine au ?_ ?_<;>intro aY cy
 ·exact absurd aY (by simp at aY)
 exact nT
theorem adY(ez:D):VP Tryz.prog G 87 [cf,ez] (.dI []):=by
 refine VC.body func87 rfl ntmps87 aR fun X0 w0 aZ=>?_;refine ie [] ?_;refine dh (aaE ez) ?_;refine jW ?_;exact nT

end Go.Proofs.YtdgichenhdikgaaGreatDoor.Ba

namespace Go.Proofs.YtdgichenhdikgaaGreatDoor.Ba
open List
open Go.Proofs.Tryz
open Go.RowKit V Pk Go.Proofs.YtdgichenhdikgaaGreatDoor.Tr Go.Proofs.YtdgichenhdikgaaGreatDoor.Vl Go.Proofs.YtdgichenhdikgaaGreatDoor.Nm Go.Proofs.YtdgichenhdikgaaGreatDoor.Pc Go.Proofs.YtdgichenhdikgaaGreatDoor.Cd Go.Proofs.YtdgichenhdikgaaGreatDoor.Ex Go.Proofs.YtdgichenhdikgaaGreatDoor.Tw
open Pa (cU bX)
variable {j sz:Nat} {ds:List D}
section mid
variable {P:Program} {G:List (Nat×List Value)} {x:St} {o:Oper} {t b off:Nat} {y:Operand} {B:ah} {pre c post:List D} {d:D}
theorem agT(hp:pre.length=off)(hj:c[j]?=some d):(pre++(c++post))[off+j]?=some d:=by
 subst hp;rw[getElem?_append_right w4,Nat.add_sub_cancel_left,getElem?_append_left (List.getElem?_eq_some_iff.1 hj).1];exact hj
theorem SB{m:List D}(hp:pre.length=off)(hm:qc j c m)(hd:my sz m ds):((pre++(c++post)).drop (off+j)).take sz=ds:=by
 subst hp;obtain⟨h1,h2⟩:=hd.eq;have h3:=hm.eq;have hl:j+sz≤c.length∨sz=0:=by
  have:=congrArg length h1;rw[length_take,h2,←h3,length_drop] at this;omega
 rw[←drop_drop,drop_left' rfl];rcases hl with hl|rfl
 ·rw[drop_append_of_le_length w4,h3,take_append_of_le_length (by rw[←h3,length_drop];omega)];exact h1
 rw[List.take_zero];rw[List.take_zero] at h1;exact h1
theorem BJ{E:List D}(hp:pre.length=off)(hl:j+ds.length≤c.length)(hc:dw c j ds=E):dw (pre++(c++post)) (off+j) ds=pre++(E++post):=by
 subst hp hc;rw[wg _ _ _ hl,wg _ _ _ (by simp only[length_append];omega)];rw[take_append,take_of_length_le w4,Nat.add_sub_cancel_left,take_append_of_le_length w4,Nat.add_assoc,←drop_drop (l:=pre++(c++post)),drop_left' rfl,drop_append_of_le_length w4];simp only[append_assoc]
theorem oI(k:Nat)(ho:o.op = .load t y:=by exact rfl)(hy:aF x y = .v (.pointer (some ⟨b,off+j,none⟩)):=by exact ot)(ha:qN P t false=true:=by kernel_rfl)(hk:x.S[k]?=some B:=by exact rfl)(hb:B.b=b:=by exact rfl)(dH:B.cs=pre++(c++post):=by exact rfl)(hp:pre.length=off:=by assumption)(hj:c[j]?=some d:=by exact rfl)(hne:isMap B.e=false:=by exact rfl):bS P G x o (.fC k) d :=
 Ep (hne:=hne) ho hy hk hb (iK ha) (by rw[dH];exact agT hp hj)
theorem xJ(k:Nat){m:List D}(ho:o.op = .load t y:=by exact rfl)(hy:aF x y = .v (.pointer (some ⟨b,off+j,none⟩)):=by exact ot)(hn:qM P t sz=true:=by exact Sz.h)(ha:qN P t true=true:=by kernel_rfl)(hk:x.S[k]?=some B:=by exact rfl)(hb:B.b=b:=by exact rfl)(dH:B.cs=pre++(c++post):=by exact rfl)(hp:pre.length=off:=by assumption)(hm:qc j c m:=by exact qy)(hd:my sz m ds:=by exact nj)(hne:isMap B.e=false:=by exact rfl):bS P G x o (.fC k) (.agg ds) :=
 A6 (hne:=hne) ho hy hk hb (iK ha) (lQ hn) hd.eq.2 (by rw[dH];exact SB hp hm hd)
theorem Mk(k:Nat)(ho:o.op = .load t y:=by exact rfl)(hy:aF x y = .v (.pointer (some ⟨b,off,none⟩)):=by exact ot)(hn:qM P t sz=true:=by exact Sz.h)(ha:qN P t true=true:=by kernel_rfl)(hk:x.S[k]?=some B:=by exact rfl)(hb:B.b=b:=by exact rfl)(dH:B.cs=pre++(c++post):=by exact rfl)(hp:pre.length=off:=by assumption)(hd:my sz c ds:=by exact nj)(hne:isMap B.e=false:=by exact rfl):bS P G x o (.fC k) (.agg ds) :=
 A6 (hne:=hne) ho hy hk hb (iK ha) (lQ hn) hd.eq.2 (by rw[dH];exact SB (j:=0) hp .z hd)
end mid
variable {G:List (Nat×List Value)} {m:Int}
noncomputable def e9(t:aO)(row:List Vl):aO×Int :=
 if Pc.dO t.ay row≠0 then (t,Pc.dO t.ay row) else if gE t.ix (cH row) (dc t.ix)=true then (t,9) else if t.rows.length=40 then (t,10)
 else ({t with rows:=t.rows++[row],ix:=gp t.ix (dc t.ix) (cH row) t.rows.length},0)
def tC(t:aO)(ad:Option Addr)(cap:Nat):List D:=[bw t.nm,av 2 cC t.ay,aN ad t.rows.length cap,av 5 cP t.ix.ag,ae t.ix.root]
abbrev vv(t:aO)(ad:Option Addr)(cap:Nat)(S:List ah):Prop:=bn 28 1 (t.rows.flatMap fa) t.rows.length ad cap S
theorem uT{r:List Vl}(h:Pc.dO c8 r=0):1≤(cH r).length∧(cH r).length≤100:=by
 refine⟨?_,T8 _⟩;have h4:=nH h;have hz:=Ju h;match r,h4 with
 | [a,b,c,d],_ =>
  have ha:cn a=0:=hz a mem_cons_self;unfold cH fY;rw[if_neg bf,if_neg (by simp[sH,ha])];have hl:(eX [a]).length≤43:=(by have:=E0 (l:=[a]) (fun v E=>by rw[mem_singleton] at E;rw[E];exact ha);simpa using this)
  rw[if_neg (by show ¬(eX [a]).length>100;omega)];show 1≤(eX [a]).length;unfold eX Cd.pO;simp

theorem aaF:(Tryz.prog.info? 28).map (fun i=>(i.zero,i.size,i.bytes))=some (some (.slice none 0 0),1,24):=by kernel_rfl

theorem IV(hm:(3,marksC)∈G)(hw:(1,wordsC)∈G)(ht:(0,typesC)∈G)(hG:(2,[Value.int .i64 m])∈G)(t:aO){n:Nat}(g:eD t n)(hn:n≤300)(row:List Vl)(mY:row.length≤1000)(aQ:∀v∈row,v.Ok)(bt off I:Nat)(pre post:List D)(hp:pre.length=off)(ad:Option Addr)(cap:Nat)(Sr:List ah)(Z:vv t ad cap Sr):VC Tryz.prog G 43 [.v (.pointer (some ⟨bt,off,none⟩)),av 3 cV row] (⟨bt,53,I,pre++(tC t ad cap++post)⟩::Sr) (fun r S=>r=ae (e9 t row).2∧((e9 t row).2=0→∃nU E oJ,vv (e9 t row).1 nU E oJ∧S=⟨bt,53,I,pre++(tC (e9 t row).1 nU E++post)⟩::oJ)):=by
 refine VC.body func43 rfl ntmps43 aR fun X0 w0 aZ=>?_;have hko:=fun h=>uT (r:=row) h;have yw:=KB (G:=G) hm hw ht t.ay xQ xP row (Nat.le_trans mY w7);have dm:=ec;have mN:=g.eJ;unfold tC;refine af [0,1] ?_;refine cZ [0,1,5] ?_;refine aS 3 ?_ (h:=by exact(oI 0));refine dh (yw) ?_;refine bG ?_;refine af [0,1,5,17] ?_;refine au ?_ ?_<;>intro aM bD
 ·have hne:Pc.dO t.ay row≠0:=(by simpa using aM)
  have aW:e9 t row=(t,Pc.dO t.ay row):=if_pos hne;refine af [4] ?_;refine aI [] ?_;rw[aW];exact⟨rfl,fun h=>absurd h hne⟩
 have hz:Pc.dO t.ay row=0:=(by simpa using aM)
 have Dg:Pc.dO c8 row=0:=(by rw[←g.ay];exact hz)
 have ee:=hko Dg;have Ox:=nH Dg;have O:=ze (G:=G) hG row w4 w4 aQ;refine CD.skip ?_;refine CD.seq ?_;refine CD.seq ?_;rcases gg:gE t.ix (cH row) (dc t.ix) with _|_
 ·have fO:=KJ (G:=G) g.ix (cH row);rw[afi g.ix ee gg] at fO;unfold Tw.cT at fO;have U:=Si (G:=G) g.ix (cH row) (t.rows.length:Int);rw[U1 g.ix hn ee w4 gg] at U;unfold Tw.cT at U;refine ie [0,1,7] ?_;refine aS 3 ?_ (h:=by exact(xJ 0));refine dh (O) ?_;refine dh (fO) ?_;refine bG ?_;refine af [0,1,30] ?_;refine au ?_ ?_<;>intro aY cy
  ·exact absurd aY (by simp at aY)
  refine cZ [0,1,36] ?_;refine aS 3 ?_ (h:=by exact(oI 0));refine bG ?_;refine au ?_ ?_<;>intro bZ cN
  ·have aW:e9 t row=(t,10):=(by unfold e9;rw[if_neg (by simp[hz]),if_neg vH,if_pos w4])
   refine af [4] ?_;refine aI [] ?_;rw[aW];exact⟨rfl,fun h=>absurd (show(10:Int)=0 from h) w7⟩
  have aW:e9 t row=({t with rows:=t.rows++[row],ix:=gp t.ix (dc t.ix) (cH row) t.rows.length},0):=(by unfold e9;rw[if_neg (by simp[hz]),if_neg vH,if_neg w4])
  refine CD.skip ?_;refine CD.seq ?_;refine uu 16 15 [0,1,8,50,51] ?_;refine aS 3 ?_ (h:=by exact(xJ 0));refine dh (O) ?_;refine aS 3 ?_ (h:=by exact(oI 0));refine dh (U) ?_;refine ny 3 ?_;refine rJ ?_;refine jW ?_;refine⟨rfl,fun b8=>?_⟩;refine aP 0 [_,_] sizeOf51 ?_;refine an 70 [0,1,8,9] ?_;refine af [0,1,8,9,53] ?_;refine au ?_ ?_<;>intro cX en
  ·exact absurd cX (by simp at cX)
  refine aD 4 ?_;refine OD.storeAt (k:=1) (cs':=pre++([bw t.nm,av 2 cC t.ay,aN ad t.rows.length cap,.list 5 ((gp t.ix (dc t.ix) (cH row) t.rows.length).ag.flatMap cP) (gp t.ix (dc t.ix) (cH row) t.rows.length).ag.length,ae (gp t.ix (dc t.ix) (cH row) t.rows.length).root]++post)) ap rfl rfl ot rfl rfl ot rfl rfl sizeOf51 rfl (by show off+3+2≤(pre++(([bw t.nm,av 2 cC t.ay,aN ad t.rows.length cap,av 5 cP t.ix.ag,ae t.ix.root]:List D)++post)).length;simp only[length_append,length_cons,length_nil];omega) (by exact BJ (j:=3) hp aR rfl) ?_;refine an 70 [0,1] ?_;refine CD.seq ?_;refine fR 9 (aq (take 2 _)) ?_ (fun _ h=>(Sublist.map _ (take_sublist _ _)).subset h);refine az 0 rfl bp ?_;refine az 1 rfl bp ?_;refine az 2 rfl lZ ?_;refine az 3 rfl (dr 2) ?_;refine az 4 rfl (oI 1) ?_;refine az 5 rfl bp ?_;refine dD.later rfl ?_;refine AD.one (i:=6) aA ?_;refine jJ call31 (Qy row w4) ?_;refine AD.one (i:=7) aA ?_;refine js (bW 0 [_]) [.slice none 0 0] [_] zeroValue28 runUnderlying34 sizeOf28 (fun pn=>?_);refine jt 0 66 1 1 ?_;refine AD.one (i:=8) aA ?_;refine bj.ek (ls:=t.rows) (new:=[row]) (Sq:=Sr) jE Bx rfl ap rfl rfl underlying34 aaF rfl w7 ot Z (de (A:=[_,_])) ot bf w9 lY (fun qJ rm Gs Gt=>?_);refine AD.perm (dZ (S1:=[⟨qJ,28,rm*1,flatMap fa (t.rows++[row])⟩]) (A:=[_,_])) ?_;refine eH ?_;refine aE 2 ?_
  refine OD.storeAt (k:=1) (cs':=pre++((([bw t.nm,av 2 cC t.ay,aN ad t.rows.length cap,.list 5 ((gp t.ix (dc t.ix) (cH row) t.rows.length).ag.flatMap cP) (gp t.ix (dc t.ix) (cH row) t.rows.length).ag.length,ae (gp t.ix (dc t.ix) (cH row) t.rows.length).root]:List D)).set 2 (aN (some ⟨qJ,0,none⟩) ((t.rows++[row])).length rm)++post)) ap rfl rfl ot rfl rfl ot rfl rfl sizeOf34 rfl (by show off+2+1≤(pre++(([bw t.nm,av 2 cC t.ay,aN ad t.rows.length cap,.list 5 ((gp t.ix (dc t.ix) (cH row) t.rows.length).ag.flatMap cP) (gp t.ix (dc t.ix) (cH row) t.rows.length).ag.length,ae (gp t.ix (dc t.ix) (cH row) t.rows.length).root]:List D)++post)).length;simp only[length_append,length_cons,length_nil];omega) (by exact BJ (j:=2) hp aR rfl) ?_;refine an 70 [] ?_;refine af [4] ?_;refine aI (⟨bt,53,I,pre++(_++post)⟩::[⟨qJ,28,rm*1,flatMap fa (t.rows++[row])⟩]) ?_;rw[aW];exact⟨rfl,fun _=>⟨(some ⟨qJ,0,none⟩),rm,[⟨qJ,28,rm*1,flatMap fa (t.rows++[row])⟩],(bE Gs Gt),rfl⟩⟩
 obtain⟨rw0,Cm⟩:=(Bl g.ix (cH row)).1 gg;have fO:=KJ (G:=G) g.ix (cH row);rw[Se g.ix ee Cm] at fO;unfold Tw.cT at fO;have aW:e9 t row=(t,9):=(by unfold e9;rw[if_neg (by simp[hz]),if_pos gg])
 refine ie [0,1,7] ?_;refine aS 3 ?_ (h:=by exact(xJ 0));refine dh (O) ?_;refine dh (fO) ?_;refine bG ?_;refine af [0,1,30] ?_;refine au ?_ ?_<;>intro aY cy
 ·refine af [4] ?_;refine aI [] ?_;rw[aW];exact⟨rfl,fun h=>absurd (show(9:Int)=0 from h) w7⟩
 exact absurd aY (by simp at aY)

end Go.Proofs.YtdgichenhdikgaaGreatDoor.Ba

namespace Go.Proofs.YtdgichenhdikgaaGreatDoor.Ba
open List
open Go.Proofs.Tryz
open Go.RowKit V Pk Tr Vl Go.Proofs.YtdgichenhdikgaaGreatDoor.Nm Pc Cd Ex Tw
open Pa (cU bX)
variable {G:List (Nat×List Value)} {m:Int}
variable {t:aO} {n:Nat} {i:Int}
theorem Kj{t:aG}(g:iL t n){x y:K×Int}(hx:x∈eo t)(hy:y∈eo t)(h:x.1=y.1):x=y:=by
 have hr:(eo t).Pairwise (fun a b=>bB a.1 b.1):=Bk g.val;obtain⟨i,hi,rfl⟩:=mem_iff_getElem.1 hx;obtain⟨j,hj,rfl⟩:=mem_iff_getElem.1 hy;have hp:=pairwise_iff_getElem.1 hr;rcases Nat.lt_trichotomy i j with q|q|q
 ·have:=hp i j hi hj q;rw[h] at this;exact absurd this (iZ _)
 ·subst q;rfl
 have:=hp j i hj hi q;rw[h] at this;exact absurd this (iZ _)
theorem gz.iG(g:eD t n)(h:gz t i):(cH (rowAt t i),i)∈eo t.ix:=by
 obtain⟨h0,h1,h2⟩:=h;have:=(g.row _ h1 h2).2.2;rw[iX h1];rwa [Int.toNat_of_nonneg h0] at this
noncomputable def nQ(t:aO)(i:Int):aO:={t with rows:=t.rows.set i.toNat [],ix:=gI t.ix (dc t.ix) (cH (rowAt t i))}
noncomputable def rA:aO→List Int→aO
 | t,[]=>t
 | t,i::r=>rA (nQ t i) r
noncomputable def mG(t:aO)(w:List aX):aO×Int×Int:=if (ax t w).2≠0 then (t,0,(ax t w).2) else (rA t (ax t w).1,(ax t w).1.length,0)
theorem agU(g:eD t n)(h:gz t i):iL (gI t.ix (dc t.ix) (cH (rowAt t i))) n∧∀x,x∈eo (gI t.ix (dc t.ix) (cH (rowAt t i)))↔x∈eo t.ix∧x.1≠cH (rowAt t i) :=
 Jr g.ix ((Bj g.ix.val _).2 ⟨i,h.iG g⟩)
theorem QH(g:eD t n)(h:gz t i):eD (nQ t i) n:=by
 obtain⟨d1,d2⟩:=agU g h;have I:=h.iG g;obtain⟨h0,h1,h2⟩:=h;refine⟨g.nm,g.ay,by show(t.rows.set _ _).length≤40;rw[length_set];exact g.eJ,d1,fun j hj hne=>?_,fun x hx=>?_⟩
 ·simp only[nQ] at hj hne ⊢;rw[length_set] at hj;rw[getElem_set] at hne;split at hne
  ·exact absurd rfl hne
  rename_i E;have he:(t.rows.set i.toNat [])[j]'xN=t.rows[j]:=getElem_set_ne E _;rw[he];obtain⟨p1,p2,p3⟩:=g.row j hj hne;refine⟨p1,p2,(d2 _).2 ⟨p3,fun e=>?_⟩⟩;have:=Kj g.ix p3 I e;simp only[Prod.mk.injEq] at this;omega
 obtain⟨x1,O⟩:=(d2 x).1 hx;obtain⟨p0,p1,p2,p3⟩:=g.iG x x1;have E:i.toNat≠x.2.toNat:=fun e=>by
  refine O ?_;rw[p3,iX h1];congr 1;simp only[e]
 refine⟨p0,by show _<(t.rows.set _ _).length;rw[length_set];exact p1,?_⟩;have he:(t.rows.set i.toNat [])[x.2.toNat]'(by rw[length_set];exact p1)=t.rows[x.2.toNat]:=getElem_set_ne E _;show(t.rows.set i.toNat [])[x.2.toNat]'(by rw[length_set];exact p1)≠[]∧x.1=cH ((t.rows.set i.toNat [])[x.2.toNat]'(by rw[length_set];exact p1));rw[he];exact⟨p2,p3⟩
theorem Ug{j:Int}(h:gz t j)(E:j≠i)(hi:0≤i):gz (nQ t i) j:=by
 obtain⟨h0,h1,h2⟩:=h;refine⟨h0,by show _<(t.rows.set _ _).length;rw[length_set];exact h1,?_⟩;show(t.rows.set i.toNat [])[j.toNat]'(by rw[length_set];exact h1)≠[];have e:=getElem_set_ne (l:=t.rows) (i:=i.toNat) (j:=j.toNat) (a:=[]) w4 (by rw[length_set];exact h1);rw[e];exact h2
theorem EO(g:eD t n)(w:List aX):(ax t w).1.Nodup:=(Jv g w).imp fun h e=>by rw[e] at h;exact iZ _ h
theorem ab4(hm:(3,marksC)∈G)(hw:(1,wordsC)∈G)(ht:(0,typesC)∈G)(hG:(2,[Value.int .i64 m])∈G)(t:aO)(g:eD t n)(s:cU)(ho:∀o∈s.aj,o.nm.size≤maxLen)(fS:∀o∈s.aj,o.v.Ok)(bt off qj:Nat)(pre post:List D)(hp:pre.length=off)(ad:Option Addr)(cap:Nat)(Sr:List ah)(kH:vv t ad cap Sr):VC Tryz.prog G 46 [.v (.pointer (some ⟨bt,off,none⟩)),.agg (bX s)] (⟨bt,53,qj,pre++(tC t ad cap++post)⟩::Sr) (fun r S=>r = .dI [ae (mG t s.aj).2.1,ae (mG t s.aj).2.2]∧((mG t s.aj).2.2=0→∃nU kI oJ,vv (mG t s.aj).1 nU kI oJ∧S=⟨bt,53,qj,pre++(tC (mG t s.aj).1 nU kI++post)⟩::oJ)):=by
 refine VC.body func46 rfl ntmps46 aR fun X0 w0 aZ=>?_;have dm:=ec;have mN:=g.eJ;have Eb:=FB g s.aj;have mC:=u3 g s.aj;have hnd:=EO g s.aj;unfold tC;unfold bX;refine bY ?_;refine OD.box (ds:=[_,_,_,_,_,_,_,_,_,_,_,_]) ap rfl rfl ot rfl rfl (fun b3=>?_);refine an 56 [0,3] ?_;refine CD.seq ?_;refine fR 9 (aq (take 2 _)) ?_ (fun _ h=>(Sublist.map _ (take_sublist _ _)).subset h);refine az 0 rfl bp ?_;refine az 1 rfl lZ ?_;refine az 2 rfl (Mk 1) ?_;refine az 3 rfl (dr 6) ?_;refine az 4 rfl (dK 0) ?_;refine dD.later rfl ?_;refine AD.one (i:=5) aA ?_;refine bj.K1 rfl ap rfl rfl rfl call86 (KM hm hw ht hG t g s.aj ho fS) (fun r S h=>h.flat) ⟨⟨_,ot,(uM ⟨eR,eR,lK kH (cr jE _) (fun B hB=>by simp[hB]),eR,eR,trivial⟩:View _ (.agg [bw t.nm,av 2 cC t.ay,aN ad t.rows.length cap,av 5 cP t.ix.ag,ae t.ix.root]) (.agg (c9 t)))⟩,⟨_,ot,eR⟩,trivial⟩ ?_;rintro _ Sx ⟨dg,cR,rfl,dW⟩;refine AD.perm (jk (A:=[_,_])) ?_;refine cA 6 rfl bp ?_;refine cA 7 rfl Nq ?_;refine cA 8 rfl Nq ?_;refine eH ?_;refine bg [0,6,7] ?_;refine af [0,6,7,20] ?_;refine au ?_ ?_<;>intro aM bD
 ·have hne:(ax t s.aj).2≠0:=(by simpa using aM)
  have aW:mG t s.aj=(t,0,(ax t s.aj).2):=if_pos hne;refine af [4,5] ?_;refine aI [] ?_;rw[aW];exact⟨rfl,fun h=>absurd h hne⟩
 have hz:(ax t s.aj).2=0:=(by simpa using aM)
 have aW:mG t s.aj=(rA t (ax t s.aj).1,((ax t s.aj).1.length:Int),0):=if_neg (fun h=>h hz);refine CD.skip ?_;refine CD.seq ?_;refine CD.seq ?_;refine CD.gN (t:=6) (Sq:=Sx) lk dW (cr Tw.eC _) (oN (A:=[_,_])) ?_;refine s9 ?_;refine bg [0,6,22,23,24] ?_;refine eA [0,6,22,23] (fun aU _ (U:Nat×aO×Option Addr×Nat×List ah) aH=>match U with|(k,u,Z,E,O)=>(k≤(ax t s.aj).1.length)∧(rA u ((ax t s.aj).1.drop k)=rA t (ax t s.aj).1)∧(eD u n)∧(∀i∈(ax t s.aj).1.drop k,gz u i)∧(vv u Z E O)∧aH=(⟨56,(24,ae (k:Nat))::aU,(⟨b3,32,12,bX s⟩::⟨bt,53,qj,pre++([bw u.nm,av 2 cC u.ay,aN Z u.rows.length E,av 5 cP u.ix.ag,ae u.ix.root]++post)⟩::O)⟩:St)) (fun (U:Nat×aO×Option Addr×Nat×List ah)=>match U with|(k,u,Z,E,O)=>(ax t s.aj).1.length-k) (0,t,ad,cap,Sr) ⟨(Nat.zero_le _),rfl,g,mC,kH,rfl⟩ ?_;rintro⟨k,u,Z,E,O⟩ _ ⟨hk,WQ,gu,kj,vY,rfl⟩;refine af [0,6,22,23,24,25] ?_;refine au ?_ ?_<;>intro aY cy
 ·have aa:k<(ax t s.aj).1.length:=(by omega)
  have ju:(ax t s.aj).1.drop k=((ax t s.aj).1[k]'aa)::(ax t s.aj).1.drop (k+1):=drop_eq_getElem_cons aa;have rR:gz u ((ax t s.aj).1[k]'aa):=kj _ (by rw[ju];exact mem_cons_self);obtain⟨gC,I,nW⟩:=id rR;obtain⟨br,rfl,uy,uz,rfl⟩:=vY.pos w4;have gu2:=QH gu rR;have gi:(nQ u ((ax t s.aj).1[k]'aa)).rows.length=u.rows.length:=length_set;have ah8:rA (nQ u ((ax t s.aj).1[k]'aa)) ((ax t s.aj).1.drop (k+1))=rA t (ax t s.aj).1:=(by rw[←WQ,ju];rfl)
  have Ma:∀i∈(ax t s.aj).1.drop (k+1),gz (nQ u ((ax t s.aj).1[k]'aa)) i:=fun i hi=>Ug (kj i (by rw[ju];exact mem_cons_of_mem _ hi)) (fun e=>by subst e;have h9:=hnd.sublist (drop_sublist k _);rw[ju,nodup_cons] at h9;exact h9.1 hi) gC;have CQ:vv (nQ u ((ax t s.aj).1[k]'aa)) (some ⟨br,0,none⟩) E [⟨br,28,E*1,(nQ u ((ax t s.aj).1[k]'aa)).rows.flatMap fa⟩]:=bE (by show(u.rows.set _ _).length≤_;rw[length_set];exact uy) uz;obtain⟨Y2,Ec⟩:=gz.ok gu rR;have vZ:=ze (G:=G) hG (u.rows[((ax t s.aj).1[k]'aa).toNat]) (by rw[←iX I];omega) (by rw[←iX I];omega) (fun v hv=>(Ec v (by rw[iX I];exact hv)).1);rw[show cH (u.rows[((ax t s.aj).1[k]'aa).toNat])=cH (rowAt u ((ax t s.aj).1[k]'aa)) from by rw[iX I]] at vZ;have yx:=Sj (G:=G) gu.ix (cH (rowAt u ((ax t s.aj).1[k]'aa)));rw[T2 gu.ix (uT (by rw[iX I];exact(gu.row _ I nW).1)) ((Bl gu.ix _).2 ⟨_,rR.iG gu⟩)] at yx;unfold Tw.cT at yx;have apq:=gu.eJ;refine af [0,6,9,22,23,24] ?_;refine CD.seq ?_;refine lF 17 [0,6,9,22,23,24,29,43] ?_;refine aS 4 ?_ (h:=by exact(xJ 1));refine aS 3 ?_ (h:=by exact(oI 1));refine aS 1 ?_ (h:=by exact(dF 1 (h:=by first|exact .l (j:=((ax t s.aj).1[k]'aa).toNat) (Int.toNat_of_nonneg gC).symm I|exact .r (j:=((ax t s.aj).1[k]'aa).toNat) (Int.toNat_of_nonneg gC).symm I)))
  refine aS 0 ?_ (h:=by exact(cW (mk:=Op.load 28) rfl ot (iY (k:=2) (i:=((ax t s.aj).1[k]'aa).toNat) (ls:=u.rows) jE rfl rfl rfl isAgg28 I rfl)));refine dh (vZ) ?_;refine dh (yx) ?_;refine bG ?_;refine aE 2 ?_;refine OD.storeAt (k:=1) (cs':=pre++([bw u.nm,av 2 cC u.ay,aN (some ⟨br,0,none⟩) (nQ u ((ax t s.aj).1[k]'aa)).rows.length E,.list 5 ((nQ u ((ax t s.aj).1[k]'aa)).ix.ag.flatMap cP) (nQ u ((ax t s.aj).1[k]'aa)).ix.ag.length,ae (nQ u ((ax t s.aj).1[k]'aa)).ix.root]++post)) ap rfl rfl ot rfl rfl ot rfl rfl sizeOf51 rfl (by show off+3+2≤(pre++(([bw u.nm,av 2 cC u.ay,aN (some ⟨br,0,none⟩) u.rows.length E,av 5 cP u.ix.ag,ae u.ix.root]:List D)++post)).length;simp only[length_append,length_cons,length_nil];omega) (by exact BJ (j:=3) hp aR (by rw[gi];rfl)) ?_;refine an 56 [0,6,9,22,23,24] ?_;refine dM 3 ?_;refine bN (oI 1) ?_;refine aE 1 ?_;refine bN (dF 1 (h:=by first|exact .l (j:=((ax t s.aj).1[k]'aa).toNat) (Int.toNat_of_nonneg gC).symm (by rw[gi];exact I)|exact .r (j:=((ax t s.aj).1[k]'aa).toNat) (Int.toNat_of_nonneg gC).symm (by rw[gi];exact I))) ?_
  refine OD.storeAt (k:=2) (cs':=(u.rows.flatMap fa).set ((ax t s.aj).1[k]'aa).toNat (cf)) ap rfl rfl ot rfl rfl bI rfl rfl sizeOf28 rfl (by show 0+((ax t s.aj).1[k]'aa).toNat*1+1≤(u.rows.flatMap fa).length;rw[cr jE];omega) (by show(u.rows.flatMap fa).set (0+((ax t s.aj).1[k]'aa).toNat*1) _=_;rw[Nat.zero_add,Nat.mul_one]) ?_;refine OD.cells (k:=2) (cs':=(nQ u ((ax t s.aj).1[k]'aa)).rows.flatMap fa) (S':=[_,_,_]) rfl (by have:=Ti (fQ (sz:=3)) (u.rows.flatMap fa) ((ax t s.aj).1[k]'aa).toNat;rw[show(u.rows.flatMap fa).set ((ax t s.aj).1[k]'aa).toNat (.list 3 [] 0)=(u.rows.set ((ax t s.aj).1[k]'aa).toNat []).flatMap fa from by have:=oP jE u.rows [] I;rw[Nat.mul_one] at this;exact this] at this;exact this) rfl ?_;refine an 56 [0,6,22,23,24] ?_;refine cm [0,6,22,23,24] ?_;refine⟨((k+1),(nQ u ((ax t s.aj).1[k]'aa)),(some ⟨br,0,none⟩),E,[⟨br,28,E*1,(nQ u ((ax t s.aj).1[k]'aa)).rows.flatMap fa⟩]),_,cD,aK,w4,ah8,gu2,Ma,CQ,rfl⟩
 have nq:u=rA t (ax t s.aj).1:=(by rw[←WQ,drop_of_length_le w4];rfl)
 subst nq;refine af [4,5] ?_;refine aI (⟨bt,53,qj,pre++(_++post)⟩::O) ?_;rw[aW];exact⟨rfl,fun _=>⟨Z,E,O,vY,rfl⟩⟩

end Go.Proofs.YtdgichenhdikgaaGreatDoor.Ba
namespace Go.Proofs.YtdgichenhdikgaaGreatDoor.Ba
open List
open Go.Proofs.Tryz
open Go.RowKit V Pk Tr Vl Go.Proofs.YtdgichenhdikgaaGreatDoor.Nm Pc Cd Ex Tw
open Pa (cU bX)
variable {ops:List aX} {row:List Vl}
theorem Jw:∀(i:Nat) (cs:List cz) (vs:List Vl),cs.length=vs.length→(Pc.nN i cs vs=0↔∀j (h1:j<cs.length) (h2:j<vs.length),Pc.jL (i+j) cs[j] vs[j]=0)
 | _,[],[],_=>⟨fun _ j h1=>absurd h1 (Nat.not_lt_zero j),fun _=>rfl⟩
 | _,[],_::_,h=>by cases h
 | _,_::_,[],h=>by cases h
 | i,c::cs,v::vs,h=>by
  rw[Pc.nN];have E:=Jw (i+1) cs vs (Nat.succ.inj h);by_cases he:Pc.jL i c v=0
  ·rw[if_neg (fun h=>h he),E];constructor
   ·intro k j h1 h2;cases j with
    | zero=>exact he
    | succ j=>have:=k j (Nat.lt_of_succ_lt_succ h1) (Nat.lt_of_succ_lt_succ h2);rw[show i+(j+1)=i+1+j by omega];exact this
   intro k j h1 h2;have:=k (j+1) (Nat.succ_lt_succ h1) (Nat.succ_lt_succ h2);rw[show i+(j+1)=i+1+j by omega] at this;exact this
  rw[if_pos he];exact⟨fun h=>absurd h he,fun k=>absurd (k 0 (Nat.succ_pos _) (Nat.succ_pos _)) he⟩
theorem Kk{r:List Vl}:Pc.dO c8 r=0↔r.length=4∧∀j (h1:j<c8.length) (h2:j<r.length),Pc.jL j c8[j] r[j]=0:=by
 constructor
 ·intro h;have h4:=nH h;unfold Pc.dO at h;rw[if_neg Ar,if_neg xS,Jw 0 c8 r (by rw[h4];rfl)] at h;refine⟨h4,fun j h1 h2=>?_⟩;have:=h j h1 h2;rwa [Nat.zero_add] at this
 intro ⟨h4,h⟩;unfold Pc.dO;rw[if_neg Ar,if_neg xS,Jw 0 c8 r (by rw[h4];rfl)];intro j h1 h2;rw[Nat.zero_add];exact h j h1 h2
theorem afv{i:Nat}{c:cz}{v:Vl}(h:Pc.jL i c v=0):jR c.k v:=by
 unfold Pc.jL at h;by_cases h1:cn v=0
 ·rw[if_neg (fun e=>e h1)] at h;by_cases h2:v.k≠c.k∧(i=0∨v.k≠0)
  ·rw[if_pos h2] at h;cases h
  exact⟨h1,by omega⟩
 rw[if_pos h1] at h;exact absurd h h1
theorem afw{r:List Vl}(h:Pc.dO c8 r=0):B3 c8 r:=fun i=>by
 obtain⟨h4,hf⟩:=Kk.1 h;have hc:c8.length=4:=rfl;rw[getD_eq_getElem?_getD,getD_eq_getElem?_getD];by_cases hi:i<4
 ·rw[getElem?_eq_getElem w4,getElem?_eq_getElem w4];exact afv (hf i w4 w4)
 rw[getElem?_eq_none w4,getElem?_eq_none w4];exact zb
theorem Uh{r:List Vl}(h:Pc.dO c8 r=0){c:Nat}(hc:c<c8.length){v:Vl}(E:jR c8[c].k v)(h0:c=0→v.k≠0):Pc.dO c8 (r.set c v)=0:=by
 obtain⟨h4,hf⟩:=Kk.1 h;refine Kk.2 ⟨by rw[length_set];exact h4,fun j h1 h2=>?_⟩;rw[length_set] at h2;rw[getElem_set];split
 ·rename_i e;subst e;unfold Pc.jL;rw[if_neg (fun e=>e E.1),if_neg (fun e=>?_)];have:=E.2;have:=e.2;have:=e.1;by_cases I:c=0
  ·have:=h0 I;omega
  omega
 exact hf j h1 h2
theorem E8:∀(ops:List aX) (h:Int),fJ h ops=0→∀o∈ops,∃h',fg h' o=0
 | [],_,_,o,ho=>by cases ho
 | x::r,h,hx,o,ho=>by
  rw[fJ] at hx;by_cases he:fg h x=0
  ·rw[if_pos he] at hx;rcases mem_cons.1 ho with rfl|ho
   ·exact⟨_,he⟩
   exact E8 r _ hx o ho
  rw[if_neg he] at hx;exact absurd hx he
theorem ab5{l:List cz}(jv:∀o∈ops,o.nm.size≤maxLen)(fS:∀o∈ops,o.v.Ok)(hk:(ew l ops).2=0):∀o∈ops,zy l o:=fun o ho=>by
 obtain⟨_,hx,he⟩:=Fs hk;obtain⟨h',h1⟩:=E8 ops 0 (wG hx).2 o ho;obtain⟨_,h2,h3,_⟩:=wA h1;exact⟨jv o ho,fS o ho,EJ h3,h2.1,h2.2,Qe (by rw[he] at hk;exact hk) o ho⟩
theorem SC{l:List cz}{row:List Vl}(hr:∀v∈row,v.Ok):∀(ops:List aX),(∀o∈ops,o.v.Ok)→∀st:List Vl,(∀v∈st,v.Ok)→(jH bJ (fX l row) ops st).1.Ok
 | [],_,st,fG=>JZ fG 0
 | o::r,hg,st,fG=>by
  have I:(fX l row o (fj bJ o.k st) (eW bJ o.k st)).1.Ok:=TM hr (hg o mem_cons_self) (BD fG _) (BE fG _);by_cases hz:(fX l row o (fj bJ o.k st) (eW bJ o.k st)).2=0
  ·rw[J0 hz];refine SC hr r (fun x hx=>hg x (mem_cons_of_mem _ hx)) _ fun v E=>?_;rcases mem_append.1 E with E|E
   ·exact fG v (mem_of_mem_take E)
   rw[mem_singleton] at E;rw[E];exact I
  rw[Jf hz];exact sy
theorem afx{l:List cz}(hr:∀v∈row,v.Ok)(fS:∀o∈ops,o.v.Ok):(fp l row ops).1.Ok:=by
 unfold fp;repeat' split
 all_goals first|exact sy|exact SC hr ops fS [] (fun v E=>by cases E)
theorem adZ(jv:∀o∈ops,o.nm.size≤maxLen)(fS:∀o∈ops,o.v.Ok)(hw:Pc.dO c8 row=0)(hk:(ew c8 ops).2=0)(he:(fp c8 row ops).2=0):jR (ew c8 ops).1 (fp c8 row ops).1:=by
 obtain⟨_,_,_,h4⟩:=abk Fb hw (afw hw) (ab5 jv fS hk) (Fs hk).2.1;obtain⟨_,h5|h5⟩:=h4 hk
 ·rw[h5] at he;cases he
 exact h5.2
def iQ(t:aO)(c:Int)(e:List aX):List Vl→List Int→List Vl×Int
 | acc,[]=>(acc,0)
 | acc,i::r=>if (fp t.ay (rowAt t i) e).2≠0 then ([],(fp t.ay (rowAt t i) e).2) else if c=0∧(fp t.ay (rowAt t i) e).1.k=0 then ([],4) else iQ t c e (acc++[(fp t.ay (rowAt t i) e).1]) r
def rB(t:aO)(i:Int)(c:Nat)(v:Vl):aO:={t with rows:=t.rows.set i.toNat ((rowAt t i).set c v)}
def mP(c:Nat):aO→List Int→List Vl→aO
 | t,i::r,v::s=>mP c (rB t i c v) r s
 | t,_,_=>t
noncomputable def oo(t:aO):aG→List Int→aG
 | x,[]=>x
 | x,i::r=>oo t (gI x (dc x) (cH (rowAt t i))) r
noncomputable def kE:aO→List Int→List Vl→aO×Int
 | t,i::r,v::s=>if gE t.ix (cH (rowAt (rB t i 0 v) i)) (dc t.ix)=true then (t,9) else kE {rB t i 0 v with ix:=gp t.ix (dc t.ix) (cH (rowAt (rB t i 0 v) i)) i} r s
 | t,_,_=>(t,0)
noncomputable def ic(t:aO)(s:cU):aO×Int×Int :=
 if bM t.ay s.set<0 then (t,0,8) else if (ew t.ay s.bQ).2≠0 then (t,0,(ew t.ay s.bQ).2)
 else if (ew t.ay s.bQ).1≠(t.ay.getD (bM t.ay s.set).toNat ⟨⟨#[]⟩,0⟩).k∧(ew t.ay s.bQ).1≠0 then (t,0,4)
 else if (ax t s.aj).2≠0 then (t,0,(ax t s.aj).2)
 else if (iQ t (bM t.ay s.set) s.bQ [] (ax t s.aj).1).2≠0 then (t,0,(iQ t (bM t.ay s.set) s.bQ [] (ax t s.aj).1).2)
 else if 0<bM t.ay s.set then (mP (bM t.ay s.set).toNat t (ax t s.aj).1 (iQ t (bM t.ay s.set) s.bQ [] (ax t s.aj).1).1,(ax t s.aj).1.length,0)
 else if (kE {t with ix:=oo t t.ix (ax t s.aj).1} (ax t s.aj).1 (iQ t (bM t.ay s.set) s.bQ [] (ax t s.aj).1).1).2≠0 then (t,0,(kE {t with ix:=oo t t.ix (ax t s.aj).1} (ax t s.aj).1 (iQ t (bM t.ay s.set) s.bQ [] (ax t s.aj).1).1).2)
 else ((kE {t with ix:=oo t t.ix (ax t s.aj).1} (ax t s.aj).1 (iQ t (bM t.ay s.set) s.bQ [] (ax t s.aj).1).1).1,(ax t s.aj).1.length,0)

end Go.Proofs.YtdgichenhdikgaaGreatDoor.Ba
