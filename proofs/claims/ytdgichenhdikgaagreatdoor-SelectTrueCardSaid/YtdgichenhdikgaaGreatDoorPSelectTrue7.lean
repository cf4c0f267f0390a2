/-
  What the proof of SelectTrue leans on, part 7 of 9: walks of the program's functions at the level of values, and plain facts of what they compute.
-/
import Derived.Test.YtdgichenhdikgaaGreatDoorPSelectTrue6
set_option linter.unusedVariables false
set_option linter.unusedSimpArgs false
set_option maxRecDepth 100000
set_option maxHeartbeats 4000000
namespace Go.Proofs.YtdgichenhdikgaaGreatDoor.Tw
open List
open Go.Proofs.Tryz
open Go.RowKit V Tr Pk
variable {α:Type} {i h:Nat} {J:List D} {t u:aD} {k up:K} {row:Int}
def ig(q:List α)(i:Nat)(a:α):List α:=q.take i++a::q.drop i
theorem yS{q:List α}{a:α}(hi:i≤q.length):(ig q i a).length=q.length+1:=by unfold ig;rw[length_append,length_take,length_cons,length_drop];omega
theorem RS{q:List α}{a:α}:ig q q.length a=q++[a]:=by unfold ig;rw[take_length,drop_length]
theorem Es{g:α→List D}(hg:∀a,(g a).length=1){q:List α}{a:α}:(ig q i a).flatMap g=(q.flatMap g).take i++(g a++(q.flatMap g).drop i):=by
 have h1:=tW hg q i;have h2:=u4 hg q i;rw[Nat.mul_one] at h1 h2;unfold ig;rw[flatMap_append,flatMap_cons,h1,h2]
theorem Ed{A ds:List D}{off:Nat}(hA:A.length=off)(hl:ds.length≤J.length):da (A++J) off ds=A++(ds++J.drop ds.length):=by
 rw[we _ _ _ vH,take_left' hA,append_assoc,←drop_drop,drop_left' hA]
theorem RT{T R c:List D}(hT:T.length=i)(hc:c.length=1)(E:R.length+1≤J.length):T++(c++R) <+: da (da (T++J) i c) (i+1) R:=by
 rw[Ed hT w4,show T++(c++J.drop c.length)=(T++c)++J.drop c.length from(append_assoc _ _ _).symm,Ed (A:=T++c) vH (by rw[length_drop];omega)];exact⟨_,by simp only[append_assoc];rfl⟩
theorem TQ{T R c:List D}(hT:T.length=i)(hc:c.length=1)(O:1≤J.length):T++(c++R) <+: da (da ((T++R)++J) (i+1) R) i c:=by
 obtain⟨E,I,hX,h1⟩:∃E I,R++J=E++I∧E.length=1:=⟨(R++J).take 1,(R++J).drop 1,(take_append_drop 1 _).symm,by rw[length_take,length_append];omega⟩
 have h2:R.length≤I.length:=(by have:=congrArg length hX;rw[length_append,length_append] at this;omega)
 have e1:(T++R)++J=(T++E)++I:=(by rw[append_assoc,hX,←append_assoc])
 have e2:(T++E)++(R++I.drop R.length)=T++(E++(R++I.drop R.length)):=append_assoc _ _ _;rw[e1,Ed (A:=T++E) vH h2,e2,Ed hT vH,drop_left' w4];exact⟨I.drop R.length,by simp only[append_assoc]⟩
theorem qx(n:Nat)(x:α):(replicate n x).length=n:=length_replicate
variable {G:List (Nat×List Value)}
theorem DY:(Tryz.prog.info? 88).map (fun i=>i.size)=some 1:=by kernel_rfl
theorem Ih:(Tryz.prog.info? 88).map (fun i=>(i.zero,i.size,i.bytes))=some (some (.slice none 0 0),1,24):=by kernel_rfl
theorem aaq(q:List K)(i:Nat)(a:K)(cap b bv:Nat)(hi:i≤q.length)(hc:q.length≤cap)(hm:cap≤maxLen)(hs:q.length≤1000):VC Tryz.prog G 124 [aN (some ⟨b,0,none⟩) q.length cap,ae (i:Nat),aN (some ⟨bv,0,none⟩) 1 1] [⟨bv,88,1*1,cK a⟩,⟨b,88,cap*1,q.flatMap cK⟩] (fun r S=>∃ad kJ,r=aN ad (q.length+1) kJ∧bp 88 1 ((ig q i a).flatMap cK) (ig q i a).length ad kJ S):=by
 refine VC.body func124 rfl ntmps124 aO fun X0 w0 bg=>?_;refine af [0,1,2] ?_;refine aB 2 ?_;refine bN (eB (l:=i) rfl ot ⟨_,ot⟩ trivial ux) ?_;refine an 95 [0,1,2] ?_;refine af [0,1,2,7] ?_;refine af [0,1,2,7,16] ?_;refine aq ?_ ?_<;>intro aP bC
 ·exact absurd aP (by simp at *)
 refine af [0,1,2,7,8] ?_;refine af [0,1,2,7,8,22] ?_;refine aq ?_ ?_<;>intro aZ cr
 ·obtain rfl:i=q.length:=(by simp at *;omega)
  refine aB 2 ?_;refine fA 0 24 1 1 ?_;refine OD.ey (ls:=q) (new:=[a]) (Sq:=[⟨b,88,cap*1,q.flatMap cK⟩]) gb pP ap rfl rfl underlying151 Ih rfl w8 ot (bM hc hm) (cZ (A:=[])) ot bn vK ij (fun ym Cw Mb Mc=>?_);refine OD.perm (dV (S1:=[⟨ym,88,Cw*1,flatMap cK (q++[a])⟩]) (A:=[])) ?_;refine an 95 [6] ?_;refine aI [⟨ym,88,Cw*1,flatMap cK (q++[a])⟩] ?_;exact⟨_,_,by rw[length_append];rfl,by rw[RS];exact bM Mb Mc⟩
 have aa:i<q.length:=(by omega)
 have hQ:(q.flatMap cK).length=q.length:=(by rw[cn gb];omega)
 have Z:((q.flatMap cK).take i).length=i:=(by rw[length_take];omega)
 have U:((q.flatMap cK).drop i).length=q.length-i:=(by rw[length_drop];omega)
 have jF:∀d∈(q.flatMap cK),V.one d=true:=ue pP _;refine cL [0,1,2,7,8,31] ?_;refine aS 4 ?_ (h:=by exact(Ej rfl rfl ot runUnderlying151));refine bI ?_;refine aq ?_ ?_<;>intro bX cA
 ·have I:eI cap (i) 1 0=i:=(by unfold eI;rw[if_neg w4];omega)
  have rX:Nat.min (q.length-i) (q.length+1-(i+1))=q.length-i:=Nat.min_eq_left w4;refine aB 2 ?_;refine bN (eB (l:=0) (h:=i) rfl ot trivial ⟨_,ot⟩ Mt) ?_;refine aF 5 ?_;refine OD.Tb (n:=i) (m:=q.length+1-i) (k:=1) ap rfl rfl underlying151 underlying3 Ih rfl ot rfl rfl (by show i≤(q.flatMap cK).length;omega) (Eq.trans ot (congrArg (fun z=>D.v (.int .i64 z)) (show((q.length:Int)+(1:Nat)-(i:Int))=((q.length+1-i:Nat):Int) by omega))) w4 w4 GR w4 (fun G0 E Cx Md=>?_);have j6:i+(q.length+1-i)=q.length+1:=(by omega)
  rw[j6] at Cx ⊢;refine an 95 [0,1,2,7,9] ?_;refine aB 2 ?_;refine bN (eB (l:=i) (h:=q.length+1) rfl ot ⟨_,ot⟩ trivial ux) ?_;have vS:eI E (i) 1 0=i:=(by unfold eI;rw[if_neg w4];omega)
  rw[vS];refine aF 1 ?_;have O:eI E (i+1) 1 0=i+1:=(by unfold eI;rw[if_neg w4];omega)
  refine OD.wk (Wk.toEnd (k:=0) rfl) ?_;refine OD.copy (k:=0) (k2:=1) (od:=i) (new:=cK a) (cs':=da ((q.flatMap cK).take i++replicate (E*1-((q.flatMap cK).take i).length) D.bS) i (cK a)) ap rfl rfl underlying151 DY ot rfl rfl ot rfl rfl (by show take (Nat.min 1 (q.length+1-i)) (cK a)=_;rw[show Nat.min 1 (q.length+1-i)=1 from Nat.min_eq_left w4];rfl) (Nat.min_eq_left (by omega:1≤q.length+1-i)).symm (fun d hd=>all_eq_true.1 (pP a) d hd) (by show i+1≤((q.flatMap cK).take i++replicate (E*1-((q.flatMap cK).take i).length) D.bS).length;rw[length_append,qx,Z];omega) rfl ?_;refine an 95 [0,1,7,9] ?_;refine CD.seq ?_;refine nH 8 [9,50,53] ?_;refine aS 4 ?_ (h:=by exact(eB (l:=i+1) (h:=q.length+1) rfl ot ⟨_,ot⟩ trivial ux));refine aS 2 ?_ (h:=by exact(eB (l:=i) (h:=q.length) rfl ot ⟨_,ot⟩ trivial ux));refine jb ?_
  refine OD.copy (k:=0) (k2:=2) (od:=eI E (i+1) 1 0) (oy:=eI cap i 1 0) (new:=(q.flatMap cK).drop i) (cs':=da (da ((q.flatMap cK).take i++replicate (E*1-((q.flatMap cK).take i).length) D.bS) i (cK a)) (i+1) ((q.flatMap cK).drop i)) ap rfl rfl underlying151 DY ot rfl rfl ot rfl rfl (by show take (Nat.min (q.length-i) (q.length+1-(i+1))) (drop (eI cap i 1 0) (q.flatMap cK))=_;rw[I,rX,take_of_length_le w4]) (by show _=Nat.min (q.length-i) (q.length+1-(i+1));rw[rX,U]) (fun d hd=>jF d (mem_of_mem_drop hd)) (by show eI E (i+1) 1 0+_≤(da ((q.flatMap cK).take i++replicate (E*1-((q.flatMap cK).take i).length) D.bS) i (cK a)).length;rw[O,U,yE,length_append,qx,Z];omega) (by show da (da ((q.flatMap cK).take i++replicate (E*1-((q.flatMap cK).take i).length) D.bS) i (cK a)) (eI E (i+1) 1 0) _=_;rw[O]) ?_;refine an 95 [9] ?_;refine aB 1 ?_;refine OD.shrink (k:=0) (cs':=(ig q i a).flatMap cK) rfl (by rw[Es gb];exact RT Z rfl (by rw[qx,U,Z];omega)) ?_;refine an 95 [6] ?_;refine aI [⟨G0,88,E*1,(ig q i a).flatMap cK⟩] ?_;exact⟨_,_,rfl,bM (by rw[yS hi];exact Cx) Md⟩
 have I:eI cap (i) 1 0=i:=(by unfold eI;rw[if_neg w4];omega)
 have O:eI cap (i+1) 1 0=i+1:=(by unfold eI;rw[if_neg w4];omega)
 have rX:Nat.min (q.length+1-i) (q.length+1-(i+1))=q.length-i:=(by rw[show q.length+1-(i+1)=q.length-i from by omega];exact Nat.min_eq_right w4)
 refine cL [0,1,2,7,8] ?_;refine aS 4 ?_ (h:=by exact(eB (l:=0) (h:=q.length+1) rfl ot trivial ⟨_,ot⟩ Mt));refine bI ?_;refine aB 5 ?_;refine bN (eB (l:=i+1) (h:=q.length+1) rfl ot ⟨_,ot⟩ trivial ux) ?_;refine OD.wk (Wk.toEnd (k:=1) rfl) ?_;refine OD.overlaps (r:=4) (k:=0) (k2:=1) ap rfl rfl func146 az az az az underlying151 sizeOf88 ot rfl rfl ot rfl rfl w8 (by show cap*1≠0;omega) ?_;refine an 95 [0,1,2,7,8,68] ?_;refine aq ?_ ?_<;>intro cN dW
 ·refine CD.seq ?_;refine nH 8 [0,1,2,73,76] ?_;refine aS 4 ?_ (h:=by exact(eB (l:=i+1) (h:=q.length+1) rfl ot ⟨_,ot⟩ trivial ux));refine aS 2 ?_ (h:=by exact(eB (l:=i) (h:=q.length+1) rfl ot ⟨_,ot⟩ trivial ux));refine jb ?_;refine OD.copy (k:=1) (k2:=1) (od:=eI cap (i+1) 1 0) (oy:=eI cap i 1 0) (new:=(q.flatMap cK).drop i) (cs':=da ((q.flatMap cK)++replicate (cap*1-(q.flatMap cK).length) D.bS) (i+1) ((q.flatMap cK).drop i)) ap rfl rfl underlying151 DY ot rfl rfl ot rfl rfl (by show take (Nat.min (q.length+1-i) (q.length+1-(i+1))) (drop (eI cap i 1 0) ((q.flatMap cK)++replicate (cap*1-(q.flatMap cK).length) D.bS))=_;rw[I,rX,drop_append_of_le_length w4,take_left' U]) (by show _=Nat.min (q.length+1-i) (q.length+1-(i+1));rw[rX,U]) (fun d hd=>jF d (mem_of_mem_drop hd)) (by show eI cap (i+1) 1 0+_≤((q.flatMap cK)++replicate (cap*1-(q.flatMap cK).length) D.bS).length;rw[O,U,length_append,qx,hQ];omega) (by show da ((q.flatMap cK)++replicate (cap*1-(q.flatMap cK).length) D.bS) (eI cap (i+1) 1 0) _=_;rw[O]) ?_;refine an 95 [0,1,2] ?_;refine aB 2 ?_;refine bN (eB (l:=i) (h:=q.length+1) rfl ot ⟨_,ot⟩ trivial ux) ?_;refine aF 1 ?_
  refine OD.copy (k:=1) (k2:=0) (od:=eI cap i 1 0) (new:=cK a) (cs':=da (da ((q.flatMap cK)++replicate (cap*1-(q.flatMap cK).length) D.bS) (i+1) ((q.flatMap cK).drop i)) i (cK a)) ap rfl rfl underlying151 DY ot rfl rfl ot rfl rfl (by show take (Nat.min 1 (q.length+1-i)) (cK a)=_;rw[show Nat.min 1 (q.length+1-i)=1 from Nat.min_eq_left w4];rfl) (Nat.min_eq_left (by omega:1≤q.length+1-i)).symm (fun d hd=>all_eq_true.1 (pP a) d hd) (by show eI cap i 1 0+1≤(da ((q.flatMap cK)++replicate (cap*1-(q.flatMap cK).length) D.bS) (i+1) ((q.flatMap cK).drop i)).length;rw[I,yE,length_append,qx,hQ];omega) (by show da (da ((q.flatMap cK)++replicate (cap*1-(q.flatMap cK).length) D.bS) (i+1) ((q.flatMap cK).drop i)) (eI cap i 1 0) _=_;rw[I]) ?_;refine an 95 [0] ?_;refine aB 1 ?_;refine OD.shrink (k:=1) (cs':=(ig q i a).flatMap cK) rfl (by rw[Es gb];show _ <+: da (da ((q.flatMap cK)++_) (i+1) ((q.flatMap cK).drop i)) i (cK a);rw[show(q.flatMap cK)++replicate (cap*1-(q.flatMap cK).length) D.bS=((q.flatMap cK).take i++(q.flatMap cK).drop i)++replicate (cap*1-(q.flatMap cK).length) D.bS from by rw[take_append_drop]];exact TQ Z rfl (by rw[qx,hQ];omega)) ?_;refine an 95 [6] ?_;refine aI [⟨b,88,cap*1,(ig q i a).flatMap cK⟩] ?_;exact⟨_,_,rfl,bM (by rw[yS hi];omega) hm⟩
 exact absurd cN (by simp at *)
theorem DZ:(Tryz.prog.info? 3).map (fun i=>i.size)=some 1:=by kernel_rfl
theorem IM:(Tryz.prog.info? 3).map (fun i=>(i.zero,i.size,i.bytes))=some (some (.int .i64 0),1,8):=by kernel_rfl
theorem aar(q:List Int)(i:Nat)(a:Int)(cap b bv:Nat)(hi:i≤q.length)(hc:q.length≤cap)(hm:cap≤maxLen)(hs:q.length≤1000):VC Tryz.prog G 125 [aN (some ⟨b,0,none⟩) q.length cap,ae (i:Nat),aN (some ⟨bv,0,none⟩) 1 1] [⟨bv,3,1*1,cI a⟩,⟨b,3,cap*1,q.flatMap cI⟩] (fun r S=>∃ad kJ,r=aN ad (q.length+1) kJ∧bp 3 1 ((ig q i a).flatMap cI) (ig q i a).length ad kJ S):=by
 refine VC.body func125 rfl ntmps125 aO fun X0 w0 bg=>?_;refine af [0,1,2] ?_;refine aB 2 ?_;refine bN (eB (l:=i) rfl ot ⟨_,ot⟩ trivial uy) ?_;refine an 95 [0,1,2] ?_;refine af [0,1,2,7] ?_;refine af [0,1,2,7,16] ?_;refine aq ?_ ?_<;>intro aP bC
 ·exact absurd aP (by simp at *)
 refine af [0,1,2,7,8] ?_;refine af [0,1,2,7,8,22] ?_;refine aq ?_ ?_<;>intro aZ cr
 ·obtain rfl:i=q.length:=(by simp at *;omega)
  refine aB 2 ?_;refine fA 0 24 1 1 ?_;refine OD.ey (ls:=q) (new:=[a]) (Sq:=[⟨b,3,cap*1,q.flatMap cI⟩]) ez nR ap rfl rfl underlying67 IM rfl w8 ot (bM hc hm) (cZ (A:=[])) ot bn vK ij (fun ym Cw Mb Mc=>?_);refine OD.perm (dV (S1:=[⟨ym,3,Cw*1,flatMap cI (q++[a])⟩]) (A:=[])) ?_;refine an 95 [6] ?_;refine aI [⟨ym,3,Cw*1,flatMap cI (q++[a])⟩] ?_;exact⟨_,_,by rw[length_append];rfl,by rw[RS];exact bM Mb Mc⟩
 have aa:i<q.length:=(by omega)
 have hQ:(q.flatMap cI).length=q.length:=(by rw[cn ez];omega)
 have Z:((q.flatMap cI).take i).length=i:=(by rw[length_take];omega)
 have U:((q.flatMap cI).drop i).length=q.length-i:=(by rw[length_drop];omega)
 have jF:∀d∈(q.flatMap cI),V.one d=true:=ue nR _;refine cL [0,1,2,7,8,31] ?_;refine aS 4 ?_ (h:=by exact(Ej rfl rfl ot runUnderlying67));refine bI ?_;refine aq ?_ ?_<;>intro bX cA
 ·have I:eI cap (i) 1 0=i:=(by unfold eI;rw[if_neg w4];omega)
  have rX:Nat.min (q.length-i) (q.length+1-(i+1))=q.length-i:=Nat.min_eq_left w4;refine aB 2 ?_;refine bN (eB (l:=0) (h:=i) rfl ot trivial ⟨_,ot⟩ Mu) ?_;refine aF 5 ?_;refine OD.Tb (n:=i) (m:=q.length+1-i) (k:=1) ap rfl rfl underlying67 underlying3 IM rfl ot rfl rfl (by show i≤(q.flatMap cI).length;omega) (Eq.trans ot (congrArg (fun z=>D.v (.int .i64 z)) (show((q.length:Int)+(1:Nat)-(i:Int))=((q.length+1-i:Nat):Int) by omega))) w4 w4 GR w4 (fun G0 E Cx Md=>?_);have j6:i+(q.length+1-i)=q.length+1:=(by omega)
  rw[j6] at Cx ⊢;refine an 95 [0,1,2,7,9] ?_;refine aB 2 ?_;refine bN (eB (l:=i) (h:=q.length+1) rfl ot ⟨_,ot⟩ trivial uy) ?_;have vS:eI E (i) 1 0=i:=(by unfold eI;rw[if_neg w4];omega)
  rw[vS];refine aF 1 ?_;have O:eI E (i+1) 1 0=i+1:=(by unfold eI;rw[if_neg w4];omega)
  refine OD.wk (Wk.toEnd (k:=0) rfl) ?_;refine OD.copy (k:=0) (k2:=1) (od:=i) (new:=cI a) (cs':=da ((q.flatMap cI).take i++replicate (E*1-((q.flatMap cI).take i).length) D.bS) i (cI a)) ap rfl rfl underlying67 DZ ot rfl rfl ot rfl rfl (by show take (Nat.min 1 (q.length+1-i)) (cI a)=_;rw[show Nat.min 1 (q.length+1-i)=1 from Nat.min_eq_left w4];rfl) (Nat.min_eq_left (by omega:1≤q.length+1-i)).symm (fun d hd=>all_eq_true.1 (nR a) d hd) (by show i+1≤((q.flatMap cI).take i++replicate (E*1-((q.flatMap cI).take i).length) D.bS).length;rw[length_append,qx,Z];omega) rfl ?_;refine an 95 [0,1,7,9] ?_;refine CD.seq ?_;refine nH 8 [9,50,53] ?_;refine aS 4 ?_ (h:=by exact(eB (l:=i+1) (h:=q.length+1) rfl ot ⟨_,ot⟩ trivial uy));refine aS 2 ?_ (h:=by exact(eB (l:=i) (h:=q.length) rfl ot ⟨_,ot⟩ trivial uy));refine jb ?_
  refine OD.copy (k:=0) (k2:=2) (od:=eI E (i+1) 1 0) (oy:=eI cap i 1 0) (new:=(q.flatMap cI).drop i) (cs':=da (da ((q.flatMap cI).take i++replicate (E*1-((q.flatMap cI).take i).length) D.bS) i (cI a)) (i+1) ((q.flatMap cI).drop i)) ap rfl rfl underlying67 DZ ot rfl rfl ot rfl rfl (by show take (Nat.min (q.length-i) (q.length+1-(i+1))) (drop (eI cap i 1 0) (q.flatMap cI))=_;rw[I,rX,take_of_length_le w4]) (by show _=Nat.min (q.length-i) (q.length+1-(i+1));rw[rX,U]) (fun d hd=>jF d (mem_of_mem_drop hd)) (by show eI E (i+1) 1 0+_≤(da ((q.flatMap cI).take i++replicate (E*1-((q.flatMap cI).take i).length) D.bS) i (cI a)).length;rw[O,U,yE,length_append,qx,Z];omega) (by show da (da ((q.flatMap cI).take i++replicate (E*1-((q.flatMap cI).take i).length) D.bS) i (cI a)) (eI E (i+1) 1 0) _=_;rw[O]) ?_;refine an 95 [9] ?_;refine aB 1 ?_;refine OD.shrink (k:=0) (cs':=(ig q i a).flatMap cI) rfl (by rw[Es ez];exact RT Z rfl (by rw[qx,U,Z];omega)) ?_;refine an 95 [6] ?_;refine aI [⟨G0,3,E*1,(ig q i a).flatMap cI⟩] ?_;exact⟨_,_,rfl,bM (by rw[yS hi];exact Cx) Md⟩
 have I:eI cap (i) 1 0=i:=(by unfold eI;rw[if_neg w4];omega)
 have O:eI cap (i+1) 1 0=i+1:=(by unfold eI;rw[if_neg w4];omega)
 have rX:Nat.min (q.length+1-i) (q.length+1-(i+1))=q.length-i:=(by rw[show q.length+1-(i+1)=q.length-i from by omega];exact Nat.min_eq_right w4)
 refine cL [0,1,2,7,8] ?_;refine aS 4 ?_ (h:=by exact(eB (l:=0) (h:=q.length+1) rfl ot trivial ⟨_,ot⟩ Mu));refine bI ?_;refine aB 5 ?_;refine bN (eB (l:=i+1) (h:=q.length+1) rfl ot ⟨_,ot⟩ trivial uy) ?_;refine OD.wk (Wk.toEnd (k:=1) rfl) ?_;refine OD.overlaps (r:=4) (k:=0) (k2:=1) ap rfl rfl func148 az az az az underlying67 sizeOf3 ot rfl rfl ot rfl rfl w8 (by show cap*1≠0;omega) ?_;refine an 95 [0,1,2,7,8,68] ?_;refine aq ?_ ?_<;>intro cN dW
 ·refine CD.seq ?_;refine nH 8 [0,1,2,73,76] ?_;refine aS 4 ?_ (h:=by exact(eB (l:=i+1) (h:=q.length+1) rfl ot ⟨_,ot⟩ trivial uy));refine aS 2 ?_ (h:=by exact(eB (l:=i) (h:=q.length+1) rfl ot ⟨_,ot⟩ trivial uy));refine jb ?_;refine OD.copy (k:=1) (k2:=1) (od:=eI cap (i+1) 1 0) (oy:=eI cap i 1 0) (new:=(q.flatMap cI).drop i) (cs':=da ((q.flatMap cI)++replicate (cap*1-(q.flatMap cI).length) D.bS) (i+1) ((q.flatMap cI).drop i)) ap rfl rfl underlying67 DZ ot rfl rfl ot rfl rfl (by show take (Nat.min (q.length+1-i) (q.length+1-(i+1))) (drop (eI cap i 1 0) ((q.flatMap cI)++replicate (cap*1-(q.flatMap cI).length) D.bS))=_;rw[I,rX,drop_append_of_le_length w4,take_left' U]) (by show _=Nat.min (q.length+1-i) (q.length+1-(i+1));rw[rX,U]) (fun d hd=>jF d (mem_of_mem_drop hd)) (by show eI cap (i+1) 1 0+_≤((q.flatMap cI)++replicate (cap*1-(q.flatMap cI).length) D.bS).length;rw[O,U,length_append,qx,hQ];omega) (by show da ((q.flatMap cI)++replicate (cap*1-(q.flatMap cI).length) D.bS) (eI cap (i+1) 1 0) _=_;rw[O]) ?_;refine an 95 [0,1,2] ?_;refine aB 2 ?_;refine bN (eB (l:=i) (h:=q.length+1) rfl ot ⟨_,ot⟩ trivial uy) ?_;refine aF 1 ?_
  refine OD.copy (k:=1) (k2:=0) (od:=eI cap i 1 0) (new:=cI a) (cs':=da (da ((q.flatMap cI)++replicate (cap*1-(q.flatMap cI).length) D.bS) (i+1) ((q.flatMap cI).drop i)) i (cI a)) ap rfl rfl underlying67 DZ ot rfl rfl ot rfl rfl (by show take (Nat.min 1 (q.length+1-i)) (cI a)=_;rw[show Nat.min 1 (q.length+1-i)=1 from Nat.min_eq_left w4];rfl) (Nat.min_eq_left (by omega:1≤q.length+1-i)).symm (fun d hd=>all_eq_true.1 (nR a) d hd) (by show eI cap i 1 0+1≤(da ((q.flatMap cI)++replicate (cap*1-(q.flatMap cI).length) D.bS) (i+1) ((q.flatMap cI).drop i)).length;rw[I,yE,length_append,qx,hQ];omega) (by show da (da ((q.flatMap cI)++replicate (cap*1-(q.flatMap cI).length) D.bS) (i+1) ((q.flatMap cI).drop i)) (eI cap i 1 0) _=_;rw[I]) ?_;refine an 95 [0] ?_;refine aB 1 ?_;refine OD.shrink (k:=1) (cs':=(ig q i a).flatMap cI) rfl (by rw[Es ez];show _ <+: da (da ((q.flatMap cI)++_) (i+1) ((q.flatMap cI).drop i)) i (cI a);rw[show(q.flatMap cI)++replicate (cap*1-(q.flatMap cI).length) D.bS=((q.flatMap cI).take i++(q.flatMap cI).drop i)++replicate (cap*1-(q.flatMap cI).length) D.bS from by rw[take_append_drop]];exact TQ Z rfl (by rw[qx,hQ];omega)) ?_;refine an 95 [6] ?_;refine aI [⟨b,3,cap*1,(ig q i a).flatMap cI⟩] ?_;exact⟨_,_,rfl,bM (by rw[yS hi];omega) hm⟩
 exact absurd cN (by simp at *)
theorem abO(a:K)(bv:Nat):VC Tryz.prog G 124 [bH,ae (0:Nat),aN (some ⟨bv,0,none⟩) 1 1] [⟨bv,88,1*1,cK a⟩] (fun r S=>∃ad E,r=aN ad 1 E∧bp 88 1 ((ig ([]:List K) 0 a).flatMap cK) (ig ([]:List K) 0 a).length ad E S):=by
 refine VC.body func124 rfl ntmps124 aO fun X0 w0 bg=>?_;refine af [0,1,2] ?_;refine aB 2 ?_;refine bN (D2 rfl ot ⟨_,_,ot,rfl⟩ rfl runUnderlying151 sizeOf88) ?_;refine an 95 [0,1,2] ?_;refine af [0,1,2,7] ?_;refine af [0,1,2,7,16] ?_;refine aq ?_ ?_<;>intro aP bC
 ·exact absurd aP (by simp at *)
 refine af [0,1,2,7,8] ?_;refine af [0,1,2,7,8,22] ?_;refine aq ?_ ?_<;>intro aZ cr
 ·refine aB 2 ?_;refine fA 0 24 1 1 ?_;refine OD.ey (ls:=([]:List K)) (new:=[a]) (Sq:=[]) gb pP ap rfl rfl underlying151 Ih rfl w8 ot iy (cZ (A:=[])) ot bn (by simp[maxLen]) bn (fun O I U Z=>?_);refine OD.perm (dV (S1:=[⟨O,88,I*1,flatMap cK (([]:List K)++[a])⟩]) (A:=[])) ?_;refine an 95 [6] ?_;refine aI [⟨O,88,I*1,flatMap cK (([]:List K)++[a])⟩] ?_;exact⟨_,_,rfl,bM U Z⟩
 exact absurd aZ (by simp at *)
theorem aas(q:List K)(i:Nat)(a:K)(ad:Option Addr)(cap:Nat)(Sq:List ah)(I:Nat)(hi:i≤q.length)(hs:q.length≤1000)(ho:bp 88 1 (q.flatMap cK) q.length ad cap Sq):VC Tryz.prog G 124 [aN ad q.length cap,ae (i:Nat),aN (some ⟨I,0,none⟩) 1 1] (⟨I,88,1*1,cK a⟩::Sq) (fun r S=>∃ad E,r=aN ad (q.length+1) E∧bp 88 1 ((ig q i a).flatMap cK) (ig q i a).length ad E S):=by
 rcases ho with ⟨h1,h2,rfl,rfl,rfl⟩|⟨b,rfl,h1,h2,rfl⟩
 ·obtain rfl:=length_eq_zero_iff.1 h1;obtain rfl:i=0:=Nat.le_zero.1 hi;exact abO a I
 exact aaq q i a cap b I hi h1 h2 hs
theorem abP(a:Int)(bv:Nat):VC Tryz.prog G 125 [bH,ae (0:Nat),aN (some ⟨bv,0,none⟩) 1 1] [⟨bv,3,1*1,cI a⟩] (fun r S=>∃ad E,r=aN ad 1 E∧bp 3 1 ((ig ([]:List Int) 0 a).flatMap cI) (ig ([]:List Int) 0 a).length ad E S):=by
 refine VC.body func125 rfl ntmps125 aO fun X0 w0 bg=>?_;refine af [0,1,2] ?_;refine aB 2 ?_;refine bN (D2 rfl ot ⟨_,_,ot,rfl⟩ rfl runUnderlying67 sizeOf3) ?_;refine an 95 [0,1,2] ?_;refine af [0,1,2,7] ?_;refine af [0,1,2,7,16] ?_;refine aq ?_ ?_<;>intro aP bC
 ·exact absurd aP (by simp at *)
 refine af [0,1,2,7,8] ?_;refine af [0,1,2,7,8,22] ?_;refine aq ?_ ?_<;>intro aZ cr
 ·refine aB 2 ?_;refine fA 0 24 1 1 ?_;refine OD.ey (ls:=([]:List Int)) (new:=[a]) (Sq:=[]) ez nR ap rfl rfl underlying67 IM rfl w8 ot iy (cZ (A:=[])) ot bn (by simp[maxLen]) bn (fun O I U Z=>?_);refine OD.perm (dV (S1:=[⟨O,3,I*1,flatMap cI (([]:List Int)++[a])⟩]) (A:=[])) ?_;refine an 95 [6] ?_;refine aI [⟨O,3,I*1,flatMap cI (([]:List Int)++[a])⟩] ?_;exact⟨_,_,rfl,bM U Z⟩
 exact absurd aZ (by simp at *)
theorem aat(q:List Int)(i:Nat)(a:Int)(ad:Option Addr)(cap:Nat)(Sq:List ah)(I:Nat)(hi:i≤q.length)(hs:q.length≤1000)(ho:bp 3 1 (q.flatMap cI) q.length ad cap Sq):VC Tryz.prog G 125 [aN ad q.length cap,ae (i:Nat),aN (some ⟨I,0,none⟩) 1 1] (⟨I,3,1*1,cI a⟩::Sq) (fun r S=>∃ad E,r=aN ad (q.length+1) E∧bp 3 1 ((ig q i a).flatMap cI) (ig q i a).length ad E S):=by
 rcases ho with ⟨h1,h2,rfl,rfl,rfl⟩|⟨b,rfl,h1,h2,rfl⟩
 ·obtain rfl:=length_eq_zero_iff.1 h1;obtain rfl:i=0:=Nat.le_zero.1 hi;exact abP a I
 exact aar q i a cap b I hi h1 h2 hs

noncomputable def pp(t:aD)(k:K)(row:Int)(h:Nat):aD×Int:=if lD t k=0 then (if row<0 then (vV,3) else if iA t k h=true then (vV,9) else if 4000<(gB t h k row).ag.length then (vV,10) else (gB t h k row,0)) else (vV,lD t k)
theorem afg{ls:List Int}{r:D}{S:List ah}(h:gh cI 3 1 ls r S):kS r=true∧∀B∈S,∀d∈B.cs,kS d=true:=by
 obtain⟨ad,cap,rfl,ho⟩:=h;refine⟨rfl,fun B E d hd=>?_⟩;rcases ho with ⟨_,_,_,_,rfl⟩|⟨b,_,_,_,rfl⟩
 ·cases E
 rw[mem_singleton] at E;subst E;obtain⟨n,_,hn⟩:=mem_flatMap.1 hd;rw[cI,mem_singleton] at hn;subst hn;rfl
theorem Qj(v:Valid t h)(hf:iA t k h=false):∀x∈kZ t h,x.1≠k:=fun x hx e=>by
 have:iA t k h=true:=(Eb v k).2 ((A5 v k).2 ⟨x.2,by rw[←e];exact hx⟩);rw[hf] at this;cases this
theorem abQ{G:List (Nat×List Value)}(L:List aY)(b:Nat)(root i:Int)(ad:Option Addr)(cap:Nat)(Sx:List ah)(hi:0≤i∧i<L.length)(p:cW)(E:(L[i.toNat]'w4).p=p)(hn:L.length≤10000)(dN:ur L ad cap Sx)(aQ:∀o∈L,qY o)(h5:p.keys.length=5)(dU:p.leaf=true→p.kids.length=5)(I:p.leaf=false→p.kids.length=6)(O:∀k∈p.keys,k.length≤100)(U:p.high.length≤100) :
 VC Tryz.prog G 126 [cQ b,ae i] (⟨b,51,2,[aN ad L.length cap,ae root]⟩::(Sx++L.flatMap bO)) (WE L b root i.toNat p):=by
 subst E;exact adC L b root i ad cap Sx hi hn dN aQ h5 dU I O U
theorem adD{aA:Int}(e:kE t k row h (h+1)=(u,some (up,aA)))(hr:u.root=t.root):gB t h k row=⟨u.ag++[⟨false,[up],[t.root,aA],[],-1⟩],u.ag.length⟩:=by
 unfold gB;rw[←RN,e];show(⟨u.ag++[⟨false,[up],[u.root,aA],[],-1⟩],u.ag.length⟩:aD)=_;rw[hr]
theorem afh{aA:Int}{m:Nat}(hm:m≤h)(e:kE t k row h m=(u,some (up,aA)))(h4:(bB (u.pg (dc t k h t.root m)) up aA).keys.length≤4):gB t h k row=u.set (dc t k h t.root m) (bB (u.pg (dc t k h t.root m)) up aA):=by
 have:=Qe hm e;rw[Jd h4] at this;unfold gB;rw[Qf (h-m) (m+1) w4 w4 this];rfl
theorem adE{aA:Int}{m:Nat}(hm:m≤h)(e:kE t k row h m=(u,some (up,aA)))(h4:¬(bB (u.pg (dc t k h t.root m)) up aA).keys.length≤4) :
  kE t k row h (m+1)=(jl u (dc t k h t.root m) (ek (bB (u.pg (dc t k h t.root m)) up aA) u.ag.length) (cl (bB (u.pg (dc t k h t.root m)) up aA)),some (gG (bB (u.pg (dc t k h t.root m)) up aA),(u.ag.length:Int))):=by
 rw[Qe hm e,IG h4]
theorem ZV:(Tryz.prog.info? 153).map (fun i=>(i.zero,i.size,i.bytes))=some (some (.agg #[.bool false,.slice none 0 0,.slice none 0 0,.slice none 0 0,.int .i64 0]),5,88):=by kernel_rfl
theorem IN(t:aD)(h:Nat)(k:K)(row:Int)(hb:∀p∈t.ag,p.keys.length≤maxLen∧p.kids.length≤maxLen)(hv:gv t=0→Valid t h):VC Tryz.prog G 84 [.agg [av 5 cP t.ag,ae t.root],av 1 cB k,ae row] [] (Cn (pp t k row h)):=by
 refine VC.body func84 rfl ntmps84 aO fun X0 w0 bg=>?_;have eT:=If (G:=G) t k hb;unfold cT at eT;have c8:=dR;refine bU ?_;refine OD.box (ds:=[_,_]) ap rfl rfl ot rfl rfl (fun b3=>?_);refine OD.alloc (ds:=[_,_]) ap rfl rfl zeroValue51 rfl (fun b6=>?_);refine an 131 [1,2,3,6] ?_;refine cz [1,2,3,6,8] (eT) ?_;refine af [1,2,3,6,8,23] ?_;refine aq ?_ ?_<;>intro aP bC
 ·have hn:¬lD t k=0:=(by simpa using aP)
  refine aB 2 ?_;refine aR 0 [_,_] sizeOf51 ?_;refine an 131 [6,7] ?_;refine aI [] ?_;unfold pp;rw[if_neg hn];exact y9 _
 have hz:lD t k=0:=(by simpa using aP)
 obtain⟨hc,Ob⟩:=Qi hz;have v:=hv hc;have Co:=Jj Ob;have fL:=qA (G:=G) t h v k w4 (Ec v k);unfold cT at fL;have apf:=v.high;have apg:=v.nY;refine af [1,2,3,6,27] ?_;refine aq ?_ ?_<;>intro aZ cr
 ·have vy:row<0:=(by omega)
  refine aB 1 ?_;refine aR 0 [_,_] sizeOf51 ?_;refine an 131 [6,7] ?_;refine aI [] ?_;unfold pp;rw[if_pos hz,if_pos vy];exact y9 _
 have vy:0≤row:=(by omega)
 refine cz [1,2,3,6,11] (fL) ?_;refine af [1,2,3,6,36] ?_;refine aq ?_ ?_<;>intro bX cA
 ·have iQ:iA t k h=true:=bX;refine aB 1 ?_;refine aR 0 [_,_] sizeOf51 ?_;refine an 131 [6,7] ?_;refine aI [] ?_;unfold pp;rw[if_pos hz,if_neg w4,if_pos iQ];exact y9 _
 have iQ:iA t k h=false:=bX;have hne:=Qj v iQ;refine aB 1 ?_;refine OD.call ap rfl rfl rfl call121 (FC t h v) ⟨ot,trivial⟩ (eV _) ?_;rintro _ _ ⟨L,ad,cap,Sx,rfl,dN,aQ,hL,rfl⟩;refine OD.perm (dV (A:=[_,_])) ?_;refine OD.alloc (ds:=[_,_]) ap rfl rfl zeroValue51 rfl (fun tE=>?_);refine aR 0 [_,_] sizeOf51 ?_;refine an 131 [1,2,6,12] ?_;refine aB 2 ?_;refine OD.KX ap rfl rfl rfl call122 (TI t h v k) (fun r S=>afg) ⟨⟨_,ot,(by have:=KB (root:=t.root) dN aQ (fun B hB=>mem_cons_of_mem ⟨tE,51,2,[aN ad L.length cap,ae t.root]⟩ (mem_cons_of_mem ⟨b6,51,2,[bH,ae 0]⟩ (mem_cons_of_mem ⟨b3,51,2,[av 5 cP t.ag,ae t.root]⟩ hB)));rw[hL] at this;exact this)⟩,⟨_,ot,eM⟩,trivial⟩ ?_;rintro _ Sw ⟨aw,cw,rfl,how⟩;refine OD.gP (t:=42) (Sq:=Sw) lk how (cn ez _) (Perm.refl _) ?_;refine an 131 [1,2,6,12,13] ?_;refine cz [6,12,13,14,15] (mj k w4) ?_;refine jV [6,12] (fun aX _ aG=>∃(L:List aY),∃(ad:Option Addr),∃(cap:Nat),∃(Sx:List ah),∃(root:Int),(ur L ad cap Sx)∧(∀o∈L,qY o)∧(gB t h k row=⟨L.map aY.p,root⟩)∧(L.length≤10000)∧aG=(⟨131,aX,(⟨tE,51,2,[aN ad L.length cap,ae root]⟩::⟨b6,51,2,[bH,ae 0]⟩::(Sx++L.flatMap bO))⟩:St)) ?_ ?_
 ·refine cL [6,12,13,14,15,16] ?_;refine aS 2 ?_ (h:=by exact(dz (r:=.int .i64 ((h:Nat):Int)) rfl ot bV (gY (by rw[EO,show(((h+1:Nat):Int)-1)=(h:Int) from by omega];exact wrap_i64 w4 w4))));refine bI ?_;refine eA [6,12,13] (fun aX _ (kK:Nat×K×Int×List aY×Option Addr×Nat×List ah) aG=>match kK with|(m,up,aA,L,ad,cap,Sx)=>(m≤h+1)∧(kE t k row h m=(⟨L.map aY.p,t.root⟩,some (up,aA)))∧(ur L ad cap Sx)∧(∀o∈L,qY o)∧aG=(⟨131,(14,av 1 cB up)::(15,ae aA)::(16,ae ((h:Int)-(m:Nat)))::aX,(⟨tE,51,2,[aN ad L.length cap,ae t.root]⟩::⟨b6,51,2,[bH,ae 0]⟩::(Sx++L.flatMap bO))⟩:St)) (fun (kK:Nat×K×Int×List aY×Option Addr×Nat×List ah)=>match kK with|(m,up,aA,L,ad,cap,Sx)=>h+1-m) (0,k,row,L,ad,cap,Sx) ⟨(Nat.zero_le _),(by unfold kE;rw[if_pos rfl,hL]),dN,aQ,rfl⟩ ?_;rintro⟨m,up,aA,L,ad,cap,Sx⟩ _ ⟨hm0,he,dN,aQ,rfl⟩;refine af [6,12,13,14,15,16,52] ?_;refine aq ?_ ?_<;>intro cN dW
  ·obtain rfl:m=h+1:=(by omega)
   obtain⟨s1,s2,s3,s4⟩:=IK v hne Co vy w4 he;have pH:L.length≤t.ag.length+(h+1):=(by rw[←length_map (f:=aY.p)];exact s2)
   have YO:=afb v hne Co vy w4 he;refine aB 3 ?_;refine en (cf 0 [_]) [.slice none 0 0] [_] zeroValue88 runUnderlying151 sizeOf88 (fun kN=>?_);refine aF 3 ?_;refine en (cf 0 [_,_]) [.int .i64 0,.int .i64 0] [_,_] zeroValue3 runUnderlying67 sizeOf3 (fun mF=>?_);refine aF 1 ?_;refine en (cf 0 [_]) [.bool false,.slice none 0 0,.slice none 0 0,.slice none 0 0,.int .i64 0] [_,_,_,_,_] zeroValue153 runUnderlying49 sizeOf153 (fun NN=>?_);refine OD.aga (cs':=gO (⟨⟨false,[up],[t.root,aA],[],-1⟩,some ⟨kN,0,none⟩,1,[⟨kN,88,1*1,flatMap cK [up]⟩],some ⟨mF,0,none⟩,2,[⟨mF,3,2*1,flatMap cI [t.root,aA]⟩]⟩:aY)) rfl ⟨eM,eM,eM,yL,eM,trivial⟩ ?_;refine fA 0 62 5 1 ?_;refine OD.ey (ls:=L) (new:=[(⟨⟨false,[up],[t.root,aA],[],-1⟩,some ⟨kN,0,none⟩,1,[⟨kN,88,1*1,flatMap cK [up]⟩],some ⟨mF,0,none⟩,2,[⟨mF,3,2*1,flatMap cI [t.root,aA]⟩]⟩:aY)]) (Sq:=Sx) gN Fm ap rfl rfl underlying49 ZV rfl w8 ot dN (oZ (A:=[_,_,_,_])) ot bn mY mZ (fun DL xB ak1 ak2=>?_);refine aF 1 ?_;refine aR 3 [_,_] sizeOf49 ?_;refine an 131 [6,12] ?_;refine aB 3 ?_
   refine bN (dz (r:=.int .i64 (L.length:Nat)) rfl ot bV (gY (by rw[length_append,show(((L.length+[(⟨⟨false,[up],[t.root,aA],[],-1⟩,some ⟨kN,0,none⟩,1,[⟨kN,88,1*1,flatMap cK [up]⟩],some ⟨mF,0,none⟩,2,[⟨mF,3,2*1,flatMap cI [t.root,aA]⟩]⟩:aY)].length:Nat):Int)-1)=(L.length:Int) from by simp];exact wrap_i64 w4 w4))) ?_;refine aF 1 ?_;refine aR 3 [_,_] sizeOf3 ?_;have hX:((⟨mF,3,2*1,flatMap cI [t.root,aA]⟩:ah)::⟨kN,88,1*1,flatMap cK [up]⟩::L.flatMap bO).Perm ((L++[(⟨⟨false,[up],[t.root,aA],[],-1⟩,some ⟨kN,0,none⟩,1,[⟨kN,88,1*1,flatMap cK [up]⟩],some ⟨mF,0,none⟩,2,[⟨mF,3,2*1,flatMap cI [t.root,aA]⟩]⟩:aY)]).flatMap bO):=(by rw[SD];exact(Perm.swap _ _ _).trans (perm_append_comm (l₁:=[_,_])))
   refine OD.perm (S':=⟨tE,51,2,[aN (some ⟨DL,0,none⟩) (L++[(⟨⟨false,[up],[t.root,aA],[],-1⟩,some ⟨kN,0,none⟩,1,[⟨kN,88,1*1,flatMap cK [up]⟩],some ⟨mF,0,none⟩,2,[⟨mF,3,2*1,flatMap cI [t.root,aA]⟩]⟩:aY)]).length xB,ae (L.length:Nat)]⟩::⟨b6,51,2,[bH,ae 0]⟩::(([⟨DL,153,xB*5,flatMap gO (L++[(⟨⟨false,[up],[t.root,aA],[],-1⟩,some ⟨kN,0,none⟩,1,[⟨kN,88,1*1,flatMap cK [up]⟩],some ⟨mF,0,none⟩,2,[⟨mF,3,2*1,flatMap cI [t.root,aA]⟩]⟩:aY)])⟩]:List ah)++(L++[(⟨⟨false,[up],[t.root,aA],[],-1⟩,some ⟨kN,0,none⟩,1,[⟨kN,88,1*1,flatMap cK [up]⟩],some ⟨mF,0,none⟩,2,[⟨mF,3,2*1,flatMap cI [t.root,aA]⟩]⟩:aY)]).flatMap bO)) (by exact(perm_middle (l₁:=[_,_,_])).trans (Perm.cons _ ((perm_middle (l₁:=[_,_,_])).trans (Perm.cons _ (Perm.cons _ hX))))) ?_;refine an 131 [6,12] ?_;refine CD.exit ?_
   refine⟨_,aK,(L++[(⟨⟨false,[up],[t.root,aA],[],-1⟩,some ⟨kN,0,none⟩,1,[⟨kN,88,1*1,flatMap cK [up]⟩],some ⟨mF,0,none⟩,2,[⟨mF,3,2*1,flatMap cI [t.root,aA]⟩]⟩:aY)]),(some ⟨DL,0,none⟩),xB,[⟨DL,153,xB*5,flatMap gO (L++[(⟨⟨false,[up],[t.root,aA],[],-1⟩,some ⟨kN,0,none⟩,1,[⟨kN,88,1*1,flatMap cK [up]⟩],some ⟨mF,0,none⟩,2,[⟨mF,3,2*1,flatMap cI [t.root,aA]⟩]⟩:aY)])⟩],(L.length:Nat),(bM ak1 ak2),(fun o ho=>by rcases mem_append.1 ho with ho|ho;exact aQ o ho;rw[mem_singleton] at ho;subst ho;exact⟨bM (Nat.le_refl _) (show 1≤maxLen by decide),bM (Nat.le_refl _) (show 2≤maxLen by decide)⟩),(by rw[adD he rfl];show(⟨map aY.p L++[_],((map aY.p L).length:Int)⟩:aD)=_;rw[map_append,length_map];rfl),GO,rfl⟩
  have hm:m≤h:=(by omega)
  have hP:=afc v hne Co vy hm he;obtain⟨s1,s2,s3,s4⟩:=IK v hne Co vy w4 he;have pH:L.length≤t.ag.length+m:=(by rw[←length_map (f:=aY.p)];exact s2)
  have Oc:0≤(dc t k h t.root m)∧(dc t k h t.root m)<L.length:=(by have:=hP.rg;rw[←length_map (f:=aY.p)];exact this)
  have hj:(dc t k h t.root m).toNat<L.length:=(by omega)
  have YP:L[(dc t k h t.root m).toNat].p=(⟨L.map aY.p,t.root⟩:aD).pg (dc t k h t.root m):=UL (t:=(⟨L.map aY.p,t.root⟩:aD)) rfl hP.rg hj;have po:eC ((⟨L.map aY.p,t.root⟩:aD).pg (dc t k h t.root m)) (⟨L.map aY.p,t.root⟩:aD).ag.length:=s4 _ (jw hP.rg);have full:=Jb po hP.out hP.len hP.high hP.nn hP.nnl;obtain⟨bx,rfl,fZ,xT,rfl⟩:=dN.pos w4;have yg:=aQ _ (getElem_mem hj);obtain⟨o,ho⟩:∃o,o=L[(dc t k h t.root m).toNat]:=⟨_,rfl⟩
  rw[←ho] at yg YP;rcases o with ⟨p,ak,ck,sk,ai,ci,si⟩
  have gK:p=(⟨L.map aY.p,t.root⟩:aD).pg (dc t k h t.root m):=YP;obtain⟨de,kj⟩:nT p.keys ak ck sk∧mV p.kids ai ci si:=yg;rw[←gK] at po full;have mU:=po.eE;have fK:=RJ po up;have YO:=hP.len.2;have F1:(if p.leaf=true then aL p up else aL p up+1)≤p.kids.length∧p.kids.length≤5:=(by cases fI:p.leaf;(have:=(po.node fI).1;rw[if_neg w8];omega);(have:=po.leaf fI;rw[if_pos rfl];omega))
  have hW:h-m<(iX t k h t.root).length:=(by rw[EO];omega)
  have YQ:(iX t k h t.root)[h-m]=(dc t k h t.root m):=(by have:=Qd (t:=t) (k:=k) (h:=h) (i:=t.root) hm;exact(List.getElem?_eq_some_iff.1 this).2)
  have BR:=v.high;have Vr:=v.nY;have K8:(L.flatMap bO).Perm (sk++(si++((L.eraseIdx (dc t k h t.root m).toNat).flatMap bO))):=(by have:=y8 bO hj;rw[←ho] at this;exact this.trans (by rw[show bO ⟨p,ak,ck,sk,ai,ci,si⟩=sk++si from rfl,append_assoc]))
  refine CD.perm (Perm.cons _ (Perm.cons _ (Perm.cons _ K8))) ?_;refine cL [6,12,13,14,15,16,17] ?_;refine aS 4 ?_ (h:=by exact(dw 1 (h:=by first|exact .l (j:=h-m) w4 hW|exact .r (j:=h-m) w4 hW)));refine aS 0 ?_ (h:=by exact(cR (mk:=Op.load 3) rfl ot (qB (d:=ae (dc t k h t.root m)) (i:=h-m) ez isAgg3 hW (by rw[YQ];rfl))));refine aS 0 ?_ (h:=by exact(dw 5 (h:=by first|exact .l (j:=(dc t k h t.root m).toNat) (Int.toNat_of_nonneg Oc.1).symm hj|exact .r (j:=(dc t k h t.root m).toNat) (Int.toNat_of_nonneg Oc.1).symm hj)));refine bI ?_;refine cL [6,12,13,14,15,16,17,18] ?_;refine aS 2 ?_ (h:=by exact(cR (mk:=Op.load 153) rfl ot (dA (k:=2) (ls:=L) (i:=(dc t k h t.root m).toNat) gN rfl rfl rfl isAgg153 sizeOf153 hj)));refine mg 1 ?_;refine zP (Ji p up po.jQ w4) (ha:=by exact⟨⟨_,ot,(by rw[←ho];exact uY ⟨eM,lK de (cn gb _) (fun B hB=>.tail _ (.tail _ (.tail _ (mem_append_left _ hB)))),lK kj (cn ez _) (fun B hB=>.tail _ (.tail _ (.tail _ (mem_append_right _ (mem_append_left _ hB))))),eM,eM,trivial⟩)⟩,⟨_,ot,eM⟩,trivial⟩) (K:=?_);refine bI ?_;refine aB 4 ?_;refine bN (cR (mk:=Op.load 151) rfl ot (lA (k:=2) (j:=1) (d:=aN ak p.keys.length ck) (ls:=L) gN rfl rfl rfl isAgg151 hj rN)) ?_;refine aF 2 ?_;refine en (cf 0 [_]) [.slice none 0 0] [_] zeroValue88 runUnderlying151 sizeOf88 (fun b89=>?_)
  refine OD.call ap rfl rfl rfl call124 (aas p.keys (aL p up) up ak ck sk b89 fK w4 de) ⟨ot,ot,ot,trivial⟩ (Perm.cons _ (oZ (A:=[_,_,_]))) ?_;rintro _ E ⟨I,O,rfl,fb⟩;refine OD.perm (jX (A:=[_,_,_])) ?_;refine aF 2 ?_;refine OD.storeAt (k:=2) (cs':=flatMap gO (L.set (dc t k h t.root m).toNat (⟨{p with keys:=ig p.keys (aL p up) up},I,O,E,ai,ci,si⟩:aY))) ap rfl rfl ot rfl rfl ot rfl rfl sizeOf151 rfl (by show 0+(dc t k h t.root m).toNat*5+1+1≤(flatMap gO L).length;rw[cn gN];omega) (by show(L.flatMap gO).set (0+(dc t k h t.root m).toNat*5+1) _=_;rw[Nat.zero_add];exact v8 gN w8 hj (by rw[←ho];unfold gO;rw[yS fK];rfl)) ?_;refine an 131 [6,12,13,15,16,17,18] ?_;refine CD.cut (fun aG=>aG=(⟨131,[(6,cQ b6),(12,cQ tE),(13,.list 1 ((iX t k h t.root).flatMap cI) (iX t k h t.root).length),(15,ae aA),(16,ae ((h:Int)-(m:Nat))),(17,.v (.pointer (some ⟨bx,0+(dc t k h t.root m).toNat*5,none⟩))),(18,ae (((if p.leaf=true then aL p up else aL p up+1):Nat):Int))],(⟨tE,51,2,[aN (some ⟨bx,0,none⟩) L.length cap,ae t.root]⟩::⟨b6,51,2,[bH,ae 0]⟩::⟨bx,153,cap*5,flatMap gO (L.set (dc t k h t.root m).toNat (⟨{p with keys:=ig p.keys (aL p up) up},I,O,E,ai,ci,si⟩:aY))⟩::(E++(si++((L.eraseIdx (dc t k h t.root m).toNat).flatMap bO))))⟩:St)) ?_ ?_
  ·refine cL [6,12,13,15,16,17,18,97] ?_;refine aS 3 ?_ (h:=by exact(cR (mk:=Op.load 4) rfl ot (lA (k:=2) (j:=0) (d:=bJ p.leaf) (ls:=(L.set (dc t k h t.root m).toNat (⟨{p with keys:=ig p.keys (aL p up) up},I,O,E,ai,ci,si⟩:aY))) gN rfl rfl rfl isAgg4 xK (by rw[getElem_set_self];rfl))));refine bI ?_;refine aq ?_ ?_<;>intro ec fh
   ·have dg:(((if p.leaf=true then aL p up else aL p up+1):Nat):Int)=(((aL p up):Nat):Int)+1:=(by rw[if_neg (by simpa using ec)];rfl)
    refine cc [6,12,13,15,16,17,18] ?_;exact XI
   have dg:(((if p.leaf=true then aL p up else aL p up+1):Nat):Int)=(((aL p up):Nat):Int):=(by rw[if_pos (by simpa using ec)])
   refine CD.skip ?_;exact XI
  rintro _ ⟨rfl⟩;refine aB 4 ?_;refine bN (cR (mk:=Op.load 67) rfl ot (lA (k:=2) (j:=2) (d:=aN ai p.kids.length ci) (ls:=(L.set (dc t k h t.root m).toNat (⟨{p with keys:=ig p.keys (aL p up) up},I,O,E,ai,ci,si⟩:aY))) gN rfl rfl rfl isAgg67 xK (by rw[getElem_set_self];rfl))) ?_;refine aF 2 ?_;refine en (cf 0 [_]) [.int .i64 0] [_] zeroValue3 runUnderlying67 sizeOf3 (fun ak3=>?_);refine OD.call ap rfl rfl rfl call125 (aat p.kids (if p.leaf=true then aL p up else aL p up+1) aA ai ci si ak3 F1.1 w4 kj) ⟨ot,ot,ot,trivial⟩ (Perm.cons _ (tJ (A:=[_,_,_]))) ?_;rintro _ U ⟨Z,eP,rfl,l9⟩;refine OD.perm (wu (A:=[_,_,_])) ?_;refine aF 2 ?_
  refine OD.storeAt (k:=2) (cs':=flatMap gO (L.set (dc t k h t.root m).toNat (⟨(bB p up aA),I,O,E,Z,eP,U⟩:aY))) ap rfl rfl ot rfl rfl ot rfl rfl sizeOf67 rfl (by show 0+(dc t k h t.root m).toNat*5+2+1≤(flatMap gO (L.set (dc t k h t.root m).toNat (⟨{p with keys:=ig p.keys (aL p up) up},I,O,E,ai,ci,si⟩:aY))).length;rw[cn gN,length_set];omega) (by show(flatMap gO (L.set (dc t k h t.root m).toNat (⟨{p with keys:=ig p.keys (aL p up) up},I,O,E,ai,ci,si⟩:aY))).set (0+(dc t k h t.root m).toNat*5+2) _=_;rw[Nat.zero_add,v8 gN (a':=(⟨(bB p up aA),I,O,E,Z,eP,U⟩:aY)) w8 xK (by rw[getElem_set_self];show gO (⟨(bB p up aA),I,O,E,Z,eP,U⟩:aY)=(gO (⟨{p with keys:=ig p.keys (aL p up) up},I,O,E,ai,ci,si⟩:aY)).set 2 _;unfold gO;rw[show((⟨(bB p up aA),I,O,E,Z,eP,U⟩:aY)).p.kids.length=p.kids.length+1 from yS F1.1];rfl),set_set]) ?_;have vM:(E++(U++((L.eraseIdx (dc t k h t.root m).toNat).flatMap bO))).Perm ((L.set (dc t k h t.root m).toNat (⟨(bB p up aA),I,O,E,Z,eP,U⟩:aY)).flatMap bO):=(by have:=(yK bO hj (⟨(bB p up aA),I,O,E,Z,eP,U⟩:aY)).symm;rw[show bO (⟨(bB p up aA),I,O,E,Z,eP,U⟩:aY)=E++U from rfl,append_assoc] at this;exact this)
  refine OD.perm (S':=⟨tE,51,2,[aN (some ⟨bx,0,none⟩) (L.set (dc t k h t.root m).toNat (⟨(bB p up aA),I,O,E,Z,eP,U⟩:aY)).length cap,ae t.root]⟩::⟨b6,51,2,[bH,ae 0]⟩::(([⟨bx,153,cap*5,flatMap gO (L.set (dc t k h t.root m).toNat (⟨(bB p up aA),I,O,E,Z,eP,U⟩:aY))⟩]:List ah)++(L.set (dc t k h t.root m).toNat (⟨(bB p up aA),I,O,E,Z,eP,U⟩:aY)).flatMap bO)) (by rw[length_set];exact Perm.cons _ (Perm.cons _ (Perm.cons _ vM))) ?_;have WG:ur (L.set (dc t k h t.root m).toNat (⟨(bB p up aA),I,O,E,Z,eP,U⟩:aY)) (some ⟨bx,0,none⟩) cap [⟨bx,153,cap*5,flatMap gO (L.set (dc t k h t.root m).toNat (⟨(bB p up aA),I,O,E,Z,eP,U⟩:aY))⟩]:=bM xJ xT;have jN:∀o∈(L.set (dc t k h t.root m).toNat (⟨(bB p up aA),I,O,E,Z,eP,U⟩:aY)),qY o:=fun x hx=>by rcases mem_or_eq_of_mem_set hx with hx|rfl;exact aQ x hx;exact⟨fb,l9⟩
  refine an 131 [6,12,13,16,17] ?_;refine cL [6,12,13,16,116] ?_;refine aS 3 ?_ (h:=by exact(cR (mk:=Op.load 151) rfl ot (lA (k:=2) (j:=1) (d:=aN I (bB p up aA).keys.length O) (ls:=(L.set (dc t k h t.root m).toNat (⟨(bB p up aA),I,O,E,Z,eP,U⟩:aY))) gN rfl rfl rfl isAgg151 xK (by rw[getElem_set_self];rfl))));refine bI ?_;refine aq ?_ ?_<;>intro fj gA
  ·have h4:(bB p up aA).keys.length≤4:=(by have:=of_decide_eq_true fj;omega)
   refine CD.exit ?_;refine⟨_,aK,(L.set (dc t k h t.root m).toNat (⟨(bB p up aA),I,O,E,Z,eP,U⟩:aY)),(some ⟨bx,0,none⟩),cap,[⟨bx,153,cap*5,flatMap gO (L.set (dc t k h t.root m).toNat (⟨(bB p up aA),I,O,E,Z,eP,U⟩:aY))⟩],t.root,WG,jN,(by rw[afh hm he (by rw[←gK];exact h4),←gK,map_set];rfl),vI,rfl⟩
  have h4:¬(bB p up aA).keys.length≤4:=(by have:=of_decide_eq_false fj;omega)
  have h5:(bB p up aA).keys.length=5:=(by have:=full.eE;omega)
  refine dK 2 ?_;refine bN (dw 1 (h:=by first|exact .l (j:=h-m) w4 hW|exact .r (j:=h-m) w4 hW)) ?_;refine bN (cR (mk:=Op.load 3) rfl ot (qB (d:=ae (dc t k h t.root m)) (i:=h-m) ez isAgg3 hW (by rw[YQ];rfl))) ?_;have mc:(L.set (dc t k h t.root m).toNat (⟨(bB p up aA),I,O,E,Z,eP,U⟩:aY)).length=L.length:=length_set ..;refine OD.call ap rfl rfl rfl call126 (abQ (L.set (dc t k h t.root m).toNat (⟨(bB p up aA),I,O,E,Z,eP,U⟩:aY)) tE t.root (dc t k h t.root m) (some ⟨bx,0,none⟩) cap [⟨bx,153,cap*5,flatMap gO (L.set (dc t k h t.root m).toNat (⟨(bB p up aA),I,O,E,Z,eP,U⟩:aY))⟩] (by rw[mc];exact Oc) (bB p up aA) (by rw[getElem_set_self]) (by rw[mc];omega) WG jN h5 (fun hl=>by have:=full.leaf hl;omega) (fun hl=>by have:=(full.node hl).1;omega) (fun x hx=>(full.lC x hx).2) full.hlen) ⟨ot,ot,trivial⟩ (Perm.cons _ (perm_append_singleton _ _).symm) ?_;rintro _ _ ⟨rfl,L3,HE,Gw,HF,ak4,xE,hL3,rfl⟩;refine OD.perm (Perm.cons _ (perm_append_singleton _ _)) ?_;have CK:kE t k row h (m+1)=(⟨L3.map aY.p,t.root⟩,some (gG (bB p up aA),((L.set (dc t k h t.root m).toNat (⟨(bB p up aA),I,O,E,Z,eP,U⟩:aY)).length:Int))):=(by rw[adE hm he (by rw[←gK];exact h4),←gK,hL3,mc];unfold jl;show(({ag:=(map aY.p L).set _ _++_,root:=t.root}:aD),_)=_;rw[map_set,set_set,length_map])
  refine an 131 [6,12,13,14,15,16] ?_;refine cc [6,12,13,14,15,16] ?_;refine⟨((m+1),(gG (bB p up aA)),((L.set (dc t k h t.root m).toNat (⟨(bB p up aA),I,O,E,Z,eP,U⟩:aY)).length:Int),L3,HE,Gw,HF),_,cq,aK,w4,CK,ak4,xE,rfl⟩
 rintro _ ⟨L,ad,cap,Sx,root,dN,aQ,Gy,pH,rfl⟩;refine af [6,12,128] ?_;refine aq ?_ ?_<;>intro gL kU
 ·refine aB 1 ?_;refine aR 1 [_,_] sizeOf51 ?_;refine an 131 [6,7] ?_;refine aI [] ?_;unfold pp;rw[if_pos hz,if_neg w4,if_neg xO,if_pos (by rw[Gy];show 4000<(L.map aY.p).length;rw[length_map];omega)];exact y9 _
 refine aB 1 ?_;refine aR 1 [_,_] sizeOf51 ?_;refine an 131 [6,7] ?_;refine aI (Sx++L.flatMap bO) ?_;unfold pp;rw[if_pos hz,if_neg w4,if_neg xO,if_neg (by rw[Gy];show ¬4000<(L.map aY.p).length;rw[length_map];omega)];exact⟨_,rfl,L,ad,cap,Sx,by rw[Gy],dN,aQ,by rw[Gy],rfl⟩
theorem abR(t:aD)(h:Nat)(k:K)(row:Int)(hb:∀p∈t.ag,p.keys.length≤maxLen∧p.kids.length≤maxLen)(E:gv t=0→Valid t h):VP Tryz.prog G 84 [.agg (cT t),av 1 cB k,ae row] (.di [.agg (cT (pp t k row h).1),ae (pp t k row h).2]):=(IN t h k row hb E).cover fun r S hr=>hr.view

end Go.Proofs.YtdgichenhdikgaaGreatDoor.Tw
namespace Go.Proofs.YtdgichenhdikgaaGreatDoor.Tr
open List
open Go.Proofs.Tryz
open Go.Lib (compareBytes)
variable {t:aD} {h:Nat} {k:K}
variable {n:Nat}
theorem RU(hp:∀p∈t.ag,eC p t.ag.length):∀{h h':Nat} {i:Int} {a b c d:K},dO t h i a b→dO t h' i c d→h=h'
 | 0,0,_,_,_,_,_,_,_=>rfl
 | 0,h'+1,i,_,_,_,_,h1,h2=>by have:=h1.2.1;rw[h2.2.1] at this;cases this
 | h+1,0,i,_,_,_,_,h1,h2=>by have:=h1.2.1;rw[h2.2.1] at this;cases this
 | h+1,h'+1,i,_,_,_,_,h1,h2=>by
  obtain⟨p1,p2,p3,O,E⟩:=h1;obtain⟨q1,q2,U,Z,I⟩:=h2;have hn:=((hp _ (jw p1)).node p2).1;have:=RU hp (E 0 w4) (I 0 w4);rw[this]
noncomputable def dm(t:aD):Nat:=Classical.epsilon fun h=>Valid t h
theorem Et(v:Valid t h):Valid t (dm t):=Classical.epsilon_spec (p:=fun h=>Valid t h) ⟨h,v⟩
theorem KD(v:Valid t h):dm t=h:=RU v.fy (Et v).ok v.ok
noncomputable def dQ(t:aD):List (K×Int):=kZ t (dm t)
theorem J6(hp:∀p∈t.ag,eC p t.ag.length):∀{h:Nat} {i:Int} {a b:K},dO t h i a b→2 ^ h≤(ids t h i).length
 | 0,i,_,_,_=>by simp[ids]
 | h+1,i,_,_,ok=>by
  obtain⟨p1,p2,p3,U,E⟩:=ok;have hn:=(hp _ (jw p1)).node p2;have hk:1≤(t.pg i).keys.length:=by
   have:=hn.2;cases lF:(t.pg i).keys with
   | nil=>exact absurd lF this
   | cons _ _=>simp
  have h0:=J6 hp (E 0 w4);have h1:=J6 hp (E 1 w4);have key:∀(l:List Int) (h2:2≤l.length),2 ^ h≤(ids t h (l[0]'w4)).length→2 ^ h≤(ids t h (l[1]'w4)).length→2 ^ h+2 ^ h≤(l.flatMap (ids t h)).length:=by
   intro l h2 I O;match l,h2 with
   | x::y::r,_ =>
    simp only[flatMap_cons,length_append];simp only[getElem_cons_zero,getElem_cons_succ] at I O;omega
  have:=key _ w4 h0 h1;rw[ids,length_cons,Nat.pow_succ];omega
theorem afi(v:Valid t h):h≤11:=by
 have h1:=J6 v.fy v.ok;rw[v.all] at h1;have h2:=v.nY;refine Nat.le_of_not_lt fun h3=>?_;have:2 ^ 12≤2 ^ h:=Nat.pow_le_pow_right w8 h3;omega
structure ic (t:aD) (n:Nat):Prop where
 val:Valid t (dm t)
 eE:t.ag.length≤1+13*n
theorem ic.mono{m:Nat}(g:ic t n)(h:n≤m):ic t m:=⟨g.val,by have:=g.eE;omega⟩
theorem adF:ic p8 0:=⟨Et P6,by decide⟩
theorem adG:dQ p8=[]:=by unfold dQ;rw[KD P6];exact ade
theorem EQ{row:Int}(g:ic t n)(hn:n≤300)(lg:∀x∈dQ t,x.1≠k)(hk:1≤k.length∧k.length≤100)(hr:0≤row) :
  ic (gB t (dm t) k row) (n+1)∧(gB t (dm t) k row).ag.length≤4000∧∀x,x∈dQ (gB t (dm t) k row)↔x=(k,row)∨x∈dQ t:=by
 have E:=afi g.val;have hf:=g.eE;obtain⟨h',_,v,⟨_,hm⟩,he⟩:=abq g.val lg hk hr w4;refine⟨⟨Et v,by omega⟩,v.nY,fun x=>?_⟩;unfold dQ;rw[KD v];exact he x
theorem Jk(g:ic t n)(ht:BE t k (dm t)):ic (gC t (dm t) k) n∧∀x,x∈dQ (gC t (dm t) k)↔x∈dQ t∧x.1≠k:=by
 obtain⟨v,hl,he⟩:=abr g.val ht;refine⟨⟨Et v,by have:=g.eE;omega⟩,fun x=>?_⟩;unfold dQ;rw[KD v];exact he x
theorem Qk{eo:K}:∀{l:List (K×Int)},l.Pairwise (fun x y=>bA x.1 y.1)→l.takeWhile (fun x=>decide (¬bA eo x.1))=l.filter fun x=>decide (¬bA eo x.1)
 | [],_=>rfl
 | x::l,h=>by
  obtain⟨h1,h2⟩:=pairwise_cons.1 h;rw[takeWhile_cons,filter_cons];by_cases hx:bA eo x.1
  ·rw[if_neg (by simpa using hx),if_neg (by simpa using hx)];exact(filter_eq_nil_iff.2 fun y hy=>by simpa using lQ hx (h1 y hy)).symm
  rw[if_pos (by simpa using hx),if_pos (by simpa using hx),Qk h2]

end Go.Proofs.YtdgichenhdikgaaGreatDoor.Tr
namespace Go.Proofs.YtdgichenhdikgaaGreatDoor.Tw
open List
open Go.Proofs.Tryz
open Go.RowKit V Tr Pk
open Go.Lib (compareBytes)
variable {k:K} {t:aD} {n:Nat} {row:Int}
theorem afj(h:1≤k.length∧k.length≤100):oM k=true:=decide_eq_true h
theorem BF(g:ic t n)(hk:1≤k.length∧k.length≤100):lD t k=0:=Jw (Jh g.val) (afj hk)
theorem A6(g:ic t n)(k:K):iA t k (dm t)=true↔∃row,(k,row)∈dQ t:=(Eb g.val k).trans (A5 g.val k)
theorem ER(g:ic t n):iA t k (dm t)=false↔∀x∈dQ t,x.1≠k:=by
 constructor
 ·exact fun h=>Qj g.val h
 intro h;cases hq:iA t k (dm t) with
 | false=>rfl
 | true=>obtain⟨row,hr⟩:=(A6 g k).1 hq;exact absurd rfl (h _ hr)
theorem afk(g:ic t n)(hk:1≤k.length∧k.length≤100)(hr:0≤row)(h:iA t k (dm t)=true):pp t k row (dm t)=(vV,9):=by
 unfold pp;rw[if_pos (BF g hk),if_neg w4,if_pos h]
theorem UM(g:ic t n)(hn:n≤300)(hk:1≤k.length∧k.length≤100)(hr:0≤row)(h:iA t k (dm t)=false):pp t k row (dm t)=(gB t (dm t) k row,0):=by
 have:=(EQ g hn ((ER g).1 h) hk hr).2.1;unfold pp;rw[if_pos (BF g hk),if_neg w4,if_neg (by rw[h];decide),if_neg w4]
theorem TR(g:ic t n)(hk:1≤k.length∧k.length≤100)(h:iA t k (dm t)=true):rB t k (dm t)=(gC t (dm t) k,0):=by
 unfold rB;rw[if_pos (BF g hk),if_pos h]
theorem afl(g:ic t n)(hk:1≤k.length∧k.length≤100)(h:iA t k (dm t)=false):findF t k (dm t)=(0,8):=by
 unfold findF;rw[if_pos (BF g hk),if_neg (by rw[h];decide)]
theorem RV(g:ic t n)(hk:1≤k.length∧k.length≤100)(h:(k,row)∈dQ t):findF t k (dm t)=(row,0):=by
 unfold findF dB;rw[if_pos (BF g hk),if_pos ((A6 g k).2 ⟨row,h⟩)];obtain⟨_,_,e⟩:=(found g.val k row).1 h;rw[e]
theorem Bw(g:ic t n):∀p∈t.ag,p.keys.length≤maxLen∧p.kids.length≤maxLen:=adr g.val
variable {G:List (Nat×List Value)}
theorem RW(g:ic t n)(k:K)(row:Int):VP Tryz.prog G 84 [.agg (cT t),av 1 cB k,ae row] (.di [.agg (cT (pp t k row (dm t)).1),ae (pp t k row (dm t)).2]):=abR t (dm t) k row (Bw g) fun _=>g.val
theorem RX(g:ic t n)(k:K):VP Tryz.prog G 90 [.agg (cT t),av 1 cB k] (.di [.agg (cT (rB t k (dm t)).1),ae (rB t k (dm t)).2]):=abN t (dm t) k (Bw g) fun _=>g.val
theorem KE(g:ic t n)(k:K):VP Tryz.prog G 65 [.agg (cT t),av 1 cB k] (.di [ae (findF t k (dm t)).1,ae (findF t k (dm t)).2]):=agL t (dm t) k (Bw g) fun _=>g.val
theorem afm(g:ic t n):VP Tryz.prog G 49 [.agg (cT t)] (ae 0):=by have:=pL (G:=G) t (Bw g);rwa [Jh g.val] at this
noncomputable def lV(t:aD)(f eo:K):List (K×Int):=um t (dm t) f eo
theorem UN(g:ic t n)(f eo:K)(hf:f.length≤100)(ht:eo.length≤100):VP Tryz.prog G 30 [.agg (cT t),av 1 cB f,av 1 cB eo] (.di [.list 2 ((lV t f eo).flatMap cE) (lV t f eo).length,ae 0]):=by
 have:=aff (G:=G) t (dm t) (Bw g) (fun _=>g.val) f eo;unfold wS at this;rwa [if_pos (Jh g.val),if_pos ⟨hf,ht⟩] at this
theorem ES(t:aD):lV t [] []=dQ t:=by
 unfold lV um dQ;rw[adt,Er fun x _=>by simp[rp]]
theorem abS(t:aD)(k:K):lV t k []=lU t (dm t) k:=by
 unfold lV um;rw[Er fun x _=>by simp[rp]]
theorem abT(g:ic t n)(f eo:K)(h0:0<eo.length):lV t f eo=(dQ t).filter fun x=>decide (¬bA x.1 f)&&decide (¬bA eo x.1):=by
 unfold lV um;have:(fun x:K×Int=>!rp eo x)=fun x=>decide (¬bA eo x.1):=(by funext x;simp[rp,h0])
 rw[this,Qk (Qg g.val f)];unfold lU dQ;rw[filter_filter];congr 1;funext x;rw[Bool.and_comm]
theorem TS(g:ic t n):VP Tryz.prog G 30 [.agg (cT t),bH,bH] (.di [.list 2 ((lV t [] []).flatMap cE) (lV t [] []).length,ae 0]):=VC.eo (args':=[.agg (cT t),bH,bH]) (UN g [] [] w8 w8) ⟨.inl rfl,.inr ⟨1,rfl,rfl⟩,.inr ⟨1,rfl,rfl⟩,trivial⟩

end Go.Proofs.YtdgichenhdikgaaGreatDoor.Tw
namespace Go.Proofs.YtdgichenhdikgaaGreatDoor.Ba
open List
open Go.Proofs.Tryz
open Go.RowKit V Pk Tr Vl Go.Proofs.YtdgichenhdikgaaGreatDoor.Nm Pc Cd Ex Tw
structure aM where
 nm:ByteArray
 ay:List cj
 rows:List (List Vl)
 ix:aD
def fG(r:List Vl):List D:=[av 3 cV r]
theorem jJ(r:List Vl):(fG r).length=1:=rfl
theorem IW(r:List Vl):(fG r).all V.one=true:=rfl
def cY(t:aM):List D:=[bj t.nm,av 2 cC t.ay,av 1 fG t.rows,av 5 cP t.ix.ag,ae t.ix.root]
theorem jY(t:aM):(cY t).length=5:=rfl
def aT(b:List aM)(nm:ByteArray):Int:=cU (fun t=>t.nm.toList==nm.toList) b
def cJ(r:List Vl):K:=(fP (r.take 1)).1
variable {G:List (Nat×List Value)}
theorem adH(t:aM)(nm:ByteArray)(b:Nat):VC Tryz.prog G 48 [.agg (cY t),cQ b] [⟨b,9,1,[bj nm]⟩] (fun r S=>r=bJ (t.nm.toList==nm.toList)∧S=[⟨b,9,1,[bj nm]⟩]):=by
 refine VC.body func48 rfl ntmps48 aO fun X0 w0 bg=>?_;unfold cY;refine bU ?_;refine OD.box (ds:=[_,_,_,_,_]) ap rfl rfl ot rfl rfl (fun b2=>?_);refine an 8 [1,2] ?_;refine af [3] ?_;refine aI [⟨b,9,1,[bj nm]⟩] ?_;exact⟨rfl,rfl⟩
theorem abU(ls:List aM)(I:Nat)(E:List D)(S:List ah)(p:aM→Bool)(fg:∀args w,(callFunc I args).run Tryz.prog w = .ok (.enter I args) w)(hp:∀x∈ls,VC Tryz.prog G I (.agg (cY x)::E) S (fun r S'=>r=bJ (p x)∧S'=S))(hlen:ls.length≤1000000):VC Tryz.prog G 47 [av 5 cY ls,.ew (.func I) E] S (fun r S'=>r=ae (cU p ls)∧S'=S):=by
 refine VC.body func47 rfl ntmps47 aO fun X0 w0 bg=>?_;refine aB 1 ?_;refine OD.wk (Wk.dG (n:=19) (l':=[(0,_),(1,_)]) (S':=S) rfl nc fa) ?_;refine OD.nil ?_;refine aB 3 ?_;refine OD.wk (Wk.dG (n:=19) (l':=[(0,_),(1,_),(7,_),(8,_)]) (S':=S) rfl nc fa) ?_;refine OD.nil ?_;refine eA [0,1,7] (fun aX _ (k:Nat) aG=>(k≤ls.length)∧(∀x∈ls.take k,p x=false)∧aG=(⟨19,(8,ae (k:Nat))::aX,S⟩:St)) (fun (k:Nat)=>ls.length-k) 0 ⟨Nat.zero_le _,bn,rfl⟩ ?_;rintro k _ ⟨hk,h0,rfl⟩;refine aB 1 ?_;refine OD.wk (Wk.dG (n:=19) (l':=[(0,_),(1,_),(7,_),(8,_),(9,_)]) (S':=S) rfl nc fa) ?_;refine OD.nil ?_;refine aq ?_ ?_<;>intro aP bC
 ·refine aB 2 ?_;refine OD.wk (Wk.dG (n:=19) (l':=[(0,_),(1,_),(5,_),(7,_),(8,_)]) (S':=S) rfl nc fa) ?_;refine OD.nil ?_;refine aB 5 ?_;refine OD.kx (f:=I) (args:=[_]) ap rfl rfl (tQ rfl lk) fg (hp (ls[k]'w4) (getElem_mem _)) rfl ⟨tQ rfl lk,trivial⟩ (IV _) ?_;rintro _ S2 ⟨rfl,iG⟩;rw[iG];clear iG;refine OD.wk (Wk.dG (n:=19) (l':=[(0,_),(1,_),(5,_),(7,_),(8,_),(16,_)]) (S':=S) rfl nc fa) ?_;refine OD.nil ?_;refine aq ?_ ?_<;>intro aZ cr
  ·refine aB 2 ?_;refine OD.wk (Wk.dG (n:=19) (l':=[(4,_)]) (S':=S) rfl nc fa) ?_;refine OD.nil ?_;refine aI S ?_;refine⟨?_,rfl⟩;first|(rw[wo w4 h0 uB])|(rw[wc w4 h0])
  refine dK 2 ?_;refine OD.wk (Wk.dG (n:=19) (l':=[(0,_),(1,_),(7,_),(8,_)]) (S':=S) rfl nc fa) ?_;refine OD.nil ?_;refine⟨k+1,_,cq,aK,w4,(by rw[take_succ_eq_append_getElem w4];intro x hx;rcases mem_append.1 hx with hx|hx;exact h0 x hx;simp only[mem_singleton] at hx;subst hx;assumption),rfl⟩
 refine aB 1 ?_;refine OD.wk (Wk.dG (n:=19) (l':=[(4,_)]) (S':=S) rfl nc fa) ?_;refine OD.nil ?_;refine aI S ?_;refine⟨?_,rfl⟩;first|(rw[wo w4 h0 uB])|(rw[wc w4 h0])
theorem qA(l:List aM)(hl:l.length≤1000)(nm:ByteArray):VP Tryz.prog G 29 [av 5 cY (l),bj nm] (ae (aT l nm)):=by
 refine VC.body func29 rfl ntmps29 aO fun X0 w0 bg=>?_;refine bU ?_;refine OD.box (ds:=[_]) ap rfl rfl ot rfl rfl (fun b3=>?_);refine an 8 [0,3] ?_;refine aB 1 ?_;refine bN (pK (ds:=[_]) rfl ⟨ot,trivial⟩) ?_;refine OD.call ap rfl rfl rfl call47 (abU l 48 [cQ b3] _ (fun t=>t.nm.toList==nm.toList) call48 (fun h _=>adH h nm b3) w4) ⟨ot,ot,trivial⟩ (mo (k:=0) rfl) ?_;rintro _ S2 ⟨rfl,iG⟩;rw[iG];clear iG;refine an 8 [4] ?_;exact z51
theorem adI(c:cj)(nm:ByteArray)(b:Nat):VC Tryz.prog G 127 [.agg (cC c),cQ b] [⟨b,9,1,[bj nm]⟩] (fun r S=>r=bJ (c.n.toList==nm.toList)∧S=[⟨b,9,1,[bj nm]⟩]):=by
 refine VC.body func127 rfl ntmps127 aO fun X0 w0 bg=>?_;exact XF
theorem IP(t:aM)(hl:t.ay.length≤1000)(nm:ByteArray):VP Tryz.prog G 85 [.agg (cY t),bj nm] (ae (bD t.ay nm)):=by
 refine VC.body func85 rfl ntmps85 aO fun X0 w0 bg=>?_;unfold cY;refine bU ?_;refine OD.box (ds:=[_,_,_,_,_]) ap rfl rfl ot rfl rfl (fun b2=>?_);refine OD.box (ds:=[_]) ap rfl rfl ot rfl rfl (fun b3=>?_);refine an 9 [2,3] ?_;refine aB 2 ?_;refine bN (pK (ds:=[_]) rfl ⟨ot,trivial⟩) ?_;refine OD.call ap rfl rfl rfl call106 (Pc.I6 t.ay 127 [cQ b3] _ (fun c=>c.n.toList==nm.toList) call127 (fun h _=>adI h nm b3) w4) ⟨ot,ot,trivial⟩ (mo (k:=0) rfl) ?_;rintro _ S2 ⟨rfl,iG⟩;rw[iG];clear iG;refine an 9 [4] ?_;exact z51

end Go.Proofs.YtdgichenhdikgaaGreatDoor.Ba
namespace Go.Proofs.YtdgichenhdikgaaGreatDoor.Ba
open List
open Go.Proofs.Tryz
open Go.RowKit V Pk Tr Vl Go.Proofs.YtdgichenhdikgaaGreatDoor.Nm Pc Cd Ex Tw
variable {G:List (Nat×List Value)} {m:Int}
variable {S:List ah} {t:aM} {n:Nat} {p:List Int×Int}
def Cy(k:K)(r:D)(S:List ah):Prop:=∃ad cap,r=aN ad k.length cap∧bp 5 1 (k.flatMap cB) k.length ad cap S
theorem Cy.view{k:K}{r:D}(h:Cy k r S):View S r (av 1 cB k):=by
 obtain⟨ad,cap,rfl,ho⟩:=h;exact lK ho (cn pO _) (fun B h=>h)
theorem Cy.flat{k:K}{r:D}(h:Cy k r S):kS r=true∧∀B∈S,∀d∈B.cs,kS d=true:=by
 obtain⟨ad,cap,rfl,ho⟩:=h;refine⟨rfl,fun B E d hd=>?_⟩;rcases ho with ⟨_,_,_,_,rfl⟩|⟨b,_,_,_,rfl⟩
 ·cases E
 rw[mem_singleton] at E;subst E;obtain⟨n,_,hn⟩:=mem_flatMap.1 hd;rw[cB,mem_singleton] at hn;subst hn;rfl
theorem KF(hG:(2,[Value.int .i64 m])∈G)(r:List Vl)(h1:1≤r.length)(h2:r.length≤1000000)(aQ:∀v∈r,v.Ok):VC Tryz.prog G 66 [av 3 cV r] [] (Cy (cJ r)):=by
 refine VC.body func66 rfl ntmps66 aO fun X0 w0 bg=>?_;have c8:=dR;refine af [0] ?_;refine aB 1 ?_;refine bN (eB (h:=1) rfl ot trivial ⟨_,bV⟩ (by exact nQ ff (fun h=>by cases h) runUnderlying28 sizeOf41 w4)) ?_;refine OD.call ap rfl rfl rfl call111 (Uy hG (r.take 1) oO (fun v U=>aQ v (mem_of_mem_take U))) ⟨ot,trivial⟩ (eV _) ?_;rintro _ O ⟨E,I,rfl,jN⟩;refine OD.perm (Perm.of_eq (append_nil O)) ?_;refine an 12 [3] ?_;refine af [2] ?_;refine aI O ?_;exact⟨E,I,rfl,jN⟩
theorem zi(hG:(2,[Value.int .i64 m])∈G)(r:List Vl)(h1:1≤r.length)(h2:r.length≤1000000)(aQ:∀v∈r,v.Ok):VP Tryz.prog G 66 [av 3 cV r] (.list 1 ((cJ r).flatMap cB) (cJ r).length):=(KF hG r h1 h2 aQ).cover fun r S hr=>hr.view
theorem aau:(Tryz.prog.info? 41).map (fun i=>(i.zero,i.size,i.bytes))=some (some (.agg #[.int .i64 0,.int .i64 0,.string ⟨#[]⟩]),3,32):=by kernel_rfl
theorem Ql(a:List Vl)(ha:a.length≤1000000):VC Tryz.prog G 31 [av 3 cV a] [] (fun r S=>∃ad cap,r=aN ad a.length cap∧bp 41 3 (a.flatMap cV) a.length ad cap S):=by
 refine VC.body func31 rfl ntmps31 aO fun X0 w0 bg=>?_;have c8:=dR;refine af [0] ?_;refine aB 1 ?_;refine OD.zu ap rfl rfl ot bV underlying28 (fun O xY=>?_);refine an 8 [0,4] ?_;refine aq ?_ ?_<;>intro aP bC
 ·exact G5
 refine bU ?_;refine OD.zv ap rfl rfl runUnderlying28 sizeOf41 (fun b5=>?_);refine aF 1 ?_;refine OD.pJ (ls:=([]:List Vl)) (new:=a) (Sq:=[⟨b5,41,0*3,[]⟩]) ff Fl ap rfl rfl underlying28 aau rfl w8 runUnderlying28 sizeOf41 ot (.inr ⟨b5,rfl,Nat.le_refl _,Nat.zero_le _,rfl⟩) (cZ (A:=[])) ot ij ij (fun E I S7 qe=>?_);exact G7
theorem Qm(a:List Vl)(ha:a.length≤1000000):VP Tryz.prog G 31 [av 3 cV a] (av 3 cV a):=(Ql a ha).cover fun r S ⟨ad,cap,h,ho⟩=>by subst h;exact lK ho (cn ff _) (fun B h=>h)
theorem aav:(Tryz.prog.info? 69).map (fun i=>(i.zero,i.size,i.bytes))=some (some (.agg #[.string ⟨#[]⟩,.int .i64 0]),2,24):=by kernel_rfl
theorem abV(a:List cj)(ha:a.length≤1000000):VC Tryz.prog G 81 [av 2 cC a] [] (fun r S=>∃ad cap,r=aN ad a.length cap∧bp 69 2 (a.flatMap cC) a.length ad cap S):=by
 refine VC.body func81 rfl ntmps81 aO fun X0 w0 bg=>?_;have c8:=dR;refine af [0] ?_;refine aB 1 ?_;refine OD.zu ap rfl rfl ot bV underlying27 (fun O xY=>?_);refine an 8 [0,4] ?_;refine aq ?_ ?_<;>intro aP bC
 ·exact G5
 refine bU ?_;refine OD.zv ap rfl rfl runUnderlying27 sizeOf69 (fun b5=>?_);refine aF 1 ?_;refine OD.pJ (ls:=([]:List cj)) (new:=a) (Sq:=[⟨b5,69,0*2,[]⟩]) lN ags ap rfl rfl underlying27 aav rfl w8 runUnderlying27 sizeOf69 ot (.inr ⟨b5,rfl,Nat.le_refl _,Nat.zero_le _,rfl⟩) (cZ (A:=[])) ot ij ij (fun E I S7 qe=>?_);exact G7
theorem Qn(a:List cj)(ha:a.length≤1000000):VP Tryz.prog G 81 [av 2 cC a] (av 2 cC a):=(abV a ha).cover fun r S ⟨ad,cap,h,ho⟩=>by subst h;exact lK ho (cn lN _) (fun B h=>h)
theorem abW(a:List Int)(ha:a.length≤1000000):VP Tryz.prog G 120 [av 1 Tw.cI a] (av 1 Tw.cI a):=(Tw.q9 a ha).cover fun r S ⟨ad,cap,h,ho⟩=>by subst h;exact lK ho (cn Tw.ez _) (fun B h=>h)

structure bZ where
 r:List Vl
 ad:Option Addr
 cap:Nat
 S:List ah
def gR(o:bZ):List D:=[aN o.ad o.r.length o.cap]
theorem ve(o:bZ):(gR o).length=1:=rfl
theorem UO(o:bZ):(gR o).all V.one=true:=rfl
def bR(o:bZ):List ah:=o.S
def oo(o:bZ):Prop:=bp 41 3 (o.r.flatMap cV) o.r.length o.ad o.cap o.S
theorem Fe{S:List ah}:∀{L:List bZ},(∀o∈L,oo o)→(∀B∈L.flatMap bR,B∈S)→gw S (L.flatMap gR) ((L.map bZ.r).flatMap fG)
 | [],_,_=>trivial
 | o::L,h,hs=>by
  rw[map_cons,flatMap_cons,flatMap_cons];refine gw.append ⟨lK (h o mem_cons_self) (cn ff _) (fun B E=>hs B ?_),trivial⟩ (Fe (fun o ho=>h o (mem_cons_of_mem _ ho)) fun B E=>hs B ?_)
  ·rw[flatMap_cons];exact mem_append_left _ E
  rw[flatMap_cons];exact mem_append_right _ E
abbrev sS(L:List bZ)(ad:Option Addr)(cap:Nat)(S:List ah):Prop:=bp 28 1 (L.flatMap gR) L.length ad cap S
structure aU where
 t:aM
 cs:List D
 ad:Option Addr
 cap:Nat
 sr:List ah
 sx:List ah
variable {o:aU}
def gT(o:aU):List D:=[bj o.t.nm,av 2 cC o.t.ay,aN o.ad o.t.rows.length o.cap,av 5 cP o.t.ix.ag,ae o.t.ix.root]
theorem u7(o:aU):(gT o).length=5:=rfl
theorem UP(o:aU):(gT o).all V.one=true:=rfl
def bT(o:aU):List ah:=o.sr++o.sx
structure okW (o:aU):Prop where
 own:bp 28 1 o.cs o.t.rows.length o.ad o.cap o.sr
 ain:∀S:List ah,(∀B∈o.sx,B∈S)→gw S o.cs (o.t.rows.flatMap fG)
def qn(o:aU):Prop:=∃L:List bZ,o.cs=L.flatMap gR∧o.sx=L.flatMap bR∧(∀x∈L,oo x)∧L.map bZ.r=o.t.rows∧sS L o.ad o.cap o.sr
theorem qn.w(h:qn o):okW o:=by
 obtain⟨L,h1,h2,h3,h4,h5⟩:=h;refine⟨?_,fun S hS=>?_⟩
 ·rw[h1,←h4,length_map];exact h5
 rw[h1,←h4];exact Fe h3 (by rw[←h2];exact hS)
theorem Qo(h:okW o)(hs:∀B∈bT o,B∈S):View S (aN o.ad o.t.rows.length o.cap) (av 1 fG o.t.rows) :=
 AX h.own (h.ain S fun B E=>hs B (mem_append_right _ E)) (cn jJ _) (fun B E=>hs B (mem_append_left _ E))
theorem TT(h:okW o)(hs:∀B∈bT o,B∈S):View S (.agg (gT o)) (.agg (cY o.t)):=uY ⟨eM,eM,Qo h hs,eM,eM,trivial⟩
theorem TU{S:List ah}:∀{L:List aU},(∀o∈L,okW o)→(∀B∈L.flatMap bT,B∈S)→gw S (L.flatMap gT) ((L.map aU.t).flatMap cY)
 | [],_,_=>trivial
 | o::L,h,hs=>by
  rw[map_cons,flatMap_cons,flatMap_cons];refine gw.append ⟨eM,eM,Qo (h o mem_cons_self) (fun B E=>hs B ?_),eM,eM,trivial⟩ (TU (fun o ho=>h o (mem_cons_of_mem _ ho)) fun B E=>hs B ?_)
  ·rw[flatMap_cons];exact mem_append_left _ E
  rw[flatMap_cons];exact mem_append_right _ E
abbrev xF(L:List aU)(ad:Option Addr)(cap:Nat)(S:List ah):Prop:=bp 53 5 (L.flatMap gT) L.length ad cap S
theorem FD{Sx:List ah}{L:List aU}{ad:Option Addr}{cap:Nat}(ho:xF L ad cap Sx)(h:∀o∈L,okW o)(hs:∀B∈Sx++L.flatMap bT,B∈S):View S (aN ad L.length cap) (.list 5 ((L.map aU.t).flatMap cY) L.length) :=
 AX ho (TU h fun B E=>hs B (mem_append_right _ E)) (by rw[cn jY,length_map]) (fun B E=>hs B (mem_append_left _ E))
def aio(t:aM)(r:D)(S:List ah):Prop:=∃o:aU,o.t=t∧r = .agg (gT o)∧qn o∧S=bT o
def K9(l:List aM)(r:D)(S:List ah):Prop:=∃(L:List aU) (ad:Option Addr) (cap:Nat) (Sx:List ah),r = .agg [aN ad L.length cap]∧xF L ad cap Sx∧(∀o∈L,qn o)∧L.map aU.t=l∧S=Sx++L.flatMap bT
theorem K9.view{l:List aM}{r:D}(h:K9 l r S):View S r (.agg [av 5 cY l]):=by
 obtain⟨L,ad,cap,Sx,rfl,ho,aQ,rfl,rfl⟩:=h;first|rw[length_map]|(show View _ _ (.list _ _ (length _));rw[length_map])|(show View _ _ (.agg [.list _ _ (length _)]);rw[length_map])
 exact uY ⟨FD ho (fun o h=>(aQ o h).w) (fun B h=>h),trivial⟩
theorem TV(L:List bZ)(o:bZ):(L++[o]).flatMap bR=L.flatMap bR++bR o:=by simp
theorem TW(L:List aU)(o:aU):(L++[o]).flatMap bT=L.flatMap bT++bT o:=by simp
theorem aaw:(Tryz.prog.info? 88).map (fun i=>(i.zero,i.size,i.bytes))=some (some (.slice none 0 0),1,24):=by kernel_rfl
theorem ZW:(Tryz.prog.info? 153).map (fun i=>(i.zero,i.size,i.bytes))=some (some (.agg #[.bool false,.slice none 0 0,.slice none 0 0,.slice none 0 0,.int .i64 0]),5,88):=by kernel_rfl
theorem aax(t:aD)(h:Nat)(v:Valid t h):VC Tryz.prog G 82 [.agg (cT t)] [] (fun r S=>∃ad cap,r = .agg [aN ad t.ag.length cap,ae t.root]∧bp 153 5 (t.ag.flatMap cP) t.ag.length ad cap S):=by
 refine VC.body func82 rfl ntmps82 aO fun X0 w0 bg=>?_;unfold Tw.cT;have c8:=dR;have NX:=v.nY;refine bU ?_;refine OD.box (ds:=[_,_]) ap rfl rfl ot rfl rfl (fun b1=>?_);refine OD.alloc (ds:=[_,_]) ap rfl rfl zeroValue51 rfl (fun b2=>?_);refine an 53 [1,2] ?_;refine aB 3 ?_;refine OD.alloc (ds:=[_,_]) ap rfl rfl zeroValue51 rfl (fun b3=>?_);refine aR 0 [_,_] sizeOf51 ?_;refine an 53 [1,2,3] ?_;refine bU ?_;refine bq [2,3,13,14,15] ?_;refine eA [2,3,13,14] (fun aX _ (E:Nat×List cW×Option Addr×Nat×List ah) aG=>match E with|(i,L,c9,cM,Sx)=>(i≤t.ag.length)∧(L=t.ag.take i)∧(bp 153 5 ((L).flatMap cP) (L).length c9 cM Sx)∧aG=(⟨53,(15,ae (i:Nat))::aX,(⟨b3,51,2,[aN c9 (L).length cM,ae t.root]⟩::⟨b2,51,2,[bH,ae 0]⟩::Sx)⟩:St)) (fun (E:Nat×List cW×Option Addr×Nat×List ah)=>match E with|(i,L,c9,cM,Sx)=>t.ag.length-i) (0,([]:List cW),none,0,[]) ⟨(Nat.zero_le _),rfl,(bp.cast iy jS),rfl⟩ ?_;rintro⟨i,L,c9,cM,Sx⟩ _ ⟨hi,hL,dN,rfl⟩;refine af [2,3,13,14,15,16] ?_;refine aq ?_ ?_<;>intro aP bC
 ·have aa:i<t.ag.length:=(by omega)
  have rW:L.length=i:=(by rw[hL,length_take];omega)
  have po:=v.fy _ (getElem_mem aa);have mU:=po.eE;have YJ:=po.hlen;have F1:(t.ag[i]'aa).kids.length≤6:=by
      exact XN
  refine aB 2 ?_;refine OD.alloc (ds:=[_,_,_,_,_]) ap rfl rfl zeroValue153 rfl (fun b5=>?_);refine aR 0 [_,_,_,_,_] sizeOf153 ?_;refine an 53 [2,3,5,13,14,15] ?_;refine CD.seq ?_;refine td 12 11 [2,3,5,6,13,14,15,29] ?_;refine cH (abW (t.ag[i]'aa).kids w4) ?_;refine cH (mj (t.ag[i]'aa).high w4) ?_;refine mg 3 ?_;refine og ?_;refine jb ?_;refine⟨rfl,fun b6=>?_⟩;refine aR 0 [_,_,_,_,_] sizeOf153 ?_;refine an 53 [2,3,5,6,13,14,15] ?_;refine bU ?_;refine bq [2,3,6,13,14,15,31,32,33] ?_
  refine eA [2,3,6,13,14,15,31,32] (fun aX _ (E:Nat×List K×Option Addr×Nat×List ah×Option Addr×Nat×List ah) aG=>match E with|(j,M,iE,iF,Sy,c9,cM,Sx)=>(j≤(t.ag[i]'aa).keys.length)∧(M=(t.ag[i]'aa).keys.take j)∧(bp 88 1 ((M).flatMap Tw.cK) (M).length iE iF Sy)∧(bp 153 5 ((L).flatMap cP) (L).length c9 cM Sx)∧aG=(⟨53,(33,ae (j:Nat))::aX,(⟨b6,153,5,[bJ (t.ag[i]'aa).leaf,aN iE (M).length iF,.list 1 ((t.ag[i]'aa).kids.flatMap Tw.cI) (t.ag[i]'aa).kids.length,.list 1 ((t.ag[i]'aa).high.flatMap cB) (t.ag[i]'aa).high.length,ae (t.ag[i]'aa).next]⟩::⟨b3,51,2,[aN c9 L.length cM,ae t.root]⟩::⟨b2,51,2,[bH,ae 0]⟩::(Sy++Sx))⟩:St)) (fun (E:Nat×List K×Option Addr×Nat×List ah×Option Addr×Nat×List ah)=>match E with|(j,M,iE,iF,Sy,c9,cM,Sx)=>(t.ag[i]'aa).keys.length-j) (0,([]:List K),none,0,[],c9,cM,Sx) ⟨(Nat.zero_le _),rfl,(bp.cast iy jS),(bp.cast dN jS),rfl⟩ ?_;rintro⟨j,M,iE,iF,Sy,c9,cM,Sx⟩ _ ⟨hj,hM,DM,dN,rfl⟩;refine af [2,3,6,13,14,15,31,32,33,34] ?_;refine aq ?_ ?_<;>intro aZ cr
  ·have l8:j<(t.ag[i]'aa).keys.length:=(by omega)
   have L6:=(po.lC _ (getElem_mem l8)).2;have xL:M.length=j:=(by rw[hM,length_take];omega)
   refine af [2,3,6,8,13,14,15,31,32,33] ?_;refine gJ 6 (au (take 3 _)) ?_ (fun _ h=>(Sublist.map _ (take_sublist _ _)).subset h);refine aC 0 rfl (dF 1) ?_;refine aC 1 rfl (dI 0) ?_;refine aC 2 rfl bF ?_;refine dH.later rfl ?_;refine AD.one (i:=3) az ?_;refine lj call95 (mj (t.ag[i]'aa).keys[j] w4) ?_;refine AD.one (i:=4) az ?_;refine j3 (cf 0 [_]) [.slice none 0 0] [_] zeroValue88 runUnderlying151 sizeOf88 (fun vP=>?_);refine j4 0 41 1 1 ?_;refine AD.one (i:=5) az ?_;refine bz.ey (ls:=(M)) (new:=[(t.ag[i]'aa).keys[j]]) (Sq:=Sy) Tw.gb Tw.pP rfl ap rfl rfl underlying151 aaw rfl w8 ot DM (oZ (A:=[_,_,_])) ot bn vK ij (fun U I ak5 ak6=>?_);refine AD.perm (jX (S1:=[⟨U,88,I*1,flatMap Tw.cK ((M)++[(t.ag[i]'aa).keys[j]])⟩]) (A:=[_,_,_])) ?_;refine e9 ?_;refine aF 1 ?_;refine aR 0 [_,_,_,_,_] sizeOf151 ?_;refine an 53 [2,3,6,13,14,15,31,32,33] ?_;refine tu ?_;refine bq [2,3,6,13,14,15,31,32,33] ?_;refine⟨((j+1),(M++[(t.ag[i]'aa).keys[j]]),(some ⟨U,0,none⟩),I,[⟨U,88,I*1,flatMap Tw.cK ((M)++[(t.ag[i]'aa).keys[j]])⟩],c9,cM,Sx),_,cq,aK,w4,(by rw[hM];exact pI l8),(bp.cast (bM ak5 ak6) jS),(bp.cast dN jS),rfl⟩
  refine CD.exit ?_;have hMk:M=(t.ag[i]'aa).keys:=(by rw[hM,take_of_length_le w4])
  subst hMk;refine CD.I3 (i:=1) (j:=0) (Sq:=Sy) (S':=⟨b6,153,5,[bJ (t.ag[i]'aa).leaf,.list 1 ((t.ag[i]'aa).keys.flatMap Tw.cK) (t.ag[i]'aa).keys.length,.list 1 ((t.ag[i]'aa).kids.flatMap Tw.cI) (t.ag[i]'aa).kids.length,.list 1 ((t.ag[i]'aa).high.flatMap cB) (t.ag[i]'aa).high.length,ae (t.ag[i]'aa).next]⟩::⟨b3,51,2,[aN c9 L.length cM,ae t.root]⟩::⟨b2,51,2,[bH,ae 0]⟩::Sx) DM (cn Tw.gb _) (oZ (A:=[_,_,_])) rfl rfl rfl rfl ?_;refine dK 3 ?_;refine en (cf 0 [_]) [.bool false,.slice none 0 0,.slice none 0 0,.slice none 0 0,.int .i64 0] [_,_,_,_,_] zeroValue153 runUnderlying49 sizeOf153 (fun Od=>?_);refine fA 0 48 5 1 ?_;refine OD.ey (ls:=(L)) (new:=[(t.ag[i]'aa)]) (Sq:=Sx) FB agF ap rfl rfl underlying49 ZW rfl w8 ot dN (cZ (A:=[_,_,_])) ot bn mY mZ (fun Z O ak7 ak8=>?_);refine OD.perm (dV (S1:=[⟨Z,153,O*5,flatMap cP ((L)++[(t.ag[i]'aa)])⟩]) (A:=[_,_,_])) ?_;refine aF 1 ?_;refine aR 1 [_,_] sizeOf49 ?_;refine an 53 [2,3,13,14,15] ?_;refine cc [2,3,13,14,15] ?_;refine⟨((i+1),(L++[(t.ag[i]'aa)]),(some ⟨Z,0,none⟩),O,[⟨Z,153,O*5,flatMap cP ((L)++[(t.ag[i]'aa)])⟩]),_,cq,aK,w4,(by rw[hL];exact pI aa),(bp.cast (bM ak7 ak8) jS),rfl⟩
 refine aB 1 ?_;refine aR 1 [_,_] sizeOf51 ?_;refine an 53 [2] ?_;refine aI Sx ?_;have hLe:L=t.ag:=(by rw[hL,take_of_length_le w4])
 subst hLe;exact⟨c9,cM,rfl,dN⟩
theorem aay(t:aD)(h:Nat)(v:Valid t h):VP Tryz.prog G 82 [.agg (cT t)] (.agg (cT t)):=(aax t h v).cover fun r S ⟨ad,cap,h,ho⟩=>by subst h;exact uY ⟨lK ho (cn FB _) (fun B h=>h),eM,trivial⟩
structure zl (t:aM):Prop where
 ay:t.ay.length≤1000
 rows:t.rows.length≤1000
 row:∀r∈t.rows,r.length≤1000
 ix:∃h,Valid t.ix h
theorem aaz:(Tryz.prog.info? 28).map (fun i=>(i.zero,i.size,i.bytes))=some (some (.slice none 0 0),1,24):=by kernel_rfl
theorem FC(t:aM)(hs:zl t):VC Tryz.prog G 40 [.agg (cY t)] [] (aio t):=by
 refine VC.body func40 rfl ntmps40 aO fun X0 w0 bg=>?_;unfold cY;have c8:=dR;have hc:=hs.ay;have hn:=hs.rows;obtain⟨h,v⟩:=hs.ix;have U:=aay (G:=G) t.ix h v;unfold Tw.cT at U;refine bU ?_;refine OD.box (ds:=[_,_,_,_,_]) ap rfl rfl ot rfl rfl (fun b1=>?_);refine OD.alloc (ds:=[_,_,_,_,_]) ap rfl rfl zeroValue53 rfl (fun b2=>?_);refine an 31 [1,2] ?_;refine CD.seq ?_;refine td 10 9 [1,2,3,14] ?_;refine cH (Qn t.ay w4) ?_;refine cH (U) ?_;refine mg 1 ?_;refine og ?_;refine jb ?_;refine⟨rfl,fun b3=>?_⟩;refine aR 0 [_,_,_,_,_] sizeOf53 ?_;refine an 31 [1,2,3] ?_;refine af [2,3,16,17,18] ?_;refine eA [2,3,16,17] (fun aX _ (I:Nat×List bZ×Option Addr×Nat×List ah) aG=>match I with|(i,L,c9,cM,Sx)=>(i≤t.rows.length)∧(L.map bZ.r=t.rows.take i)∧(∀o∈L,oo o)∧(sS L c9 cM Sx)∧aG=(⟨31,(18,ae (i:Nat))::aX,(⟨b3,53,5,[bj t.nm,av 2 cC t.ay,aN c9 L.length cM,av 5 cP t.ix.ag,ae t.ix.root]⟩::⟨b2,53,5,[fk,bH,bH,bH,ae 0]⟩::(Sx++L.flatMap bR))⟩:St)) (fun (I:Nat×List bZ×Option Addr×Nat×List ah)=>match I with|(i,L,c9,cM,Sx)=>t.rows.length-i) (0,([]:List bZ),none,0,[]) ⟨(Nat.zero_le _),rfl,(fun o h=>by cases h),iy,rfl⟩ ?_;rintro⟨i,L,c9,cM,Sx⟩ _ ⟨hi,hL,aQ,dN,rfl⟩;refine af [2,3,16,17,18,19] ?_;refine aq ?_ ?_<;>intro aP bC
 ·have aa:i<t.rows.length:=(by omega)
  have rW:L.length=i:=(by have:=congrArg length hL;rw[length_map,length_take] at this;omega)
  have rV:=hs.row _ (getElem_mem aa);refine af [2,3,5,16,17,18] ?_;refine gJ 6 (au (take 2 _)) ?_ (fun _ h=>(Sublist.map _ (take_sublist _ _)).subset h);refine aC 0 rfl (dF 2) ?_;refine aC 1 rfl (dI 0) ?_;refine aC 2 rfl bF ?_;refine dH.later rfl ?_;refine AD.one (i:=3) az ?_;refine bz.call rfl ap rfl rfl rfl call31 (Ql (t.rows[i]'aa) w4) ⟨ot,trivial⟩ (eV _) (fun b hb=>by simp[au,St.put] at hb ⊢;first|(simp[hb];done)|(rcases hb with hb|hb<;>simp[hb])|(rcases hb with hb|hb|hb<;>simp[hb])) ?_;rintro _ Sz ⟨l5,l6,rfl,yq⟩;refine AD.perm (jX (A:=[_,_])) ?_;have vN:(L++[(⟨(t.rows[i]'aa),l5,l6,Sz⟩:bZ)]).map bZ.r=t.rows.take (i+1):=(by rw[map_append,hL];exact pI aa)
  have jN:∀o∈L++[(⟨(t.rows[i]'aa),l5,l6,Sz⟩:bZ)],oo o:=fun o ho=>by rcases mem_append.1 ho with ho|ho;exact aQ o ho;rw[mem_singleton] at ho;subst ho;exact yq
  refine AD.one (i:=4) az ?_;refine j3 (cf 0 [_]) [.slice none 0 0] [_] zeroValue28 runUnderlying34 sizeOf28 (fun b26=>?_);refine j4 0 26 1 1 ?_;refine AD.one (i:=5) az ?_;refine bz.ey (ls:=L) (new:=[(⟨(t.rows[i]'aa),l5,l6,Sz⟩:bZ)]) (Sq:=Sx) ve UO rfl ap rfl rfl underlying34 aaz rfl w8 ot dN (tJ (A:=[_,_])) ot bn mY mZ (fun O E Z ak9=>?_);refine AD.perm (wu (S2:=[⟨O,28,E*1,flatMap gR (L++[(⟨(t.rows[i]'aa),l5,l6,Sz⟩:bZ)])⟩]) (A:=[_,_])) ?_;refine AD.perm (S':=⟨b3,53,5,[bj t.nm,av 2 cC t.ay,aN c9 L.length cM,av 5 cP t.ix.ag,ae t.ix.root]⟩::⟨b2,53,5,[fk,bH,bH,bH,ae 0]⟩::([⟨O,28,E*1,flatMap gR (L++[(⟨(t.rows[i]'aa),l5,l6,Sz⟩:bZ)])⟩]++(L++[(⟨(t.rows[i]'aa),l5,l6,Sz⟩:bZ)]).flatMap bR)) (jE fun mz=>by rw[TV];simp only[bR,map_append,map_cons,map_nil,sum_append,sum_cons,sum_nil];omega) ?_;refine e9 ?_;refine aF 1 ?_;refine aR 0 [_,_,_,_,_] sizeOf34 ?_;refine an 31 [2,3,16,17,18] ?_;refine cc [2,3,16,17,18] ?_;refine⟨((i+1),(L++[(⟨(t.rows[i]'aa),l5,l6,Sz⟩:bZ)]),(some ⟨O,0,none⟩),E,[⟨O,28,E*1,flatMap gR (L++[(⟨(t.rows[i]'aa),l5,l6,Sz⟩:bZ)])⟩]),_,cq,aK,w4,vN,jN,(bM Z ak9),rfl⟩
 refine aB 1 ?_;refine aR 1 [_,_,_,_,_] sizeOf53 ?_;refine an 31 [2] ?_;refine aI (Sx++L.flatMap bR) ?_;have pH:L.map bZ.r=t.rows:=(by rw[hL,take_of_length_le w4])
 have hLn:t.rows.length=L.length:=(by rw[←pH,length_map])
 exact⟨⟨t,L.flatMap gR,c9,cM,Sx,L.flatMap bR⟩,rfl,(by unfold gT;rw[hLn]),⟨L,rfl,rfl,aQ,pH,dN⟩,rfl⟩
theorem aaA:(Tryz.prog.info? 53).map (fun i=>(i.zero,i.size,i.bytes))=some (some (.agg #[.string ⟨#[]⟩,.slice none 0 0,.slice none 0 0,.slice none 0 0,.int .i64 0]),5,96):=by kernel_rfl
theorem Qp(l:List aM)(hl:l.length≤1000)(H:∀t∈l,zl t):VC Tryz.prog G 26 [.agg [av 5 cY l]] [] (K9 l):=by
 refine VC.body func26 rfl ntmps26 aO fun X0 w0 bg=>?_;have c8:=dR;refine bU ?_;refine OD.box (ds:=[_]) ap rfl rfl ot rfl rfl (fun b1=>?_);refine OD.alloc (ds:=[_]) ap rfl rfl zeroValue25 rfl (fun b2=>?_);refine an 22 [1,2] ?_;refine bU ?_;refine OD.alloc (ds:=[_]) ap rfl rfl zeroValue25 rfl (fun b3=>?_);refine an 22 [1,2,3] ?_;refine af [2,3,7,8,9] ?_;refine eA [2,3,7,8] (fun aX _ (I:Nat×List aU×Option Addr×Nat×List ah) aG=>match I with|(i,L,c9,cM,Sx)=>(i≤l.length)∧(L.map aU.t=l.take i)∧(∀o∈L,qn o)∧(xF L c9 cM Sx)∧aG=(⟨22,(9,ae (i:Nat))::aX,(⟨b3,25,1,[aN c9 L.length cM]⟩::⟨b2,25,1,[bH]⟩::(Sx++L.flatMap bT))⟩:St)) (fun (I:Nat×List aU×Option Addr×Nat×List ah)=>match I with|(i,L,c9,cM,Sx)=>l.length-i) (0,([]:List aU),none,0,[]) ⟨(Nat.zero_le _),rfl,(fun o h=>by cases h),iy,rfl⟩ ?_;rintro⟨i,L,c9,cM,Sx⟩ _ ⟨hi,hL,aQ,dN,rfl⟩;refine af [2,3,7,8,9,10] ?_;refine aq ?_ ?_<;>intro aP bC
 ·have aa:i<l.length:=(by omega)
  have rW:L.length=i:=(by have:=congrArg length hL;rw[length_map,length_take] at this;omega)
  refine aB 2 ?_;refine OD.alloc (ds:=[_,_,_,_,_]) ap rfl rfl zeroValue53 rfl (fun b5=>?_);refine aR 0 [_,_,_,_,_] sizeOf53 ?_;refine an 22 [2,3,5,7,8,9] ?_;refine gJ 6 (au (take 3 _)) ?_ (fun _ h=>(Sublist.map _ (take_sublist _ _)).subset h);refine aC 0 rfl (dF 0) ?_;refine aC 1 rfl (dI 1) ?_;refine aC 2 rfl (cR (mk:=Op.load 53) rfl ot (by first|exact qy (k:=0) (ds:=[_,_,_,_,_]) rfl rfl isAgg53 sizeOf53 rfl rfl|exact jZ jY isAgg53 sizeOf53 w5|exact jZ u7 isAgg53 sizeOf53 w5|exact dA (k:=0) jY rfl rfl rfl isAgg53 sizeOf53 w5|exact dA (k:=1) jY rfl rfl rfl isAgg53 sizeOf53 w5|exact dA (k:=2) jY rfl rfl rfl isAgg53 sizeOf53 w5|exact dA (k:=0) u7 rfl rfl rfl isAgg53 sizeOf53 w5|exact dA (k:=1) u7 rfl rfl rfl isAgg53 sizeOf53 w5|exact dA (k:=2) u7 rfl rfl rfl isAgg53 sizeOf53 w5|exact qE (ds:=[_,_,_,_,_]) isAgg53 sizeOf53 rfl rfl)) ?_;refine dH.later rfl ?_;refine AD.one (i:=3) az ?_;refine bz.call rfl ap rfl rfl rfl call40 (FC (l[i]'aa) (H _ (getElem_mem aa))) ⟨ot,trivial⟩ (eV _) (fun b hb=>by simp[au,St.put] at hb ⊢;first|(simp[hb];done)|(rcases hb with hb|hb<;>simp[hb])|(rcases hb with hb|hb|hb<;>simp[hb])) ?_;rintro _ _ ⟨o,HI,rfl,Dk,rfl⟩;refine AD.perm (jX (A:=[_,_,_])) ?_;have vN:(L++[o]).map aU.t=l.take (i+1):=(by rw[map_append,hL,map_cons,map_nil,HI];exact pI aa)
  have jN:∀x∈L++[o],qn x:=fun x hx=>by rcases mem_append.1 hx with hx|hx;exact aQ x hx;rw[mem_singleton] at hx;subst hx;exact Dk
  refine AD.one (i:=4) az ?_;refine j3 (cf 0 [_]) [.string ⟨#[]⟩,.slice none 0 0,.slice none 0 0,.slice none 0 0,.int .i64 0] [_,_,_,_,_] zeroValue53 runUnderlying23 sizeOf53 (fun b17=>?_);refine j4 0 17 5 1 ?_;refine AD.one (i:=5) az ?_;refine bz.ey (ls:=L) (new:=[o]) (Sq:=Sx) u7 UP rfl ap rfl rfl underlying23 aaA rfl w8 ot dN (tJ (A:=[_,_,_])) ot bn mY mZ (fun O E U Z=>?_);refine AD.perm (wu (S2:=[⟨O,53,E*5,flatMap gT (L++[o])⟩]) (A:=[_,_,_])) ?_;have Yj:(bT o++(([⟨O,53,E*5,flatMap gT (L++[o])⟩]:List ah)++L.flatMap bT)).Perm (([⟨O,53,E*5,flatMap gT (L++[o])⟩]:List ah)++(L++[o]).flatMap bT):=(jE fun mz=>by rw[TW];simp only[map_append,map_cons,map_nil,sum_append,sum_cons,sum_nil];omega)
  refine AD.perm (Perm.cons _ (Perm.cons _ (Perm.cons _ Yj))) ?_;refine e9 ?_;refine aF 1 ?_;refine aR 1 [_] sizeOf23 ?_;refine an 22 [2,3,7,8,9] ?_;refine cc [2,3,7,8,9] ?_;refine⟨((i+1),(L++[o]),(some ⟨O,0,none⟩),E,[⟨O,53,E*5,flatMap gT (L++[o])⟩]),_,cq,aK,w4,vN,jN,(bM U Z),rfl⟩
 refine aB 1 ?_;refine aR 1 [_] sizeOf25 ?_;refine an 22 [2] ?_;refine aI (Sx++L.flatMap bT) ?_;have pH:L.map aU.t=l:=(by rw[hL,take_of_length_le w4])
 exact⟨L,c9,cM,Sx,rfl,dN,aQ,pH,rfl⟩
theorem abX(l:List aM)(hl:l.length≤1000)(H:∀t∈l,zl t):VP Tryz.prog G 26 [.agg [av 5 cY l]] (.agg [av 5 cY l]):=(Qp l hl H).cover fun r S hr=>hr.view

structure eu (t:aM) (n:Nat):Prop where
 nm:cG t.nm=0
 ay:t.ay=bf
 eE:t.rows.length≤40
 ix:ic t.ix n
 row:∀i (h:i<t.rows.length),t.rows[i]≠[]→Pc.dB bf t.rows[i]=0∧(∀v∈t.rows[i],v.Ok)∧(cJ t.rows[i],(i:Int))∈dQ t.ix
 iI:∀x∈dQ t.ix,0≤x.2∧∃h:x.2.toNat<t.rows.length,t.rows[x.2.toNat]≠[]∧x.1=cJ t.rows[x.2.toNat]
theorem oI{r:List Vl}(h:Pc.dB bf r=0):r.length=4:=by
 unfold Pc.dB at h;rw[if_neg Ag] at h;split at h
 ·cases h
 rename_i h2;exact Decidable.not_not.1 h2
theorem eu.len(g:eu t n){r:List Vl}(hr:r∈t.rows):r=[]∨(r.length=4∧∀v∈r,v.Ok):=by
 obtain⟨i,hi,rfl⟩:=mem_iff_getElem.1 hr;rcases Classical.em (t.rows[i]=[]) with h|h
 ·exact .inl h
 exact .inr ⟨oI (g.row i hi h).1,(g.row i hi h).2.1⟩
theorem eu.small(g:eu t n):zl t :=
 ⟨by rw[g.ay];decide,Nat.le_trans g.eE w8,fun r hr=>by rcases g.len hr with h|h;rw[h];exact Nat.zero_le _;omega,_,g.ix.val⟩
def rowAt(t:aM)(i:Int):List Vl:=t.rows.getD i.toNat []
theorem iz{i:Int}(h:i.toNat<t.rows.length):rowAt t i=t.rows[i.toNat]:=by unfold rowAt;rw[getD_eq_getElem?_getD,getElem?_eq_getElem h];rfl
def jR(t:aM)(w:List aJ):List Int→List (K×Int)→List Int×Int
 | acc,[]=>(acc,0)
 | acc,x::r=>if 0<w.length then (if (dD t.ay (rowAt t x.2) w).2≠0 then ([],(dD t.ay (rowAt t x.2) w).2) else if (dD t.ay (rowAt t x.2) w).1.n≠1 then jR t w acc r else jR t w (acc++[x.2]) r) else jR t w (acc++[x.2]) r
noncomputable def ax(t:aM)(w:List aJ):List Int×Int:=if (fw t.ay w).2≠0 then ([],(fw t.ay w).2) else jR t w [] (lV t.ix (fw t.ay w).1.1 (fw t.ay w).1.2)
def Cz(p:List Int×Int)(r:D)(S:List ah):Prop:=∃ad cap,r = .di [aN ad p.1.length cap,ae p.2]∧bp 3 1 (p.1.flatMap Tw.cI) p.1.length ad cap S
theorem Cz.view{r:D}(h:Cz p r S):View S r (.di [av 1 Tw.cI p.1,ae p.2]):=by
 obtain⟨ad,cap,rfl,ho⟩:=h;exact EH ⟨lK ho (cn Tw.ez _) (fun B h=>h),eM,trivial⟩
theorem Cz.flat{r:D}(h:Cz p r S):kS r=true∧∀B∈S,∀d∈B.cs,kS d=true:=by
 obtain⟨ad,cap,rfl,ho⟩:=h;refine⟨rfl,fun B E d hd=>?_⟩;rcases ho with ⟨_,_,_,_,rfl⟩|⟨b,_,_,_,rfl⟩
 ·cases E
 rw[mem_singleton] at E;subst E;obtain⟨n,_,hn⟩:=mem_flatMap.1 hd;rw[Tw.cI,mem_singleton] at hn;subst hn;rfl
theorem ET{t:aD}{f u:K}:∀x∈lV t f u,x∈dQ t:=fun x hx=>by
 unfold lV um at hx;have h1:=(takeWhile_sublist _).subset hx;unfold lU at h1;exact(mem_filter.1 h1).1
theorem RY{t:aD}(g:ic t n)(f u:K):(lV t f u).length≤16000:=by
 unfold lV um;exact Nat.le_trans (takeWhile_sublist _).length_le (RQ g.val f)
theorem TX(l:List Vl):(fP l).1.length≤100:=by
 unfold fP;repeat' split
 all_goals first|exact Nat.zero_le _|(simp only;omega)
def Sm(b:jd):Prop:=b.1.length≤100∧b.2.length≤100
theorem TY{key:ByteArray}{ops:List aJ}{no:Bool}{b:jd}(h:Sm b):Sm (mr key ops no b):=by
 have hk:(sP ops).length≤100:=TX _;have hl:∀b,Sm b→Sm (mQ (sP ops) b):=fun b h=>by unfold mQ;split;exact⟨hk,h.2⟩;exact h
 have E:∀b,Sm b→Sm (pQ (sP ops) b):=fun b h=>by unfold pQ;split;exact⟨h.1,hk⟩;exact h
 unfold mr;split
 ·exact h
 split
 ·exact h
 unfold sH;cases(nr ops (ops.length-1)==6||(cU (ku key) (ops.take 2)==0)!=no)<;>cases(nr ops (ops.length-1)==6||(cU (ku key) (ops.take 2)==0)==no)<;>first|exact h|exact hl _ h|exact E _ h|exact E _ (hl _ h)
theorem KG{key:ByteArray}:∀(f:Nat) (ops:List aJ) (b:jd),Sm b→Sm (fO key f ops b)
 | 0,_,_,h=>h
 | f+1,ops,b,h=>by
  unfold fO;split
  ·exact KG f _ _ (KG f _ _ h)
  split
  ·exact TY h
  exact TY h
theorem agU(l:List cj)(ops:List aJ):Sm (fw l ops).1:=by
 have h0:Sm (([],[]):jd):=⟨Nat.zero_le _,Nat.zero_le _⟩
 unfold fw;repeat' split
 all_goals first|exact h0|exact KG _ _ _ h0
theorem Qq:(Tryz.prog.info? 3).map (fun i=>(i.zero,i.size,i.bytes))=some (some (.int .i64 0),1,8):=by kernel_rfl
theorem KH(hm:(3,marksC)∈G)(hw:(1,wordsC)∈G)(ht:(0,typesC)∈G)(hG:(2,[Value.int .i64 m])∈G)(t:aM)(g:eu t n)(w:List aJ)(ho:∀o∈w,o.nm.size≤maxLen)(fQ:∀o∈w,o.v.Ok):VC Tryz.prog G 86 [.agg (cY t),av 5 cO w] [] (Cz (ax t w)):=by
 refine VC.body func86 rfl ntmps86 aO fun X0 w0 bg=>?_;have AG:=agU t.ay w;have oP:=abm (G:=G) hm hw ht hG t.ay xN xM w ho fQ;unfold NU at oP;have c8:=dR;have AH:=UN (G:=G) g.ix (fw t.ay w).1.1 (fw t.ay w).1.2 AG.1 AG.2;unfold Tw.cT at AH;have mU:=RY g.ix (fw t.ay w).1.1 (fw t.ay w).1.2;generalize hL:(lV t.ix (fw t.ay w).1.1 (fw t.ay w).1.2)=L at *;unfold cY;have LF:∀x∈L,x∈dQ t.ix:=fun x hx=>ET x (hL ▸ hx);refine bU ?_;refine OD.box (ds:=[_,_,_,_,_]) ap rfl rfl ot rfl rfl (fun b2=>?_);refine an 70 [1,2] ?_;refine cz [1,2,6,7,8] (oP) ?_;refine af [1,2,6,7,8,25] ?_;refine aq ?_ ?_<;>intro aP bC
 ·have hne:(fw t.ay w).2≠0:=(by simpa using aP)
  have aW:ax t w=([],(fw t.ay w).2):=if_pos hne;refine af [4,5] ?_;refine aI [] ?_;rw[aW];exact⟨none,0,rfl,iy⟩
 have hz:(fw t.ay w).2=0:=(by simpa using aP)
 have aip:ax t w=jR t w [] (L.drop 0):=(by unfold ax;rw[if_neg (by simp[hz]),hL,drop_zero])
 refine cz [1,2,9] (AH) ?_;refine bU ?_;refine bq [1,2,9,11] ?_;refine af [1,2,11,35,36,37] ?_;refine eA [1,2,35,36] (fun aX _ (O:Nat×List Int×Option Addr×Nat×List ah) aG=>match O with|(k,acc,c9,cM,Sx)=>(k≤L.length)∧((acc).length≤k)∧(ax t w=jR t w acc (L.drop k))∧(bp 3 1 ((acc).flatMap Tw.cI) (acc).length c9 cM Sx)∧aG=(⟨70,(11,aN c9 (acc).length cM)::(37,ae (k:Nat))::aX,(⟨b2,53,5,[bj t.nm,av 2 cC t.ay,av 1 fG t.rows,av 5 cP t.ix.ag,ae t.ix.root]⟩::Sx)⟩:St)) (fun (O:Nat×List Int×Option Addr×Nat×List ah)=>match O with|(k,acc,c9,cM,Sx)=>L.length-k) (0,([]:List Int),none,0,[]) ⟨(Nat.zero_le _),(Nat.zero_le _),aip,(bp.cast iy jS),rfl⟩ ?_;rintro⟨k,acc,c9,cM,Sx⟩ _ ⟨hk,nB,aW,dN,rfl⟩;refine af [1,2,11,35,36,37,38] ?_;refine aq ?_ ?_<;>intro aZ cr
 ·have aa:k<L.length:=(by omega)
  obtain⟨fq,U,oq,Nb⟩:=g.iI _ (LF _ (getElem_mem aa));have E:=iz (t:=t) U;have jo:L.drop k=(L[k]'aa)::L.drop (k+1):=drop_eq_getElem_cons aa;have hrw:=(g.row _ U oq).2.1;have hr4:=oI (g.row _ U oq).1;refine aB 2 ?_;refine OD.alloc (ds:=[_,_]) ap rfl rfl zeroValue90 rfl (fun lJ=>?_);refine aR 0 [_,_] sizeOf90 ?_;refine an 70 [1,2,11,13,35,36,37] ?_;refine af [1,2,11,13,35,36,37,43] ?_;refine aq ?_ ?_<;>intro bX cA
  ·have Z:0<w.length:=(by omega)
   have ql:=JU (G:=G) hm hw ht t.ay xN xM (t.rows[(L[k]'aa).2.toNat]) w4 hrw w ho fQ;rw[←E] at ql;unfold mE at ql;rw[E] at ql;refine CD.seq ?_;refine td 14 13 [1,2,11,13,14,35,36,37,55,56] ?_;refine aS 6 ?_ (h:=by exact(dw 1 (h:=by first|exact .l (j:=(L[k]'aa).2.toNat) (Int.toNat_of_nonneg fq).symm U|exact .r (j:=(L[k]'aa).2.toNat) (Int.toNat_of_nonneg fq).symm U)));refine cH (ql) ?_;refine mg 3 ?_;refine og ?_;refine jb ?_;refine⟨rfl,fun Ap=>?_⟩;refine aR 0 [_,_,_] sizeOf41 ?_;refine an 70 [1,2,11,13,14,15,35,36,37] ?_;refine af [1,2,11,13,14,15,35,36,37,58] ?_;refine aq ?_ ?_<;>intro cN dW
   ·have hne:(dD t.ay (rowAt t (L[k]'aa).2) w).2≠0:=(by rw[E];simpa using cN)
    have I:ax t w=([],(dD t.ay (rowAt t (L[k]'aa).2) w).2):=(by rw[aW,jo,jR,if_pos Z,if_pos hne])
    rw[E] at I;refine af [4,5] ?_;refine aI [] ?_;rw[I];exact⟨none,0,rfl,iy⟩
   have hne:¬(dD t.ay (rowAt t (L[k]'aa).2) w).2≠0:=(by rw[E];simpa using cN)
   refine af [1,2,11,13,35,36,37,62] ?_;refine aq ?_ ?_<;>intro ec fh
   ·have gk:(dD t.ay (rowAt t (L[k]'aa).2) w).1.n≠1:=(by rw[E];simpa using ec)
    have oe:ax t w=jR t w acc (L.drop (k+1)):=(by rw[aW,jo,jR,if_pos Z,if_neg hne,if_pos gk])
    refine cc [1,2,11,35,36,37] ?_;refine⟨((k+1),acc,c9,cM,Sx),_,cq,aK,w4,w4,oe,(bp.cast dN jS),rfl⟩
   have gk:¬(dD t.ay (rowAt t (L[k]'aa).2) w).1.n≠1:=(by rw[E];simpa using ec)
   have oe:ax t w=jR t w (acc++[(L[k]'aa).2]) (L.drop (k+1)):=(by rw[aW,jo,jR,if_pos Z,if_neg hne,if_neg gk])
   refine dK 3 ?_;refine en (cf 0 [_]) [.int .i64 0] [_] zeroValue3 runUnderlying67 sizeOf3 (fun pE=>?_);refine fA 0 66 1 1 ?_;refine OD.ey (ls:=(acc)) (new:=[(L[k]'aa).2]) (Sq:=Sx) Tw.ez Tw.nR ap rfl rfl underlying67 Qq rfl w8 ot dN (cZ (A:=[_,_,_])) ot bn mY mZ (fun qR rE Ge Gf=>?_);refine OD.perm (dV (S1:=[⟨qR,3,rE*1,flatMap Tw.cI ((acc)++[(L[k]'aa).2])⟩]) (A:=[_,_,_])) ?_;exact XB
  have Z:¬0<w.length:=(by omega)
  have oe:ax t w=jR t w (acc++[(L[k]'aa).2]) (L.drop (k+1)):=(by rw[aW,jo,jR,if_neg Z])
  refine dK 3 ?_;refine en (cf 0 [_]) [.int .i64 0] [_] zeroValue3 runUnderlying67 sizeOf3 (fun pE=>?_);refine fA 0 66 1 1 ?_;refine OD.ey (ls:=(acc)) (new:=[(L[k]'aa).2]) (Sq:=Sx) Tw.ez Tw.nR ap rfl rfl underlying67 Qq rfl w8 ot dN (cZ (A:=[_,_])) ot bn mY mZ (fun qR rE Ge Gf=>?_);refine OD.perm (dV (S1:=[⟨qR,3,rE*1,flatMap Tw.cI ((acc)++[(L[k]'aa).2])⟩]) (A:=[_,_])) ?_;exact XB
 have I:ax t w=(acc,0):=(by rw[aW,drop_of_length_le w4];rfl)
 refine af [4,5] ?_;refine aI Sx ?_;rw[I];exact⟨c9,cM,rfl,dN⟩

end Go.Proofs.YtdgichenhdikgaaGreatDoor.Ba
namespace Go.Proofs.YtdgichenhdikgaaGreatDoor.So
open List
open Go.Proofs.Tryz
variable {α:Type} {R:α→α→Prop} {l L M X Y:List α} {x y:α} {k:Nat}
theorem Ii(ht:∀{x y z:α},R x y→R y z→R x z)(hs:L.Pairwise R)(hk:k≤L.length)(h:k=0∨∃h:k-1<L.length,R (L[k-1]) x):∀z∈L.take k,R z x:=by
 intro z hz;obtain⟨i,hi,rfl⟩:=mem_iff_getElem.1 hz;rw[length_take] at hi;rw[getElem_take];rcases h with rfl|⟨h1,h2⟩
 ·omega
 rcases Nat.lt_or_ge i (k-1) with h3|h3
 ·exact ht (pairwise_iff_getElem.1 hs i (k-1) w4 h1 h3) h2
 have:i=k-1:=(by omega)
 subst this;exact h2
theorem HZ(ht:∀{x y z:α},R x y→R y z→R x z)(hs:L.Pairwise R)(h:k=L.length∨∃h:k<L.length,R x (L[k])):∀z∈L.drop k,R x z:=by
 intro z hz;obtain⟨i,hi,rfl⟩:=mem_iff_getElem.1 hz;rw[length_drop] at hi;rw[getElem_drop];rcases h with rfl|⟨h1,h2⟩
 ·omega
 rcases Nat.eq_zero_or_pos i with rfl|h3
 ·simpa using h2
 exact ht h2 (pairwise_iff_getElem.1 hs k (k+i) h1 w4 w4)
theorem adJ(hs:(X++Y).Pairwise R)(h1:∀z∈X,R z x)(h2:∀z∈Y,R x z):(X++x::Y).Pairwise R:=by
 rw[pairwise_append] at hs ⊢;obtain⟨p1,p2,p3⟩:=hs;refine⟨p1,pairwise_cons.2 ⟨h2,p2⟩,fun a ha b hb=>?_⟩;rcases mem_cons.1 hb with rfl|hb
 ·exact h1 a ha
 exact p3 a ha b hb
theorem TZ(ht:∀{x y z:α},R x y→R y z→R x z)(hs:L.Pairwise R)(hk:k≤L.length)(h1:k=0∨∃h:k-1<L.length,R (L[k-1]) x)(h2:k=L.length∨∃h:k<L.length,R x (L[k])):(L.take k++x::L.drop k).Pairwise R :=
 adJ (by rw[take_append_drop];exact hs) (Ii ht hs hk h1) (HZ ht hs h2)
theorem abY (ht:∀{x y z:α},R x y→R y z→R x z) {A B:List α} {i j:Nat} (ha:A.Pairwise R) (hb:B.Pairwise R) (hi:i≤A.length) (hj:j≤B.length)
  (h1:i=0∨j=B.length∨∃(p:i-1<A.length) (q:j<B.length),R A[i-1] B[j]) (h2:j=0∨i=A.length∨∃(p:j-1<B.length) (q:i<A.length),R B[j-1] A[i]) :
  ∀a∈A.take i++B.take j,∀b∈A.drop i++B.drop j,R a b:=by
 have E:∀a∈A.take i,∀b∈A.drop i,R a b:=(by rw[←take_append_drop i A] at ha;exact(pairwise_append.1 ha).2.2)
 have I:∀a∈B.take j,∀b∈B.drop j,R a b:=(by rw[←take_append_drop j B] at hb;exact(pairwise_append.1 hb).2.2)
 intro a hm b hn;rcases mem_append.1 hm with hm|hm<;>rcases mem_append.1 hn with hn|hn
 ·exact E a hm b hn
 ·rcases h1 with rfl|rfl|⟨p,q,hr⟩
  ·simp at hm
  ·simp at hn
  exact Ii (R:=R) ht ha hi (.inr ⟨p,by
   rcases HZ (R:=R) ht hb (k:=j) (x:=A[i-1]) (.inr ⟨q,hr⟩) b hn with h
   exact h⟩) a hm
 ·rcases h2 with rfl|rfl|⟨p,q,hr⟩
  ·simp at hm
  ·simp at hn
  exact Ii (R:=R) ht hb hj (.inr ⟨p,HZ (R:=R) ht ha (k:=i) (x:=B[j-1]) (.inr ⟨q,hr⟩) b hn⟩) a hm
 exact I a hm b hn
theorem IQ{l1 l2:List α}:((l1++x::y::l2).set l1.length y).set (l1.length+1) x=l1++y::x::l2:=by
 rw[set_append_right _ _ (Nat.le_refl _),Nat.sub_self,set_cons_zero,set_append_right _ _ w4,show l1.length+1-l1.length=1 by omega,set_cons_succ,set_cons_zero]
def sw(l:List Int)(i j:Nat):List Int:=(l.set i (l.getD j 0)).set j (l.getD i 0)
theorem agV{l:List Int}{i j:Nat}:(sw l i j).length=l.length:=by unfold sw;simp
theorem mI{l:List Int}{i:Nat}(h:i<l.length):l.getD i 0=l[i]:=by simp[h]
def jT(l:List Int)(a b:Nat):Nat→List Int
 | 0=>l
 | k+1=>sw (jT l a b k) (a+k) (b+k)
theorem Bx{l:List Int}{a b:Nat}:∀{k:Nat},(jT l a b k).length=l.length
 | 0=>rfl
 | k+1=>by rw[jT,agV,Bx]
theorem T0{l:List Int}{a b:Nat}:∀{k:Nat},a+k≤b→b+k≤l.length→∀j,(jT l a b k)[j]?=if a≤j∧j<a+k then l[b+(j-a)]? else if b≤j∧j<b+k then l[a+(j-b)]? else l[j]?
 | 0,_,_,j=>by rw[if_neg w4,if_neg w4];try rfl
 | k+1,h1,h2,j=>by
  have E:=T0 (l:=l) (a:=a) (b:=b) (k:=k) w4 w4;have e1:(jT l a b k).getD (b+k) 0=l.getD (b+k) 0:=(by rw[getD_eq_getElem?_getD,E,if_neg w4,if_neg w4,getD_eq_getElem?_getD])
  have e2:(jT l a b k).getD (a+k) 0=l.getD (a+k) 0:=(by rw[getD_eq_getElem?_getD,E,if_neg w4,if_neg w4,getD_eq_getElem?_getD])
  rw[jT,sw,e1,e2,getElem?_set,getElem?_set,length_set,Bx,E];by_cases q1:b+k=j
  ·subst q1;rw[if_pos rfl,if_pos w4,if_neg w4,if_pos w4,mI w4,show a+(b+k-b)=a+k by omega,getElem?_eq_getElem w4]
  rw[if_neg q1];by_cases q2:a+k=j
  ·subst q2;rw[if_pos rfl,if_pos w4,if_pos w4,mI w4,show b+(a+k-a)=b+k by omega,getElem?_eq_getElem w4]
  rw[if_neg q2];simp only[show(a≤j∧j<a+(k+1))↔(a≤j∧j<a+k) by omega,show(b≤j∧j<b+(k+1))↔(b≤j∧j<b+k) by omega]
theorem J7{P U M W Q:List Int}(h:U.length=W.length):jT (P++(U++(M++(W++Q)))) P.length (P.length+U.length+M.length) U.length=P++(W++(M++(U++Q))):=by
 refine ext_getElem? fun j=>?_;rw[T0 w4 (by simp only[length_append];omega)];simp only[getElem?_append];repeat' split
 all_goals first|omega|(congr 1<;>omega)
def rY(T cur:List Int)(m i j:Nat):Prop:=∃P X Y Q,cur=P++(X++(Y++Q))∧X.length=i∧Y.length=j∧P.length+i=m∧T=P++(Y++(X++Q))
variable {T cur:List Int} {m i j:Nat}
theorem rY.len(h:rY T cur m i j):i≤m∧m+j≤cur.length∧T.length=cur.length:=by
 obtain⟨P,X,Y,Q,rfl,rfl,rfl,hm,rfl⟩:=h;simp only[length_append];omega
theorem agW(h:rY T cur m i j)(E:j<i):rY T (jT cur (m-i) m j) m (i-j) j:=by
 obtain⟨P,X,Y,Q,rfl,rfl,rfl,hm,rfl⟩:=h;have l1:(X.take Y.length).length=Y.length:=(by rw[length_take];omega)
 have l2:(X.drop Y.length).length=X.length-Y.length:=length_drop;have e:=J7 (P:=P) (U:=X.take Y.length) (M:=X.drop Y.length) (W:=Y) (Q:=Q) l1;rw[l1,l2,←append_assoc (X.take _) (X.drop _),take_append_drop,show P.length+Y.length+(X.length-Y.length)=m by omega,show P.length=m-X.length by omega] at e;exact⟨P++Y,X.drop Y.length,X.take Y.length,Q,by rw[e];simp,l2,l1,by rw[length_append];omega,by rw[←append_assoc (X.take _) (X.drop _),take_append_drop];simp⟩
theorem agX(h:rY T cur m i j)(E:i<j):rY T (jT cur (m-i) (m+j-i) i) m i (j-i):=by
 obtain⟨P,X,Y,Q,rfl,rfl,rfl,hm,rfl⟩:=h;have l1:(Y.take (Y.length-X.length)).length=Y.length-X.length:=(by rw[length_take];omega)
 have l2:(Y.drop (Y.length-X.length)).length=X.length:=(by rw[length_drop];omega)
 have e:=J7 (P:=P) (U:=X) (M:=Y.take (Y.length-X.length)) (W:=Y.drop (Y.length-X.length)) (Q:=Q) l2.symm;rw[l1,←append_assoc (Y.take _) (Y.drop _),take_append_drop,show P.length+X.length+(Y.length-X.length)=m+Y.length-X.length by omega,show P.length=m-X.length by omega] at e;exact⟨P,Y.drop (Y.length-X.length),Y.take (Y.length-X.length),X++Q,e,l2,l1,hm,by rw[←append_assoc (Y.take _) (Y.drop _),take_append_drop]⟩
theorem agY(h:rY T cur m i i):jT cur (m-i) m i=T:=by
 obtain⟨P,X,Y,Q,rfl,rfl,hl,hm,rfl⟩:=h;have e:=J7 (P:=P) (U:=X) (M:=[]) (W:=Y) (Q:=Q) hl.symm;rw[length_nil,Nat.add_zero,show P.length+X.length=m by omega,show P.length=m-X.length by omega] at e;simpa using e

end Go.Proofs.YtdgichenhdikgaaGreatDoor.So
namespace Go.Proofs.YtdgichenhdikgaaGreatDoor.So
open List
open Go.Proofs.Tryz
open Go.RowKit V Tw
variable {G:List (Nat×List Value)}
theorem J8(l:List Int)(E la lb k cap I:Nat)(ew:D)(Sc:List ah)(gd:l.length=E)(h1:la+k≤lb)(h2:lb+k≤E)(h3:E≤cap)(h4:cap≤maxLen):VC Tryz.prog G 173 [aN (some ⟨I,0,none⟩) E cap,ae (la:Nat),ae (lb:Nat),ae (k:Nat),ew] (⟨I,3,cap*1,(l).flatMap cI⟩::Sc) (fun r S'=>r = .di []∧S'=⟨I,3,cap*1,(jT l la lb k).flatMap cI⟩::Sc):=by
 refine VC.body func173 rfl ntmps173 aO fun X0 w0 bg=>?_;have c8:=dR;refine af [0,1,2,3,10] ?_;refine eA [0,1,2,3] (fun aX _ (i:Nat) aG=>(i≤k)∧aG=(⟨38,(10,ae (i:Nat))::aX,(⟨I,3,cap*1,(jT l la lb i).flatMap cI⟩::Sc)⟩:St)) (fun (i:Nat)=>k-i) 0 ⟨(Nat.zero_le _),rfl⟩ ?_;rintro i _ ⟨hi,rfl⟩;refine af [0,1,2,3,10,13] ?_;refine aq ?_ ?_<;>intro aP bC
 ·have O:i<k:=(by omega)
  have hlen:(jT l la lb i).length=E:=(by rw[Bx,gd])
  have ha:la+i<(jT l la lb i).length:=(by omega)
  have hb:lb+i<(jT l la lb i).length:=(by omega)
  refine CD.skip ?_;refine CD.seq ?_;refine CD.block ?_;refine gJ 22 (au (eraseIdx _ 0)) ?_ (fun _ h=>(Sublist.map _ (eraseIdx_sublist _ 0)).subset h);refine aC 0 rfl bF ?_;refine aC 1 rfl bF ?_;refine aC 2 rfl bF ?_;refine aC 3 rfl nj ?_;refine aC 4 rfl bF ?_;refine aC 5 rfl bF ?_;refine aC 6 rfl bF ?_;refine aC 7 rfl nj ?_;refine aC 8 rfl bF ?_;refine aC 9 rfl bF ?_;refine aC 10 rfl bF ?_;refine aC 11 rfl nj ?_;refine aC 12 rfl (dw 1) ?_;refine aC 14 rfl bF ?_;refine aC 15 rfl bF ?_;refine aC 16 rfl bF ?_;refine aC 17 rfl nj ?_;refine aC 18 rfl (dw 1) ?_;refine dH.later rfl ?_;refine AD.two (i:=13) (j:=19) az ?_ ?_
  ·refine at_ rfl eN ?_;refine AD.one (i:=19) az ?_;exact Xn
  refine at_ rfl eN ?_;refine AD.one (i:=13) az ?_;exact Xn
 obtain rfl:i=k:=(by omega)
 refine aI _ ?_;exact⟨by first|rfl|(simp[*];done),rfl⟩

theorem agZ(l Tt:List Int)(Z a m b cap bd:Nat)(ew:D)(Sc:List ah)(h:rY Tt l m (m-a) (b-m))(h1:a<m)(h2:m<b)(gd:l.length=Z)(E:Z≤cap)(I:cap≤maxLen):VC Tryz.prog G 163 [aN (some ⟨bd,0,none⟩) Z cap,ae (a:Nat),ae (m:Nat),ae (b:Nat),ew] (⟨bd,3,cap*1,(l).flatMap cI⟩::Sc) (fun r S'=>r = .di []∧S'=⟨bd,3,cap*1,(Tt).flatMap cI⟩::Sc):=by
 refine VC.body func163 rfl ntmps163 aO fun X0 w0 bg=>?_;have c8:=dR;have hlen:=h.len;refine cL [0,2,3,4,10] ?_;refine aS 2 ?_ (h:=by exact(dz rfl ot ot (gY (r:=((m-a:Nat):Int)) qO)));refine bI ?_;refine cL [0,2,4,10,11] ?_;refine aS 2 ?_ (h:=by exact(dz rfl ot ot (gY (r:=((b-m:Nat):Int)) qO)));refine bI ?_;refine eA [0,2,4] (fun aX _ (O:Nat×Nat×List Int) aG=>match O with|(i,j,cur)=>(rY Tt cur m i j)∧(0<i)∧(0<j)∧((cur).length=Z)∧aG=(⟨58,(10,ae (i:Nat))::(11,ae (j:Nat))::aX,(⟨bd,3,cap*1,(cur).flatMap cI⟩::Sc)⟩:St)) (fun (O:Nat×Nat×List Int)=>match O with|(i,j,cur)=>i+j) ((m-a),(b-m),l) ⟨h,w4,w4,gd,rfl⟩ ?_;rintro⟨i,j,cur⟩ _ ⟨hr,hi,hj,U,rfl⟩;refine af [0,2,4,10,11,20] ?_;refine aq ?_ ?_<;>intro aP bC
 ·have rV:=hr.len;have hne:i≠j:=(by omega)
  refine af [0,2,4,10,11,23] ?_;refine aq ?_ ?_<;>intro aZ cr
  ·have hgt:j<i:=(by omega)
   refine aB 3 ?_;refine bN (dz rfl ot ot (gY (r:=((m-i:Nat):Int)) qO)) ?_;refine aF 3 ?_;refine OD.call (R:=Sc) ap rfl rfl rfl call173 (J8 cur Z (m-i) m j cap bd ew [] U w4 w4 E I) ⟨ot,ot,ot,ot,ot,trivial⟩ (Perm.refl _) ?_;rintro _ _ ⟨rfl,rfl⟩;refine an 58 [0,2,4,10,11] ?_;refine ik [0,2,4,10,11] ?_;refine aS 2 ?_ (h:=by exact(dz rfl ot ot (gY (r:=((i-j:Nat):Int)) qO)));refine bI ?_;refine⟨((i-j),j,(jT cur (m-i) m j)),_,cq,aK,(agW hr hgt),w4,hj,(by rw[Bx];exact U),rfl⟩
  have aa:i<j:=(by omega)
  refine aB 3 ?_;refine bN (dz rfl ot ot (gY (r:=((m-i:Nat):Int)) qO)) ?_;refine aF 4 ?_;refine bN (dz rfl ot ot (gY (r:=((m+j-i:Nat):Int)) (by rw[show((m:Int)+j-i)=((m+j-i:Nat):Int) by omega];exact wrap_i64 w4 w4))) ?_;refine aF 2 ?_;refine OD.call (R:=Sc) ap rfl rfl rfl call173 (J8 cur Z (m-i) (m+j-i) i cap bd ew [] U w4 w4 E I) ⟨ot,ot,ot,ot,ot,trivial⟩ (Perm.refl _) ?_;rintro _ _ ⟨rfl,rfl⟩;refine an 58 [0,2,4,10,11] ?_;refine ik [0,2,4,10,11] ?_;refine aS 2 ?_ (h:=by exact(dz rfl ot ot (gY (r:=((j-i:Nat):Int)) qO)));refine bI ?_;refine⟨(i,(j-i),(jT cur (m-i) (m+j-i) i)),_,cq,aK,(agX hr aa),hi,w4,(by rw[Bx];exact U),rfl⟩
 have rV:=hr.len;obtain rfl:i=j:=(by omega)
 have he:=agY hr;refine dK 3 ?_;refine bN (dz rfl ot ot (gY (r:=((m-i:Nat):Int)) qO)) ?_;refine aF 3 ?_;refine OD.call (R:=Sc) ap rfl rfl rfl call173 (J8 cur Z (m-i) m i cap bd ew [] U w4 w4 E I) ⟨ot,ot,ot,ot,ot,trivial⟩ (Perm.refl _) ?_;rintro _ _ ⟨rfl,rfl⟩;refine an 58 [] ?_;refine aI _ ?_;exact⟨rfl,by rw[he];rfl⟩

end Go.Proofs.YtdgichenhdikgaaGreatDoor.So
namespace Go.Proofs.YtdgichenhdikgaaGreatDoor.So
open List
open Go.Proofs.Tryz
variable {x y:Int} {Z S:List Int} {cF:Int→Int→Int}
def oU(R:Int→Int→Prop)(l0 l:List Int)(a i:Nat):Prop :=
 ∃(P A B A0:List Int),l=P++(A++B)∧P.length=a∧a+A.length=i∧A.Pairwise R∧A.Perm A0∧l0=P++(A0++B)
def sU(R:Int→Int→Prop)(l0 l:List Int)(a i j:Nat):Prop :=
 ∃(P A:List Int) (x:Int) (B A0:List Int) (k:Nat),l=P++(A.take k++x::(A.drop k++B))∧P.length=a∧k≤A.length∧a+k=j∧a+A.length=i∧A.Pairwise R∧(k=A.length∨∃h:k<A.length,R x A[k])∧A.Perm A0∧l0=P++(A0++x::B)
variable {R Lt:Int→Int→Prop} {l0 l:List Int} {a i j:Nat}
theorem sU.len(h:sU R l0 l a i j):a≤j∧j≤i∧i<l.length∧l.length=l0.length:=by
 obtain⟨P,A,x,B,E,k,rfl,rfl,hk,rfl,rfl,hs,hx,hp,rfl⟩:=h;have:=hp.length_eq;simp only[length_append,length_cons,length_take,length_drop];omega
theorem Jf(h:a≤l.length):oU R l l a a :=
 ⟨l.take a,[],l.drop a,[],by simp,by rw[length_take];omega,by simp,Pairwise.nil,.refl _,by simp⟩
theorem afn(h:a<l.length):oU R l l a (a+1) :=
 ⟨l.take a,[l[a]],l.drop (a+1),[l[a]],by simp,by rw[length_take];omega,by simp,pairwise_singleton _ _,.refl _,by simp⟩
theorem abZ(h:oU R l0 l a i)(hi:i<l.length):sU R l0 l a i i:=by
 obtain⟨P,A,B,E,rfl,rfl,rfl,hs,hp,rfl⟩:=h;cases B with
 | nil=>simp at hi
 | cons x B=>exact⟨P,A,x,B,E,A.length,by simp,rfl,Nat.le_refl _,rfl,rfl,hs,.inl rfl,hp,rfl⟩
theorem Ff{P A B:List Int}{k:Nat}(hk:k<A.length):P++(A.take (k+1)++x::(A.drop (k+1)++B))=(P++A.take k)++A[k]::x::(A.drop (k+1)++B):=by
 rw[take_succ_eq_append_getElem hk];simp only[append_assoc,singleton_append]
theorem DN(n:Nat)(hn:n=Z.length)(h:n<(Z++y::S).length):(Z++y::S)[n]'h=y:=by subst hn;simp
theorem DO(n:Nat)(hn:n=Z.length+1)(h:n<(Z++y::x::S).length):(Z++y::x::S)[n]'h=x:=by subst hn;simp[getElem_append_right]
theorem aaQ(h:sU R l0 l a i j)(hj:a<j)(h1:j<l.length)(h0:j-1<l.length)(hr:R l[j] l[j-1]):sU R l0 ((l.set j l[j-1]).set (j-1) l[j]) a i (j-1):=by
 obtain⟨P,A,x,B,E,k,rfl,rfl,hk,rfl,rfl,hs,hx,hp,rfl⟩:=h;obtain⟨k,rfl⟩:∃m,k=m+1:=⟨k-1,by omega⟩
 have e:=Ff (P:=P) (B:=B) (x:=x) hk;have hl:(P++A.take k).length=P.length+k:=(by rw[length_append,length_take];omega)
 simp only[e] at hr ⊢;rw[DN (P.length+(k+1)-1) w4,DO (P.length+(k+1)) w4] at hr ⊢;refine⟨P,A,x,B,E,k,?_,rfl,by omega,by omega,rfl,hs,.inr ⟨hk,hr⟩,hp,rfl⟩;rw[set_comm _ _ w4,show P.length+(k+1)-1=(P++A.take k).length by omega,show P.length+(k+1)=(P++A.take k).length+1 by omega,IQ];rw[show A.drop k=A[k]::A.drop (k+1) from drop_eq_getElem_cons hk];simp only[append_assoc,cons_append]
theorem aco(ht:∀{x y z:Int},R x y→R y z→R x z)(h:sU R l0 l a i j)(h1:j<l.length)(h0:j-1<l.length)(hr:j=a∨R l[j-1] l[j]):oU R l0 l a (i+1):=by
 obtain⟨P,A,x,B,E,k,rfl,rfl,hk,rfl,rfl,hs,hx,hp,rfl⟩:=h;refine⟨P,A.take k++x::A.drop k,B,E++[x],by simp,rfl,by simp;omega,TZ ht hs hk ?_ hx,?_,by simp⟩
 ·rcases Nat.eq_zero_or_pos k with rfl|hp
  ·exact .inl rfl
  right;obtain⟨k,rfl⟩:∃m,k=m+1:=⟨k-1,by omega⟩
  refine⟨by omega,?_⟩;rcases hr with hr|hr
  ·omega
  have e:=Ff (P:=P) (B:=B) (x:=x) hk;have hl:(P++A.take k).length=P.length+k:=(by rw[length_append,length_take];omega)
  simp only[e] at hr;rw[DN (P.length+(k+1)-1) w4,DO (P.length+(k+1)) w4] at hr;exact hr
 refine List.perm_middle.trans ?_;rw[take_append_drop];exact(Perm.cons x hp).trans (perm_append_singleton x E).symm
theorem aek(h:sU R l0 l a i j)(hj:a<j)(h1:j<l.length)(h0:j-1<l.length)(hq:(l0.drop a).Pairwise Lt):Lt l[j-1] l[j]:=by
 obtain⟨P,A,x,B,E,k,rfl,rfl,hk,rfl,rfl,hs,hx,hp,rfl⟩:=h;obtain⟨k,rfl⟩:∃m,k=m+1:=⟨k-1,by omega⟩
 have e:=Ff (P:=P) (B:=B) (x:=x) hk;have hl:(P++A.take k).length=P.length+k:=(by rw[length_append,length_take];omega)
 simp only[e];rw[DN (P.length+(k+1)-1) w4,DO (P.length+(k+1)) w4];rw[drop_left' rfl,pairwise_append] at hq;exact hq.2.2 _ (hp.subset (getElem_mem hk)) x (mem_cons_self)
theorem sU.perm(h:sU R l0 l a i j):l.Perm l0:=by
 obtain⟨P,A,x,B,E,k,rfl,rfl,hk,rfl,rfl,hs,hx,hp,rfl⟩:=h;refine(perm_append_left_iff P).2 (List.perm_middle.trans ?_);rw[←append_assoc,take_append_drop];exact(Perm.cons x ((perm_append_right_iff B).2 hp)).trans List.perm_middle.symm
def Rc(cF:Int→Int→Int)(Lt:Int→Int→Prop)(x y:Int):Prop:=cF x y<0∨cF x y=0∧Lt x y
theorem EZ(h:cF y x<0):Rc cF Lt y x:=.inl h
theorem Fp(ha:∀x y,0≤cF y x→cF x y≤0)(E:Lt x y)(h:¬cF y x<0):Rc cF Lt x y:=by
 have:=ha x y w4;unfold Rc;rcases Int.lt_or_eq_of_le this with q|q
 ·exact .inl q
 exact .inr ⟨q,E⟩
def Part(R:Int→Int→Prop)(l0 l:List Int)(a b:Nat):Prop:=∃(P M M0 Q:List Int),l=P++(M++Q)∧l0=P++(M0++Q)∧P.length=a∧a+M.length=b∧M.Perm M0∧M.Pairwise R
theorem oU.part{b:Nat}(h:oU R l0 l a b):Part R l0 l a b:=by
 obtain⟨P,A,B,E,h1,h2,h3,hs,hp,h4⟩:=h;exact⟨P,A,E,B,h1,h4,h2,h3,hp,hs⟩

end Go.Proofs.YtdgichenhdikgaaGreatDoor.So
namespace Go.Proofs.YtdgichenhdikgaaGreatDoor.So
open List
open Go.Proofs.Tryz
open Go.RowKit V Tw
variable {G:List (Nat×List Value)}
theorem UQ(l:List Int)(U a b cap bd fc:Nat)(O:List D)(Z:List ah)(cF:Int→Int→Int)(V:Int→Prop)(Lt:Int→Int→Prop)(hV:∀x∈l,V x)(hc:∀x y,V x→V y→VC Tryz.prog G fc ([ae x,ae y]++O) Z (fun r S'=>r=ae (cF x y)∧S'=Z))(vz:∀args w,(callFunc fc args).run Tryz.prog w = .ok (.enter fc args) w)(ht:∀{x y z:Int},Rc cF Lt x y→Rc cF Lt y z→Rc cF Lt x z)(ha:∀x y,0≤cF y x→cF x y≤0)(hq:(l.drop a).Pairwise Lt)(h1:a≤b)(h2:b≤U)(gd:l.length=U)(pY:U≤cap)(rJ:cap≤maxLen)(aqE:U<maxLen):VC Tryz.prog G 152 [aN (some ⟨bd,0,none⟩) U cap,ae (a:Nat),ae (b:Nat),.ew (.func fc) O] (⟨bd,3,cap*1,(l).flatMap cI⟩::Z) (fun r S'=>r = .di []∧∃lz,Part (Rc cF Lt) l lz a b∧S'=⟨bd,3,cap*1,(lz).flatMap cI⟩::Z):=by
 refine VC.body func152 rfl ntmps152 aO fun X0 w0 bg=>?_;have c8:=dR;refine af [0,1,2,3,8] ?_;refine eA [0,1,2,3] (fun aX _ (E:Nat×List Int) aG=>match E with|(i,cur)=>((i≤b→oU (Rc cF Lt) l cur a i))∧(a<i)∧((a<b→i≤b))∧((a=b→cur=l))∧((cur).length=U)∧aG=(⟨53,(8,ae (i:Nat))::aX,(⟨bd,3,cap*1,(cur).flatMap cI⟩::Z)⟩:St)) (fun (E:Nat×List Int)=>match E with|(i,cur)=>b-i) ((a+1),l) ⟨(fun q=>afn w4),(Nat.lt_succ_self _),(fun q=>q),(fun _=>rfl),gd,rfl⟩ ?_;rintro⟨i,cur⟩ _ ⟨hs,YR,hib,om,lp,rfl⟩;refine af [0,1,2,3,8,14] ?_;refine aq ?_ ?_<;>intro aP bC
 ·have aa:i<b:=(by omega)
  refine af [0,1,2,3,8,9] ?_;refine eA [0,1,2,3,8] (fun aX _ (E:Nat×List Int) aG=>match E with|(j,lG)=>(sU (Rc cF Lt) l lG a i j)∧((lG).length=U)∧aG=(⟨53,(9,ae (j:Nat))::aX,(⟨bd,3,cap*1,(lG).flatMap cI⟩::Z)⟩:St)) (fun (E:Nat×List Int)=>match E with|(j,lG)=>j) (i,cur) ⟨(abZ (hs w4) w4),lp,rfl⟩ ?_;rintro⟨j,lG⟩ _ ⟨hj,zH,rfl⟩;have l8:=hj.len;have qQ:j<lG.length:=(by omega)
  have qP:j-1<lG.length:=(by omega)
  refine CD.seq ?_;refine CD.seq ?_;refine gJ 14 (au (take 1 _)) ?_ (fun _ h=>(Sublist.map _ (take_sublist _ _)).subset h);refine aC 0 rfl bF ?_;refine aC 1 rfl bF ?_;refine aC 2 rfl nj ?_;refine aC 3 rfl bF ?_;refine dH.split (t:=21) lk (fun qL=>?_) (fun qL=>?_)
  ·have I:=qL;(try simp only[V.nJ,ne_eq] at I)
   refine aC 4 rfl bF ?_;refine aC 5 rfl bF ?_;refine aC 6 rfl bF ?_;refine aC 7 rfl (dw 1 (h:=by first|exact .l (j:=j) rfl w4|exact .r (j:=j) rfl w4)) ?_;refine aC 8 rfl eN ?_;refine aC 9 rfl bF ?_;refine aC 10 rfl bF ?_;refine aC 11 rfl (dz rfl ot bV (gY (r:=((j-1:Nat):Int)) (by rw[show((j:Int)-1)=((j-1:Nat):Int) by have vU:=of_decide_eq_true qL;omega];exact wrap_i64 (by have vU:=of_decide_eq_true qL;omega) w4))) ?_;refine aC 12 rfl (dw 1 (h:=by first|exact .l (j:=j-1) rfl w4|exact .r (j:=j-1) rfl w4)) ?_;refine aC 13 rfl eN ?_;refine dH.later rfl ?_;refine e9 ?_;have YS:∀x∈lG,V x:=fun x hx=>hV x (hj.perm.subset hx);refine OD.kx (f:=fc) (args:=[_,_]) (Sf:=Z) iq rfl rfl ot vz (hc _ _ (YS _ (getElem_mem qQ)) (YS _ (getElem_mem qP))) rfl ⟨ot,ot,trivial⟩ (perm_append_singleton _ _).symm ?_;rintro _ S2 ⟨rfl,iG⟩;rw[iG];clear iG;refine OD.perm (perm_append_singleton _ _) ?_;refine an 53 [0,1,2,3,8,9,34] ?_;refine aq ?_ ?_<;>intro aZ cr
   ·have hja:a<j:=(by have q:=of_decide_eq_true qL;omega)
    have ahq:cF (lG[j]'qQ) (lG[j-1]'qP)<0:=cr;refine CD.skip ?_;refine CD.seq ?_;refine CD.block ?_;refine gJ 16 (au (eraseIdx _ 0)) ?_ (fun _ h=>(Sublist.map _ (eraseIdx_sublist _ 0)).subset h);refine aC 0 rfl bF ?_;refine aC 1 rfl bF ?_;refine aC 2 rfl bF ?_;refine aC 3 rfl bF ?_;refine aC 4 rfl (dz rfl ot bV (gY (r:=((j-1:Nat):Int)) MD)) ?_;refine aC 5 rfl bF ?_;refine aC 6 rfl bF ?_;refine aC 7 rfl (dz rfl ot bV (gY (r:=((j-1:Nat):Int)) MD)) ?_;refine aC 8 rfl (dw 1 (h:=by first|exact .l (j:=j-1) rfl w4|exact .r (j:=j-1) rfl w4)) ?_;refine aC 10 rfl bF ?_;refine aC 11 rfl bF ?_;refine aC 12 rfl (dw 1 (h:=by first|exact .l (j:=j) rfl w4|exact .r (j:=j) rfl w4)) ?_;refine dH.later rfl ?_;refine AD.two (i:=9) (j:=13) az ?_ ?_
    ·refine at_ rfl eN ?_;refine AD.one (i:=13) az ?_;exact Xi
    refine at_ rfl eN ?_;refine AD.one (i:=9) az ?_;exact Xi
   exact Xy
  have I:=qL;(try simp only[V.nJ,ne_eq] at I)
  refine mA 4 rfl ?_;refine mA 5 rfl ?_;refine mA 6 rfl ?_;refine mA 7 rfl ?_;refine mA 8 rfl ?_;refine mA 9 rfl ?_;refine mA 10 rfl ?_;refine mA 11 rfl ?_;refine mA 12 rfl ?_;refine mA 13 rfl ?_;refine dH.later rfl ?_;refine e9 ?_;refine bq [0,1,2,3,8,9,34] ?_;refine fJ ?_;exact Xy
 have nF:oU (Rc cF Lt) l cur a b:=(Nat.eq_or_lt_of_le h1).elim (fun q=>by subst q;rw[om rfl];exact Jf w4) (fun q=>(show i=b by omega) ▸ hs w4);refine aI _ ?_;exact⟨rfl,_,nF.part,rfl⟩

end Go.Proofs.YtdgichenhdikgaaGreatDoor.So
namespace Go.Proofs.YtdgichenhdikgaaGreatDoor.So
open List
open Go.Proofs.Tryz
variable {i:Nat}
def Mv(P B Q:List Int)(x:Int)(t:Nat):List Int:=P++(B.take t++x::(B.drop t++Q))
variable {P B Q:List Int} {x:Int} {t:Nat}
theorem FE(h:t≤B.length):(Mv P B Q x t).length=P.length+(B.length+1+Q.length):=by
 unfold Mv;simp only[length_append,length_cons,length_take,length_drop];omega
theorem Fg(h:t<B.length):Mv P B Q x t=(P++B.take t)++x::B[t]::(B.drop (t+1)++Q):=by
 unfold Mv;rw[drop_eq_getElem_cons h];simp only[append_assoc,cons_append]
theorem Fh(h:t<B.length):Mv P B Q x (t+1)=(P++B.take t)++B[t]::x::(B.drop (t+1)++Q):=Ff h
theorem zF(h:t<B.length):(P++B.take t).length=P.length+t:=by rw[length_append,length_take];omega
theorem ag0(h:t<B.length)(h0:P.length+t<(Mv P B Q x t).length):(Mv P B Q x t)[P.length+t]=x:=by
 simp only[Fg h];rw[DN _ (zF h).symm]
theorem afo(h:t<B.length)(h0:P.length+t+1<(Mv P B Q x t).length):(Mv P B Q x t)[P.length+t+1]=B[t]:=by
 simp only[Fg h];rw[DO _ (by rw[zF h])]
theorem adK(h:t<B.length):((Mv P B Q x t).set (P.length+t) B[t]).set (P.length+t+1) x=Mv P B Q x (t+1):=by
 rw[Fg h,Fh h,←zF (P:=P) h,IQ]
theorem afp(h:t<B.length):((Mv P B Q x (t+1)).set (P.length+t+1) B[t]).set (P.length+t) x=Mv P B Q x t:=by
 rw[Fg h,Fh h,←zF (P:=P) h,set_comm _ _ w4,IQ]

variable {R Lt:Int→Int→Prop} {l l1 l2 l3:List Int} {a s m e b mid:Nat}
theorem T1(ht:∀{x y z:Int},R x y→R y z→R x z){P B Q:List Int}{x:Int}{s t:Nat}(E:B.Pairwise R)(hs:s≤B.length)(hk:t≤B.length)(h1:t=0∨∃h:t-1<B.length,R B[t-1] x)(h2:t=B.length∨∃h:t<B.length,R x B[t]) :
  Part R (Mv P B Q x s) (Mv P B Q x t) P.length (P.length+(B.length+1)):=by
 have hp:∀t,(B.take t++x::B.drop t).Perm (x::B):=fun t=>List.perm_middle.trans (by rw[take_append_drop]);refine⟨P,B.take t++x::B.drop t,B.take s++x::B.drop s,Q,by unfold Mv;simp,by unfold Mv;simp,rfl,?_,(hp t).trans (hp s).symm,TZ ht E hk h1 h2⟩;have:=(hp t).length_eq;simp only[length_cons] at this;rw[this]
def qo(R Lt:Int→Int→Prop)(l:List Int)(a m b:Nat):Prop:=∃(P A B Q:List Int),l=P++(A++(B++Q))∧P.length=a∧a+A.length=m∧m+B.length=b∧A.Pairwise R∧B.Pairwise R∧∀x∈A,∀y∈B,Lt x y
theorem qo.len(h:qo R Lt l a m b):a≤m∧m≤b∧b≤l.length:=by
 obtain⟨P,A,B,Q,rfl,rfl,rfl,rfl,_⟩:=h;simp only[length_append];omega
theorem qo.lt(h:qo R Lt l a m b){j:Nat}(h1:a≤i)(h2:i<m)(h3:m≤j)(h4:j<b)(hi:i<l.length)(hj:j<l.length):Lt l[i] l[j]:=by
 obtain⟨P,A,B,Q,rfl,rfl,rfl,rfl,_,_,h⟩:=h;refine h _ ?_ _ ?_
 ·rw[getElem_append_right h1,getElem_append_left w4];exact getElem_mem _
 rw[getElem_append_right w4,getElem_append_right w4,getElem_append_left w4];exact getElem_mem _
theorem Qr{P M Q:List Int}(h:M.Pairwise R):Part R (P++(M++Q)) (P++(M++Q)) P.length (P.length+M.length):=⟨P,M,M,Q,rfl,rfl,rfl,rfl,.refl _,h⟩
theorem RZ{P E Q:List Int}{x y:Nat}(h:Part R (P++(E++Q)) l x y)(hx:x=P.length)(hy:y=P.length+E.length):∃M,l=P++(M++Q)∧M.Perm E∧M.Pairwise R:=by
 obtain⟨P',M,U,Q',h1,h2,h3,h4,h5,h6⟩:=h;have hl:=h5.length_eq;obtain⟨e1,e2⟩:=append_inj h2 w4;obtain⟨I,O⟩:=append_inj e2 w4;subst e1 I O;exact⟨M,h1,h5,h6⟩
def uv(R Lt:Int→Int→Prop)(l l1:List Int)(a s m e b mid:Nat):Prop:=∃(P A1 A2 B1 B2 Q:List Int),l=P++(A1++(A2++(B1++(B2++Q))))∧l1=P++(A1++(B1++(A2++(B2++Q))))∧P.length=a∧a+A1.length=s∧s+A2.length=m∧m+B1.length=e∧e+B2.length=b∧s+B1.length=mid ∧
 A1.Pairwise R∧A2.Pairwise R∧B1.Pairwise R∧B2.Pairwise R∧(∀x∈A1,∀y∈B1,Lt x y)∧(∀x∈A2,∀y∈B2,Lt x y)∧∀x∈A1++B1,∀y∈A2++B2,R x y
theorem afq (ht:∀{x y z:Int},R x y→R y z→R x z) (h:qo R Lt l a m b) (h1:a≤s) (h2:s≤m) (h3:m≤e) (h4:e≤b) (hm:s+(e-m)=mid)
  (k1:s=a∨e=b∨∃(p:s-1<l.length) (q:e<l.length),R l[s-1] l[e]) (k2:e=m∨s=m∨∃(p:e-1<l.length) (q:s<l.length),R l[e-1] l[s]):∃l1,uv R Lt l l1 a s m e b mid∧rY l1 l m (m-s) (e-m):=by
 obtain⟨P,A,B,Q,rfl,rfl,rfl,rfl,hA,hB,aa⟩:=h;obtain⟨i,rfl⟩:∃i,s=P.length+i:=⟨s-P.length,by omega⟩
 obtain⟨j,rfl⟩:∃j,e=P.length+A.length+j:=⟨e-(P.length+A.length),by omega⟩
 have E:∀k (h:k<A.length) (q:P.length+k<(P++(A++(B++Q))).length),(P++(A++(B++Q)))[P.length+k]=A[k]:=fun k h q=>by
  rw[getElem_append_right w4,getElem_append_left w4];simp
 have I:∀k (h:k<B.length) (q:P.length+A.length+k<(P++(A++(B++Q))).length),(P++(A++(B++Q)))[P.length+A.length+k]=B[k]:=fun k h q=>by
  rw[getElem_append_right w4,getElem_append_right w4,getElem_append_left w4];congr 1;omega
 have hc:=abY (R:=R) ht hA hB (i:=i) (j:=j) w4 w4 (by
  rcases Nat.eq_zero_or_pos i with q|q
  ·exact .inl q
  rcases k1 with k1|k1|⟨p1,p2,k1⟩
  ·omega
  ·exact .inr (.inl w4)
  ·rcases Nat.lt_or_ge j B.length with q2|q2
   ·refine .inr (.inr ⟨by omega,q2,?_⟩);have e1:=E (i-1) w4 w4;simp only[show P.length+i-1=P.length+(i-1) by omega] at k1;rw[e1,I j q2] at k1;exact k1
   exact .inr (.inl w4)) (by
  rcases Nat.eq_zero_or_pos j with q|q
  ·exact .inl q
  rcases k2 with k2|k2|⟨p1,p2,k2⟩
  ·omega
  ·exact .inr (.inl w4)
  rcases Nat.lt_or_ge i A.length with q2|q2
  ·refine .inr (.inr ⟨by omega,q2,?_⟩);have e1:=I (j-1) w4 w4;simp only[show P.length+A.length+j-1=P.length+A.length+(j-1) by omega] at k2;rw[e1,E i q2] at k2;exact k2
  exact .inr (.inl w4))
 have la1:(A.take i).length=i:=(by rw[length_take];omega)
 have lb1:(B.take j).length=j:=(by rw[length_take];omega)
 have la2:(A.drop i).length=A.length-i:=length_drop;have lb2:(B.drop j).length=B.length-j:=length_drop;have O:A.take i++A.drop i=A:=take_append_drop ..;have U:B.take j++B.drop j=B:=take_append_drop ..;have Z:(A.take i++A.drop i).Pairwise R:=(by rw[O];exact hA)
 have pb:(B.take j++B.drop j).Pairwise R:=(by rw[U];exact hB)
 have ea:A++(B++Q)=A.take i++(A.drop i++(B.take j++(B.drop j++Q))):=(by rw[←append_assoc (A.take i),O,←append_assoc (B.take j),U])
 refine⟨P++(A.take i++(B.take j++(A.drop i++(B.drop j++Q)))),⟨P,A.take i,A.drop i,B.take j,B.drop j,Q,by rw[ea],rfl,rfl,by omega,by omega,by omega,by omega,by omega,(pairwise_append.1 Z).1,(pairwise_append.1 Z).2.1,(pairwise_append.1 pb).1,(pairwise_append.1 pb).2.1,fun x hx y hy=>aa x (mem_of_mem_take hx) y (mem_of_mem_take hy),fun x hx y hy=>aa x (mem_of_mem_drop hx) y (mem_of_mem_drop hy),hc⟩,
  P++A.take i,A.drop i,B.take j,B.drop j++Q,by rw[ea];simp,by omega,by omega,by rw[length_append];omega,by simp⟩
theorem uv.perm(h:uv R Lt l l1 a s m e b mid):l1.Perm l:=by
 obtain⟨P,E,I,O,B2,Q,rfl,rfl,_⟩:=h;refine Perm.append_left P (Perm.append_left E ?_);rw[←append_assoc O,←append_assoc I];exact List.perm_append_comm.append_right _
theorem afr(h:uv R Lt l l1 a s m e b mid):qo R Lt l1 a s mid:=by
 obtain⟨P,E,I,O,B2,Q,rfl,rfl,e1,e2,Z,e4,e5,U,p1,p2,p3,p4,q1,q2,q3⟩:=h;exact⟨P,E,O,I++(B2++Q),rfl,e1,e2,U,p1,p3,q1⟩
theorem R3(h:uv R Lt l l1 a s m e b mid)(hn:¬(a<s∧s<mid)):Part R l1 l1 a mid:=by
 obtain⟨P,E,O,I,B2,Q,rfl,rfl,rfl,e2,U,Z,e5,e6,p1,p2,p3,p4,q1,q2,q3⟩:=h;have:(E++I).Pairwise R:=by
  rcases Nat.eq_zero_or_pos E.length with h|h
  ·rw[length_eq_zero_iff.1 h];exact p3
  rw[length_eq_zero_iff.1 (show I.length=0 by omega),append_nil];exact p1
 have:=Qr (P:=P) (Q:=O++(B2++Q)) this;rw[append_assoc,length_append] at this;rwa [show P.length+(E.length+I.length)=mid by omega] at this
theorem J9(h:uv R Lt l l1 a s m e b mid)(k:Part R l1 l2 a mid):∃(P I E O B2 Q M:List Int),l=P++(I++(E++(O++(B2++Q))))∧l2=P++(M++(E++(B2++Q)))∧P.length=a∧M.length+a=mid∧M.Perm (I++O)∧mid+E.length=e∧e+B2.length=b∧M.Pairwise R∧E.Pairwise R∧B2.Pairwise R∧(∀x∈E,∀y∈B2,Lt x y)∧∀x∈M,∀y∈E++B2,R x y:=by
 obtain⟨P,I,E,O,B2,Q,rfl,rfl,rfl,e2,e3,e4,e5,e6,p1,p2,p3,U,q1,q2,Z⟩:=h;rw[←append_assoc I] at k;obtain⟨M,h1,h2,h3⟩:=RZ k rfl vH;have:=h2.length_eq;rw[length_append] at this;exact⟨P,I,E,O,B2,Q,M,rfl,h1,rfl,by omega,h2,by omega,by omega,h3,p2,U,q2,fun x hx=>Z x (h2.subset hx)⟩
theorem adL(h:uv R Lt l l1 a s m e b mid)(k:Part R l1 l2 a mid):qo R Lt l2 mid e b:=by
 obtain⟨P,I,E,O,B2,Q,M,rfl,rfl,rfl,e1,e2,U,Z,p1,p2,p3,q1,q2⟩:=J9 h k;exact⟨P++M,E,B2,Q,by simp,by rw[length_append];omega,by omega,by omega,p2,p3,q1⟩
theorem Ps(h:uv R Lt l l1 a s m e b mid)(k:Part R l1 l2 a mid)(hn:¬(mid<e∧e<b)):Part R l2 l2 mid b:=by
 obtain⟨P,I,E,O,B2,Q,M,rfl,rfl,rfl,e1,e2,U,Z,p1,p2,p3,q1,q2⟩:=J9 h k;have:(E++B2).Pairwise R:=by
  rcases Nat.eq_zero_or_pos E.length with h|h
  ·rw[length_eq_zero_iff.1 h];exact p3
  rw[length_eq_zero_iff.1 (show B2.length=0 by omega),append_nil];exact p2
 have:=Qr (P:=P++M) (Q:=Q) this;rw[append_assoc,length_append,length_append,append_assoc] at this;rwa [show P.length+M.length+(E.length+B2.length)=b by omega,show P.length+M.length=mid by omega] at this
theorem E1(h:uv R Lt l l1 a s m e b mid)(k:Part R l1 l2 a mid)(j:Part R l2 l3 mid b):Part R l l3 a b:=by
 obtain⟨P,E,I,O,B2,Q,M,rfl,rfl,rfl,e1,e2,Z,e4,p1,p2,p3,q1,q2⟩:=J9 h k;rw[←append_assoc I,←append_assoc P] at j;obtain⟨U,h1,h2,h3⟩:=RZ j vH (by rw[length_append,length_append];omega);have hl:=e2.length_eq;have ir:=h2.length_eq;rw[length_append] at hl ir;refine⟨P,M++U,E++(I++(O++B2)),Q,by rw[h1];simp,by simp,rfl,by rw[length_append];omega,?_,pairwise_append.2 ⟨p1,h3,fun x hx y hy=>q2 x hx y (h2.subset hy)⟩⟩;refine(e2.append h2).trans ?_;rw[append_assoc E];refine Perm.append_left E ?_;rw[←append_assoc O,←append_assoc I];exact List.perm_append_comm.append_right B2
theorem Part.perm(h:Part R l l1 a b):l1.Perm l:=by
 obtain⟨P,M,E,Q,rfl,rfl,_,_,hp,_⟩:=h;exact(hp.append_right Q).append_left P
theorem Part.len(h:Part R l l1 a b):l1.length=l.length:=h.perm.length_eq
theorem acp{T cur:List Int}{j:Nat}(h:rY T cur m i j)(hz:i=0∨j=0):T=cur:=by
 obtain⟨P,X,Y,Q,rfl,rfl,rfl,hm,rfl⟩:=h;rcases hz with h|h
 ·rw[length_eq_zero_iff.1 h];rfl
 rw[length_eq_zero_iff.1 h];rfl
theorem adM(ht:∀{x y z:Int},R x y→R y z→R x z)(h:qo R Lt l a m b)(hm:m=a+1)(h1:m≤i)(h2:i≤b)(k1:i=m∨∃(p:i-1<l.length) (q:a<l.length),R l[i-1] l[a])(k2:i=b∨∃(p:a<l.length) (q:i<l.length),R l[a] l[i]) :
  ∃(P B Q:List Int) (x:Int),P.length=a∧l=Mv P B Q x 0∧i-m≤B.length∧m+B.length=b∧Part R l (Mv P B Q x (i-m)) a b:=by
 obtain⟨P,A,B,Q,rfl,rfl,rfl,rfl,hA,hB,aa⟩:=h;obtain⟨x,rfl⟩:=length_eq_one_iff.1 (show A.length=1 by omega);have E:∀(q:P.length<(P++([x]++(B++Q))).length),(P++([x]++(B++Q)))[P.length]=x:=fun q=>by rw[getElem_append_right w4];simp
 have I:∀k (h:k<B.length) (q:P.length+1+k<(P++([x]++(B++Q))).length),(P++([x]++(B++Q)))[P.length+1+k]=B[k]:=fun k h q=>by
  rw[getElem_append_right w4,getElem_append_right ij,getElem_append_left ij];simp only[length_singleton];congr 1;omega
 have j5:([x]:List Int).length=1:=rfl;rw[j5] at *;obtain⟨t,rfl⟩:∃t,i=P.length+1+t:=⟨i-(P.length+1),by omega⟩
 rw[show P.length+1+t-(P.length+1)=t by omega];have hp:=T1 (R:=R) (P:=P) (B:=B) (Q:=Q) (x:=x) (s:=0) (t:=t) ht hB (Nat.zero_le _) w4 (by
  rcases Nat.eq_zero_or_pos t with q|q
  ·exact .inl q
  rcases k1 with k1|⟨p1,O,k1⟩
  ·omega
  ·refine .inr ⟨by omega,?_⟩;have e1:=I (t-1) w4 w4;simp only[show P.length+1+t-1=P.length+1+(t-1) by omega] at k1;rw[E,e1] at k1;exact k1) (by
  rcases k2 with k2|⟨p1,O,k2⟩
  ·exact .inl w4
  rcases Nat.lt_or_ge t B.length with q|q
  ·exact .inr ⟨q,by rw[E,I t q] at k2;exact k2⟩
  exact .inl w4)
 refine⟨P,B,Q,x,rfl,rfl,by omega,rfl,?_⟩;rw[show P.length+(B.length+1)=P.length+1+B.length by omega] at hp;exact hp
theorem ab0(ht:∀{x y z:Int},R x y→R y z→R x z)(h:qo R Lt l a m b)(hm:b=m+1)(h1:a≤i)(h2:i≤m)(k1:i=a∨∃(p:i-1<l.length) (q:m<l.length),R l[i-1] l[m])(k2:i=m∨∃(p:m<l.length) (q:i<l.length),R l[m] l[i]) :
  ∃(P B Q:List Int) (x:Int),P.length=a∧l=Mv P B Q x (m-a)∧i-a≤B.length∧a+B.length=m∧Part R l (Mv P B Q x (i-a)) a b:=by
 obtain⟨P,A,B,Q,rfl,rfl,rfl,rfl,hA,hB,aa⟩:=h;obtain⟨x,rfl⟩:=length_eq_one_iff.1 (show B.length=1 by omega);have E:∀(q:P.length+A.length<(P++(A++([x]++Q))).length),(P++(A++([x]++Q)))[P.length+A.length]=x:=fun q=>by
  rw[getElem_append_right w4,getElem_append_right w4];simp
 have I:∀k (h:k<A.length) (q:P.length+k<(P++(A++([x]++Q))).length),(P++(A++([x]++Q)))[P.length+k]=A[k]:=fun k h q=>by
  rw[getElem_append_right w4,getElem_append_left w4];simp
 have j5:([x]:List Int).length=1:=rfl;rw[j5] at *;obtain⟨t,rfl⟩:∃t,i=P.length+t:=⟨i-P.length,by omega⟩
 rw[show P.length+t-P.length=t by omega,show P.length+A.length-P.length=A.length by omega];have he:P++(A++([x]++Q))=Mv P A Q x A.length:=(by unfold Mv;simp)
 have hp:=T1 (R:=R) (P:=P) (B:=A) (Q:=Q) (x:=x) (s:=A.length) (t:=t) ht hA (Nat.le_refl _) w4 (by
  rcases Nat.eq_zero_or_pos t with q|q
  ·exact .inl q
  rcases k1 with k1|⟨p1,O,k1⟩
  ·omega
  ·refine .inr ⟨by omega,?_⟩;have e1:=I (t-1) w4 w4;simp only[show P.length+t-1=P.length+(t-1) by omega] at k1;rw[E,e1] at k1;exact k1) (by
  rcases k2 with k2|⟨p1,O,k2⟩
  ·exact .inl w4
  rcases Nat.lt_or_ge t A.length with q|q
  ·exact .inr ⟨q,by rw[E,I t q] at k2;exact k2⟩
  exact .inl w4)
 refine⟨P,A,Q,x,rfl,he,by omega,rfl,?_⟩;rw[he,show P.length+A.length+1=P.length+(A.length+1) by omega];exact hp
theorem adN(h:t<B.length)(h0:P.length+t<(Mv P B Q x (t+1)).length):(Mv P B Q x (t+1))[P.length+t]=B[t]:=by
 simp only[Fh h];rw[DN _ (zF h).symm]
theorem adO(h:t<B.length)(h0:P.length+t+1<(Mv P B Q x (t+1)).length):(Mv P B Q x (t+1))[P.length+t+1]=x:=by
 simp only[Fh h];rw[DO _ (by rw[zF h])]
theorem af0(h:t<B.length)(ha:P.length=a)(h0:a+t<(Mv P B Q x t).length)(h1:a+t+1<(Mv P B Q x t).length):((Mv P B Q x t).set (a+t) (Mv P B Q x t)[a+t+1]).set (a+t+1) (Mv P B Q x t)[a+t]=Mv P B Q x (t+1):=by
 subst ha;rw[afo h,ag0 h,adK h]
theorem afZ(h:t<B.length)(ha:P.length=a)(h0:a+t<(Mv P B Q x (t+1)).length)(h1:a+t+1<(Mv P B Q x (t+1)).length):((Mv P B Q x (t+1)).set (a+t+1) (Mv P B Q x (t+1))[a+t]).set (a+t) (Mv P B Q x (t+1))[a+t+1]=Mv P B Q x t:=by
 subst ha;rw[adN h,adO h,afp h]

end Go.Proofs.YtdgichenhdikgaaGreatDoor.So
namespace Go.Proofs.YtdgichenhdikgaaGreatDoor.So
open List
open Go.Proofs.Tryz
open Go.RowKit V Tw
variable {G:List (Nat×List Value)}
theorem adP(ln cap O fc:Nat)(U:List D)(I:List ah)(cF:Int→Int→Int)(V:Int→Prop)(Lt:Int→Int→Prop)(hc:∀x y,V x→V y→VC Tryz.prog G fc ([ae x,ae y]++U) I (fun r S'=>r=ae (cF x y)∧S'=I))(Z:∀args w,(callFunc fc args).run Tryz.prog w = .ok (.enter fc args) w)(ht:∀{x y z:Int},Rc cF Lt x y→Rc cF Lt y z→Rc cF Lt x z)(ha:∀x y,0≤cF y x→cF x y≤0)(pY:ln≤cap)(rJ:cap≤maxLen)(pA:ln≤1000000)(n:Nat)(ih:∀k,k<n→∀(l:List Int) (a m b:Nat),b-a=k→qo (Rc cF Lt) Lt l a m b→a<m→m<b→l.length=ln→(∀x∈l,V x)→VC Tryz.prog G 153 [aN (some ⟨O,0,none⟩) ln cap,ae (a:Nat),ae (m:Nat),ae (b:Nat),.ew (.func fc) U] (⟨O,3,cap*1,(l).flatMap cI⟩::I) (fun r S'=>r = .di []∧∃lz,Part (Rc cF Lt) l lz a b∧S'=⟨O,3,cap*1,(lz).flatMap cI⟩::I))(l:List Int)(a m b:Nat)(hn:b-a=n)(h:qo (Rc cF Lt) Lt l a m b)(h1:a<m)(h2:m<b)(gd:l.length=ln)(hV:∀x∈l,V x):VC Tryz.prog G 153 [aN (some ⟨O,0,none⟩) ln cap,ae (a:Nat),ae (m:Nat),ae (b:Nat),.ew (.func fc) U] (⟨O,3,cap*1,(l).flatMap cI⟩::I) (fun r S'=>r = .di []∧∃lz,Part (Rc cF Lt) l lz a b∧S'=⟨O,3,cap*1,(lz).flatMap cI⟩::I):=by
 refine VC.body func153 rfl ntmps153 aO fun X0 w0 bg=>?_;have c8:=dR;have hlen:=h.len;refine cL [0,1,2,3,4,28] ?_;refine aS 2 ?_ (h:=by exact(dz rfl ot ot (gY (r:=((m-a:Nat):Int)) qO)));refine bI ?_;refine aq ?_ ?_<;>intro aP bC
 ·have Dm:m=a+1:=(by omega)
  refine af [0,1,3,4,10] ?_;refine af [0,1,4,10,11] ?_;refine eA [0,1,4] (fun aX _ (E:Nat×Nat) aG=>match E with|(i,j)=>(m≤i)∧(i≤j)∧(j≤b)∧((i=m∨∃(p:i-1<l.length) (q:a<l.length),(Rc cF Lt) l[i-1] l[a]))∧((j=b∨∃(p:a<l.length) (q:j<l.length),(Rc cF Lt) l[a] l[j]))∧aG=(⟨220,(10,ae (i:Nat))::(11,ae (j:Nat))::aX,(⟨O,3,cap*1,(l).flatMap cI⟩::I)⟩:St)) (fun (E:Nat×Nat)=>match E with|(i,j)=>j-i) (m,b) ⟨(Nat.le_refl _),w4,(Nat.le_refl _),(.inl rfl),(.inl rfl),rfl⟩ ?_;rintro⟨i,j⟩ _ ⟨mG,YI,hjb,de,fb,rfl⟩;refine af [0,1,4,10,11,33] ?_;refine aq ?_ ?_<;>intro aZ cr
  ·have hh:i<j:=(by omega)
   have hH:((i+j)/2)<l.length:=(by omega)
   have hA:a<l.length:=(by omega)
   refine cL [0,1,4,10,11,12] ?_;refine aS 2 ?_ (h:=by exact(dz rfl ot ot (kr (r:=((i+j:Nat):Int)) Ab)));refine aS 0 ?_ (h:=by exact(oX rfl ot (oY (r:=((i+j:Nat):Int)) runUnderlying3 runUnderlying231 (IntWalk.u64_in _ w4))));refine aS 0 ?_ (h:=by exact(dz rfl ot bV (y6 w8 BO)));refine aS 0 ?_ (h:=by exact(oX rfl ot (oY (r:=((((i+j)/2):Nat):Int)) runUnderlying231 runUnderlying3 (wrap_i64 w4 w4))));refine bI ?_;refine CD.seq ?_;refine gJ 9 (au (take 1 _)) ?_ (fun _ h=>(Sublist.map _ (take_sublist _ _)).subset h);refine aC 0 rfl bF ?_;refine aC 1 rfl bF ?_;refine aC 2 rfl bF ?_;refine aC 3 rfl (dw 1 (h:=by first|exact .l (j:=((i+j)/2)) rfl w4|exact .r (j:=((i+j)/2)) rfl w4)) ?_;refine aC 4 rfl eN ?_;refine aC 5 rfl bF ?_;refine aC 6 rfl bF ?_;refine aC 7 rfl (dw 1 (h:=by first|exact .l (j:=a) rfl w4|exact .r (j:=a) rfl w4)) ?_;refine aC 8 rfl eN ?_;refine dH.later rfl ?_;refine e9 ?_;refine OD.kx (f:=fc) (args:=[_,_]) (Sf:=I) ap rfl rfl ot Z (hc _ _ (hV _ (getElem_mem hH)) (hV _ (getElem_mem hA))) rfl ⟨ot,ot,trivial⟩ (perm_append_singleton _ _).symm ?_;rintro _ S2 ⟨rfl,iG⟩;rw[iG];clear iG;refine OD.perm (perm_append_singleton _ _) ?_;refine an 220 [0,1,4,10,11,12,50] ?_;refine aq ?_ ?_<;>intro bX cA
   ·have uw:(Rc cF Lt) (l[((i+j)/2)]'hH) (l[a]'hA):=EZ cA;refine cc [0,1,4,10,11] ?_;exact VL
   have Ao:(Rc cF Lt) (l[a]'hA) (l[((i+j)/2)]'hH):=Fp ha (h.lt (Nat.le_refl _) w4 w4 w4 hA hH) w4;refine cc [0,1,4,10,11] ?_;exact z109
  obtain rfl:i=j:=(by omega)
  obtain⟨P,B,Q,x,hP,hl,hiB,hB,KP⟩:=adM (R:=Rc cF Lt) (l:=l) (a:=a) (m:=m) (b:=b) (i:=i) ht h Dm mG hjb de fb;subst hl;have mc:∀t,t≤B.length→(Mv P B Q x (t)).length=ln:=fun t ht=>by rw[FE ht,←gd,FE (Nat.zero_le _)]
  refine af [0,10,13] ?_;refine eA [0,10] (fun aX _ (t:Nat) aG=>(t≤i-m)∧aG=(⟨220,(13,ae (a+t:Nat))::aX,(⟨O,3,cap*1,(Mv P B Q x (t)).flatMap cI⟩::I)⟩:St)) (fun (t:Nat)=>i-m-t) 0 ⟨(Nat.zero_le _),rfl⟩ ?_;rintro t _ ⟨hti,rfl⟩;refine cL [0,10,13,58] ?_;refine aS 2 ?_ (h:=by exact(dz rfl ot bV (gY (r:=((i-1:Nat):Int)) (by rw[show(((i:Nat):Int)-1)=((i-1:Nat):Int) by omega];exact wrap_i64 w4 w4))));refine bI ?_;refine aq ?_ ?_<;>intro cN dW
  ·have MV:t<B.length:=(by omega)
   have uG:=mc t w4;refine CD.skip ?_;refine CD.seq ?_;refine CD.block ?_;refine gJ 16 (au (eraseIdx _ 0)) ?_ (fun _ h=>(Sublist.map _ (eraseIdx_sublist _ 0)).subset h);refine aC 0 rfl bF ?_;refine aC 1 rfl bF ?_;refine aC 2 rfl bF ?_;refine aC 3 rfl bF ?_;refine aC 4 rfl (dz rfl ot bV (kr (r:=((a+t+1:Nat):Int)) (by rw[show(((a+t:Nat):Int)+1)=((a+t+1:Nat):Int) by omega];exact wrap_i64 w4 w4))) ?_;refine aC 5 rfl bF ?_;refine aC 6 rfl bF ?_;refine aC 7 rfl (dz rfl ot bV (kr (r:=((a+t+1:Nat):Int)) (by rw[show(((a+t:Nat):Int)+1)=((a+t+1:Nat):Int) by omega];exact wrap_i64 w4 w4))) ?_;refine aC 8 rfl (dw 1 (h:=by first|exact .l (j:=a+t+1) rfl w4|exact .r (j:=a+t+1) rfl w4)) ?_;refine aC 10 rfl bF ?_;refine aC 11 rfl bF ?_;refine aC 12 rfl (dw 1 (h:=by first|exact .l (j:=a+t) rfl w4|exact .r (j:=a+t) rfl w4)) ?_;refine dH.later rfl ?_;refine AD.two (i:=9) (j:=13) az ?_ ?_
   ·refine at_ rfl eN ?_;refine AD.one (i:=13) az ?_;exact Xh
   refine at_ rfl eN ?_;refine AD.one (i:=9) az ?_;exact Xh
  obtain rfl:t=i-m:=(by omega)
  exact G6
 refine cL [0,1,2,3,4,80] ?_;refine aS 2 ?_ (h:=by exact(dz rfl ot ot (gY (r:=((b-m:Nat):Int)) qO)));refine bI ?_;refine aq ?_ ?_<;>intro ec fh
 ·have Dm:b=m+1:=(by omega)
  refine af [0,2,4,14] ?_;refine af [0,2,4,14,15] ?_;refine eA [0,2,4] (fun aX _ (E:Nat×Nat) aG=>match E with|(i,j)=>(a≤i)∧(i≤j)∧(j≤m)∧((i=a∨∃(p:i-1<l.length) (q:m<l.length),(Rc cF Lt) l[i-1] l[m]))∧((j=m∨∃(p:m<l.length) (q:j<l.length),(Rc cF Lt) l[m] l[j]))∧aG=(⟨220,(14,ae (i:Nat))::(15,ae (j:Nat))::aX,(⟨O,3,cap*1,(l).flatMap cI⟩::I)⟩:St)) (fun (E:Nat×Nat)=>match E with|(i,j)=>j-i) (a,m) ⟨(Nat.le_refl _),w4,(Nat.le_refl _),(.inl rfl),(.inl rfl),rfl⟩ ?_;rintro⟨i,j⟩ _ ⟨YR,YI,Nu,de,fb,rfl⟩;refine af [0,2,4,14,15,85] ?_;refine aq ?_ ?_<;>intro fj gA
  ·have hh:i<j:=(by omega)
   have hH:((i+j)/2)<l.length:=(by omega)
   have hM:m<l.length:=(by omega)
   refine cL [0,2,4,14,15,16] ?_;refine aS 2 ?_ (h:=by exact(dz rfl ot ot (kr (r:=((i+j:Nat):Int)) Ab)));refine aS 0 ?_ (h:=by exact(oX rfl ot (oY (r:=((i+j:Nat):Int)) runUnderlying3 runUnderlying231 (IntWalk.u64_in _ w4))));refine aS 0 ?_ (h:=by exact(dz rfl ot bV (y6 w8 BO)));refine aS 0 ?_ (h:=by exact(oX rfl ot (oY (r:=((((i+j)/2):Nat):Int)) runUnderlying231 runUnderlying3 (wrap_i64 w4 w4))));refine bI ?_;refine CD.seq ?_;refine gJ 9 (au (take 1 _)) ?_ (fun _ h=>(Sublist.map _ (take_sublist _ _)).subset h);refine aC 0 rfl bF ?_;refine aC 1 rfl bF ?_;refine aC 2 rfl bF ?_;refine aC 3 rfl (dw 1 (h:=by first|exact .l (j:=m) rfl w4|exact .r (j:=m) rfl w4)) ?_;refine aC 4 rfl eN ?_;refine aC 5 rfl bF ?_;refine aC 6 rfl bF ?_;refine aC 7 rfl (dw 1 (h:=by first|exact .l (j:=((i+j)/2)) rfl w4|exact .r (j:=((i+j)/2)) rfl w4)) ?_;refine aC 8 rfl eN ?_;refine dH.later rfl ?_;refine e9 ?_;refine OD.kx (f:=fc) (args:=[_,_]) (Sf:=I) ap rfl rfl ot Z (hc _ _ (hV _ (getElem_mem hM)) (hV _ (getElem_mem hH))) rfl ⟨ot,ot,trivial⟩ (perm_append_singleton _ _).symm ?_;rintro _ S2 ⟨rfl,iG⟩;rw[iG];clear iG;refine OD.perm (perm_append_singleton _ _) ?_;refine an 220 [0,2,4,14,15,16,103] ?_;refine aq ?_ ?_<;>intro gL kU
   ·have uw:(Rc cF Lt) (l[((i+j)/2)]'hH) (l[m]'hM):=Fp ha (h.lt w4 w4 (Nat.le_refl _) w4 hH hM) w4;refine cc [0,2,4,14,15] ?_;exact VL
   have Ao:(Rc cF Lt) (l[m]'hM) (l[((i+j)/2)]'hH):=EZ kU;refine cc [0,2,4,14,15] ?_;exact z109
  obtain rfl:i=j:=(by omega)
  obtain⟨P,B,Q,x,hP,hl,hiB,hB,KP⟩:=ab0 (R:=Rc cF Lt) (l:=l) (a:=a) (m:=m) (b:=b) (i:=i) ht h Dm YR Nu de fb;subst hl;have mc:∀t,t≤B.length→(Mv P B Q x (t)).length=ln:=fun t ht=>by rw[FE ht,←gd,FE w4]
  refine af [0,14,17] ?_;refine eA [0,14] (fun aX _ (t:Nat) aG=>(i-a≤t)∧(t≤m-a)∧aG=(⟨220,(17,ae (a+t:Nat))::aX,(⟨O,3,cap*1,(Mv P B Q x (t)).flatMap cI⟩::I)⟩:St)) (fun (t:Nat)=>t) (m-a) ⟨w4,(Nat.le_refl _),rfl⟩ ?_;rintro t _ ⟨hti,htm,rfl⟩;refine af [0,14,17,110] ?_;refine aq ?_ ?_<;>intro gj lB
  ·obtain⟨t,rfl⟩:∃k,t=k+1:=⟨t-1,by omega⟩
   have MV:t<B.length:=(by omega)
   have uG:=mc (t+1) w4;refine CD.skip ?_;refine CD.seq ?_;refine CD.block ?_;refine gJ 16 (au (eraseIdx _ 0)) ?_ (fun _ h=>(Sublist.map _ (eraseIdx_sublist _ 0)).subset h);refine aC 0 rfl bF ?_;refine aC 1 rfl bF ?_;refine aC 2 rfl bF ?_;refine aC 3 rfl bF ?_;refine aC 4 rfl (dz rfl ot bV (gY (r:=((a+t:Nat):Int)) MC)) ?_;refine aC 5 rfl bF ?_;refine aC 6 rfl bF ?_;refine aC 7 rfl (dz rfl ot bV (gY (r:=((a+t:Nat):Int)) MC)) ?_;refine aC 8 rfl (dw 1 (h:=by first|exact .l (j:=a+t) rfl w4|exact .r (j:=a+t) rfl w4)) ?_;refine aC 10 rfl bF ?_;refine aC 11 rfl bF ?_;refine aC 12 rfl (dw 1 (h:=by first|exact .l (j:=a+t+1) rfl w4|exact .r (j:=a+t+1) rfl w4)) ?_;refine dH.later rfl ?_;refine AD.two (i:=9) (j:=13) az ?_ ?_
   ·refine at_ rfl eN ?_;refine AD.one (i:=13) az ?_;exact Xg
   refine at_ rfl eN ?_;refine AD.one (i:=9) az ?_;exact Xg
  obtain rfl:t=i-a:=(by omega)
  exact G6
 obtain⟨mid,ala⟩:∃q,q=(a+b)/2:=⟨_,rfl⟩
 refine cL [0,1,2,3,4,18] ?_;refine aS 2 ?_ (h:=by exact(dz rfl ot ot (kr (r:=((a+b:Nat):Int)) Ab)));refine aS 0 ?_ (h:=by exact(oX rfl ot (oY (r:=((a+b:Nat):Int)) runUnderlying3 runUnderlying231 (IntWalk.u64_in _ w4))));refine aS 0 ?_ (h:=by exact(dz rfl ot bV (y6 w8 BO)));refine aS 0 ?_ (h:=by exact(oX rfl ot (oY (r:=((mid:Nat):Int)) runUnderlying231 runUnderlying3 (by rw[show(((a+b)/2:Nat):Int)=((mid:Nat):Int) by rw[ala]];exact wrap_i64 w4 w4))));refine bI ?_;refine cL [0,1,2,3,4,18,19] ?_;refine aS 2 ?_ (h:=by exact(dz rfl ot ot (kr (r:=((mid+m:Nat):Int)) Ab)));refine bI ?_;refine af [0,1,2,3,4,18,19] ?_;refine jV [0,1,2,3,4,18,19] (fun aX uQ aG=>∃(s0:Nat),∃(r0:Nat),((mid<m∧s0=mid+m-b∧r0=mid)∨(m≤mid∧s0=a∧r0=m))∧aG=(⟨220,(20,ae (s0:Nat))::(21,ae (r0:Nat))::aX,uQ⟩:St)) ?_ ?_
 ·refine af [0,1,2,3,4,18,19,140] ?_;refine aq ?_ ?_<;>intro qd Gm
  ·refine cL [0,1,2,3,4,18,19,20] ?_;refine aS 2 ?_ (h:=by exact(dz rfl ot ot (gY (r:=(((mid+m)-b:Nat):Int)) qO)));refine bI ?_;refine cc [0,1,2,3,4,18,19,20,21] ?_;refine⟨_,aK,(mid+m-b),mid,(.inl ⟨by omega,rfl,rfl⟩),rfl⟩
  refine af [0,1,2,3,4,18,19,20] ?_;refine cc [0,1,2,3,4,18,19,20,21] ?_;refine⟨_,aK,a,m,(.inr ⟨by omega,rfl,rfl⟩),rfl⟩
 rintro _ ⟨s0,r0,HJ,rfl⟩;refine cL [0,1,2,3,4,18,19,20,21,22] ?_;refine aS 1 ?_ (h:=by exact(dz rfl ot bV (gY (r:=(((mid+m)-1:Nat):Int)) (by rw[show((((mid+m):Nat):Int)-1)=(((mid+m)-1:Nat):Int) by omega];exact wrap_i64 w4 w4))));refine bI ?_;refine eA [0,1,2,3,4,18,19,22] (fun aX _ (E:Nat×Nat) aG=>match E with|(s,r)=>(s0≤s)∧(s≤r)∧(r≤r0)∧((s=s0∨∃(p:s-1<l.length) (q:mid+m-s<l.length),(Rc cF Lt) l[s-1] l[mid+m-s]))∧((r=r0∨∃(p:mid+m-r-1<l.length) (q:r<l.length),(Rc cF Lt) l[mid+m-r-1] l[r]))∧aG=(⟨220,(20,ae (s:Nat))::(21,ae (r:Nat))::aX,(⟨O,3,cap*1,(l).flatMap cI⟩::I)⟩:St)) (fun (E:Nat×Nat)=>match E with|(s,r)=>r-s) (s0,r0) ⟨(Nat.le_refl _),w4,(Nat.le_refl _),(.inl rfl),(.inl rfl),rfl⟩ ?_;rintro⟨s,r⟩ _ ⟨pA,aqF,YT,de,fb,rfl⟩;refine af [0,1,2,3,4,18,19,20,21,22,151] ?_;refine aq ?_ ?_<;>intro Dh LU
 ·have hh:s<r:=(by omega)
  have hC:((s+r)/2)<l.length:=(by omega)
  have hQ:(mid+m-1-((s+r)/2))<l.length:=(by omega)
  refine cL [0,1,2,3,4,18,19,20,21,22,23] ?_;refine aS 2 ?_ (h:=by exact(dz rfl ot ot (kr (r:=((s+r:Nat):Int)) Ab)));refine aS 0 ?_ (h:=by exact(oX rfl ot (oY (r:=((s+r:Nat):Int)) runUnderlying3 runUnderlying231 (IntWalk.u64_in _ w4))));refine aS 0 ?_ (h:=by exact(dz rfl ot bV (y6 w8 BO)));refine aS 0 ?_ (h:=by exact(oX rfl ot (oY (r:=((((s+r)/2):Nat):Int)) runUnderlying231 runUnderlying3 (wrap_i64 w4 w4))));refine bI ?_;refine CD.seq ?_;refine gJ 11 (au (take 1 _)) ?_ (fun _ h=>(Sublist.map _ (take_sublist _ _)).subset h);refine aC 0 rfl bF ?_;refine aC 1 rfl bF ?_;refine aC 2 rfl bF ?_;refine aC 3 rfl bF ?_;refine aC 4 rfl (dz rfl ot ot (gY (r:=(((mid+m-1)-((s+r)/2):Nat):Int)) qO)) ?_;refine aC 5 rfl (dw 1 (h:=by first|exact .l (j:=(mid+m-1-((s+r)/2))) rfl w4|exact .r (j:=(mid+m-1-((s+r)/2))) rfl w4)) ?_;refine aC 6 rfl eN ?_;refine aC 7 rfl bF ?_;refine aC 8 rfl bF ?_;refine aC 9 rfl (dw 1 (h:=by first|exact .l (j:=((s+r)/2)) rfl w4|exact .r (j:=((s+r)/2)) rfl w4)) ?_;refine aC 10 rfl eN ?_;refine dH.later rfl ?_;refine e9 ?_;refine OD.kx (f:=fc) (args:=[_,_]) (Sf:=I) ap rfl rfl ot Z (hc _ _ (hV _ (getElem_mem hQ)) (hV _ (getElem_mem hC))) rfl ⟨ot,ot,trivial⟩ (perm_append_singleton _ _).symm ?_;rintro _ S2 ⟨rfl,iG⟩;rw[iG];clear iG;refine OD.perm (perm_append_singleton _ _) ?_
  refine an 220 [0,1,2,3,4,18,19,20,21,22,23,171] ?_;refine aq ?_ ?_<;>intro F8 BH
  ·have alb:(Rc cF Lt) (l[((s+r)/2)]'hC) (l[(mid+m-1-((s+r)/2))]'hQ):=Fp ha (h.lt w4 w4 w4 w4 hC hQ) w4;have uw:(Rc cF Lt) (l[((s+r)/2)+1-1]'w4) (l[mid+m-(((s+r)/2)+1)]'w4):=(by simpa only[show((s+r)/2)+1-1=((s+r)/2) by omega,show mid+m-(((s+r)/2)+1)=(mid+m-1-((s+r)/2)) by omega] using alb)
   refine cc [0,1,2,3,4,18,19,20,21,22] ?_;refine⟨((((s+r)/2)+1),r),_,cq,aK,w4,w4,w4,(.inr ⟨by omega,by omega,uw⟩),fb,rfl⟩
  have alc:(Rc cF Lt) (l[(mid+m-1-((s+r)/2))]'hQ) (l[((s+r)/2)]'hC):=EZ BH;have Ao:(Rc cF Lt) (l[mid+m-((s+r)/2)-1]'w4) (l[((s+r)/2)]'w4):=(by simpa only[show mid+m-((s+r)/2)-1=(mid+m-1-((s+r)/2)) by omega] using alc)
  refine cc [0,1,2,3,4,18,19,20,21,22] ?_;refine⟨(s,((s+r)/2)),_,cq,aK,w4,w4,w4,de,(.inr ⟨by omega,by omega,Ao⟩),rfl⟩
 obtain rfl:s=r:=(by omega)
 obtain⟨l1,qK,Ln⟩:=afq (R:=Rc cF Lt) (l:=l) (a:=a) (m:=m) (b:=b) (s:=s) (e:=mid+m-s) (mid:=mid) ht h w4 w4 w4 w4 w4 (by rcases de with q|q;(rcases HJ with q2|q2;exact .inr (.inl w4);exact .inl w4);exact .inr (.inr q)) (by rcases fb with q|q;(rcases HJ with q2|q2;exact .inl w4;exact .inr (.inl w4));exact .inr (.inr q));have j5:=Ln.len.2.2;refine cL [0,1,2,3,4,18,20,24] ?_;refine aS 2 ?_ (h:=by exact(dz rfl ot ot (gY (r:=(((mid+m)-s:Nat):Int)) qO)));refine bI ?_;refine jV [0,1,3,4,18,20,24] (fun aX _ aG=>aG=(⟨220,aX,(⟨O,3,cap*1,(l1).flatMap cI⟩::I)⟩:St)) ?_ ?_
 ·refine aB 4 ?_;refine bP 181 (fun aiq ag1=>?_) (fun aiq ag1=>?_)
  ·refine bq [0,1,2,3,4,18,20,24,185] ?_;refine aq ?_ ?_<;>intro vq FK
   ·refine dK 5 ?_;refine OD.call (R:=I) ap rfl rfl rfl call163 (agZ l l1 ln s m (mid+m-s) cap O (.ew (.func fc) U) [] Ln w4 w4 gd pY w4) ⟨ot,ot,ot,ot,ot,trivial⟩ (Perm.refl _) ?_;rintro _ _ ⟨rfl,rfl⟩;refine an 220 [0,1,3,4,18,20,24] ?_;refine⟨_,aK,rfl⟩
   exact VQ
  refine bq [0,1,2,3,4,18,20,24,185] ?_;refine fJ ?_;exact VQ
 rintro _ ⟨rfl⟩;refine jV [0,3,4,18,24] (fun aX _ aG=>∃(l2:List Int),(Part (Rc cF Lt) l1 l2 a mid)∧aG=(⟨220,aX,(⟨O,3,cap*1,(l2).flatMap cI⟩::I)⟩:St)) ?_ ?_
 ·refine aB 4 ?_;refine bP 195 (fun air ag2=>?_) (fun air ag2=>?_)
  ·refine bq [0,1,3,4,18,20,24,199] ?_;refine aq ?_ ?_<;>intro F9 ahk
   ·refine dK 5 ?_;refine OD.call (R:=[]) ap rfl rfl rfl call153 (ih (mid-a) w4 l1 a s mid rfl (afr qK) w4 w4 (j5.trans gd) (fun z hz=>hV z (qK.perm.subset hz))) ⟨ot,ot,ot,ot,ot,trivial⟩ pu ?_;rintro _ _ ⟨rfl,l2,nI,rfl⟩;refine OD.perm (S':=⟨O,3,cap*1,(l2).flatMap cI⟩::I) pu ?_;refine an 220 [0,3,4,18,24] ?_;refine⟨_,aK,l2,nI,rfl⟩
   refine CD.skip ?_;refine⟨_,aK,l1,(R3 qK w4),rfl⟩
  refine bq [0,1,3,4,18,20,24,199] ?_;refine fJ ?_;refine CD.skip ?_;refine⟨_,aK,l1,(R3 qK w4),rfl⟩
 rintro _ ⟨l2,nI,rfl⟩;refine aB 4 ?_;refine bP 209 (fun ais ag3=>?_) (fun ais ag3=>?_)
 ·refine bq [0,3,4,18,24,213] ?_;refine aq ?_ ?_<;>intro Li ahl
  ·refine dK 5 ?_;refine OD.call (R:=[]) ap rfl rfl rfl call153 (ih (b-mid) w4 l2 mid (mid+m-s) b rfl (adL qK nI) w4 w4 (nI.len.trans (j5.trans gd)) (fun z hz=>hV z (qK.perm.subset (nI.perm.subset hz)))) ⟨ot,ot,ot,ot,ot,trivial⟩ pu ?_;rintro _ _ ⟨rfl,l3,Xw,rfl⟩;refine OD.perm (S':=⟨O,3,cap*1,(l3).flatMap cI⟩::I) pu ?_;refine an 220 [] ?_;exact G6
  exact G6
 refine bq [0,3,4,18,24,213] ?_;refine fJ ?_;refine aI _ ?_;first|exact⟨rfl,_,KP,rfl⟩|exact⟨rfl,_,E1 qK nI Xw,rfl⟩|exact⟨rfl,_,E1 qK nI (Ps qK nI w4),rfl⟩
theorem UR(I cap bd O:Nat)(E:List D)(U:List ah)(cF:Int→Int→Int)(V:Int→Prop)(Lt:Int→Int→Prop)(hc:∀x y,V x→V y→VC Tryz.prog G O ([ae x,ae y]++E) U (fun r S'=>r=ae (cF x y)∧S'=U))(Z:∀args w,(callFunc O args).run Tryz.prog w = .ok (.enter O args) w)(ht:∀{x y z:Int},Rc cF Lt x y→Rc cF Lt y z→Rc cF Lt x z)(ha:∀x y,0≤cF y x→cF x y≤0)(pY:I≤cap)(rJ:cap≤maxLen)(pA:I≤1000000):∀(n:Nat) (l:List Int) (a m b:Nat),b-a=n→qo (Rc cF Lt) Lt l a m b→a<m→m<b→l.length=I→(∀x∈l,V x)→VC Tryz.prog G 153 [aN (some ⟨bd,0,none⟩) I cap,ae (a:Nat),ae (m:Nat),ae (b:Nat),.ew (.func O) E] (⟨bd,3,cap*1,(l).flatMap cI⟩::U) (fun r S'=>r = .di []∧∃lz,Part (Rc cF Lt) l lz a b∧S'=⟨bd,3,cap*1,(lz).flatMap cI⟩::U):=fun n=>Nat.strongRecOn n (adP I cap bd O E U cF V Lt hc Z ht ha pY rJ pA)

end Go.Proofs.YtdgichenhdikgaaGreatDoor.So
namespace Go.Proofs.YtdgichenhdikgaaGreatDoor.So
open List
open Go.Proofs.Tryz
variable {R Lt:Int→Int→Prop} {l l1 cur nX:List Int} {a b m n k:Nat}
theorem IR(h:Part R l l1 a b):l1.drop b=l.drop b:=by
 obtain⟨P,M,E,Q,rfl,rfl,rfl,rfl,hp,_⟩:=h;rw[←append_assoc,drop_left' (by rw[length_append]),←append_assoc,drop_left' (by rw[length_append,hp.length_eq])]
theorem R4(h:Part R l l1 a a):l1=l:=by
 obtain⟨P,M,E,Q,rfl,rfl,rfl,h1,hp,_⟩:=h;have hl:=hp.length_eq;rw[length_eq_zero_iff.1 (show M.length=0 by omega),length_eq_zero_iff.1 (show E.length=0 by omega)]
theorem Jl(h:Part R l l1 0 n)(hn:l.length=n):l1.Perm l∧l1.Pairwise R:=by
 refine⟨h.perm,?_⟩;obtain⟨P,M,E,Q,rfl,rfl,h1,h2,hp,hs⟩:=h;have hl:=hp.length_eq;simp only[length_append] at hn;rw[length_eq_zero_iff.1 h1,length_eq_zero_iff.1 (show Q.length=0 by omega)];simpa using hs
def yw(R:Int→Int→Prop)(l cur:List Int)(k:Nat):Prop:=(k=0∧cur=l)∨(k=1∧Part R l cur 0 20)∨(k=2∧∃l1,Part R l l1 0 20∧Part R l1 cur 20 40)
def Gz(R:Int→Int→Prop)(l cur:List Int)(n:Nat):Prop:=∃l1,Part R l l1 0 20∧Part R l1 cur 20 n
theorem yw.perm(h:yw R l cur k):cur.Perm l:=by
 rcases h with ⟨_,rfl⟩|⟨_,h⟩|⟨_,l1,h1,h2⟩
 ·exact .refl _
 ·exact h.perm
 exact h2.perm.trans h1.perm
theorem adQ(h:yw R l cur k)(hk:k≤1)(hp:Part R cur nX (20*k) (20*(k+1))):yw R l nX (k+1):=by
 rcases h with ⟨rfl,rfl⟩|⟨rfl,h⟩|⟨rfl,_⟩
 ·exact .inr (.inl ⟨rfl,hp⟩)
 ·exact .inr (.inr ⟨rfl,_,h,hp⟩)
 omega
theorem adR(h:yw R l cur k):cur.drop (20*k)=l.drop (20*k):=by
 rcases h with ⟨rfl,rfl⟩|⟨rfl,h⟩|⟨rfl,l1,h1,h2⟩
 ·rfl
 ·exact IR h
 rw[IR h2];have:=congrArg (drop 20) (IR h1);rw[drop_drop,drop_drop] at this;exact this
theorem afs(h:yw R l cur k)(h1:20*k≤n)(h2:n<20*(k+1))(h3:n≤40)(hl:l.length=n)(hp:Part R cur nX (20*k) n):(n≤20∧nX.Perm l∧nX.Pairwise R)∨(20<n∧Gz R l nX n):=by
 rcases h with ⟨rfl,rfl⟩|⟨rfl,h⟩|⟨rfl,l1,p1,E⟩
 ·exact .inl ⟨by omega,Jl hp hl⟩
 ·rcases Nat.lt_or_ge 20 n with q|q
  ·exact .inr ⟨q,_,h,hp⟩
  obtain rfl:n=20:=(by omega)
  rw[R4 hp];exact .inl ⟨q,Jl h hl⟩
 obtain rfl:n=40:=(by omega)
 rw[R4 hp];exact .inr ⟨by omega,_,p1,E⟩
theorem adS(h:Gz R l cur n)(hq:l.Pairwise Lt):qo R Lt cur 0 20 n:=by
 obtain⟨l1,⟨P,M,M0,Q,rfl,rfl,h1,h2,hp,hs⟩,p2⟩:=h;obtain rfl:=length_eq_zero_iff.1 h1;obtain⟨O,U,Z,I,rfl,h4,h5,h6,nI,E⟩:=p2;obtain⟨e1,e2⟩:=append_inj (show M++Q=O++(Z++I) from h4) w4;subst e1 e2;rw[nil_append,pairwise_append] at hq;exact⟨[],M,U,I,by simp,rfl,by omega,by omega,hs,E,fun x hx y hy=>hq.2.2 x (hp.subset hx) y (mem_append_left _ (nI.subset hy))⟩
theorem R5(h:Gz R l cur n)(hp:Part R cur nX 0 n)(hl:l.length=n):nX.Perm l∧nX.Pairwise R:=by
 obtain⟨l1,p1,p2⟩:=h;have:=Jl hp (by rw[p2.len,p1.len,hl]);exact⟨this.1.trans (p2.perm.trans p1.perm),this.2⟩

end Go.Proofs.YtdgichenhdikgaaGreatDoor.So
namespace Go.Proofs.YtdgichenhdikgaaGreatDoor.So
open List
open Go.Proofs.Tryz
open Go.RowKit V Tw
variable {G:List (Nat×List Value)}
theorem ab1(I cap U fc:Nat)(O:List D)(Z:List ah)(cF:Int→Int→Int)(V:Int→Prop)(Lt:Int→Int→Prop)(hc:∀x y,V x→V y→VC Tryz.prog G fc ([ae x,ae y]++O) Z (fun r S'=>r=ae (cF x y)∧S'=Z))(vz:∀args w,(callFunc fc args).run Tryz.prog w = .ok (.enter fc args) w)(ht:∀{x y z:Int},Rc cF Lt x y→Rc cF Lt y z→Rc cF Lt x z)(ha:∀x y,0≤cF y x→cF x y≤0)(pY:I≤cap)(rJ:cap≤maxLen)(pA:I≤40)(l:List Int)(hq:l.Pairwise Lt)(gd:l.length=I)(hV:∀x∈l,V x):VC Tryz.prog G 129 [aN (some ⟨U,0,none⟩) I cap,ae (I:Nat),.ew (.func fc) O] (⟨U,3,cap*1,(l).flatMap cI⟩::Z) (fun r S'=>r = .di []∧∃(lz:List Int),(lz.Perm l∧lz.Pairwise (Rc cF Lt))∧S'=⟨U,3,cap*1,(lz).flatMap cI⟩::Z):=by
 refine VC.body func129 rfl ntmps129 aO fun X0 w0 bg=>?_;have c8:=dR;refine af [0,1,2,6] ?_;refine af [0,1,2,6,7,8] ?_;refine CD.seq ?_;refine CD.block ?_;refine nl (fun (E:Nat×List Int) aG=>match E with|(k,cur)=>(20*k≤I)∧(yw (Rc cF Lt) l cur k)∧aG=(⟨63,[(0,aN (some ⟨U,0,none⟩) I cap),(1,ae (I:Nat)),(2,.ew (.func fc) O),(6,ae 20),(7,ae (20*k:Nat)),(8,ae (20*(k+1):Nat))],(⟨U,3,cap*1,(cur).flatMap cI⟩::Z)⟩:St)) (fun (E:Nat×List Int)=>match E with|(k,cur)=>3-k) (0,l) ⟨(Nat.zero_le _),(.inl ⟨rfl,rfl⟩),rfl⟩ (aK (h:=by repeat (first|exact trivial|refine⟨(by (repeat (first|exact fu|(apply fT;focus (first|rfl|(rw[show(20*(k+1):Nat)=20*k+20 by omega];rfl)|(simp;done)|(congr 3;omega)))|(apply fC;focus rfl)));done),?_⟩))) ?_;rintro⟨k,cur⟩ _ ⟨hk,fB,rfl⟩;have lp:=fB.perm.length_eq;have s8:(cur.drop (20*k)).Pairwise Lt:=(by rw[adR fB];exact hq.drop)
 have DP:∀x∈cur,V x:=fun x hx=>hV x (fB.perm.subset hx);refine af [0,1,2,6,7,8,13] ?_;refine aq ?_ ?_<;>intro aP bC
 ·have yu:20*(k+1)≤I:=(by omega)
  refine aB 4 ?_;refine OD.call (R:=[]) ap rfl rfl rfl call152 (UQ cur I (20*k) (20*(k+1)) cap U fc O Z cF V Lt DP hc vz ht ha s8 w4 w4 w4 pY rJ w4) ⟨ot,ot,ot,ot,trivial⟩ pu ?_;rintro _ _ ⟨rfl,c1,ald,rfl⟩;refine OD.perm (S':=⟨U,3,cap*1,(c1).flatMap cI⟩::Z) pu ?_;refine an 63 [0,1,2,6,8] ?_;refine af [0,1,2,6,7,8] ?_;refine ik [0,1,2,6,7,8] ?_;refine aS 2 ?_ (h:=by exact(dz rfl ot ot (kr (r:=((20*(k+1+1):Nat):Int)) (by rw[show(((20*(k+1):Nat):Int)+20)=((20*(k+1+1):Nat):Int) by omega];exact wrap_i64 w4 w4))));refine bI ?_;refine⟨((k+1),c1),_,cq,(aK (h:=by repeat (first|exact trivial|refine⟨(by (repeat (first|exact fu|(apply fT;focus (first|rfl|(rw[show(20*(k+1):Nat)=20*k+20 by omega];rfl)|(simp;done)|(congr 3;omega)))|(apply fC;focus rfl)));done),?_⟩))),w4,(adQ fB w4 ald),rfl⟩
 have yu:I<20*(k+1):=(by omega)
 refine aB 4 ?_;refine OD.call (R:=[]) ap rfl rfl rfl call152 (UQ cur I (20*k) I cap U fc O Z cF V Lt DP hc vz ht ha s8 w4 w4 w4 pY rJ w4) ⟨ot,ot,ot,ot,trivial⟩ pu ?_;rintro _ _ ⟨rfl,c2,WH,rfl⟩;refine OD.perm (S':=⟨U,3,cap*1,(c2).flatMap cI⟩::Z) pu ?_;have eS:=afs fB hk yu pA gd WH;have WI:c2.Perm l:=WH.perm.trans fB.perm;refine an 63 [0,1,2,6] ?_;refine eA [0,1,2] (fun aX _ (E:Nat×List Int) aG=>match E with|(q,cur)=>((q=20∧cur=c2)∨(q=40∧(cur.Perm l∧cur.Pairwise (Rc cF Lt))))∧aG=(⟨63,(6,ae (q:Nat))::aX,(⟨U,3,cap*1,(cur).flatMap cI⟩::Z)⟩:St)) (fun (E:Nat×List Int)=>match E with|(q,cur)=>40-q) (20,c2) ⟨(.inl ⟨rfl,rfl⟩),rfl⟩ ?_;rintro⟨q,cur⟩ _ ⟨vU,rfl⟩;refine af [0,1,2,6,30] ?_;refine aq ?_ ?_<;>intro aZ cr
 ·obtain⟨rfl,rfl⟩:q=20∧cur=c2:=(by (rcases vU with h|h;exact h;omega))
  have La:Gz (Rc cF Lt) l cur I:=(by (rcases eS with h|h;omega;exact h.2))
  have WJ:=adS La hq;have lp:=WI.length_eq;have DP:∀x∈cur,V x:=fun x hx=>hV x (WI.subset hx);refine af [0,1,2,6,7,8] ?_;refine eA [0,1,2,6] (fun aX _ (E:Nat×List Int) aG=>match E with|(j,c3)=>((j=0∧c3=cur)∨(j=1∧I=40∧(c3.Perm l∧c3.Pairwise (Rc cF Lt))))∧aG=(⟨63,(7,ae (40*j:Nat))::(8,ae (40*(j+1):Nat))::aX,(⟨U,3,cap*1,(c3).flatMap cI⟩::Z)⟩:St)) (fun (E:Nat×List Int)=>match E with|(j,c3)=>1-j) (0,cur) ⟨(.inl ⟨rfl,rfl⟩),rfl⟩ ?_;rintro⟨j,c3⟩ _ ⟨qQ,rfl⟩;refine af [0,1,2,6,7,8,35] ?_;refine aq ?_ ?_<;>intro bX cA
  ·obtain⟨qP,rfl⟩:j=0∧c3=cur:=(by (rcases qQ with h|h;exact h;omega))
   have LN:I=40:=(by omega)
   refine aB 4 ?_;refine bN (dz rfl ot ot (kr (r:=((20:Nat):Int)) (by rw[qP];rfl))) ?_;refine aF 2 ?_;have apJ:=LN;refine OD.call (R:=[]) ap rfl rfl rfl call153 (UR I cap U fc O Z cF V Lt hc vz ht ha pY rJ w4 _ c3 (40*j) 20 (40*(j+1)) rfl (by rw[show 40*j=0 by omega,show 40*(j+1)=I by omega];exact WJ) w4 w4 w4 DP) ⟨ot,ot,ot,ot,ot,trivial⟩ pu ?_;rintro _ _ ⟨rfl,c5,ale,rfl⟩;refine OD.perm (S':=⟨U,3,cap*1,(c5).flatMap cI⟩::Z) pu ?_;have alf:Part (Rc cF Lt) c3 c5 0 I:=(by have:=ale;rwa [show 40*j=0 by omega,show 40*(j+1)=I by omega] at this)
   refine an 63 [0,1,2,6,8] ?_;refine af [0,1,2,6,7,8] ?_;refine cc [0,1,2,6,7,8] ?_;refine⟨(1,c5),_,cq,aK,(.inr ⟨rfl,LN,R5 La alf gd⟩),rfl⟩
  refine CD.exit ?_;refine jV [0,1,2,6] (fun aX _ aG=>∃(c4:List Int),((c4.Perm l∧c4.Pairwise (Rc cF Lt)))∧aG=(⟨63,aX,(⟨U,3,cap*1,(c4).flatMap cI⟩::Z)⟩:St)) ?_ ?_
  ·refine cL [0,1,2,6,7,9] ?_;refine aS 2 ?_ (h:=by exact(dz rfl ot ot (kr (r:=((40*j+20:Nat):Int)) (by rw[show(((40*j:Nat):Int)+((20:Nat):Int))=((40*j+20:Nat):Int) by omega];exact wrap_i64 w4 w4))));refine bI ?_;refine af [0,1,2,6,7,9,54] ?_;refine aq ?_ ?_<;>intro cN dW
   ·obtain⟨qP,rfl⟩:j=0∧c3=cur:=(by (rcases qQ with h|h;exact h;omega))
    refine dK 5 ?_;refine OD.call (R:=[]) ap rfl rfl rfl call153 (UR I cap U fc O Z cF V Lt hc vz ht ha pY rJ w4 _ c3 (40*j) (40*j+20) I rfl (by rw[show 40*j=0 by omega];exact WJ) w4 w4 w4 DP) ⟨ot,ot,ot,ot,ot,trivial⟩ pu ?_;rintro _ _ ⟨rfl,c6,alg,rfl⟩;refine OD.perm (S':=⟨U,3,cap*1,(c6).flatMap cI⟩::Z) pu ?_;have alh:Part (Rc cF Lt) c3 c6 0 I:=(by have:=alg;rwa [show 40*j=0 by omega] at this)
    refine an 63 [0,1,2,6] ?_;refine⟨_,aK,c6,(R5 La alh gd),rfl⟩
   have HJ:(c3.Perm l∧c3.Pairwise (Rc cF Lt)):=(by (rcases qQ with h|h;omega;exact h.2.2))
   refine CD.skip ?_;refine⟨_,aK,c3,HJ,rfl⟩
  rintro _ ⟨c4,ec,rfl⟩;refine cc [0,1,2,6] ?_;refine⟨(40,c4),_,cq,aK,(.inr ⟨rfl,ec⟩),rfl⟩
 have nF:(cur.Perm l∧cur.Pairwise (Rc cF Lt)):=(by (rcases vU with ⟨rfl,rfl⟩|h;(rcases eS with h|h;exact h.2;omega);exact h.2))
 refine aI _ ?_;exact⟨rfl,_,nF,rfl⟩
theorem aft(O cap U Z:Nat)(E:List D)(I:List ah)(cF:Int→Int→Int)(V:Int→Prop)(Lt:Int→Int→Prop)(hc:∀x y,V x→V y→VC Tryz.prog G Z ([ae x,ae y]++E) I (fun r S'=>r=ae (cF x y)∧S'=I))(vz:∀args w,(callFunc Z args).run Tryz.prog w = .ok (.enter Z args) w)(ht:∀{x y z:Int},Rc cF Lt x y→Rc cF Lt y z→Rc cF Lt x z)(ha:∀x y,0≤cF y x→cF x y≤0)(pY:O≤cap)(rJ:cap≤maxLen)(pA:O≤40)(l:List Int)(hq:l.Pairwise Lt)(gd:l.length=O)(hV:∀x∈l,V x):VC Tryz.prog G 87 [aN (some ⟨U,0,none⟩) O cap,.ew (.func Z) E] (⟨U,3,cap*1,(l).flatMap cI⟩::I) (fun r S'=>r = .di []∧∃(lz:List Int),(lz.Perm l∧lz.Pairwise (Rc cF Lt))∧S'=⟨U,3,cap*1,(lz).flatMap cI⟩::I):=by
 refine VC.body func87 rfl ntmps87 aO fun X0 w0 bg=>?_;have c8:=dR;refine dK 4 ?_;refine OD.call (R:=[]) ap rfl rfl rfl call129 (ab1 O cap U Z E I cF V Lt hc vz ht ha pY rJ pA l hq gd hV) ⟨ot,ot,ot,trivial⟩ pu ?_;rintro _ _ ⟨rfl,lz,yo,rfl⟩;refine OD.perm (S':=⟨U,3,cap*1,(lz).flatMap cI⟩::I) pu ?_;refine an 9 [] ?_;refine aI _ ?_;exact⟨rfl,_,yo,rfl⟩

end Go.Proofs.YtdgichenhdikgaaGreatDoor.So
namespace Go.Proofs.YtdgichenhdikgaaGreatDoor.Ba
open List
open Go.Proofs.Tryz
open Go.RowKit V Pk Tr Vl Go.Proofs.YtdgichenhdikgaaGreatDoor.Nm Pc Cd Ex Tw Go.Proofs.YtdgichenhdikgaaGreatDoor.So
variable {t:aM} {o n:Nat} {i k:Int}
theorem Fi(a b:Vl):dX a b<0↔a.k<b.k∨(a.k=b.k∧(a.n<b.n∨(a.n=b.n∧Go.Lib.compareBytes a.s.data.toList b.s.data.toList<0))):=by
 exact XG
theorem yH{a b:Vl}(h:dX a b=0):a=b:=by
 unfold dX cmpL fM fM fM fM at h;have hs:a.k=b.k∧a.n=b.n∧Go.Lib.compareBytes a.s.data.toList b.s.data.toList=0:=by
  rcases qt a.k b.k with ⟨h1,h2⟩|⟨h1,h2⟩|⟨h1,h2⟩<;>rcases qt a.n b.n with ⟨k1,k2⟩|⟨k1,k2⟩|⟨k1,k2⟩<;>simp only[h1,k1] at h<;>(repeat' split at h)<;>first|omega|(refine⟨h2,k2,?_⟩;omega)
 obtain⟨e1,e2,E⟩:=hs;obtain⟨k,n,s⟩:=a;obtain⟨k',n',s'⟩:=b;simp only at e1 e2 E;subst e1 e2;rw[Bm (uj.1 E)]
theorem T2{a b c:Vl}(h1:dX a b<0)(h2:dX b c<0):dX a c<0:=by
 rw[Fi] at h1 h2 ⊢;rcases h1 with h1|⟨h1,h1|⟨E,h1⟩⟩<;>rcases h2 with h2|⟨h2,h2|⟨I,h2⟩⟩<;>first|omega|(refine .inr ⟨by omega,.inr ⟨by omega,?_⟩⟩;exact lQ h1 h2)
def cellAt(t:aM)(o:Nat)(i:Int):Vl:=(rowAt t i).getD o aV
def k8(t:aM)(down:Bool)(o:Nat)(i k:Int):Int:=if down=true then -(dX (cellAt t o i) (cellAt t o k)) else dX (cellAt t o i) (cellAt t o k)
def DQ(t:aM)(i k:Int):Prop:=bA (cJ (rowAt t i)) (cJ (rowAt t k))
theorem Qs(t:aM)(down:Bool)(o:Nat)(i k:Int):k8 t down o k i = -(k8 t down o i k):=by
 unfold k8;rw[wg (cellAt t o i) (cellAt t o k)];split<;>omega
theorem afu{down:Bool}{l:Int}(h1:k8 t down o i k<0)(h2:k8 t down o k l<0):k8 t down o i l<0:=by
 unfold k8 at *;split at h1
 ·rename_i hd;rw[if_pos hd] at h2 ⊢;have e1:=wg (cellAt t o i) (cellAt t o k);have e2:=wg (cellAt t o k) (cellAt t o l);have E:=wg (cellAt t o i) (cellAt t o l);have:=T2 (a:=cellAt t o l) (b:=cellAt t o k) (c:=cellAt t o i) w4 w4;omega
 rename_i hd;rw[if_neg hd] at h2 ⊢;exact T2 h1 h2
theorem IS{down:Bool}(h:k8 t down o i k=0):cellAt t o i=cellAt t o k:=by
 unfold k8 at h;split at h
 ·exact yH w4
 exact yH h
theorem T3{down:Bool}(h:cellAt t o i=cellAt t o k)(l:Int):k8 t down o i l=k8 t down o k l:=by unfold k8;rw[h]
theorem adT{down:Bool}(h:cellAt t o i=cellAt t o k)(l:Int):k8 t down o l i=k8 t down o l k:=by unfold k8;rw[h]
abbrev vW(t:aM)(down:Bool)(o:Nat):Int→Int→Prop:=Rc (k8 t down o) (DQ t)
theorem ag4(t:aM)(down:Bool)(o:Nat){x y z:Int}(h1:vW t down o x y)(h2:vW t down o y z):vW t down o x z:=by
 rcases h1 with h1|⟨h1,E⟩<;>rcases h2 with h2|⟨h2,I⟩
 ·exact .inl (afu h1 h2)
 ·exact .inl (by rw[←adT (IS h2)];exact h1)
 ·exact .inl (by rw[T3 (IS h1)];exact h2)
 exact .inr ⟨by rw[T3 (IS h1)];exact h2,lQ E I⟩
theorem adU{down:Bool}{x y:Int}(h1:vW t down o x y)(h2:vW t down o y x):False:=by
 have e:=Qs t down o x y;rcases h1 with h1|⟨h1,E⟩<;>rcases h2 with h2|⟨h2,I⟩
 ·omega
 ·omega
 ·omega
 exact jK _ (lQ E I)
noncomputable def BY(t:aM)(down:Bool)(o:Nat)(l:List Int):List Int:=Classical.epsilon fun lz=>lz.Perm l∧lz.Pairwise (vW t down o)
theorem Ka{down:Bool}{l lz:List Int}(h:lz.Perm l∧lz.Pairwise (vW t down o)):lz=BY t down o l:=by
 have hs:=Classical.epsilon_spec (p:=fun lz=>lz.Perm l∧lz.Pairwise (vW t down o)) ⟨lz,h⟩;exact Perm.eq_of_pairwise (fun a b _ _ h1 h2=>(adU h1 h2).elim) h.2 hs.2 (h.1.trans hs.1.symm)
theorem EU(t:aM)(w:List aJ):∀(l:List (K×Int)) (acc:List Int),(jR t w acc l).1.Sublist (acc++l.map Prod.snd)
 | [],acc=>by unfold jR;simp
 | x::r,acc=>by
  have h1:(jR t w acc r).1.Sublist (acc++(x::r).map Prod.snd):=(EU t w r acc).trans (Sublist.append_left (sublist_cons_self _ _) acc);have h2:(jR t w (acc++[x.2]) r).1.Sublist (acc++(x::r).map Prod.snd):=(by have:=EU t w r (acc++[x.2]);rwa [append_assoc] at this)
  unfold jR;split
  ·split
   ·exact nil_sublist _
   split
   ·exact h1
   exact h2
  exact h2
def fX(t:aM)(i:Int):Prop:=0≤i∧∃h:i.toNat<t.rows.length,t.rows[i.toNat]≠[]
theorem adV{i:Nat}{c:Pc.cj}{v:Vl}(h:Pc.lW i c v=0):bW v=0:=by
 unfold Pc.lW at h;split at h
 ·exact h
 rename_i h1;exact Decidable.not_not.1 h1
theorem Qt:∀(i:Nat) (cs:List Pc.cj) (vs:List Vl),Pc.pn i cs vs=0→vs.length≤cs.length→∀v∈vs,bW v=0
 | i,c::cs,v::vs,h,hl,w,hw=>by
  unfold Pc.pn at h;split at h
  ·rename_i h1;exact absurd h h1
  rename_i h1;rcases mem_cons.1 hw with rfl|hw
  ·exact adV (Decidable.not_not.1 h1)
  exact Qt (i+1) cs vs h xR w hw
 | _,_,[],_,_,_,hw=>by cases hw
 | _,[],_::_,_,hl,_,_=>by simp at hl
theorem Jm{r:List Vl}(h:Pc.dB bf r=0):∀v∈r,bW v=0:=by
 have h4:=oI h;unfold Pc.dB at h;rw[if_neg Ag,if_neg xQ] at h;exact Qt 0 bf r h xQ
theorem fX.ok(g:eu t n)(h:fX t i):(rowAt t i).length=4∧(∀v∈rowAt t i,v.Ok∧bW v=0):=by
 obtain⟨h0,h1,h2⟩:=h;rw[iz h1];obtain⟨g1,g2,_⟩:=g.row _ h1 h2;exact⟨oI g1,fun v E=>⟨g2 v E,Jm g1 v E⟩⟩
theorem sC(g:eu t n)(w:List aJ):∀i∈(ax t w).1,fX t i:=fun i hi=>by
 unfold ax at hi;split at hi
 ·cases hi
 have h1:=(EU t w _ []).subset hi;rw[nil_append] at h1;obtain⟨x,hx,rfl⟩:=mem_map.1 h1;obtain⟨h2,h3,h4,_⟩:=g.iI x (ET x hx);exact⟨h2,h3,h4⟩
theorem EW(g:eu t n)(w:List aJ):(ax t w).1.Pairwise (DQ t):=by
 unfold ax;split
 ·exact Pairwise.nil
 refine Pairwise.sublist (EU t w _ []) ?_;rw[nil_append,pairwise_map];have hr:(lV t.ix (fw t.ay w).1.1 (fw t.ay w).1.2).Pairwise fun x y=>bA x.1 y.1:=(Qg g.ix.val _).sublist (takeWhile_sublist _);refine hr.imp_of_mem fun {x y} hx hy h=>?_;obtain⟨_,p1,_,p2⟩:=g.iI x (ET x hx);obtain⟨_,q1,_,q2⟩:=g.iI y (ET y hy);unfold DQ;rw[iz p1,iz q1,←p2,←q2];exact h
theorem Fj(g:eu t n)(w:List aJ):(ax t w).1.length≤40:=by
 have hp:=EW g w;have E:=sC g w;have hnd:((ax t w).1.map Int.toNat).Nodup:=by
  rw[Nodup,pairwise_map];refine hp.imp_of_mem fun {x y} hx hy h e=>?_;obtain⟨x0,_⟩:=E x hx;obtain⟨y0,_⟩:=E y hy;have:x=y:=(by omega)
  subst this;exact jK _ h
 have I:∀j∈(ax t w).1.map Int.toNat,j∈range t.rows.length:=fun j hj=>by
  obtain⟨x,hx,rfl⟩:=mem_map.1 hj;obtain⟨_,h1,_⟩:=E x hx;exact mem_range.2 h1
 have:=hnd.length_le_of_subset I;rw[length_map,length_range] at this;exact Nat.le_trans this g.eE
variable {G:List (Nat×List Value)} {m:Int}

open Pa (cm bK)
theorem Vt:∀x y:K,-1≤Go.Lib.compareBytes x y∧Go.Lib.compareBytes x y≤1
 | [],[]=>⟨by decide,by decide⟩
 | [],_::_=>⟨(by show(-1:Int)≤-1;decide),(by show(-1:Int)≤1;decide)⟩
 | _::_,[]=>⟨(by show(-1:Int)≤1;decide),(by show(1:Int)≤1;decide)⟩
 | a::x,b::y=>by
  have:=Vt x y;rw[Hz];repeat' split
  all_goals first|exact this|omega
theorem afv(a b:Vl):-1≤dX a b∧dX a b≤1:=by
 have:=Vt a.s.data.toList b.s.data.toList;exact XG
def rZ(t:aM)(names:List ByteArray):List Int:=if names.length=0 then (range t.ay.length).map Int.ofNat else names.map (bD t.ay)
def rK(t:aM)(s:cm):Int:=if (s.order.toList==(⟨#[]⟩:ByteArray).toList)=true then 0 else bD t.ay s.order
def sJ(Oe:Int)(l:List Int):List Int:=if 0≤Oe∧Oe<l.length then l.take Oe.toNat else l
def xG(t:aM)(ats:List Int)(i:Int):List Vl:=ats.map fun c=>(rowAt t i).getD c.toNat aV
noncomputable def ud(t:aM)(s:cm):List Int:=sJ s.hU (BY t s.down (rK t s).toNat (ax t s.aj).1)
noncomputable def mP(t:aM)(s:cm):(List (List Vl)×Int)×Int :=
 if (s.names.any fun n=>decide (bD t.ay n<0))=true then (([],0),8)
 else if rK t s<0 then (([],0),8)
 else if (ax t s.aj).2≠0 then (([],0),(ax t s.aj).2)
 else if s.count=true then (([[⟨2,(ud t s).length,⟨#[]⟩⟩]],(ud t s).length),0)
 else (((ud t s).map (xG t (rZ t s.names)),(ud t s).length),0)
def AJ(p:(List (List Vl)×Int)×Int):D:=.di [.agg [av 1 fG p.1.1,ae p.1.2],ae p.2]
theorem KI{l:List cj}{nm:ByteArray}:-1≤bD l nm∧bD l nm<l.length:=by
 unfold bD cU;split
 ·rename_i i h;have:=(findIdx?_eq_some_iff_getElem.1 h).1;omega
 omega
theorem afw(t:aM)(g:eu t n)(s:cm)(o:Nat)(ho:o<4)(b2 lf b3:Nat)(i k:Int)(hi:fX t i)(hk:fX t k):VC Tryz.prog G 88 ([ae i,ae k]++[cQ b2,cQ lf,cQ b3]) [⟨b2,53,5,cY t⟩,⟨lf,3,1,[ae (o:Nat)]⟩,⟨b3,32,12,bK s⟩] (fun r S=>r=ae (k8 t s.down o i k)∧S=[⟨b2,53,5,cY t⟩,⟨lf,3,1,[ae (o:Nat)]⟩,⟨b3,32,12,bK s⟩]):=by
 refine VC.body func88 rfl ntmps88 aO fun X0 w0 bg=>?_;obtain⟨I,E,l9⟩:=hi;obtain⟨uC,de,fb⟩:=hk;obtain⟨gi1,O⟩:=fX.ok g ⟨I,E,l9⟩;obtain⟨gk1,U⟩:=fX.ok g ⟨uC,de,fb⟩;rw[iz E] at gi1 O;rw[iz de] at gk1 U;have Z:o<(t.rows[i.toNat]'E).length:=(by omega)
 have qZ:o<(t.rows[k.toNat]'de).length:=(by omega)
 have hci:cellAt t o i=(t.rows[i.toNat]'E)[o]:=(by unfold cellAt;rw[iz E,getD_eq_getElem?_getD,getElem?_eq_getElem Z];rfl)
 have HK:cellAt t o k=(t.rows[k.toNat]'de)[o]:=(by unfold cellAt;rw[iz de,getD_eq_getElem?_getD,getElem?_eq_getElem qZ];rfl)
 have eT:=aad (G:=G) (t.rows[i.toNat]'E)[o] (t.rows[k.toNat]'de)[o] (O _ (getElem_mem Z)).1 (U _ (getElem_mem qZ)).1;have ng:lS (t.rows[i.toNat]'E)[o] (t.rows[k.toNat]'de)[o]=0:=(by unfold lS;rw[if_neg (by simp[(O _ (getElem_mem Z)).2]),(U _ (getElem_mem qZ)).2])
 unfold LM at eT;rw[ng,if_neg w8] at eT;have Hs:=afv (t.rows[i.toNat]'E)[o] (t.rows[k.toNat]'de)[o];unfold cY bK;have aW:k8 t s.down o i k=if s.down=true then -(dX (t.rows[i.toNat]'E)[o] (t.rows[k.toNat]'de)[o]) else dX (t.rows[i.toNat]'E)[o] (t.rows[k.toNat]'de)[o]:=by unfold k8;rw[hci,HK]
 refine af [0,1,2,3,4] ?_;refine cL [4,8] ?_;refine aS 3 ?_ (h:=by exact(dw 1 (h:=by first|exact .l (j:=i.toNat) (Int.toNat_of_nonneg I).symm E|exact .r (j:=i.toNat) (Int.toNat_of_nonneg I).symm E)));refine aS 7 ?_ (h:=by exact(dw 1 (h:=by first|exact .l (j:=k.toNat) (Int.toNat_of_nonneg uC).symm de|exact .r (j:=k.toNat) (Int.toNat_of_nonneg uC).symm de)));refine cH (eT) ?_;refine bI ?_;refine af [8,31] ?_;refine aq ?_ ?_<;>intro aP bC
 ·have hd:s.down=true:=aP;refine cL [7] ?_;refine aS 1 ?_ (h:=by exact(EF rfl ot (Km (wrap_i64 w4 w4))));refine bI ?_;refine aI [_,_,_] ?_;first|(rw[aW,hd,if_pos rfl,←Int.zero_sub];exact⟨rfl,rfl⟩)|(rw[aW,hd,if_neg w8];exact⟨rfl,rfl⟩)
 have hd:s.down=false:=aP;refine af [7] ?_;refine aI [_,_,_] ?_;first|(rw[aW,hd,if_pos rfl,←Int.zero_sub];exact⟨rfl,rfl⟩)|(rw[aW,hd,if_neg w8];exact⟨rfl,rfl⟩)
theorem afx(ew:D):VP Tryz.prog G 152 [bH,ae 0,ae 0,ew] (.di []):=by
 refine VC.body func152 rfl ntmps152 aO fun X0 w0 bg=>?_;refine af [0,1,2,3,8] ?_;refine eA [0,1,2,3] (fun aX _ (z:Nat) aG=>(True)∧aG=(⟨53,(8,ae (0+1))::aX,[]⟩:St)) (fun (z:Nat)=>0) 0 ⟨trivial,rfl⟩ ?_;rintro z _ ⟨_,rfl⟩;refine af [0,1,2,3,8,14] ?_;refine aq ?_ ?_<;>intro aP bC
 ·exact zL
 exact z51
theorem aaB(ew:D):VP Tryz.prog G 129 [bH,ae 0,ew] (.di []):=by
 refine VC.body func129 rfl ntmps129 aO fun X0 w0 bg=>?_;refine af [0,1,2,6] ?_;refine af [0,1,2,6,7,8] ?_;refine eA [0,1,2,6] (fun aX _ (z:Nat) aG=>(True)∧aG=(⟨63,(7,ae 0)::(8,ae 20)::aX,[]⟩:St)) (fun (z:Nat)=>0) 0 ⟨trivial,rfl⟩ ?_;rintro z _ ⟨_,rfl⟩;refine af [0,1,2,6,7,8,13] ?_;refine aq ?_ ?_<;>intro aP bC
 ·exact zL
 refine cz [0,1,2,6] (afx ew) ?_;refine eA [0,1,2] (fun aX _ (z:Nat) aG=>(True)∧aG=(⟨63,(6,ae 20)::aX,[]⟩:St)) (fun (z:Nat)=>0) 0 ⟨trivial,rfl⟩ ?_;rintro z _ ⟨_,rfl⟩;refine af [0,1,2,6,30] ?_;refine aq ?_ ?_<;>intro aZ cr
 ·exact absurd aZ (by simp at aZ)
 exact z51
theorem adW(ew:D):VP Tryz.prog G 87 [bH,ew] (.di []):=by
 refine VC.body func87 rfl ntmps87 aO fun X0 w0 bg=>?_;refine ik [] ?_;refine cH (aaB ew) ?_;refine jb ?_;exact z51

end Go.Proofs.YtdgichenhdikgaaGreatDoor.Ba

namespace Go.Proofs.YtdgichenhdikgaaGreatDoor.Ba
open List
open Go.Proofs.Tryz
open Go.RowKit V Pk Go.Proofs.YtdgichenhdikgaaGreatDoor.Tr Go.Proofs.YtdgichenhdikgaaGreatDoor.Vl Go.Proofs.YtdgichenhdikgaaGreatDoor.Nm Go.Proofs.YtdgichenhdikgaaGreatDoor.Pc Go.Proofs.YtdgichenhdikgaaGreatDoor.Cd Go.Proofs.YtdgichenhdikgaaGreatDoor.Ex Go.Proofs.YtdgichenhdikgaaGreatDoor.Tw
open Pa (cm bK)
variable {j sz:Nat} {ds:List D}
section mid
variable {P:Program} {G:List (Nat×List Value)} {x:St} {o:Oper} {t b off:Nat} {y:Operand} {B:ah} {pre c post:List D} {d:D}
theorem ag5(hp:pre.length=off)(hj:c[j]?=some d):(pre++(c++post))[off+j]?=some d:=by
 subst hp;rw[getElem?_append_right w4,Nat.add_sub_cancel_left,getElem?_append_left (List.getElem?_eq_some_iff.1 hj).1];exact hj
theorem R6{m:List D}(hp:pre.length=off)(hm:qi j c m)(hd:mC sz m ds):((pre++(c++post)).drop (off+j)).take sz=ds:=by
 subst hp;obtain⟨h1,h2⟩:=hd.eq;have h3:=hm.eq;have hl:j+sz≤c.length∨sz=0:=by
  have:=congrArg length h1;rw[length_take,h2,←h3,length_drop] at this;omega
 rw[←drop_drop,drop_left' rfl];rcases hl with hl|rfl
 ·rw[drop_append_of_le_length w4,h3,take_append_of_le_length (by rw[←h3,length_drop];omega)];exact h1
 rw[List.take_zero];rw[List.take_zero] at h1;exact h1
theorem By{E:List D}(hp:pre.length=off)(hl:j+ds.length≤c.length)(hc:da c j ds=E):da (pre++(c++post)) (off+j) ds=pre++(E++post):=by
 subst hp hc;rw[we _ _ _ hl,we _ _ _ (by simp only[length_append];omega)];rw[take_append,take_of_length_le w4,Nat.add_sub_cancel_left,take_append_of_le_length w4,Nat.add_assoc,←drop_drop (l:=pre++(c++post)),drop_left' rfl,drop_append_of_le_length w4];simp only[append_assoc]
theorem oV(k:Nat)(ho:o.op = .load t y:=by exact rfl)(hy:aE x y = .v (.pointer (some ⟨b,off+j,none⟩)):=by exact ot)(ha:qW P t false=true:=by kernel_rfl)(hk:x.S[k]?=some B:=by exact rfl)(hb:B.b=b:=by exact rfl)(dh:B.cs=pre++(c++post):=by exact rfl)(hp:pre.length=off:=by assumption)(hj:c[j]?=some d:=by exact rfl)(hne:isMap B.e=false:=by exact rfl):bQ P G x o (.fp k) d :=
 D5 (hne:=hne) ho hy hk hb (iK ha) (by rw[dh];exact ag5 hp hj)
theorem xH(k:Nat){m:List D}(ho:o.op = .load t y:=by exact rfl)(hy:aE x y = .v (.pointer (some ⟨b,off+j,none⟩)):=by exact ot)(hn:qV P t sz=true:=by exact Sz.h)(ha:qW P t true=true:=by kernel_rfl)(hk:x.S[k]?=some B:=by exact rfl)(hb:B.b=b:=by exact rfl)(dh:B.cs=pre++(c++post):=by exact rfl)(hp:pre.length=off:=by assumption)(hm:qi j c m:=by exact qF)(hd:mC sz m ds:=by exact nA)(hne:isMap B.e=false:=by exact rfl):bQ P G x o (.fp k) (.agg ds) :=
 AR (hne:=hne) ho hy hk hb (iK ha) (lR hn) hd.eq.2 (by rw[dh];exact R6 hp hm hd)
theorem Me(k:Nat)(ho:o.op = .load t y:=by exact rfl)(hy:aE x y = .v (.pointer (some ⟨b,off,none⟩)):=by exact ot)(hn:qV P t sz=true:=by exact Sz.h)(ha:qW P t true=true:=by kernel_rfl)(hk:x.S[k]?=some B:=by exact rfl)(hb:B.b=b:=by exact rfl)(dh:B.cs=pre++(c++post):=by exact rfl)(hp:pre.length=off:=by assumption)(hd:mC sz c ds:=by exact nA)(hne:isMap B.e=false:=by exact rfl):bQ P G x o (.fp k) (.agg ds) :=
 AR (hne:=hne) ho hy hk hb (iK ha) (lR hn) hd.eq.2 (by rw[dh];exact R6 (j:=0) hp .z hd)
end mid
variable {G:List (Nat×List Value)} {m:Int}
noncomputable def gq(t:aM)(row:List Vl):aM×Int :=
 if Pc.dB t.ay row≠0 then (t,Pc.dB t.ay row) else if iA t.ix (cJ row) (dm t.ix)=true then (t,9) else if t.rows.length=40 then (t,10)
 else ({t with rows:=t.rows++[row],ix:=gB t.ix (dm t.ix) (cJ row) t.rows.length},0)
def tC(t:aM)(ad:Option Addr)(cap:Nat):List D:=[bj t.nm,av 2 cC t.ay,aN ad t.rows.length cap,av 5 cP t.ix.ag,ae t.ix.root]
abbrev vA(t:aM)(ad:Option Addr)(cap:Nat)(S:List ah):Prop:=bp 28 1 (t.rows.flatMap fG) t.rows.length ad cap S
theorem wH{r:List Vl}(h:Pc.dB bf r=0):1≤(cJ r).length∧(cJ r).length≤100:=by
 refine⟨?_,TX _⟩;have h4:=oI h;have hz:=Jm h;match r,h4 with
 | [a,b,c,d],_ =>
  have ha:bW a=0:=hz a mem_cons_self;unfold cJ fP;rw[if_neg bn,if_neg (by simp[sN,ha])];have hl:(dx [a]).length≤43:=(by have:=EK (l:=[a]) (fun v E=>by rw[mem_singleton] at E;rw[E];exact ha);simpa using this)
  rw[if_neg (by show ¬(dx [a]).length>100;omega)];show 1≤(dx [a]).length;unfold dx Cd.pi;simp

theorem aaC:(Tryz.prog.info? 28).map (fun i=>(i.zero,i.size,i.bytes))=some (some (.slice none 0 0),1,24):=by kernel_rfl

theorem IN(hm:(3,marksC)∈G)(hw:(1,wordsC)∈G)(ht:(0,typesC)∈G)(hG:(2,[Value.int .i64 m])∈G)(t:aM){n:Nat}(g:eu t n)(hn:n≤300)(row:List Vl)(rV:row.length≤1000)(aQ:∀v∈row,v.Ok)(bt off I:Nat)(pre post:List D)(hp:pre.length=off)(ad:Option Addr)(cap:Nat)(Sr:List ah)(Z:vA t ad cap Sr):VC Tryz.prog G 43 [.v (.pointer (some ⟨bt,off,none⟩)),av 3 cV row] (⟨bt,53,I,pre++(tC t ad cap++post)⟩::Sr) (fun r S=>r=ae (gq t row).2∧((gq t row).2=0→∃oh E oW,vA (gq t row).1 oh E oW∧S=⟨bt,53,I,pre++(tC (gq t row).1 oh E++post)⟩::oW)):=by
 refine VC.body func43 rfl ntmps43 aO fun X0 w0 bg=>?_;have hko:=fun h=>wH (r:=row) h;have yx:=Kv (G:=G) hm hw ht t.ay xN xM row (Nat.le_trans rV w8);have c8:=dR;have mU:=g.eE;unfold tC;refine af [0,1] ?_;refine cL [0,1,5] ?_;refine aS 3 ?_ (h:=by exact(oV 0));refine cH (yx) ?_;refine bI ?_;refine af [0,1,5,17] ?_;refine aq ?_ ?_<;>intro aP bC
 ·have hne:Pc.dB t.ay row≠0:=(by simpa using aP)
  have aW:gq t row=(t,Pc.dB t.ay row):=if_pos hne;refine af [4] ?_;refine aI [] ?_;rw[aW];exact⟨rfl,fun h=>absurd h hne⟩
 have hz:Pc.dB t.ay row=0:=(by simpa using aP)
 have CZ:Pc.dB bf row=0:=(by rw[←g.ay];exact hz)
 have dU:=hko CZ;have hr4:=oI CZ;have O:=zi (G:=G) hG row w4 w4 aQ;refine CD.skip ?_;refine CD.seq ?_;refine CD.seq ?_;rcases iQ:iA t.ix (cJ row) (dm t.ix) with _|_
 ·have fL:=KE (G:=G) g.ix (cJ row);rw[afl g.ix dU iQ] at fL;unfold Tw.cT at fL;have U:=RW (G:=G) g.ix (cJ row) (t.rows.length:Int);rw[UM g.ix hn dU w4 iQ] at U;unfold Tw.cT at U;refine ik [0,1,7] ?_;refine aS 3 ?_ (h:=by exact(xH 0));refine cH (O) ?_;refine cH (fL) ?_;refine bI ?_;refine af [0,1,30] ?_;refine aq ?_ ?_<;>intro aZ cr
  ·exact absurd aZ (by simp at aZ)
  refine cL [0,1,36] ?_;refine aS 3 ?_ (h:=by exact(oV 0));refine bI ?_;refine aq ?_ ?_<;>intro bX cA
  ·have aW:gq t row=(t,10):=(by unfold gq;rw[if_neg (by simp[hz]),if_neg xO,if_pos w4])
   refine af [4] ?_;refine aI [] ?_;rw[aW];exact⟨rfl,fun h=>absurd (show(10:Int)=0 from h) w8⟩
  have aW:gq t row=({t with rows:=t.rows++[row],ix:=gB t.ix (dm t.ix) (cJ row) t.rows.length},0):=(by unfold gq;rw[if_neg (by simp[hz]),if_neg xO,if_neg w4])
  refine CD.skip ?_;refine CD.seq ?_;refine td 16 15 [0,1,8,50,51] ?_;refine aS 3 ?_ (h:=by exact(xH 0));refine cH (O) ?_;refine aS 3 ?_ (h:=by exact(oV 0));refine cH (U) ?_;refine mg 3 ?_;refine og ?_;refine jb ?_;refine⟨rfl,fun b8=>?_⟩;refine aR 0 [_,_] sizeOf51 ?_;refine an 70 [0,1,8,9] ?_;refine af [0,1,8,9,53] ?_;refine aq ?_ ?_<;>intro cN dW
  ·exact absurd cN (by simp at cN)
  refine aB 4 ?_;refine OD.storeAt (k:=1) (cs':=pre++([bj t.nm,av 2 cC t.ay,aN ad t.rows.length cap,.list 5 ((gB t.ix (dm t.ix) (cJ row) t.rows.length).ag.flatMap cP) (gB t.ix (dm t.ix) (cJ row) t.rows.length).ag.length,ae (gB t.ix (dm t.ix) (cJ row) t.rows.length).root]++post)) ap rfl rfl ot rfl rfl ot rfl rfl sizeOf51 rfl (by show off+3+2≤(pre++(([bj t.nm,av 2 cC t.ay,aN ad t.rows.length cap,av 5 cP t.ix.ag,ae t.ix.root]:List D)++post)).length;simp only[length_append,length_cons,length_nil];omega) (by exact By (j:=3) hp aO rfl) ?_;refine an 70 [0,1] ?_;refine CD.seq ?_;refine gJ 9 (au (take 2 _)) ?_ (fun _ h=>(Sublist.map _ (take_sublist _ _)).subset h);refine aC 0 rfl bF ?_;refine aC 1 rfl bF ?_;refine aC 2 rfl qb ?_;refine aC 3 rfl (dF 2) ?_;refine aC 4 rfl (oV 1) ?_;refine aC 5 rfl bF ?_;refine dH.later rfl ?_;refine AD.one (i:=6) az ?_;refine lj call31 (Qm row w4) ?_;refine AD.one (i:=7) az ?_;refine j3 (cf 0 [_]) [.slice none 0 0] [_] zeroValue28 runUnderlying34 sizeOf28 (fun pE=>?_);refine j4 0 66 1 1 ?_;refine AD.one (i:=8) az ?_;refine bz.ey (ls:=t.rows) (new:=[row]) (Sq:=Sr) jJ IW rfl ap rfl rfl underlying34 aaC rfl w8 ot Z (cZ (A:=[_,_])) ot bn mY mZ (fun qR rE Ge Gf=>?_);refine AD.perm (dV (S1:=[⟨qR,28,rE*1,flatMap fG (t.rows++[row])⟩]) (A:=[_,_])) ?_;refine e9 ?_;refine aF 2 ?_
  refine OD.storeAt (k:=1) (cs':=pre++((([bj t.nm,av 2 cC t.ay,aN ad t.rows.length cap,.list 5 ((gB t.ix (dm t.ix) (cJ row) t.rows.length).ag.flatMap cP) (gB t.ix (dm t.ix) (cJ row) t.rows.length).ag.length,ae (gB t.ix (dm t.ix) (cJ row) t.rows.length).root]:List D)).set 2 (aN (some ⟨qR,0,none⟩) ((t.rows++[row])).length rE)++post)) ap rfl rfl ot rfl rfl ot rfl rfl sizeOf34 rfl (by show off+2+1≤(pre++(([bj t.nm,av 2 cC t.ay,aN ad t.rows.length cap,.list 5 ((gB t.ix (dm t.ix) (cJ row) t.rows.length).ag.flatMap cP) (gB t.ix (dm t.ix) (cJ row) t.rows.length).ag.length,ae (gB t.ix (dm t.ix) (cJ row) t.rows.length).root]:List D)++post)).length;simp only[length_append,length_cons,length_nil];omega) (by exact By (j:=2) hp aO rfl) ?_;refine an 70 [] ?_;refine af [4] ?_;refine aI (⟨bt,53,I,pre++(_++post)⟩::[⟨qR,28,rE*1,flatMap fG (t.rows++[row])⟩]) ?_;rw[aW];exact⟨rfl,fun _=>⟨(some ⟨qR,0,none⟩),rE,[⟨qR,28,rE*1,flatMap fG (t.rows++[row])⟩],(bM Ge Gf),rfl⟩⟩
 obtain⟨rw0,ali⟩:=(A6 g.ix (cJ row)).1 iQ;have fL:=KE (G:=G) g.ix (cJ row);rw[RV g.ix dU ali] at fL;unfold Tw.cT at fL;have aW:gq t row=(t,9):=(by unfold gq;rw[if_neg (by simp[hz]),if_pos iQ])
 refine ik [0,1,7] ?_;refine aS 3 ?_ (h:=by exact(xH 0));refine cH (O) ?_;refine cH (fL) ?_;refine bI ?_;refine af [0,1,30] ?_;refine aq ?_ ?_<;>intro aZ cr
 ·refine af [4] ?_;refine aI [] ?_;rw[aW];exact⟨rfl,fun h=>absurd (show(9:Int)=0 from h) w8⟩
 exact absurd aZ (by simp at aZ)

end Go.Proofs.YtdgichenhdikgaaGreatDoor.Ba

namespace Go.Proofs.YtdgichenhdikgaaGreatDoor.Ba
open List
open Go.Proofs.Tryz
open Go.RowKit V Pk Tr Vl Go.Proofs.YtdgichenhdikgaaGreatDoor.Nm Pc Cd Ex Tw
open Pa (cm bK)
variable {G:List (Nat×List Value)} {m:Int}
variable {t:aM} {n:Nat} {i:Int}
theorem Kb{t:aD}(g:ic t n){x y:K×Int}(hx:x∈dQ t)(hy:y∈dQ t)(h:x.1=y.1):x=y:=by
 have hr:(dQ t).Pairwise (fun a b=>bA a.1 b.1):=IL g.val;obtain⟨i,hi,rfl⟩:=mem_iff_getElem.1 hx;obtain⟨j,hj,rfl⟩:=mem_iff_getElem.1 hy;have hp:=pairwise_iff_getElem.1 hr;rcases Nat.lt_trichotomy i j with q|q|q
 ·have:=hp i j hi hj q;rw[h] at this;exact absurd this (jK _)
 ·subst q;rfl
 have:=hp j i hj hi q;rw[h] at this;exact absurd this (jK _)
theorem fX.iI(g:eu t n)(h:fX t i):(cJ (rowAt t i),i)∈dQ t.ix:=by
 obtain⟨h0,h1,h2⟩:=h;have:=(g.row _ h1 h2).2.2;rw[iz h1];rwa [Int.toNat_of_nonneg h0] at this
noncomputable def n8(t:aM)(i:Int):aM:={t with rows:=t.rows.set i.toNat [],ix:=gC t.ix (dm t.ix) (cJ (rowAt t i))}
noncomputable def rL:aM→List Int→aM
 | t,[]=>t
 | t,i::r=>rL (n8 t i) r
noncomputable def mJ(t:aM)(w:List aJ):aM×Int×Int:=if (ax t w).2≠0 then (t,0,(ax t w).2) else (rL t (ax t w).1,(ax t w).1.length,0)
theorem ag6(g:eu t n)(h:fX t i):ic (gC t.ix (dm t.ix) (cJ (rowAt t i))) n∧∀x,x∈dQ (gC t.ix (dm t.ix) (cJ (rowAt t i)))↔x∈dQ t.ix∧x.1≠cJ (rowAt t i) :=
 Jk g.ix ((A5 g.ix.val _).2 ⟨i,h.iI g⟩)
theorem Qu(g:eu t n)(h:fX t i):eu (n8 t i) n:=by
 obtain⟨d1,d2⟩:=ag6 g h;have I:=h.iI g;obtain⟨h0,h1,h2⟩:=h;refine⟨g.nm,g.ay,by show(t.rows.set _ _).length≤40;rw[length_set];exact g.eE,d1,fun j hj hne=>?_,fun x hx=>?_⟩
 ·simp only[n8] at hj hne ⊢;rw[length_set] at hj;rw[getElem_set] at hne;split at hne
  ·exact absurd rfl hne
  rename_i E;have he:(t.rows.set i.toNat [])[j]'xK=t.rows[j]:=getElem_set_ne E _;rw[he];obtain⟨p1,p2,p3⟩:=g.row j hj hne;refine⟨p1,p2,(d2 _).2 ⟨p3,fun e=>?_⟩⟩;have:=Kb g.ix p3 I e;simp only[Prod.mk.injEq] at this;omega
 obtain⟨x1,O⟩:=(d2 x).1 hx;obtain⟨p0,p1,p2,p3⟩:=g.iI x x1;have E:i.toNat≠x.2.toNat:=fun e=>by
  refine O ?_;rw[p3,iz h1];congr 1;simp only[e]
 refine⟨p0,by show _<(t.rows.set _ _).length;rw[length_set];exact p1,?_⟩;have he:(t.rows.set i.toNat [])[x.2.toNat]'(by rw[length_set];exact p1)=t.rows[x.2.toNat]:=getElem_set_ne E _;show(t.rows.set i.toNat [])[x.2.toNat]'(by rw[length_set];exact p1)≠[]∧x.1=cJ ((t.rows.set i.toNat [])[x.2.toNat]'(by rw[length_set];exact p1));rw[he];exact⟨p2,p3⟩
theorem T4{j:Int}(h:fX t j)(E:j≠i)(hi:0≤i):fX (n8 t i) j:=by
 obtain⟨h0,h1,h2⟩:=h;refine⟨h0,by show _<(t.rows.set _ _).length;rw[length_set];exact h1,?_⟩;show(t.rows.set i.toNat [])[j.toNat]'(by rw[length_set];exact h1)≠[];have e:=getElem_set_ne (l:=t.rows) (i:=i.toNat) (j:=j.toNat) (a:=[]) w4 (by rw[length_set];exact h1);rw[e];exact h2
theorem Eu(g:eu t n)(w:List aJ):(ax t w).1.Nodup:=(EW g w).imp fun h e=>by rw[e] at h;exact jK _ h
theorem ab2(hm:(3,marksC)∈G)(hw:(1,wordsC)∈G)(ht:(0,typesC)∈G)(hG:(2,[Value.int .i64 m])∈G)(t:aM)(g:eu t n)(s:cm)(ho:∀o∈s.aj,o.nm.size≤maxLen)(fQ:∀o∈s.aj,o.v.Ok)(bt off qp:Nat)(pre post:List D)(hp:pre.length=off)(ad:Option Addr)(cap:Nat)(Sr:List ah)(kI:vA t ad cap Sr):VC Tryz.prog G 46 [.v (.pointer (some ⟨bt,off,none⟩)),.agg (bK s)] (⟨bt,53,qp,pre++(tC t ad cap++post)⟩::Sr) (fun r S=>r = .di [ae (mJ t s.aj).2.1,ae (mJ t s.aj).2.2]∧((mJ t s.aj).2.2=0→∃oh kJ oW,vA (mJ t s.aj).1 oh kJ oW∧S=⟨bt,53,qp,pre++(tC (mJ t s.aj).1 oh kJ++post)⟩::oW)):=by
 refine VC.body func46 rfl ntmps46 aO fun X0 w0 bg=>?_;have c8:=dR;have mU:=g.eE;have DR:=Fj g s.aj;have mG:=sC g s.aj;have hnd:=Eu g s.aj;unfold tC;unfold bK;refine bU ?_;refine OD.box (ds:=[_,_,_,_,_,_,_,_,_,_,_,_]) ap rfl rfl ot rfl rfl (fun b3=>?_);refine an 56 [0,3] ?_;refine CD.seq ?_;refine gJ 9 (au (take 2 _)) ?_ (fun _ h=>(Sublist.map _ (take_sublist _ _)).subset h);refine aC 0 rfl bF ?_;refine aC 1 rfl qb ?_;refine aC 2 rfl (Me 1) ?_;refine aC 3 rfl (dF 6) ?_;refine aC 4 rfl (dI 0) ?_;refine dH.later rfl ?_;refine AD.one (i:=5) az ?_;refine bz.KX rfl ap rfl rfl rfl call86 (KH hm hw ht hG t g s.aj ho fQ) (fun r S h=>h.flat) ⟨⟨_,ot,(uY ⟨eM,eM,lK kI (cn jJ _) (fun B hB=>by simp[hB]),eM,eM,trivial⟩:View _ (.agg [bj t.nm,av 2 cC t.ay,aN ad t.rows.length cap,av 5 cP t.ix.ag,ae t.ix.root]) (.agg (cY t)))⟩,⟨_,ot,eM⟩,trivial⟩ ?_;rintro _ Sx ⟨c9,cM,rfl,dN⟩;refine AD.perm (jX (A:=[_,_])) ?_;refine cy 6 rfl bF ?_;refine cy 7 rfl Na ?_;refine cy 8 rfl Na ?_;refine e9 ?_;refine bq [0,6,7] ?_;refine af [0,6,7,20] ?_;refine aq ?_ ?_<;>intro aP bC
 ·have hne:(ax t s.aj).2≠0:=(by simpa using aP)
  have aW:mJ t s.aj=(t,0,(ax t s.aj).2):=if_pos hne;refine af [4,5] ?_;refine aI [] ?_;rw[aW];exact⟨rfl,fun h=>absurd h hne⟩
 have hz:(ax t s.aj).2=0:=(by simpa using aP)
 have aW:mJ t s.aj=(rL t (ax t s.aj).1,((ax t s.aj).1.length:Int),0):=if_neg (fun h=>h hz);refine CD.skip ?_;refine CD.seq ?_;refine CD.seq ?_;refine CD.gP (t:=6) (Sq:=Sx) lk dN (cn Tw.ez _) (oZ (A:=[_,_])) ?_;refine tu ?_;refine bq [0,6,22,23,24] ?_;refine eA [0,6,22,23] (fun aX _ (U:Nat×aM×Option Addr×Nat×List ah) aG=>match U with|(k,u,Z,E,O)=>(k≤(ax t s.aj).1.length)∧(rL u ((ax t s.aj).1.drop k)=rL t (ax t s.aj).1)∧(eu u n)∧(∀i∈(ax t s.aj).1.drop k,fX u i)∧(vA u Z E O)∧aG=(⟨56,(24,ae (k:Nat))::aX,(⟨b3,32,12,bK s⟩::⟨bt,53,qp,pre++([bj u.nm,av 2 cC u.ay,aN Z u.rows.length E,av 5 cP u.ix.ag,ae u.ix.root]++post)⟩::O)⟩:St)) (fun (U:Nat×aM×Option Addr×Nat×List ah)=>match U with|(k,u,Z,E,O)=>(ax t s.aj).1.length-k) (0,t,ad,cap,Sr) ⟨(Nat.zero_le _),rfl,g,mG,kI,rfl⟩ ?_;rintro⟨k,u,Z,E,O⟩ _ ⟨hk,WK,gu,ko,vX,rfl⟩;refine af [0,6,22,23,24,25] ?_;refine aq ?_ ?_<;>intro aZ cr
 ·have aa:k<(ax t s.aj).1.length:=(by omega)
  have jo:(ax t s.aj).1.drop k=((ax t s.aj).1[k]'aa)::(ax t s.aj).1.drop (k+1):=drop_eq_getElem_cons aa;have r8:fX u ((ax t s.aj).1[k]'aa):=ko _ (by rw[jo];exact mem_cons_self);obtain⟨fq,I,oq⟩:=id r8;obtain⟨br,rfl,uJ,oS,rfl⟩:=vX.pos w4;have gu2:=Qu gu r8;have gd:(n8 u ((ax t s.aj).1[k]'aa)).rows.length=u.rows.length:=length_set;have ait:rL (n8 u ((ax t s.aj).1[k]'aa)) ((ax t s.aj).1.drop (k+1))=rL t (ax t s.aj).1:=(by rw[←WK,jo];rfl)
  have L4:∀i∈(ax t s.aj).1.drop (k+1),fX (n8 u ((ax t s.aj).1[k]'aa)) i:=fun i hi=>T4 (ko i (by rw[jo];exact mem_cons_of_mem _ hi)) (fun e=>by subst e;have h9:=hnd.sublist (drop_sublist k _);rw[jo,nodup_cons] at h9;exact h9.1 hi) fq;have CA:vA (n8 u ((ax t s.aj).1[k]'aa)) (some ⟨br,0,none⟩) E [⟨br,28,E*1,(n8 u ((ax t s.aj).1[k]'aa)).rows.flatMap fG⟩]:=bM (by show(u.rows.set _ _).length≤_;rw[length_set];exact uJ) oS;obtain⟨YU,DS⟩:=fX.ok gu r8;have vY:=zi (G:=G) hG (u.rows[((ax t s.aj).1[k]'aa).toNat]) (by rw[←iz I];omega) (by rw[←iz I];omega) (fun v hv=>(DS v (by rw[iz I];exact hv)).1);rw[show cJ (u.rows[((ax t s.aj).1[k]'aa).toNat])=cJ (rowAt u ((ax t s.aj).1[k]'aa)) from by rw[iz I]] at vY;have yy:=RX (G:=G) gu.ix (cJ (rowAt u ((ax t s.aj).1[k]'aa)));rw[TR gu.ix (wH (by rw[iz I];exact(gu.row _ I oq).1)) ((A6 gu.ix _).2 ⟨_,r8.iI gu⟩)] at yy;unfold Tw.cT at yy;have apK:=gu.eE;refine af [0,6,9,22,23,24] ?_;refine CD.seq ?_;refine nH 17 [0,6,9,22,23,24,29,43] ?_;refine aS 4 ?_ (h:=by exact(xH 1));refine aS 3 ?_ (h:=by exact(oV 1));refine aS 1 ?_ (h:=by exact(dw 1 (h:=by first|exact .l (j:=((ax t s.aj).1[k]'aa).toNat) (Int.toNat_of_nonneg fq).symm I|exact .r (j:=((ax t s.aj).1[k]'aa).toNat) (Int.toNat_of_nonneg fq).symm I)))
  refine aS 0 ?_ (h:=by exact(cR (mk:=Op.load 28) rfl ot (iT (k:=2) (i:=((ax t s.aj).1[k]'aa).toNat) (ls:=u.rows) jJ rfl rfl rfl isAgg28 I rfl)));refine cH (vY) ?_;refine cH (yy) ?_;refine bI ?_;refine aF 2 ?_;refine OD.storeAt (k:=1) (cs':=pre++([bj u.nm,av 2 cC u.ay,aN (some ⟨br,0,none⟩) (n8 u ((ax t s.aj).1[k]'aa)).rows.length E,.list 5 ((n8 u ((ax t s.aj).1[k]'aa)).ix.ag.flatMap cP) (n8 u ((ax t s.aj).1[k]'aa)).ix.ag.length,ae (n8 u ((ax t s.aj).1[k]'aa)).ix.root]++post)) ap rfl rfl ot rfl rfl ot rfl rfl sizeOf51 rfl (by show off+3+2≤(pre++(([bj u.nm,av 2 cC u.ay,aN (some ⟨br,0,none⟩) u.rows.length E,av 5 cP u.ix.ag,ae u.ix.root]:List D)++post)).length;simp only[length_append,length_cons,length_nil];omega) (by exact By (j:=3) hp aO (by rw[gd];rfl)) ?_;refine an 56 [0,6,9,22,23,24] ?_;refine dK 3 ?_;refine bN (oV 1) ?_;refine aF 1 ?_;refine bN (dw 1 (h:=by first|exact .l (j:=((ax t s.aj).1[k]'aa).toNat) (Int.toNat_of_nonneg fq).symm (by rw[gd];exact I)|exact .r (j:=((ax t s.aj).1[k]'aa).toNat) (Int.toNat_of_nonneg fq).symm (by rw[gd];exact I))) ?_
  refine OD.storeAt (k:=2) (cs':=(u.rows.flatMap fG).set ((ax t s.aj).1[k]'aa).toNat (bH)) ap rfl rfl ot rfl rfl bV rfl rfl sizeOf28 rfl (by show 0+((ax t s.aj).1[k]'aa).toNat*1+1≤(u.rows.flatMap fG).length;rw[cn jJ];omega) (by show(u.rows.flatMap fG).set (0+((ax t s.aj).1[k]'aa).toNat*1) _=_;rw[Nat.zero_add,Nat.mul_one]) ?_;refine OD.cells (k:=2) (cs':=(n8 u ((ax t s.aj).1[k]'aa)).rows.flatMap fG) (S':=[_,_,_]) rfl (by have:=S8 (eZ (sz:=3)) (u.rows.flatMap fG) ((ax t s.aj).1[k]'aa).toNat;rw[show(u.rows.flatMap fG).set ((ax t s.aj).1[k]'aa).toNat (.list 3 [] 0)=(u.rows.set ((ax t s.aj).1[k]'aa).toNat []).flatMap fG from by have:=o8 jJ u.rows [] I;rw[Nat.mul_one] at this;exact this] at this;exact this) rfl ?_;refine an 56 [0,6,22,23,24] ?_;refine cc [0,6,22,23,24] ?_;refine⟨((k+1),(n8 u ((ax t s.aj).1[k]'aa)),(some ⟨br,0,none⟩),E,[⟨br,28,E*1,(n8 u ((ax t s.aj).1[k]'aa)).rows.flatMap fG⟩]),_,cq,aK,w4,ait,gu2,L4,CA,rfl⟩
 have nF:u=rL t (ax t s.aj).1:=(by rw[←WK,drop_of_length_le w4];rfl)
 subst nF;refine af [4,5] ?_;refine aI (⟨bt,53,qp,pre++(_++post)⟩::O) ?_;rw[aW];exact⟨rfl,fun _=>⟨Z,E,O,vX,rfl⟩⟩

end Go.Proofs.YtdgichenhdikgaaGreatDoor.Ba
namespace Go.Proofs.YtdgichenhdikgaaGreatDoor.Ba
open List
open Go.Proofs.Tryz
open Go.RowKit V Pk Tr Vl Go.Proofs.YtdgichenhdikgaaGreatDoor.Nm Pc Cd Ex Tw
open Pa (cm bK)
variable {ops:List aJ} {row:List Vl}
theorem Jn:∀(i:Nat) (cs:List cj) (vs:List Vl),cs.length=vs.length→(Pc.pn i cs vs=0↔∀j (h1:j<cs.length) (h2:j<vs.length),Pc.lW (i+j) cs[j] vs[j]=0)
 | _,[],[],_=>⟨fun _ j h1=>absurd h1 (Nat.not_lt_zero j),fun _=>rfl⟩
 | _,[],_::_,h=>by cases h
 | _,_::_,[],h=>by cases h
 | i,c::cs,v::vs,h=>by
  rw[Pc.pn];have E:=Jn (i+1) cs vs (Nat.succ.inj h);by_cases he:Pc.lW i c v=0
  ·rw[if_neg (fun h=>h he),E];constructor
   ·intro k j h1 h2;cases j with
    | zero=>exact he
    | succ j=>have:=k j (Nat.lt_of_succ_lt_succ h1) (Nat.lt_of_succ_lt_succ h2);rw[show i+(j+1)=i+1+j by omega];exact this
   intro k j h1 h2;have:=k (j+1) (Nat.succ_lt_succ h1) (Nat.succ_lt_succ h2);rw[show i+(j+1)=i+1+j by omega] at this;exact this
  rw[if_pos he];exact⟨fun h=>absurd h he,fun k=>absurd (k 0 (Nat.succ_pos _) (Nat.succ_pos _)) he⟩
theorem Kc{r:List Vl}:Pc.dB bf r=0↔r.length=4∧∀j (h1:j<bf.length) (h2:j<r.length),Pc.lW j bf[j] r[j]=0:=by
 constructor
 ·intro h;have h4:=oI h;unfold Pc.dB at h;rw[if_neg Ag,if_neg xQ,Jn 0 bf r (by rw[h4];rfl)] at h;refine⟨h4,fun j h1 h2=>?_⟩;have:=h j h1 h2;rwa [Nat.zero_add] at this
 intro ⟨h4,h⟩;unfold Pc.dB;rw[if_neg Ag,if_neg xQ,Jn 0 bf r (by rw[h4];rfl)];intro j h1 h2;rw[Nat.zero_add];exact h j h1 h2
theorem afy{i:Nat}{c:cj}{v:Vl}(h:Pc.lW i c v=0):jy c.k v:=by
 unfold Pc.lW at h;by_cases h1:bW v=0
 ·rw[if_neg (fun e=>e h1)] at h;by_cases h2:v.k≠c.k∧(i=0∨v.k≠0)
  ·rw[if_pos h2] at h;cases h
  exact⟨h1,by omega⟩
 rw[if_pos h1] at h;exact absurd h h1
theorem T5{r:List Vl}(h:Pc.dB bf r=0):FY bf r:=fun i=>by
 obtain⟨h4,hf⟩:=Kc.1 h;have hc:bf.length=4:=rfl;rw[getD_eq_getElem?_getD,getD_eq_getElem?_getD];by_cases hi:i<4
 ·rw[getElem?_eq_getElem w4,getElem?_eq_getElem w4];exact afy (hf i w4 w4)
 rw[getElem?_eq_none w4,getElem?_eq_none w4];exact BD
theorem T6{r:List Vl}(h:Pc.dB bf r=0){c:Nat}(hc:c<bf.length){v:Vl}(E:jy bf[c].k v)(h0:c=0→v.k≠0):Pc.dB bf (r.set c v)=0:=by
 obtain⟨h4,hf⟩:=Kc.1 h;refine Kc.2 ⟨by rw[length_set];exact h4,fun j h1 h2=>?_⟩;rw[length_set] at h2;rw[getElem_set];split
 ·rename_i e;subst e;unfold Pc.lW;rw[if_neg (fun e=>e E.1),if_neg (fun e=>?_)];have:=E.2;have:=e.2;have:=e.1;by_cases I:c=0
  ·have:=h0 I;omega
  omega
 exact hf j h1 h2
theorem EX:∀(ops:List aJ) (h:Int),fF h ops=0→∀o∈ops,∃h',eX h' o=0
 | [],_,_,o,ho=>by cases ho
 | x::r,h,hx,o,ho=>by
  rw[fF] at hx;by_cases he:eX h x=0
  ·rw[if_pos he] at hx;rcases mem_cons.1 ho with rfl|ho
   ·exact⟨_,he⟩
   exact EX r _ hx o ho
  rw[if_neg he] at hx;exact absurd hx he
theorem ab3{l:List cj}(lg:∀o∈ops,o.nm.size≤maxLen)(fQ:∀o∈ops,o.v.Ok)(hk:(dr l ops).2=0):∀o∈ops,mN l o:=fun o ho=>by
 obtain⟨_,hx,he⟩:=E9 hk;obtain⟨h',h1⟩:=EX ops 0 (wF hx).2 o ho;obtain⟨_,h2,h3,_⟩:=tN h1;exact⟨lg o ho,fQ o ho,AZ h3,h2.1,h2.2,PW (by rw[he] at hk;exact hk) o ho⟩
theorem R7{l:List cj}{row:List Vl}(hr:∀v∈row,v.Ok):∀(ops:List aJ),(∀o∈ops,o.v.Ok)→∀st:List Vl,(∀v∈st,v.Ok)→(eW aV (cD l row) ops st).1.Ok
 | [],_,st,fB=>JT fB 0
 | o::r,hg,st,fB=>by
  have I:(cD l row o (dS aV o.k st) (dM aV o.k st)).1.Ok:=TB hr (hg o mem_cons_self) (Bq fB _) (Br fB _);by_cases hz:(cD l row o (dS aV o.k st) (dM aV o.k st)).2=0
  ·rw[wG hz];refine R7 hr r (fun x hx=>hg x (mem_cons_of_mem _ hx)) _ fun v E=>?_;rcases mem_append.1 E with E|E
   ·exact fB v (mem_of_mem_take E)
   rw[mem_singleton] at E;rw[E];exact I
  rw[yQ hz];exact rz
theorem afz{l:List cj}(hr:∀v∈row,v.Ok)(fQ:∀o∈ops,o.v.Ok):(dD l row ops).1.Ok:=by
 unfold dD;repeat' split
 all_goals first|exact rz|exact R7 hr ops fQ [] (fun v E=>by cases E)
theorem adX(lg:∀o∈ops,o.nm.size≤maxLen)(fQ:∀o∈ops,o.v.Ok)(hw:Pc.dB bf row=0)(hk:(dr bf ops).2=0)(he:(dD bf row ops).2=0):jy (dr bf ops).1 (dD bf row ops).1:=by
 obtain⟨_,_,_,h4⟩:=PY Bj hw (T5 hw) (ab3 lg fQ hk) (E9 hk).2.1;obtain⟨_,h5|h5⟩:=h4 hk
 ·rw[h5] at he;cases he
 exact h5.2
def iO(t:aM)(c:Int)(e:List aJ):List Vl→List Int→List Vl×Int
 | acc,[]=>(acc,0)
 | acc,i::r=>if (dD t.ay (rowAt t i) e).2≠0 then ([],(dD t.ay (rowAt t i) e).2) else if c=0∧(dD t.ay (rowAt t i) e).1.k=0 then ([],4) else iO t c e (acc++[(dD t.ay (rowAt t i) e).1]) r
def rM(t:aM)(i:Int)(c:Nat)(v:Vl):aM:={t with rows:=t.rows.set i.toNat ((rowAt t i).set c v)}
def mW(c:Nat):aM→List Int→List Vl→aM
 | t,i::r,v::s=>mW c (rM t i c v) r s
 | t,_,_=>t
noncomputable def oJ(t:aM):aD→List Int→aD
 | x,[]=>x
 | x,i::r=>oJ t (gC x (dm x) (cJ (rowAt t i))) r
noncomputable def kG:aM→List Int→List Vl→aM×Int
 | t,i::r,v::s=>if iA t.ix (cJ (rowAt (rM t i 0 v) i)) (dm t.ix)=true then (t,9) else kG {rM t i 0 v with ix:=gB t.ix (dm t.ix) (cJ (rowAt (rM t i 0 v) i)) i} r s
 | t,_,_=>(t,0)
noncomputable def gW(t:aM)(s:cm):aM×Int×Int :=
 if bD t.ay s.set<0 then (t,0,8) else if (dr t.ay s.bL).2≠0 then (t,0,(dr t.ay s.bL).2)
 else if (dr t.ay s.bL).1≠(t.ay.getD (bD t.ay s.set).toNat ⟨⟨#[]⟩,0⟩).k∧(dr t.ay s.bL).1≠0 then (t,0,4)
 else if (ax t s.aj).2≠0 then (t,0,(ax t s.aj).2)
 else if (iO t (bD t.ay s.set) s.bL [] (ax t s.aj).1).2≠0 then (t,0,(iO t (bD t.ay s.set) s.bL [] (ax t s.aj).1).2)
 else if 0<bD t.ay s.set then (mW (bD t.ay s.set).toNat t (ax t s.aj).1 (iO t (bD t.ay s.set) s.bL [] (ax t s.aj).1).1,(ax t s.aj).1.length,0)
 else if (kG {t with ix:=oJ t t.ix (ax t s.aj).1} (ax t s.aj).1 (iO t (bD t.ay s.set) s.bL [] (ax t s.aj).1).1).2≠0 then (t,0,(kG {t with ix:=oJ t t.ix (ax t s.aj).1} (ax t s.aj).1 (iO t (bD t.ay s.set) s.bL [] (ax t s.aj).1).1).2)
 else ((kG {t with ix:=oJ t t.ix (ax t s.aj).1} (ax t s.aj).1 (iO t (bD t.ay s.set) s.bL [] (ax t s.aj).1).1).1,(ax t s.aj).1.length,0)

end Go.Proofs.YtdgichenhdikgaaGreatDoor.Ba
