/-
  What the proof of SelectNames leans on, part 7 of 9: walks of the program's functions at the level of values, and plain facts of what they compute.
-/
import Derived.Test.YtdgichenhdikgaaGreatDoorPSelectNames6
set_option linter.unusedVariables false
set_option linter.unusedSimpArgs false
set_option maxRecDepth 100000
set_option maxHeartbeats 4000000
namespace Go.Proofs.YtdgichenhdikgaaGreatDoor.Tw
open List
open Go.Proofs.Tryz
open Go.RowKit V Tr Pk
variable {α:Type} {i h:Nat} {J:List D} {t u:aF} {k up:K} {row:Int}
def ir(q:List α)(i:Nat)(a:α):List α:=q.take i++a::q.drop i
theorem yQ{q:List α}{a:α}(hi:i≤q.length):(ir q i a).length=q.length+1:=by unfold ir;rw[length_append,length_take,length_cons,length_drop];omega
theorem Rw{q:List α}{a:α}:ir q q.length a=q++[a]:=by unfold ir;rw[take_length,drop_length]
theorem Ez{g:α→List D}(hg:∀a,(g a).length=1){q:List α}{a:α}:(ir q i a).flatMap g=(q.flatMap g).take i++(g a++(q.flatMap g).drop i):=by
 have h1:=tN hg q i;have h2:=uV hg q i;rw[Nat.mul_one] at h1 h2;unfold ir;rw[flatMap_append,flatMap_cons,h1,h2]
theorem Ek{A ds:List D}{off:Nat}(hA:A.length=off)(hl:ds.length≤J.length):dx (A++J) off ds=A++(ds++J.drop ds.length):=by
 rw[wc _ _ _ vE,take_left' hA,append_assoc,←drop_drop,drop_left' hA]
theorem Rx{T R c:List D}(hT:T.length=i)(hc:c.length=1)(E:R.length+1≤J.length):T++(c++R) <+: dx (dx (T++J) i c) (i+1) R:=by
 rw[Ek hT w4,show T++(c++J.drop c.length)=(T++c)++J.drop c.length from(append_assoc _ _ _).symm,Ek (A:=T++c) vE (by rw[length_drop];omega)];exact⟨_,by simp only[append_assoc];rfl⟩
theorem Tu{T R c:List D}(hT:T.length=i)(hc:c.length=1)(O:1≤J.length):T++(c++R) <+: dx (dx ((T++R)++J) (i+1) R) i c:=by
 obtain⟨E,I,hX,h1⟩:∃E I,R++J=E++I∧E.length=1:=⟨(R++J).take 1,(R++J).drop 1,(take_append_drop 1 _).symm,by rw[length_take,length_append];omega⟩
 have h2:R.length≤I.length:=(by have:=congrArg length hX;rw[length_append,length_append] at this;omega)
 have e1:(T++R)++J=(T++E)++I:=(by rw[append_assoc,hX,←append_assoc])
 have e2:(T++E)++(R++I.drop R.length)=T++(E++(R++I.drop R.length)):=append_assoc _ _ _;rw[e1,Ek (A:=T++E) vE h2,e2,Ek hT vE,drop_left' w4];exact⟨I.drop R.length,by simp only[append_assoc]⟩
theorem qs(n:Nat)(x:α):(replicate n x).length=n:=length_replicate
variable {G:List (Nat×List Value)}
theorem D7:(Tryz.prog.info? 88).map (fun i=>i.size)=some 1:=by kernel_rfl
theorem Ib:(Tryz.prog.info? 88).map (fun i=>(i.zero,i.size,i.bytes))=some (some (.slice none 0 0),1,24):=by kernel_rfl
theorem ZZ(q:List K)(i:Nat)(a:K)(cap b bv:Nat)(hi:i≤q.length)(hc:q.length≤cap)(hm:cap≤maxLen)(hs:q.length≤1000):VC Tryz.prog G 124 [aP (some ⟨b,0,none⟩) q.length cap,ae (i:Nat),aP (some ⟨bv,0,none⟩) 1 1] [⟨bv,88,1*1,cK a⟩,⟨b,88,cap*1,q.flatMap cK⟩] (fun r S=>∃ad kK,r=aP ad (q.length+1) kK∧bp 88 1 ((ir q i a).flatMap cK) (ir q i a).length ad kK S):=by
 refine VC.body func124 rfl ntmps124 aQ fun X0 w0 bg=>?_;refine af [0,1,2] ?_;refine aD 2 ?_;refine bN (eA (l:=i) rfl ot ⟨_,ot⟩ trivial uu) ?_;refine an 95 [0,1,2] ?_;refine af [0,1,2,7] ?_;refine af [0,1,2,7,16] ?_;refine au ?_ ?_<;>intro aO bE
 ·exact absurd aO (by simp at *)
 refine af [0,1,2,7,8] ?_;refine af [0,1,2,7,8,22] ?_;refine au ?_ ?_<;>intro aY cJ
 ·obtain rfl:i=q.length:=(by simp at *;omega)
  refine aD 2 ?_;refine fF 0 24 1 1 ?_;refine OD.en (ls:=q) (new:=[a]) (Sq:=[⟨b,88,cap*1,q.flatMap cK⟩]) gl pM ap rfl rfl underlying151 Ib rfl w7 ot (bH hc hm) (dg (A:=[])) ot bq vH iu (fun yj Cz LX LY=>?_);refine OD.perm (ee (S1:=[⟨yj,88,Cz*1,flatMap cK (q++[a])⟩]) (A:=[])) ?_;refine an 95 [6] ?_;refine aJ [⟨yj,88,Cz*1,flatMap cK (q++[a])⟩] ?_;exact⟨_,_,by rw[length_append];rfl,by rw[Rw];exact bH LX LY⟩
 have aa:i<q.length:=(by omega)
 have hQ:(q.flatMap cK).length=q.length:=(by rw[cu gl];omega)
 have Z:((q.flatMap cK).take i).length=i:=(by rw[length_take];omega)
 have U:((q.flatMap cK).drop i).length=q.length-i:=(by rw[length_drop];omega)
 have jO:∀d∈(q.flatMap cK),V.one d=true:=tW pM _;refine cZ [0,1,2,7,8,31] ?_;refine aS 4 ?_ (h:=by exact(Er rfl rfl ot runUnderlying151));refine bK ?_;refine au ?_ ?_<;>intro cm cW
 ·have I:eN cap (i) 1 0=i:=(by unfold eN;rw[if_neg w4];omega)
  have rW:Nat.min (q.length-i) (q.length+1-(i+1))=q.length-i:=Nat.min_eq_left w4;refine aD 2 ?_;refine bN (eA (l:=0) (h:=i) rfl ot trivial ⟨_,ot⟩ Mi) ?_;refine aE 5 ?_;refine OD.SI (n:=i) (m:=q.length+1-i) (k:=1) ap rfl rfl underlying151 underlying3 Ib rfl ot rfl rfl (by show i≤(q.flatMap cK).length;omega) (Eq.trans ot (congrArg (fun z=>D.v (.int .i64 z)) (show((q.length:Int)+(1:Nat)-(i:Int))=((q.length+1-i:Nat):Int) by omega))) w4 w4 F9 w4 (fun G1 E CA LZ=>?_);have j9:i+(q.length+1-i)=q.length+1:=(by omega)
  rw[j9] at CA ⊢;refine an 95 [0,1,2,7,9] ?_;refine aD 2 ?_;refine bN (eA (l:=i) (h:=q.length+1) rfl ot ⟨_,ot⟩ trivial uu) ?_;have vQ:eN E (i) 1 0=i:=(by unfold eN;rw[if_neg w4];omega)
  rw[vQ];refine aE 1 ?_;have O:eN E (i+1) 1 0=i+1:=(by unfold eN;rw[if_neg w4];omega)
  refine OD.wk (Wk.toEnd (k:=0) rfl) ?_;refine OD.copy (k:=0) (k2:=1) (od:=i) (new:=cK a) (cs':=dx ((q.flatMap cK).take i++replicate (E*1-((q.flatMap cK).take i).length) D.bX) i (cK a)) ap rfl rfl underlying151 D7 ot rfl rfl ot rfl rfl (by show take (Nat.min 1 (q.length+1-i)) (cK a)=_;rw[show Nat.min 1 (q.length+1-i)=1 from Nat.min_eq_left w4];rfl) (Nat.min_eq_left (by omega:1≤q.length+1-i)).symm (fun d hd=>all_eq_true.1 (pM a) d hd) (by show i+1≤((q.flatMap cK).take i++replicate (E*1-((q.flatMap cK).take i).length) D.bX).length;rw[length_append,qs,Z];omega) rfl ?_;refine an 95 [0,1,7,9] ?_;refine CD.seq ?_;refine mv 8 [9,50,53] ?_;refine aS 4 ?_ (h:=by exact(eA (l:=i+1) (h:=q.length+1) rfl ot ⟨_,ot⟩ trivial uu));refine aS 2 ?_ (h:=by exact(eA (l:=i) (h:=q.length) rfl ot ⟨_,ot⟩ trivial uu));refine jZ ?_
  refine OD.copy (k:=0) (k2:=2) (od:=eN E (i+1) 1 0) (oy:=eN cap i 1 0) (new:=(q.flatMap cK).drop i) (cs':=dx (dx ((q.flatMap cK).take i++replicate (E*1-((q.flatMap cK).take i).length) D.bX) i (cK a)) (i+1) ((q.flatMap cK).drop i)) ap rfl rfl underlying151 D7 ot rfl rfl ot rfl rfl (by show take (Nat.min (q.length-i) (q.length+1-(i+1))) (drop (eN cap i 1 0) (q.flatMap cK))=_;rw[I,rW,take_of_length_le w4]) (by show _=Nat.min (q.length-i) (q.length+1-(i+1));rw[rW,U]) (fun d hd=>jO d (mem_of_mem_drop hd)) (by show eN E (i+1) 1 0+_≤(dx ((q.flatMap cK).take i++replicate (E*1-((q.flatMap cK).take i).length) D.bX) i (cK a)).length;rw[O,U,yD,length_append,qs,Z];omega) (by show dx (dx ((q.flatMap cK).take i++replicate (E*1-((q.flatMap cK).take i).length) D.bX) i (cK a)) (eN E (i+1) 1 0) _=_;rw[O]) ?_;refine an 95 [9] ?_;refine aD 1 ?_;refine OD.shrink (k:=0) (cs':=(ir q i a).flatMap cK) rfl (by rw[Ez gl];exact Rx Z rfl (by rw[qs,U,Z];omega)) ?_;refine an 95 [6] ?_;refine aJ [⟨G1,88,E*1,(ir q i a).flatMap cK⟩] ?_;exact⟨_,_,rfl,bH (by rw[yQ hi];exact CA) LZ⟩
 have I:eN cap (i) 1 0=i:=(by unfold eN;rw[if_neg w4];omega)
 have O:eN cap (i+1) 1 0=i+1:=(by unfold eN;rw[if_neg w4];omega)
 have rW:Nat.min (q.length+1-i) (q.length+1-(i+1))=q.length-i:=(by rw[show q.length+1-(i+1)=q.length-i from by omega];exact Nat.min_eq_right w4)
 refine cZ [0,1,2,7,8] ?_;refine aS 4 ?_ (h:=by exact(eA (l:=0) (h:=q.length+1) rfl ot trivial ⟨_,ot⟩ Mi));refine bK ?_;refine aD 5 ?_;refine bN (eA (l:=i+1) (h:=q.length+1) rfl ot ⟨_,ot⟩ trivial uu) ?_;refine OD.wk (Wk.toEnd (k:=1) rfl) ?_;refine OD.overlaps (r:=4) (k:=0) (k2:=1) ap rfl rfl func146 aA aA aA aA underlying151 sizeOf88 ot rfl rfl ot rfl rfl w7 (by show cap*1≠0;omega) ?_;refine an 95 [0,1,2,7,8,68] ?_;refine au ?_ ?_<;>intro da ek
 ·refine CD.seq ?_;refine mv 8 [0,1,2,73,76] ?_;refine aS 4 ?_ (h:=by exact(eA (l:=i+1) (h:=q.length+1) rfl ot ⟨_,ot⟩ trivial uu));refine aS 2 ?_ (h:=by exact(eA (l:=i) (h:=q.length+1) rfl ot ⟨_,ot⟩ trivial uu));refine jZ ?_;refine OD.copy (k:=1) (k2:=1) (od:=eN cap (i+1) 1 0) (oy:=eN cap i 1 0) (new:=(q.flatMap cK).drop i) (cs':=dx ((q.flatMap cK)++replicate (cap*1-(q.flatMap cK).length) D.bX) (i+1) ((q.flatMap cK).drop i)) ap rfl rfl underlying151 D7 ot rfl rfl ot rfl rfl (by show take (Nat.min (q.length+1-i) (q.length+1-(i+1))) (drop (eN cap i 1 0) ((q.flatMap cK)++replicate (cap*1-(q.flatMap cK).length) D.bX))=_;rw[I,rW,drop_append_of_le_length w4,take_left' U]) (by show _=Nat.min (q.length+1-i) (q.length+1-(i+1));rw[rW,U]) (fun d hd=>jO d (mem_of_mem_drop hd)) (by show eN cap (i+1) 1 0+_≤((q.flatMap cK)++replicate (cap*1-(q.flatMap cK).length) D.bX).length;rw[O,U,length_append,qs,hQ];omega) (by show dx ((q.flatMap cK)++replicate (cap*1-(q.flatMap cK).length) D.bX) (eN cap (i+1) 1 0) _=_;rw[O]) ?_;refine an 95 [0,1,2] ?_;refine aD 2 ?_;refine bN (eA (l:=i) (h:=q.length+1) rfl ot ⟨_,ot⟩ trivial uu) ?_;refine aE 1 ?_
  refine OD.copy (k:=1) (k2:=0) (od:=eN cap i 1 0) (new:=cK a) (cs':=dx (dx ((q.flatMap cK)++replicate (cap*1-(q.flatMap cK).length) D.bX) (i+1) ((q.flatMap cK).drop i)) i (cK a)) ap rfl rfl underlying151 D7 ot rfl rfl ot rfl rfl (by show take (Nat.min 1 (q.length+1-i)) (cK a)=_;rw[show Nat.min 1 (q.length+1-i)=1 from Nat.min_eq_left w4];rfl) (Nat.min_eq_left (by omega:1≤q.length+1-i)).symm (fun d hd=>all_eq_true.1 (pM a) d hd) (by show eN cap i 1 0+1≤(dx ((q.flatMap cK)++replicate (cap*1-(q.flatMap cK).length) D.bX) (i+1) ((q.flatMap cK).drop i)).length;rw[I,yD,length_append,qs,hQ];omega) (by show dx (dx ((q.flatMap cK)++replicate (cap*1-(q.flatMap cK).length) D.bX) (i+1) ((q.flatMap cK).drop i)) (eN cap i 1 0) _=_;rw[I]) ?_;refine an 95 [0] ?_;refine aD 1 ?_;refine OD.shrink (k:=1) (cs':=(ir q i a).flatMap cK) rfl (by rw[Ez gl];show _ <+: dx (dx ((q.flatMap cK)++_) (i+1) ((q.flatMap cK).drop i)) i (cK a);rw[show(q.flatMap cK)++replicate (cap*1-(q.flatMap cK).length) D.bX=((q.flatMap cK).take i++(q.flatMap cK).drop i)++replicate (cap*1-(q.flatMap cK).length) D.bX from by rw[take_append_drop]];exact Tu Z rfl (by rw[qs,hQ];omega)) ?_;refine an 95 [6] ?_;refine aJ [⟨b,88,cap*1,(ir q i a).flatMap cK⟩] ?_;exact⟨_,_,rfl,bH (by rw[yQ hi];omega) hm⟩
 exact absurd da (by simp at *)
theorem D8:(Tryz.prog.info? 3).map (fun i=>i.size)=some 1:=by kernel_rfl
theorem II:(Tryz.prog.info? 3).map (fun i=>(i.zero,i.size,i.bytes))=some (some (.int .i64 0),1,8):=by kernel_rfl
theorem Z0(q:List Int)(i:Nat)(a:Int)(cap b bv:Nat)(hi:i≤q.length)(hc:q.length≤cap)(hm:cap≤maxLen)(hs:q.length≤1000):VC Tryz.prog G 125 [aP (some ⟨b,0,none⟩) q.length cap,ae (i:Nat),aP (some ⟨bv,0,none⟩) 1 1] [⟨bv,3,1*1,cI a⟩,⟨b,3,cap*1,q.flatMap cI⟩] (fun r S=>∃ad kK,r=aP ad (q.length+1) kK∧bp 3 1 ((ir q i a).flatMap cI) (ir q i a).length ad kK S):=by
 refine VC.body func125 rfl ntmps125 aQ fun X0 w0 bg=>?_;refine af [0,1,2] ?_;refine aD 2 ?_;refine bN (eA (l:=i) rfl ot ⟨_,ot⟩ trivial uv) ?_;refine an 95 [0,1,2] ?_;refine af [0,1,2,7] ?_;refine af [0,1,2,7,16] ?_;refine au ?_ ?_<;>intro aO bE
 ·exact absurd aO (by simp at *)
 refine af [0,1,2,7,8] ?_;refine af [0,1,2,7,8,22] ?_;refine au ?_ ?_<;>intro aY cJ
 ·obtain rfl:i=q.length:=(by simp at *;omega)
  refine aD 2 ?_;refine fF 0 24 1 1 ?_;refine OD.en (ls:=q) (new:=[a]) (Sq:=[⟨b,3,cap*1,q.flatMap cI⟩]) eo nG ap rfl rfl underlying67 II rfl w7 ot (bH hc hm) (dg (A:=[])) ot bq vH iu (fun yj Cz LX LY=>?_);refine OD.perm (ee (S1:=[⟨yj,3,Cz*1,flatMap cI (q++[a])⟩]) (A:=[])) ?_;refine an 95 [6] ?_;refine aJ [⟨yj,3,Cz*1,flatMap cI (q++[a])⟩] ?_;exact⟨_,_,by rw[length_append];rfl,by rw[Rw];exact bH LX LY⟩
 have aa:i<q.length:=(by omega)
 have hQ:(q.flatMap cI).length=q.length:=(by rw[cu eo];omega)
 have Z:((q.flatMap cI).take i).length=i:=(by rw[length_take];omega)
 have U:((q.flatMap cI).drop i).length=q.length-i:=(by rw[length_drop];omega)
 have jO:∀d∈(q.flatMap cI),V.one d=true:=tW nG _;refine cZ [0,1,2,7,8,31] ?_;refine aS 4 ?_ (h:=by exact(Er rfl rfl ot runUnderlying67));refine bK ?_;refine au ?_ ?_<;>intro cm cW
 ·have I:eN cap (i) 1 0=i:=(by unfold eN;rw[if_neg w4];omega)
  have rW:Nat.min (q.length-i) (q.length+1-(i+1))=q.length-i:=Nat.min_eq_left w4;refine aD 2 ?_;refine bN (eA (l:=0) (h:=i) rfl ot trivial ⟨_,ot⟩ Mj) ?_;refine aE 5 ?_;refine OD.SI (n:=i) (m:=q.length+1-i) (k:=1) ap rfl rfl underlying67 underlying3 II rfl ot rfl rfl (by show i≤(q.flatMap cI).length;omega) (Eq.trans ot (congrArg (fun z=>D.v (.int .i64 z)) (show((q.length:Int)+(1:Nat)-(i:Int))=((q.length+1-i:Nat):Int) by omega))) w4 w4 F9 w4 (fun G1 E CA LZ=>?_);have j9:i+(q.length+1-i)=q.length+1:=(by omega)
  rw[j9] at CA ⊢;refine an 95 [0,1,2,7,9] ?_;refine aD 2 ?_;refine bN (eA (l:=i) (h:=q.length+1) rfl ot ⟨_,ot⟩ trivial uv) ?_;have vQ:eN E (i) 1 0=i:=(by unfold eN;rw[if_neg w4];omega)
  rw[vQ];refine aE 1 ?_;have O:eN E (i+1) 1 0=i+1:=(by unfold eN;rw[if_neg w4];omega)
  refine OD.wk (Wk.toEnd (k:=0) rfl) ?_;refine OD.copy (k:=0) (k2:=1) (od:=i) (new:=cI a) (cs':=dx ((q.flatMap cI).take i++replicate (E*1-((q.flatMap cI).take i).length) D.bX) i (cI a)) ap rfl rfl underlying67 D8 ot rfl rfl ot rfl rfl (by show take (Nat.min 1 (q.length+1-i)) (cI a)=_;rw[show Nat.min 1 (q.length+1-i)=1 from Nat.min_eq_left w4];rfl) (Nat.min_eq_left (by omega:1≤q.length+1-i)).symm (fun d hd=>all_eq_true.1 (nG a) d hd) (by show i+1≤((q.flatMap cI).take i++replicate (E*1-((q.flatMap cI).take i).length) D.bX).length;rw[length_append,qs,Z];omega) rfl ?_;refine an 95 [0,1,7,9] ?_;refine CD.seq ?_;refine mv 8 [9,50,53] ?_;refine aS 4 ?_ (h:=by exact(eA (l:=i+1) (h:=q.length+1) rfl ot ⟨_,ot⟩ trivial uv));refine aS 2 ?_ (h:=by exact(eA (l:=i) (h:=q.length) rfl ot ⟨_,ot⟩ trivial uv));refine jZ ?_
  refine OD.copy (k:=0) (k2:=2) (od:=eN E (i+1) 1 0) (oy:=eN cap i 1 0) (new:=(q.flatMap cI).drop i) (cs':=dx (dx ((q.flatMap cI).take i++replicate (E*1-((q.flatMap cI).take i).length) D.bX) i (cI a)) (i+1) ((q.flatMap cI).drop i)) ap rfl rfl underlying67 D8 ot rfl rfl ot rfl rfl (by show take (Nat.min (q.length-i) (q.length+1-(i+1))) (drop (eN cap i 1 0) (q.flatMap cI))=_;rw[I,rW,take_of_length_le w4]) (by show _=Nat.min (q.length-i) (q.length+1-(i+1));rw[rW,U]) (fun d hd=>jO d (mem_of_mem_drop hd)) (by show eN E (i+1) 1 0+_≤(dx ((q.flatMap cI).take i++replicate (E*1-((q.flatMap cI).take i).length) D.bX) i (cI a)).length;rw[O,U,yD,length_append,qs,Z];omega) (by show dx (dx ((q.flatMap cI).take i++replicate (E*1-((q.flatMap cI).take i).length) D.bX) i (cI a)) (eN E (i+1) 1 0) _=_;rw[O]) ?_;refine an 95 [9] ?_;refine aD 1 ?_;refine OD.shrink (k:=0) (cs':=(ir q i a).flatMap cI) rfl (by rw[Ez eo];exact Rx Z rfl (by rw[qs,U,Z];omega)) ?_;refine an 95 [6] ?_;refine aJ [⟨G1,3,E*1,(ir q i a).flatMap cI⟩] ?_;exact⟨_,_,rfl,bH (by rw[yQ hi];exact CA) LZ⟩
 have I:eN cap (i) 1 0=i:=(by unfold eN;rw[if_neg w4];omega)
 have O:eN cap (i+1) 1 0=i+1:=(by unfold eN;rw[if_neg w4];omega)
 have rW:Nat.min (q.length+1-i) (q.length+1-(i+1))=q.length-i:=(by rw[show q.length+1-(i+1)=q.length-i from by omega];exact Nat.min_eq_right w4)
 refine cZ [0,1,2,7,8] ?_;refine aS 4 ?_ (h:=by exact(eA (l:=0) (h:=q.length+1) rfl ot trivial ⟨_,ot⟩ Mj));refine bK ?_;refine aD 5 ?_;refine bN (eA (l:=i+1) (h:=q.length+1) rfl ot ⟨_,ot⟩ trivial uv) ?_;refine OD.wk (Wk.toEnd (k:=1) rfl) ?_;refine OD.overlaps (r:=4) (k:=0) (k2:=1) ap rfl rfl func148 aA aA aA aA underlying67 sizeOf3 ot rfl rfl ot rfl rfl w7 (by show cap*1≠0;omega) ?_;refine an 95 [0,1,2,7,8,68] ?_;refine au ?_ ?_<;>intro da ek
 ·refine CD.seq ?_;refine mv 8 [0,1,2,73,76] ?_;refine aS 4 ?_ (h:=by exact(eA (l:=i+1) (h:=q.length+1) rfl ot ⟨_,ot⟩ trivial uv));refine aS 2 ?_ (h:=by exact(eA (l:=i) (h:=q.length+1) rfl ot ⟨_,ot⟩ trivial uv));refine jZ ?_;refine OD.copy (k:=1) (k2:=1) (od:=eN cap (i+1) 1 0) (oy:=eN cap i 1 0) (new:=(q.flatMap cI).drop i) (cs':=dx ((q.flatMap cI)++replicate (cap*1-(q.flatMap cI).length) D.bX) (i+1) ((q.flatMap cI).drop i)) ap rfl rfl underlying67 D8 ot rfl rfl ot rfl rfl (by show take (Nat.min (q.length+1-i) (q.length+1-(i+1))) (drop (eN cap i 1 0) ((q.flatMap cI)++replicate (cap*1-(q.flatMap cI).length) D.bX))=_;rw[I,rW,drop_append_of_le_length w4,take_left' U]) (by show _=Nat.min (q.length+1-i) (q.length+1-(i+1));rw[rW,U]) (fun d hd=>jO d (mem_of_mem_drop hd)) (by show eN cap (i+1) 1 0+_≤((q.flatMap cI)++replicate (cap*1-(q.flatMap cI).length) D.bX).length;rw[O,U,length_append,qs,hQ];omega) (by show dx ((q.flatMap cI)++replicate (cap*1-(q.flatMap cI).length) D.bX) (eN cap (i+1) 1 0) _=_;rw[O]) ?_;refine an 95 [0,1,2] ?_;refine aD 2 ?_;refine bN (eA (l:=i) (h:=q.length+1) rfl ot ⟨_,ot⟩ trivial uv) ?_;refine aE 1 ?_
  refine OD.copy (k:=1) (k2:=0) (od:=eN cap i 1 0) (new:=cI a) (cs':=dx (dx ((q.flatMap cI)++replicate (cap*1-(q.flatMap cI).length) D.bX) (i+1) ((q.flatMap cI).drop i)) i (cI a)) ap rfl rfl underlying67 D8 ot rfl rfl ot rfl rfl (by show take (Nat.min 1 (q.length+1-i)) (cI a)=_;rw[show Nat.min 1 (q.length+1-i)=1 from Nat.min_eq_left w4];rfl) (Nat.min_eq_left (by omega:1≤q.length+1-i)).symm (fun d hd=>all_eq_true.1 (nG a) d hd) (by show eN cap i 1 0+1≤(dx ((q.flatMap cI)++replicate (cap*1-(q.flatMap cI).length) D.bX) (i+1) ((q.flatMap cI).drop i)).length;rw[I,yD,length_append,qs,hQ];omega) (by show dx (dx ((q.flatMap cI)++replicate (cap*1-(q.flatMap cI).length) D.bX) (i+1) ((q.flatMap cI).drop i)) (eN cap i 1 0) _=_;rw[I]) ?_;refine an 95 [0] ?_;refine aD 1 ?_;refine OD.shrink (k:=1) (cs':=(ir q i a).flatMap cI) rfl (by rw[Ez eo];show _ <+: dx (dx ((q.flatMap cI)++_) (i+1) ((q.flatMap cI).drop i)) i (cI a);rw[show(q.flatMap cI)++replicate (cap*1-(q.flatMap cI).length) D.bX=((q.flatMap cI).take i++(q.flatMap cI).drop i)++replicate (cap*1-(q.flatMap cI).length) D.bX from by rw[take_append_drop]];exact Tu Z rfl (by rw[qs,hQ];omega)) ?_;refine an 95 [6] ?_;refine aJ [⟨b,3,cap*1,(ir q i a).flatMap cI⟩] ?_;exact⟨_,_,rfl,bH (by rw[yQ hi];omega) hm⟩
 exact absurd da (by simp at *)
theorem abo(a:K)(bv:Nat):VC Tryz.prog G 124 [bA,ae (0:Nat),aP (some ⟨bv,0,none⟩) 1 1] [⟨bv,88,1*1,cK a⟩] (fun r S=>∃ad E,r=aP ad 1 E∧bp 88 1 ((ir ([]:List K) 0 a).flatMap cK) (ir ([]:List K) 0 a).length ad E S):=by
 refine VC.body func124 rfl ntmps124 aQ fun X0 w0 bg=>?_;refine af [0,1,2] ?_;refine aD 2 ?_;refine bN (Ea rfl ot ⟨_,_,ot,rfl⟩ rfl runUnderlying151 sizeOf88) ?_;refine an 95 [0,1,2] ?_;refine af [0,1,2,7] ?_;refine af [0,1,2,7,16] ?_;refine au ?_ ?_<;>intro aO bE
 ·exact absurd aO (by simp at *)
 refine af [0,1,2,7,8] ?_;refine af [0,1,2,7,8,22] ?_;refine au ?_ ?_<;>intro aY cJ
 ·refine aD 2 ?_;refine fF 0 24 1 1 ?_;refine OD.en (ls:=([]:List K)) (new:=[a]) (Sq:=[]) gl pM ap rfl rfl underlying151 Ib rfl w7 ot ik (dg (A:=[])) ot bq (by simp[maxLen]) bq (fun O I U Z=>?_);refine OD.perm (ee (S1:=[⟨O,88,I*1,flatMap cK (([]:List K)++[a])⟩]) (A:=[])) ?_;refine an 95 [6] ?_;refine aJ [⟨O,88,I*1,flatMap cK (([]:List K)++[a])⟩] ?_;exact⟨_,_,rfl,bH U Z⟩
 exact absurd aY (by simp at *)
theorem Z1(q:List K)(i:Nat)(a:K)(ad:Option Addr)(cap:Nat)(Sq:List ah)(I:Nat)(hi:i≤q.length)(hs:q.length≤1000)(ho:bp 88 1 (q.flatMap cK) q.length ad cap Sq):VC Tryz.prog G 124 [aP ad q.length cap,ae (i:Nat),aP (some ⟨I,0,none⟩) 1 1] (⟨I,88,1*1,cK a⟩::Sq) (fun r S=>∃ad E,r=aP ad (q.length+1) E∧bp 88 1 ((ir q i a).flatMap cK) (ir q i a).length ad E S):=by
 rcases ho with ⟨h1,h2,rfl,rfl,rfl⟩|⟨b,rfl,h1,h2,rfl⟩
 ·obtain rfl:=length_eq_zero_iff.1 h1;obtain rfl:i=0:=Nat.le_zero.1 hi;exact abo a I
 exact ZZ q i a cap b I hi h1 h2 hs
theorem abp(a:Int)(bv:Nat):VC Tryz.prog G 125 [bA,ae (0:Nat),aP (some ⟨bv,0,none⟩) 1 1] [⟨bv,3,1*1,cI a⟩] (fun r S=>∃ad E,r=aP ad 1 E∧bp 3 1 ((ir ([]:List Int) 0 a).flatMap cI) (ir ([]:List Int) 0 a).length ad E S):=by
 refine VC.body func125 rfl ntmps125 aQ fun X0 w0 bg=>?_;refine af [0,1,2] ?_;refine aD 2 ?_;refine bN (Ea rfl ot ⟨_,_,ot,rfl⟩ rfl runUnderlying67 sizeOf3) ?_;refine an 95 [0,1,2] ?_;refine af [0,1,2,7] ?_;refine af [0,1,2,7,16] ?_;refine au ?_ ?_<;>intro aO bE
 ·exact absurd aO (by simp at *)
 refine af [0,1,2,7,8] ?_;refine af [0,1,2,7,8,22] ?_;refine au ?_ ?_<;>intro aY cJ
 ·refine aD 2 ?_;refine fF 0 24 1 1 ?_;refine OD.en (ls:=([]:List Int)) (new:=[a]) (Sq:=[]) eo nG ap rfl rfl underlying67 II rfl w7 ot ik (dg (A:=[])) ot bq (by simp[maxLen]) bq (fun O I U Z=>?_);refine OD.perm (ee (S1:=[⟨O,3,I*1,flatMap cI (([]:List Int)++[a])⟩]) (A:=[])) ?_;refine an 95 [6] ?_;refine aJ [⟨O,3,I*1,flatMap cI (([]:List Int)++[a])⟩] ?_;exact⟨_,_,rfl,bH U Z⟩
 exact absurd aY (by simp at *)
theorem Z2(q:List Int)(i:Nat)(a:Int)(ad:Option Addr)(cap:Nat)(Sq:List ah)(I:Nat)(hi:i≤q.length)(hs:q.length≤1000)(ho:bp 3 1 (q.flatMap cI) q.length ad cap Sq):VC Tryz.prog G 125 [aP ad q.length cap,ae (i:Nat),aP (some ⟨I,0,none⟩) 1 1] (⟨I,3,1*1,cI a⟩::Sq) (fun r S=>∃ad E,r=aP ad (q.length+1) E∧bp 3 1 ((ir q i a).flatMap cI) (ir q i a).length ad E S):=by
 rcases ho with ⟨h1,h2,rfl,rfl,rfl⟩|⟨b,rfl,h1,h2,rfl⟩
 ·obtain rfl:=length_eq_zero_iff.1 h1;obtain rfl:i=0:=Nat.le_zero.1 hi;exact abp a I
 exact Z0 q i a cap b I hi h1 h2 hs

noncomputable def oY(t:aF)(k:K)(row:Int)(h:Nat):aF×Int:=if lD t k=0 then (if row<0 then (vT,3) else if iA t k h=true then (vT,9) else if 4000<(gK t h k row).ag.length then (vT,10) else (gK t h k row,0)) else (vT,lD t k)
theorem aeJ{ls:List Int}{r:D}{S:List ah}(h:gm cI 3 1 ls r S):kQ r=true∧∀B∈S,∀d∈B.cs,kQ d=true:=by
 obtain⟨ad,cap,rfl,ho⟩:=h;refine⟨rfl,fun B E d hd=>?_⟩;rcases ho with ⟨_,_,_,_,rfl⟩|⟨b,_,_,_,rfl⟩
 ·cases E
 rw[mem_singleton] at E;subst E;obtain⟨n,_,hn⟩:=mem_flatMap.1 hd;rw[cI,mem_singleton] at hn;subst hn;rfl
theorem P2(v:Valid t h)(hf:iA t k h=false):∀x∈kY t h,x.1≠k:=fun x hx e=>by
 have:iA t k h=true:=(Ei v k).2 ((Bc v k).2 ⟨x.2,by rw[←e];exact hx⟩);rw[hf] at this;cases this
theorem abq{G:List (Nat×List Value)}(L:List aB)(b:Nat)(root i:Int)(ad:Option Addr)(cap:Nat)(Sx:List ah)(hi:0≤i∧i<L.length)(p:de)(E:(L[i.toNat]'w4).p=p)(hn:L.length≤10000)(dY:um L ad cap Sx)(aR:∀o∈L,qT o)(h5:p.keys.length=5)(dX:p.leaf=true→p.kids.length=5)(I:p.leaf=false→p.kids.length=6)(O:∀k∈p.keys,k.length≤100)(U:p.high.length≤100) :
 VC Tryz.prog G 126 [dM b,ae i] (⟨b,51,2,[aP ad L.length cap,ae root]⟩::(Sx++L.flatMap bO)) (Wb L b root i.toNat p):=by
 subst E;exact acZ L b root i ad cap Sx hi hn dY aR h5 dX I O U
theorem ac0{aC:Int}(e:kG t k row h (h+1)=(u,some (up,aC)))(hr:u.root=t.root):gK t h k row=⟨u.ag++[⟨false,[up],[t.root,aC],[],-1⟩],u.ag.length⟩:=by
 unfold gK;rw[←Rr,e];show(⟨u.ag++[⟨false,[up],[u.root,aC],[],-1⟩],u.ag.length⟩:aF)=_;rw[hr]
theorem aeK{aC:Int}{m:Nat}(hm:m≤h)(e:kG t k row h m=(u,some (up,aC)))(h4:(bC (u.pg (dy t k h t.root m)) up aC).keys.length≤4):gK t h k row=u.set (dy t k h t.root m) (bC (u.pg (dy t k h t.root m)) up aC):=by
 have:=PY hm e;rw[I7 h4] at this;unfold gK;rw[PZ (h-m) (m+1) w4 w4 this];rfl
theorem ac1{aC:Int}{m:Nat}(hm:m≤h)(e:kG t k row h m=(u,some (up,aC)))(h4:¬(bC (u.pg (dy t k h t.root m)) up aC).keys.length≤4) :
  kG t k row h (m+1)=(ju u (dy t k h t.root m) (bu (bC (u.pg (dy t k h t.root m)) up aC) u.ag.length) (bz (bC (u.pg (dy t k h t.root m)) up aC)),some (jn (bC (u.pg (dy t k h t.root m)) up aC),(u.ag.length:Int))):=by
 rw[PY hm e,IB h4]
theorem Zu:(Tryz.prog.info? 153).map (fun i=>(i.zero,i.size,i.bytes))=some (some (.agg #[.bool false,.slice none 0 0,.slice none 0 0,.slice none 0 0,.int .i64 0]),5,88):=by kernel_rfl
theorem IJ(t:aF)(h:Nat)(k:K)(row:Int)(hb:∀p∈t.ag,p.keys.length≤maxLen∧p.kids.length≤maxLen)(hv:gG t=0→Valid t h):VC Tryz.prog G 84 [.agg [av 5 cP t.ag,ae t.root],av 1 cB k,ae row] [] (Cs (oY t k row h)):=by
 refine VC.body func84 rfl ntmps84 aQ fun X0 w0 bg=>?_;have e9:=H9 (G:=G) t k hb;unfold cT at e9;have dz:=ei;refine bY ?_;refine OD.box (ds:=[_,_]) ap rfl rfl ot rfl rfl (fun b3=>?_);refine OD.alloc (ds:=[_,_]) ap rfl rfl zeroValue51 rfl (fun b6=>?_);refine an 131 [1,2,3,6] ?_;refine cX [1,2,3,6,8] (e9) ?_;refine af [1,2,3,6,8,23] ?_;refine au ?_ ?_<;>intro aO bE
 ·have hn:¬lD t k=0:=(by simpa using aO)
  refine aD 2 ?_;refine aN 0 [_,_] sizeOf51 ?_;refine an 131 [6,7] ?_;refine aJ [] ?_;unfold oY;rw[if_neg hn];exact y7 _
 have hz:lD t k=0:=(by simpa using aO)
 obtain⟨hc,N3⟩:=P1 hz;have v:=hv hc;have Ct:=Jd N3;have fP:=qt (G:=G) t h v k w4 (Ej v k);unfold cT at fP;have aoj:=v.high;have aok:=v.nN;refine af [1,2,3,6,27] ?_;refine au ?_ ?_<;>intro aY cJ
 ·have vv:row<0:=(by omega)
  refine aD 1 ?_;refine aN 0 [_,_] sizeOf51 ?_;refine an 131 [6,7] ?_;refine aJ [] ?_;unfold oY;rw[if_pos hz,if_pos vv];exact y7 _
 have vv:0≤row:=(by omega)
 refine cX [1,2,3,6,11] (fP) ?_;refine af [1,2,3,6,36] ?_;refine au ?_ ?_<;>intro cm cW
 ·have iU:iA t k h=true:=cm;refine aD 1 ?_;refine aN 0 [_,_] sizeOf51 ?_;refine an 131 [6,7] ?_;refine aJ [] ?_;unfold oY;rw[if_pos hz,if_neg w4,if_pos iU];exact y7 _
 have iU:iA t k h=false:=cm;have hne:=P2 v iU;refine aD 1 ?_;refine OD.call ap rfl rfl rfl call121 (FE t h v) ⟨ot,trivial⟩ (eR _) ?_;rintro _ _ ⟨L,ad,cap,Sx,rfl,dY,aR,hL,rfl⟩;refine OD.perm (ee (A:=[_,_])) ?_;refine OD.alloc (ds:=[_,_]) ap rfl rfl zeroValue51 rfl (fun vU=>?_);refine aN 0 [_,_] sizeOf51 ?_;refine an 131 [1,2,6,12] ?_;refine aD 2 ?_;refine OD.KI ap rfl rfl rfl call122 (Th t h v k) (fun r S=>aeJ) ⟨⟨_,ot,(by have:=Km (root:=t.root) dY aR (fun B hB=>mem_cons_of_mem ⟨vU,51,2,[aP ad L.length cap,ae t.root]⟩ (mem_cons_of_mem ⟨b6,51,2,[bA,ae 0]⟩ (mem_cons_of_mem ⟨b3,51,2,[av 5 cP t.ag,ae t.root]⟩ hB)));rw[hL] at this;exact this)⟩,⟨_,ot,eU⟩,trivial⟩ ?_;rintro _ Sw ⟨aw,cw,rfl,how⟩;refine OD.ic (t:=42) (Sq:=Sw) lk how (cu eo _) (Perm.refl _) ?_;refine an 131 [1,2,6,12,13] ?_;refine cX [6,12,13,14,15] (j7 k w4) ?_;refine jQ [6,12] (fun aW _ aH=>∃(L:List aB),∃(ad:Option Addr),∃(cap:Nat),∃(Sx:List ah),∃(root:Int),(um L ad cap Sx)∧(∀o∈L,qT o)∧(gK t h k row=⟨L.map aB.p,root⟩)∧(L.length≤10000)∧aH=(⟨131,aW,(⟨vU,51,2,[aP ad L.length cap,ae root]⟩::⟨b6,51,2,[bA,ae 0]⟩::(Sx++L.flatMap bO))⟩:St)) ?_ ?_
 ·refine cZ [6,12,13,14,15,16] ?_;refine aS 2 ?_ (h:=by exact(dw (r:=.int .i64 ((h:Nat):Int)) rfl ot bP (gj (by rw[ET,show(((h+1:Nat):Int)-1)=(h:Int) from by omega];exact wrap_i64 w4 w4))));refine bK ?_;refine eD [6,12,13] (fun aW _ (mq:Nat×K×Int×List aB×Option Addr×Nat×List ah) aH=>match mq with|(m,up,aC,L,ad,cap,Sx)=>(m≤h+1)∧(kG t k row h m=(⟨L.map aB.p,t.root⟩,some (up,aC)))∧(um L ad cap Sx)∧(∀o∈L,qT o)∧aH=(⟨131,(14,av 1 cB up)::(15,ae aC)::(16,ae ((h:Int)-(m:Nat)))::aW,(⟨vU,51,2,[aP ad L.length cap,ae t.root]⟩::⟨b6,51,2,[bA,ae 0]⟩::(Sx++L.flatMap bO))⟩:St)) (fun (mq:Nat×K×Int×List aB×Option Addr×Nat×List ah)=>match mq with|(m,up,aC,L,ad,cap,Sx)=>h+1-m) (0,k,row,L,ad,cap,Sx) ⟨(Nat.zero_le _),(by unfold kG;rw[if_pos rfl,hL]),dY,aR,rfl⟩ ?_;rintro⟨m,up,aC,L,ad,cap,Sx⟩ _ ⟨hm0,he,dY,aR,rfl⟩;refine af [6,12,13,14,15,16,52] ?_;refine au ?_ ?_<;>intro da ek
  ·obtain rfl:m=h+1:=(by omega)
   obtain⟨s1,s2,s3,s4⟩:=IE v hne Ct vv w4 he;have pD:L.length≤t.ag.length+(h+1):=(by rw[←length_map (f:=aB.p)];exact s2)
   have Ym:=aeE v hne Ct vv w4 he;refine aD 3 ?_;refine ev (cc 0 [_]) [.slice none 0 0] [_] zeroValue88 runUnderlying151 sizeOf88 (fun U=>?_);refine aE 3 ?_;refine ev (cc 0 [_,_]) [.int .i64 0,.int .i64 0] [_,_] zeroValue3 runUnderlying67 sizeOf3 (fun Z=>?_);refine aE 1 ?_;refine ev (cc 0 [_]) [.bool false,.slice none 0 0,.slice none 0 0,.slice none 0 0,.int .i64 0] [_,_,_,_,_] zeroValue153 runUnderlying49 sizeOf153 (fun NF=>?_);refine OD.afB (cs':=gO (⟨⟨false,[up],[t.root,aC],[],-1⟩,some ⟨U,0,none⟩,1,[⟨U,88,1*1,flatMap cK [up]⟩],some ⟨Z,0,none⟩,2,[⟨Z,3,2*1,flatMap cI [t.root,aC]⟩]⟩:aB)) rfl ⟨eU,eU,eU,yJ,eU,trivial⟩ ?_;refine fF 0 62 5 1 ?_;refine OD.en (ls:=L) (new:=[(⟨⟨false,[up],[t.root,aC],[],-1⟩,some ⟨U,0,none⟩,1,[⟨U,88,1*1,flatMap cK [up]⟩],some ⟨Z,0,none⟩,2,[⟨Z,3,2*1,flatMap cI [t.root,aC]⟩]⟩:aB)]) (Sq:=Sx) gk uZ ap rfl rfl underlying49 Zu rfl w7 ot dY (oO (A:=[_,_,_,_])) ot bq mr mu (fun DU xC akc akd=>?_);refine aE 1 ?_;refine aN 3 [_,_] sizeOf49 ?_;refine an 131 [6,12] ?_;refine aD 3 ?_
   refine bN (dw (r:=.int .i64 (L.length:Nat)) rfl ot bP (gj (by rw[length_append,show(((L.length+[(⟨⟨false,[up],[t.root,aC],[],-1⟩,some ⟨U,0,none⟩,1,[⟨U,88,1*1,flatMap cK [up]⟩],some ⟨Z,0,none⟩,2,[⟨Z,3,2*1,flatMap cI [t.root,aC]⟩]⟩:aB)].length:Nat):Int)-1)=(L.length:Int) from by simp];exact wrap_i64 w4 w4))) ?_;refine aE 1 ?_;refine aN 3 [_,_] sizeOf3 ?_;have hX:((⟨Z,3,2*1,flatMap cI [t.root,aC]⟩:ah)::⟨U,88,1*1,flatMap cK [up]⟩::L.flatMap bO).Perm ((L++[(⟨⟨false,[up],[t.root,aC],[],-1⟩,some ⟨U,0,none⟩,1,[⟨U,88,1*1,flatMap cK [up]⟩],some ⟨Z,0,none⟩,2,[⟨Z,3,2*1,flatMap cI [t.root,aC]⟩]⟩:aB)]).flatMap bO):=(by rw[RW];exact(Perm.swap _ _ _).trans (perm_append_comm (l₁:=[_,_])))
   refine OD.perm (S':=⟨vU,51,2,[aP (some ⟨DU,0,none⟩) (L++[(⟨⟨false,[up],[t.root,aC],[],-1⟩,some ⟨U,0,none⟩,1,[⟨U,88,1*1,flatMap cK [up]⟩],some ⟨Z,0,none⟩,2,[⟨Z,3,2*1,flatMap cI [t.root,aC]⟩]⟩:aB)]).length xC,ae (L.length:Nat)]⟩::⟨b6,51,2,[bA,ae 0]⟩::(([⟨DU,153,xC*5,flatMap gO (L++[(⟨⟨false,[up],[t.root,aC],[],-1⟩,some ⟨U,0,none⟩,1,[⟨U,88,1*1,flatMap cK [up]⟩],some ⟨Z,0,none⟩,2,[⟨Z,3,2*1,flatMap cI [t.root,aC]⟩]⟩:aB)])⟩]:List ah)++(L++[(⟨⟨false,[up],[t.root,aC],[],-1⟩,some ⟨U,0,none⟩,1,[⟨U,88,1*1,flatMap cK [up]⟩],some ⟨Z,0,none⟩,2,[⟨Z,3,2*1,flatMap cI [t.root,aC]⟩]⟩:aB)]).flatMap bO)) (by exact(perm_middle (l₁:=[_,_,_])).trans (Perm.cons _ ((perm_middle (l₁:=[_,_,_])).trans (Perm.cons _ (Perm.cons _ hX))))) ?_;refine an 131 [6,12] ?_;refine CD.exit ?_
   refine⟨_,aK,(L++[(⟨⟨false,[up],[t.root,aC],[],-1⟩,some ⟨U,0,none⟩,1,[⟨U,88,1*1,flatMap cK [up]⟩],some ⟨Z,0,none⟩,2,[⟨Z,3,2*1,flatMap cI [t.root,aC]⟩]⟩:aB)]),(some ⟨DU,0,none⟩),xC,[⟨DU,153,xC*5,flatMap gO (L++[(⟨⟨false,[up],[t.root,aC],[],-1⟩,some ⟨U,0,none⟩,1,[⟨U,88,1*1,flatMap cK [up]⟩],some ⟨Z,0,none⟩,2,[⟨Z,3,2*1,flatMap cI [t.root,aC]⟩]⟩:aB)])⟩],(L.length:Nat),(bH akc akd),(fun o ho=>by rcases mem_append.1 ho with ho|ho;exact aR o ho;rw[mem_singleton] at ho;subst ho;exact⟨bH (Nat.le_refl _) (show 1≤maxLen by decide),bH (Nat.le_refl _) (show 2≤maxLen by decide)⟩),(by rw[ac0 he rfl];show(⟨map aB.p L++[_],((map aB.p L).length:Int)⟩:aF)=_;rw[map_append,length_map];rfl),GU,rfl⟩
  have hm:m≤h:=(by omega)
  have hP:=aeF v hne Ct vv hm he;obtain⟨s1,s2,s3,s4⟩:=IE v hne Ct vv w4 he;have pD:L.length≤t.ag.length+m:=(by rw[←length_map (f:=aB.p)];exact s2)
  have N4:0≤(dy t k h t.root m)∧(dy t k h t.root m)<L.length:=(by have:=hP.rg;rw[←length_map (f:=aB.p)];exact this)
  have hj:(dy t k h t.root m).toNat<L.length:=(by omega)
  have Yn:L[(dy t k h t.root m).toNat].p=(⟨L.map aB.p,t.root⟩:aF).pg (dy t k h t.root m):=Uu (t:=(⟨L.map aB.p,t.root⟩:aF)) rfl hP.rg hj;have po:eH ((⟨L.map aB.p,t.root⟩:aF).pg (dy t k h t.root m)) (⟨L.map aB.p,t.root⟩:aF).ag.length:=s4 _ (jE hP.rg);have full:=I5 po hP.out hP.len hP.high hP.nn hP.nnl;obtain⟨bx,rfl,fY,rL,rfl⟩:=dY.pos w4;have ye:=aR _ (getElem_mem hj);obtain⟨o,ho⟩:∃o,o=L[(dy t k h t.root m).toNat]:=⟨_,rfl⟩
  rw[←ho] at ye Yn;rcases o with ⟨p,ak,ck,sk,ai,ci,si⟩
  have gX:p=(⟨L.map aB.p,t.root⟩:aF).pg (dy t k h t.root m):=Yn;obtain⟨dP,kj⟩:oU p.keys ak ck sk∧lU p.kids ai ci si:=ye;rw[←gX] at po full;have mO:=po.eJ;have fO:=Ro po up;have Ym:=hP.len.2;have F1:(if p.leaf=true then aL p up else aL p up+1)≤p.kids.length∧p.kids.length≤5:=(by cases fM:p.leaf;(have:=(po.node fM).1;rw[if_neg w7];omega);(have:=po.leaf fM;rw[if_pos rfl];omega))
  have hW:h-m<(jh t k h t.root).length:=(by rw[ET];omega)
  have Yo:(jh t k h t.root)[h-m]=(dy t k h t.root m):=(by have:=PX (t:=t) (k:=k) (h:=h) (i:=t.root) hm;exact(List.getElem?_eq_some_iff.1 this).2)
  have BS:=v.high;have U6:=v.nN;have KT:(L.flatMap bO).Perm (sk++(si++((L.eraseIdx (dy t k h t.root m).toNat).flatMap bO))):=(by have:=y6 bO hj;rw[←ho] at this;exact this.trans (by rw[show bO ⟨p,ak,ck,sk,ai,ci,si⟩=sk++si from rfl,append_assoc]))
  refine CD.perm (Perm.cons _ (Perm.cons _ (Perm.cons _ KT))) ?_;refine cZ [6,12,13,14,15,16,17] ?_;refine aS 4 ?_ (h:=by exact(dc 1 (h:=by first|exact .l (j:=h-m) w4 hW|exact .r (j:=h-m) w4 hW)));refine aS 0 ?_ (h:=by exact(cU (mk:=Op.load 3) rfl ot (qu (d:=ae (dy t k h t.root m)) (i:=h-m) eo isAgg3 hW (by rw[Yo];rfl))));refine aS 0 ?_ (h:=by exact(dc 5 (h:=by first|exact .l (j:=(dy t k h t.root m).toNat) (Int.toNat_of_nonneg N4.1).symm hj|exact .r (j:=(dy t k h t.root m).toNat) (Int.toNat_of_nonneg N4.1).symm hj)));refine bK ?_;refine cZ [6,12,13,14,15,16,17,18] ?_;refine aS 2 ?_ (h:=by exact(cU (mk:=Op.load 153) rfl ot (cn (k:=2) (ls:=L) (i:=(dy t k h t.root m).toNat) gk rfl rfl rfl isAgg153 sizeOf153 hj)));refine nA 1 ?_;refine zK (Jc p up po.jY w4) (ha:=by exact⟨⟨_,ot,(by rw[←ho];exact uS ⟨eU,lK dP (cu gl _) (fun B hB=>.tail _ (.tail _ (.tail _ (mem_append_left _ hB)))),lK kj (cu eo _) (fun B hB=>.tail _ (.tail _ (.tail _ (mem_append_right _ (mem_append_left _ hB))))),eU,eU,trivial⟩)⟩,⟨_,ot,eU⟩,trivial⟩) (K:=?_);refine bK ?_;refine aD 4 ?_;refine bN (cU (mk:=Op.load 151) rfl ot (lu (k:=2) (j:=1) (d:=aP ak p.keys.length ck) (ls:=L) gk rfl rfl rfl isAgg151 hj rI)) ?_;refine aE 2 ?_;refine ev (cc 0 [_]) [.slice none 0 0] [_] zeroValue88 runUnderlying151 sizeOf88 (fun b89=>?_)
  refine OD.call ap rfl rfl rfl call124 (Z1 p.keys (aL p up) up ak ck sk b89 fO w4 dP) ⟨ot,ot,ot,trivial⟩ (Perm.cons _ (oO (A:=[_,_,_]))) ?_;rintro _ E ⟨I,O,rfl,fy⟩;refine OD.perm (jo (A:=[_,_,_])) ?_;refine aE 2 ?_;refine OD.storeAt (k:=2) (cs':=flatMap gO (L.set (dy t k h t.root m).toNat (⟨{p with keys:=ir p.keys (aL p up) up},I,O,E,ai,ci,si⟩:aB))) ap rfl rfl ot rfl rfl ot rfl rfl sizeOf151 rfl (by show 0+(dy t k h t.root m).toNat*5+1+1≤(flatMap gO L).length;rw[cu gk];omega) (by show(L.flatMap gO).set (0+(dy t k h t.root m).toNat*5+1) _=_;rw[Nat.zero_add];exact v7 gk w7 hj (by rw[←ho];unfold gO;rw[yQ fO];rfl)) ?_;refine an 131 [6,12,13,15,16,17,18] ?_;refine CD.cut (fun aH=>aH=(⟨131,[(6,dM b6),(12,dM vU),(13,.list 1 ((jh t k h t.root).flatMap cI) (jh t k h t.root).length),(15,ae aC),(16,ae ((h:Int)-(m:Nat))),(17,.v (.pointer (some ⟨bx,0+(dy t k h t.root m).toNat*5,none⟩))),(18,ae (((if p.leaf=true then aL p up else aL p up+1):Nat):Int))],(⟨vU,51,2,[aP (some ⟨bx,0,none⟩) L.length cap,ae t.root]⟩::⟨b6,51,2,[bA,ae 0]⟩::⟨bx,153,cap*5,flatMap gO (L.set (dy t k h t.root m).toNat (⟨{p with keys:=ir p.keys (aL p up) up},I,O,E,ai,ci,si⟩:aB))⟩::(E++(si++((L.eraseIdx (dy t k h t.root m).toNat).flatMap bO))))⟩:St)) ?_ ?_
  ·refine cZ [6,12,13,15,16,17,18,97] ?_;refine aS 3 ?_ (h:=by exact(cU (mk:=Op.load 4) rfl ot (lu (k:=2) (j:=0) (d:=bS p.leaf) (ls:=(L.set (dy t k h t.root m).toNat (⟨{p with keys:=ir p.keys (aL p up) up},I,O,E,ai,ci,si⟩:aB))) gk rfl rfl rfl isAgg4 xN (by rw[getElem_set_self];rfl))));refine bK ?_;refine au ?_ ?_<;>intro ez fw
   ·have dG:(((if p.leaf=true then aL p up else aL p up+1):Nat):Int)=(((aL p up):Nat):Int)+1:=(by rw[if_neg (by simpa using ez)];rfl)
    refine cl [6,12,13,15,16,17,18] ?_;exact z87
   have dG:(((if p.leaf=true then aL p up else aL p up+1):Nat):Int)=(((aL p up):Nat):Int):=(by rw[if_pos (by simpa using ez)])
   refine CD.skip ?_;exact z87
  rintro _ ⟨rfl⟩;refine aD 4 ?_;refine bN (cU (mk:=Op.load 67) rfl ot (lu (k:=2) (j:=2) (d:=aP ai p.kids.length ci) (ls:=(L.set (dy t k h t.root m).toNat (⟨{p with keys:=ir p.keys (aL p up) up},I,O,E,ai,ci,si⟩:aB))) gk rfl rfl rfl isAgg67 xN (by rw[getElem_set_self];rfl))) ?_;refine aE 2 ?_;refine ev (cc 0 [_]) [.int .i64 0] [_] zeroValue3 runUnderlying67 sizeOf3 (fun ake=>?_);refine OD.call ap rfl rfl rfl call125 (Z2 p.kids (if p.leaf=true then aL p up else aL p up+1) aC ai ci si ake F1.1 w4 kj) ⟨ot,ot,ot,trivial⟩ (Perm.cons _ (tw (A:=[_,_,_]))) ?_;rintro _ bB ⟨bL,bM,rfl,lH⟩;refine OD.perm (wq (A:=[_,_,_])) ?_;refine aE 2 ?_
  refine OD.storeAt (k:=2) (cs':=flatMap gO (L.set (dy t k h t.root m).toNat (⟨(bC p up aC),I,O,E,bL,bM,bB⟩:aB))) ap rfl rfl ot rfl rfl ot rfl rfl sizeOf67 rfl (by show 0+(dy t k h t.root m).toNat*5+2+1≤(flatMap gO (L.set (dy t k h t.root m).toNat (⟨{p with keys:=ir p.keys (aL p up) up},I,O,E,ai,ci,si⟩:aB))).length;rw[cu gk,length_set];omega) (by show(flatMap gO (L.set (dy t k h t.root m).toNat (⟨{p with keys:=ir p.keys (aL p up) up},I,O,E,ai,ci,si⟩:aB))).set (0+(dy t k h t.root m).toNat*5+2) _=_;rw[Nat.zero_add,v7 gk (a':=(⟨(bC p up aC),I,O,E,bL,bM,bB⟩:aB)) w7 xN (by rw[getElem_set_self];show gO (⟨(bC p up aC),I,O,E,bL,bM,bB⟩:aB)=(gO (⟨{p with keys:=ir p.keys (aL p up) up},I,O,E,ai,ci,si⟩:aB)).set 2 _;unfold gO;rw[show((⟨(bC p up aC),I,O,E,bL,bM,bB⟩:aB)).p.kids.length=p.kids.length+1 from yQ F1.1];rfl),set_set]) ?_;have vK:(E++(bB++((L.eraseIdx (dy t k h t.root m).toNat).flatMap bO))).Perm ((L.set (dy t k h t.root m).toNat (⟨(bC p up aC),I,O,E,bL,bM,bB⟩:aB)).flatMap bO):=(by have:=(qW bO hj (⟨(bC p up aC),I,O,E,bL,bM,bB⟩:aB)).symm;rw[show bO (⟨(bC p up aC),I,O,E,bL,bM,bB⟩:aB)=E++bB from rfl,append_assoc] at this;exact this)
  refine OD.perm (S':=⟨vU,51,2,[aP (some ⟨bx,0,none⟩) (L.set (dy t k h t.root m).toNat (⟨(bC p up aC),I,O,E,bL,bM,bB⟩:aB)).length cap,ae t.root]⟩::⟨b6,51,2,[bA,ae 0]⟩::(([⟨bx,153,cap*5,flatMap gO (L.set (dy t k h t.root m).toNat (⟨(bC p up aC),I,O,E,bL,bM,bB⟩:aB))⟩]:List ah)++(L.set (dy t k h t.root m).toNat (⟨(bC p up aC),I,O,E,bL,bM,bB⟩:aB)).flatMap bO)) (by rw[length_set];exact Perm.cons _ (Perm.cons _ (Perm.cons _ vK))) ?_;have Wc:um (L.set (dy t k h t.root m).toNat (⟨(bC p up aC),I,O,E,bL,bM,bB⟩:aB)) (some ⟨bx,0,none⟩) cap [⟨bx,153,cap*5,flatMap gO (L.set (dy t k h t.root m).toNat (⟨(bC p up aC),I,O,E,bL,bM,bB⟩:aB))⟩]:=bH rH rL;have jW:∀o∈(L.set (dy t k h t.root m).toNat (⟨(bC p up aC),I,O,E,bL,bM,bB⟩:aB)),qT o:=fun x hx=>by rcases mem_or_eq_of_mem_set hx with hx|rfl;exact aR x hx;exact⟨fy,lH⟩
  refine an 131 [6,12,13,16,17] ?_;refine cZ [6,12,13,16,116] ?_;refine aS 3 ?_ (h:=by exact(cU (mk:=Op.load 151) rfl ot (lu (k:=2) (j:=1) (d:=aP I (bC p up aC).keys.length O) (ls:=(L.set (dy t k h t.root m).toNat (⟨(bC p up aC),I,O,E,bL,bM,bB⟩:aB))) gk rfl rfl rfl isAgg151 xN (by rw[getElem_set_self];rfl))));refine bK ?_;refine au ?_ ?_<;>intro fg gB
  ·have h4:(bC p up aC).keys.length≤4:=(by have:=of_decide_eq_true fg;omega)
   refine CD.exit ?_;refine⟨_,aK,(L.set (dy t k h t.root m).toNat (⟨(bC p up aC),I,O,E,bL,bM,bB⟩:aB)),(some ⟨bx,0,none⟩),cap,[⟨bx,153,cap*5,flatMap gO (L.set (dy t k h t.root m).toNat (⟨(bC p up aC),I,O,E,bL,bM,bB⟩:aB))⟩],t.root,Wc,jW,(by rw[aeK hm he (by rw[←gX];exact h4),←gX,map_set];rfl),vF,rfl⟩
  have h4:¬(bC p up aC).keys.length≤4:=(by have:=of_decide_eq_false fg;omega)
  have h5:(bC p up aC).keys.length=5:=(by have:=full.eJ;omega)
  refine dO 2 ?_;refine bN (dc 1 (h:=by first|exact .l (j:=h-m) w4 hW|exact .r (j:=h-m) w4 hW)) ?_;refine bN (cU (mk:=Op.load 3) rfl ot (qu (d:=ae (dy t k h t.root m)) (i:=h-m) eo isAgg3 hW (by rw[Yo];rfl))) ?_;have l8:(L.set (dy t k h t.root m).toNat (⟨(bC p up aC),I,O,E,bL,bM,bB⟩:aB)).length=L.length:=length_set ..;refine OD.call ap rfl rfl rfl call126 (abq (L.set (dy t k h t.root m).toNat (⟨(bC p up aC),I,O,E,bL,bM,bB⟩:aB)) vU t.root (dy t k h t.root m) (some ⟨bx,0,none⟩) cap [⟨bx,153,cap*5,flatMap gO (L.set (dy t k h t.root m).toNat (⟨(bC p up aC),I,O,E,bL,bM,bB⟩:aB))⟩] (by rw[l8];exact N4) (bC p up aC) (by rw[getElem_set_self]) (by rw[l8];omega) Wc jW h5 (fun hl=>by have:=full.leaf hl;omega) (fun hl=>by have:=(full.node hl).1;omega) (fun x hx=>(full.lC x hx).2) full.hlen) ⟨ot,ot,trivial⟩ (Perm.cons _ (perm_append_singleton _ _).symm) ?_;rintro _ _ ⟨rfl,L3,HA,GB,HB,akf,xG,hL3,rfl⟩;refine OD.perm (Perm.cons _ (perm_append_singleton _ _)) ?_;have CM:kG t k row h (m+1)=(⟨L3.map aB.p,t.root⟩,some (jn (bC p up aC),((L.set (dy t k h t.root m).toNat (⟨(bC p up aC),I,O,E,bL,bM,bB⟩:aB)).length:Int))):=(by rw[ac1 hm he (by rw[←gX];exact h4),←gX,hL3,l8];unfold ju;show(({ag:=(map aB.p L).set _ _++_,root:=t.root}:aF),_)=_;rw[map_set,set_set,length_map])
  refine an 131 [6,12,13,14,15,16] ?_;refine cl [6,12,13,14,15,16] ?_;refine⟨((m+1),(jn (bC p up aC)),((L.set (dy t k h t.root m).toNat (⟨(bC p up aC),I,O,E,bL,bM,bB⟩:aB)).length:Int),L3,HA,GB,HB),_,cz,aK,w4,CM,akf,xG,rfl⟩
 rintro _ ⟨L,ad,cap,Sx,root,dY,aR,GD,pD,rfl⟩;refine af [6,12,128] ?_;refine au ?_ ?_<;>intro gY kS
 ·refine aD 1 ?_;refine aN 1 [_,_] sizeOf51 ?_;refine an 131 [6,7] ?_;refine aJ [] ?_;unfold oY;rw[if_pos hz,if_neg w4,if_neg xR,if_pos (by rw[GD];show 4000<(L.map aB.p).length;rw[length_map];omega)];exact y7 _
 refine aD 1 ?_;refine aN 1 [_,_] sizeOf51 ?_;refine an 131 [6,7] ?_;refine aJ (Sx++L.flatMap bO) ?_;unfold oY;rw[if_pos hz,if_neg w4,if_neg xR,if_neg (by rw[GD];show ¬4000<(L.map aB.p).length;rw[length_map];omega)];exact⟨_,rfl,L,ad,cap,Sx,by rw[GD],dY,aR,by rw[GD],rfl⟩
theorem abr(t:aF)(h:Nat)(k:K)(row:Int)(hb:∀p∈t.ag,p.keys.length≤maxLen∧p.kids.length≤maxLen)(E:gG t=0→Valid t h):VP Tryz.prog G 84 [.agg (cT t),av 1 cB k,ae row] (.dJ [.agg (cT (oY t k row h).1),ae (oY t k row h).2]):=(IJ t h k row hb E).cover fun r S hr=>hr.view

end Go.Proofs.YtdgichenhdikgaaGreatDoor.Tw
namespace Go.Proofs.YtdgichenhdikgaaGreatDoor.Tr
open List
open Go.Proofs.Tryz
open Go.Lib (compareBytes)
variable {t:aF} {h:Nat} {k:K}
variable {n:Nat}
theorem Ry(hp:∀p∈t.ag,eH p t.ag.length):∀{h h':Nat} {i:Int} {a b c d:K},dZ t h i a b→dZ t h' i c d→h=h'
 | 0,0,_,_,_,_,_,_,_=>rfl
 | 0,h'+1,i,_,_,_,_,h1,h2=>by have:=h1.2.1;rw[h2.2.1] at this;cases this
 | h+1,0,i,_,_,_,_,h1,h2=>by have:=h1.2.1;rw[h2.2.1] at this;cases this
 | h+1,h'+1,i,_,_,_,_,h1,h2=>by
  obtain⟨p1,p2,p3,O,E⟩:=h1;obtain⟨q1,q2,U,Z,I⟩:=h2;have hn:=((hp _ (jE p1)).node p2).1;have:=Ry hp (E 0 w4) (I 0 w4);rw[this]
noncomputable def dL(t:aF):Nat:=Classical.epsilon fun h=>Valid t h
theorem EA(v:Valid t h):Valid t (dL t):=Classical.epsilon_spec (p:=fun h=>Valid t h) ⟨h,v⟩
theorem Ko(v:Valid t h):dL t=h:=Ry v.fD (EA v).ok v.ok
noncomputable def eB(t:aF):List (K×Int):=kY t (dL t)
theorem JV(hp:∀p∈t.ag,eH p t.ag.length):∀{h:Nat} {i:Int} {a b:K},dZ t h i a b→2 ^ h≤(ids t h i).length
 | 0,i,_,_,_=>by simp[ids]
 | h+1,i,_,_,ok=>by
  obtain⟨p1,p2,p3,U,E⟩:=ok;have hn:=(hp _ (jE p1)).node p2;have hk:1≤(t.pg i).keys.length:=by
   have:=hn.2;cases lF:(t.pg i).keys with
   | nil=>exact absurd lF this
   | cons _ _=>simp
  have h0:=JV hp (E 0 w4);have h1:=JV hp (E 1 w4);have key:∀(l:List Int) (h2:2≤l.length),2 ^ h≤(ids t h (l[0]'w4)).length→2 ^ h≤(ids t h (l[1]'w4)).length→2 ^ h+2 ^ h≤(l.flatMap (ids t h)).length:=by
   intro l h2 I O;match l,h2 with
   | x::y::r,_ =>
    simp only[flatMap_cons,length_append];simp only[getElem_cons_zero,getElem_cons_succ] at I O;omega
  have:=key _ w4 h0 h1;rw[ids,length_cons,Nat.pow_succ];omega
theorem aeL(v:Valid t h):h≤11:=by
 have h1:=JV v.fD v.ok;rw[v.all] at h1;have h2:=v.nN;refine Nat.le_of_not_lt fun h3=>?_;have:2 ^ 12≤2 ^ h:=Nat.pow_le_pow_right w7 h3;omega
structure iM (t:aF) (n:Nat):Prop where
 val:Valid t (dL t)
 eJ:t.ag.length≤1+13*n
theorem iM.mono{m:Nat}(g:iM t n)(h:n≤m):iM t m:=⟨g.val,by have:=g.eJ;omega⟩
theorem ac2:iM pW 0:=⟨EA PP,by decide⟩
theorem ac3:eB pW=[]:=by unfold eB;rw[Ko PP];exact acI
theorem EV{row:Int}(g:iM t n)(hn:n≤300)(lg:∀x∈eB t,x.1≠k)(hk:1≤k.length∧k.length≤100)(hr:0≤row) :
  iM (gK t (dL t) k row) (n+1)∧(gK t (dL t) k row).ag.length≤4000∧∀x,x∈eB (gK t (dL t) k row)↔x=(k,row)∨x∈eB t:=by
 have E:=aeL g.val;have hf:=g.eJ;obtain⟨h',_,v,⟨_,hm⟩,he⟩:=aa0 g.val lg hk hr w4;refine⟨⟨EA v,by omega⟩,v.nN,fun x=>?_⟩;unfold eB;rw[Ko v];exact he x
theorem Je(g:iM t n)(ht:BF t k (dL t)):iM (gL t (dL t) k) n∧∀x,x∈eB (gL t (dL t) k)↔x∈eB t∧x.1≠k:=by
 obtain⟨v,hl,he⟩:=aa1 g.val ht;refine⟨⟨EA v,by have:=g.eJ;omega⟩,fun x=>?_⟩;unfold eB;rw[Ko v];exact he x

end Go.Proofs.YtdgichenhdikgaaGreatDoor.Tr
namespace Go.Proofs.YtdgichenhdikgaaGreatDoor.Tw
open List
open Go.Proofs.Tryz
open Go.RowKit V Tr Pk
open Go.Lib (compareBytes)
variable {k:K} {t:aF} {n:Nat} {row:Int}
theorem aeM(h:1≤k.length∧k.length≤100):oB k=true:=decide_eq_true h
theorem BG(g:iM t n)(hk:1≤k.length∧k.length≤100):lD t k=0:=Jp (Jb g.val) (aeM hk)
theorem Be(g:iM t n)(k:K):iA t k (dL t)=true↔∃row,(k,row)∈eB t:=(Ei g.val k).trans (Bc g.val k)
theorem EW(g:iM t n):iA t k (dL t)=false↔∀x∈eB t,x.1≠k:=by
 constructor
 ·exact fun h=>P2 g.val h
 intro h;cases hq:iA t k (dL t) with
 | false=>rfl
 | true=>obtain⟨row,hr⟩:=(Be g k).1 hq;exact absurd rfl (h _ hr)
theorem aeN(g:iM t n)(hk:1≤k.length∧k.length≤100)(hr:0≤row)(h:iA t k (dL t)=true):oY t k row (dL t)=(vT,9):=by
 unfold oY;rw[if_pos (BG g hk),if_neg w4,if_pos h]
theorem Uv(g:iM t n)(hn:n≤300)(hk:1≤k.length∧k.length≤100)(hr:0≤row)(h:iA t k (dL t)=false):oY t k row (dL t)=(gK t (dL t) k row,0):=by
 have:=(EV g hn ((EW g).1 h) hk hr).2.1;unfold oY;rw[if_pos (BG g hk),if_neg w4,if_neg (by rw[h];decide),if_neg w4]
theorem Tv(g:iM t n)(hk:1≤k.length∧k.length≤100)(h:iA t k (dL t)=true):rq t k (dL t)=(gL t (dL t) k,0):=by
 unfold rq;rw[if_pos (BG g hk),if_pos h]
theorem aeO(g:iM t n)(hk:1≤k.length∧k.length≤100)(h:iA t k (dL t)=false):findF t k (dL t)=(0,8):=by
 unfold findF;rw[if_pos (BG g hk),if_neg (by rw[h];decide)]
theorem Rz(g:iM t n)(hk:1≤k.length∧k.length≤100)(h:(k,row)∈eB t):findF t k (dL t)=(row,0):=by
 unfold findF ec;rw[if_pos (BG g hk),if_pos ((Be g k).2 ⟨row,h⟩)];obtain⟨_,_,e⟩:=(found g.val k row).1 h;rw[e]
theorem Bx(g:iM t n):∀p∈t.ag,p.keys.length≤maxLen∧p.kids.length≤maxLen:=acS g.val
variable {G:List (Nat×List Value)}
theorem RA(g:iM t n)(k:K)(row:Int):VP Tryz.prog G 84 [.agg (cT t),av 1 cB k,ae row] (.dJ [.agg (cT (oY t k row (dL t)).1),ae (oY t k row (dL t)).2]):=abr t (dL t) k row (Bx g) fun _=>g.val
theorem RB(g:iM t n)(k:K):VP Tryz.prog G 90 [.agg (cT t),av 1 cB k] (.dJ [.agg (cT (rq t k (dL t)).1),ae (rq t k (dL t)).2]):=abn t (dL t) k (Bx g) fun _=>g.val
theorem Kp(g:iM t n)(k:K):VP Tryz.prog G 65 [.agg (cT t),av 1 cB k] (.dJ [ae (findF t k (dL t)).1,ae (findF t k (dL t)).2]):=aga t (dL t) k (Bx g) fun _=>g.val
theorem aeP(g:iM t n):VP Tryz.prog G 49 [.agg (cT t)] (ae 0):=by have:=pH (G:=G) t (Bx g);rwa [Jb g.val] at this
noncomputable def oV(t:aF)(f eX:K):List (K×Int):=wY t (dL t) f eX
theorem Uw(g:iM t n)(f eX:K)(hf:f.length≤100)(ht:eX.length≤100):VP Tryz.prog G 30 [.agg (cT t),av 1 cB f,av 1 cB eX] (.dJ [.list 2 ((oV t f eX).flatMap cE) (oV t f eX).length,ae 0]):=by
 have:=aeI (G:=G) t (dL t) (Bx g) (fun _=>g.val) f eX;unfold wR at this;rwa [if_pos (Jb g.val),if_pos ⟨hf,ht⟩] at this
theorem EX(t:aF):oV t [] []=eB t:=by
 unfold oV wY eB;rw[acU,IG fun x _=>by simp[va]]
theorem Ty(g:iM t n):VP Tryz.prog G 30 [.agg (cT t),bA,bA] (.dJ [.list 2 ((oV t [] []).flatMap cE) (oV t [] []).length,ae 0]):=VC.eX (args':=[.agg (cT t),bA,bA]) (Uw g [] [] w7 w7) ⟨.inl rfl,.inr ⟨1,rfl,rfl⟩,.inr ⟨1,rfl,rfl⟩,trivial⟩

end Go.Proofs.YtdgichenhdikgaaGreatDoor.Tw
namespace Go.Proofs.YtdgichenhdikgaaGreatDoor.Ba
open List
open Go.Proofs.Tryz
open Go.RowKit V Pk Tr Vl Go.Proofs.YtdgichenhdikgaaGreatDoor.Nm Pc Cd Ex Tw
structure aM where
 nm:ByteArray
 az:List cG
 rows:List (List Vl)
 ix:aF
def gp(r:List Vl):List D:=[av 3 cV r]
theorem jq(r:List Vl):(gp r).length=1:=rfl
theorem RC(r:List Vl):(gp r).all V.one=true:=rfl
def c8(t:aM):List D:=[bn t.nm,av 2 cC t.az,av 1 gp t.rows,av 5 cP t.ix.ag,ae t.ix.root]
theorem jf(t:aM):(c8 t).length=5:=rfl
def aT(b:List aM)(nm:ByteArray):Int:=dR (fun t=>t.nm.toList==nm.toList) b
def c9(r:List Vl):K:=(fX (r.take 1)).1
variable {G:List (Nat×List Value)}
theorem ac4(t:aM)(nm:ByteArray)(b:Nat):VC Tryz.prog G 48 [.agg (c8 t),dM b] [⟨b,9,1,[bn nm]⟩] (fun r S=>r=bS (t.nm.toList==nm.toList)∧S=[⟨b,9,1,[bn nm]⟩]):=by
 refine VC.body func48 rfl ntmps48 aQ fun X0 w0 bg=>?_;unfold c8;refine bY ?_;refine OD.box (ds:=[_,_,_,_,_]) ap rfl rfl ot rfl rfl (fun b2=>?_);refine an 8 [1,2] ?_;refine af [3] ?_;refine aJ [⟨b,9,1,[bn nm]⟩] ?_;exact⟨rfl,rfl⟩
theorem abt(ls:List aM)(I:Nat)(E:List D)(S:List ah)(p:aM→Bool)(fq:∀args w,(callFunc I args).run Tryz.prog w = .ok (.enter I args) w)(hp:∀x∈ls,VC Tryz.prog G I (.agg (c8 x)::E) S (fun r S'=>r=bS (p x)∧S'=S))(hlen:ls.length≤1000000):VC Tryz.prog G 47 [av 5 c8 ls,.eC (.func I) E] S (fun r S'=>r=ae (dR p ls)∧S'=S):=by
 refine VC.body func47 rfl ntmps47 aQ fun X0 w0 bg=>?_;refine aD 1 ?_;refine OD.wk (Wk.dS (n:=19) (l':=[(0,_),(1,_)]) (S':=S) rfl mQ fm) ?_;refine OD.nil ?_;refine aD 3 ?_;refine OD.wk (Wk.dS (n:=19) (l':=[(0,_),(1,_),(7,_),(8,_)]) (S':=S) rfl mQ fm) ?_;refine OD.nil ?_;refine eD [0,1,7] (fun aW _ (k:Nat) aH=>(k≤ls.length)∧(∀x∈ls.take k,p x=false)∧aH=(⟨19,(8,ae (k:Nat))::aW,S⟩:St)) (fun (k:Nat)=>ls.length-k) 0 ⟨Nat.zero_le _,bq,rfl⟩ ?_;rintro k _ ⟨hk,h0,rfl⟩;refine aD 1 ?_;refine OD.wk (Wk.dS (n:=19) (l':=[(0,_),(1,_),(7,_),(8,_),(9,_)]) (S':=S) rfl mQ fm) ?_;refine OD.nil ?_;refine au ?_ ?_<;>intro aO bE
 ·refine aD 2 ?_;refine OD.wk (Wk.dS (n:=19) (l':=[(0,_),(1,_),(5,_),(7,_),(8,_)]) (S':=S) rfl mQ fm) ?_;refine OD.nil ?_;refine aD 5 ?_;refine OD.kz (f:=I) (args:=[_]) ap rfl rfl (tJ rfl lk) fq (hp (ls[k]'w4) (getElem_mem _)) rfl ⟨tJ rfl lk,trivial⟩ (IS _) ?_;rintro _ S2 ⟨rfl,iF⟩;rw[iF];clear iF;refine OD.wk (Wk.dS (n:=19) (l':=[(0,_),(1,_),(5,_),(7,_),(8,_),(16,_)]) (S':=S) rfl mQ fm) ?_;refine OD.nil ?_;refine au ?_ ?_<;>intro aY cJ
  ·refine aD 2 ?_;refine OD.wk (Wk.dS (n:=19) (l':=[(4,_)]) (S':=S) rfl mQ fm) ?_;refine OD.nil ?_;refine aJ S ?_;refine⟨?_,rfl⟩;first|(rw[wj w4 h0 uf])|(rw[v8 w4 h0])
  refine dO 2 ?_;refine OD.wk (Wk.dS (n:=19) (l':=[(0,_),(1,_),(7,_),(8,_)]) (S':=S) rfl mQ fm) ?_;refine OD.nil ?_;refine⟨k+1,_,cz,aK,w4,(by rw[take_succ_eq_append_getElem w4];intro x hx;rcases mem_append.1 hx with hx|hx;exact h0 x hx;simp only[mem_singleton] at hx;subst hx;assumption),rfl⟩
 refine aD 1 ?_;refine OD.wk (Wk.dS (n:=19) (l':=[(4,_)]) (S':=S) rfl mQ fm) ?_;refine OD.nil ?_;refine aJ S ?_;refine⟨?_,rfl⟩;first|(rw[wj w4 h0 uf])|(rw[v8 w4 h0])
theorem qt(l:List aM)(hl:l.length≤1000)(nm:ByteArray):VP Tryz.prog G 29 [av 5 c8 (l),bn nm] (ae (aT l nm)):=by
 refine VC.body func29 rfl ntmps29 aQ fun X0 w0 bg=>?_;refine bY ?_;refine OD.box (ds:=[_]) ap rfl rfl ot rfl rfl (fun b3=>?_);refine an 8 [0,3] ?_;refine aD 1 ?_;refine bN (pG (ds:=[_]) rfl ⟨ot,trivial⟩) ?_;refine OD.call ap rfl rfl rfl call47 (abt l 48 [dM b3] _ (fun t=>t.nm.toList==nm.toList) call48 (fun h _=>ac4 h nm b3) w4) ⟨ot,ot,trivial⟩ (kr (k:=0) rfl) ?_;rintro _ S2 ⟨rfl,iF⟩;rw[iF];clear iF;refine an 8 [4] ?_;exact nw
theorem ac5(c:cG)(nm:ByteArray)(b:Nat):VC Tryz.prog G 127 [.agg (cC c),dM b] [⟨b,9,1,[bn nm]⟩] (fun r S=>r=bS (c.n.toList==nm.toList)∧S=[⟨b,9,1,[bn nm]⟩]):=by
 refine VC.body func127 rfl ntmps127 aQ fun X0 w0 bg=>?_;exact Xc
theorem IK(t:aM)(hl:t.az.length≤1000)(nm:ByteArray):VP Tryz.prog G 85 [.agg (c8 t),bn nm] (ae (bD t.az nm)):=by
 refine VC.body func85 rfl ntmps85 aQ fun X0 w0 bg=>?_;unfold c8;refine bY ?_;refine OD.box (ds:=[_,_,_,_,_]) ap rfl rfl ot rfl rfl (fun b2=>?_);refine OD.box (ds:=[_]) ap rfl rfl ot rfl rfl (fun b3=>?_);refine an 9 [2,3] ?_;refine aD 2 ?_;refine bN (pG (ds:=[_]) rfl ⟨ot,trivial⟩) ?_;refine OD.call ap rfl rfl rfl call106 (Pc.I0 t.az 127 [dM b3] _ (fun c=>c.n.toList==nm.toList) call127 (fun h _=>ac5 h nm b3) w4) ⟨ot,ot,trivial⟩ (kr (k:=0) rfl) ?_;rintro _ S2 ⟨rfl,iF⟩;rw[iF];clear iF;refine an 9 [4] ?_;exact nw

end Go.Proofs.YtdgichenhdikgaaGreatDoor.Ba
namespace Go.Proofs.YtdgichenhdikgaaGreatDoor.Ba
open List
open Go.Proofs.Tryz
open Go.RowKit V Pk Tr Vl Go.Proofs.YtdgichenhdikgaaGreatDoor.Nm Pc Cd Ex Tw
variable {G:List (Nat×List Value)} {m:Int}
variable {S:List ah} {t:aM} {n:Nat} {p:List Int×Int}
def CB(k:K)(r:D)(S:List ah):Prop:=∃ad cap,r=aP ad k.length cap∧bp 5 1 (k.flatMap cB) k.length ad cap S
theorem CB.view{k:K}{r:D}(h:CB k r S):View S r (av 1 cB k):=by
 obtain⟨ad,cap,rfl,ho⟩:=h;exact lK ho (cu pL _) (fun B h=>h)
theorem CB.flat{k:K}{r:D}(h:CB k r S):kQ r=true∧∀B∈S,∀d∈B.cs,kQ d=true:=by
 obtain⟨ad,cap,rfl,ho⟩:=h;refine⟨rfl,fun B E d hd=>?_⟩;rcases ho with ⟨_,_,_,_,rfl⟩|⟨b,_,_,_,rfl⟩
 ·cases E
 rw[mem_singleton] at E;subst E;obtain⟨n,_,hn⟩:=mem_flatMap.1 hd;rw[cB,mem_singleton] at hn;subst hn;rfl
theorem Kq(hG:(2,[Value.int .i64 m])∈G)(r:List Vl)(h1:1≤r.length)(h2:r.length≤1000000)(aR:∀v∈r,v.Ok):VC Tryz.prog G 66 [av 3 cV r] [] (CB (c9 r)):=by
 refine VC.body func66 rfl ntmps66 aQ fun X0 w0 bg=>?_;have dz:=ei;refine af [0] ?_;refine aD 1 ?_;refine bN (eA (h:=1) rfl ot trivial ⟨_,bP⟩ (by exact oP eS (fun h=>by cases h) runUnderlying28 sizeOf41 w4)) ?_;refine OD.call ap rfl rfl rfl call111 (Uf hG (r.take 1) o9 (fun v U=>aR v (mem_of_mem_take U))) ⟨ot,trivial⟩ (eR _) ?_;rintro _ O ⟨E,I,rfl,jW⟩;refine OD.perm (Perm.of_eq (append_nil O)) ?_;refine an 12 [3] ?_;refine af [2] ?_;refine aJ O ?_;exact⟨E,I,rfl,jW⟩
theorem ze(hG:(2,[Value.int .i64 m])∈G)(r:List Vl)(h1:1≤r.length)(h2:r.length≤1000000)(aR:∀v∈r,v.Ok):VP Tryz.prog G 66 [av 3 cV r] (.list 1 ((c9 r).flatMap cB) (c9 r).length):=(Kq hG r h1 h2 aR).cover fun r S hr=>hr.view
theorem Z3:(Tryz.prog.info? 41).map (fun i=>(i.zero,i.size,i.bytes))=some (some (.agg #[.int .i64 0,.int .i64 0,.string ⟨#[]⟩]),3,32):=by kernel_rfl
theorem P3(a:List Vl)(ha:a.length≤1000000):VC Tryz.prog G 31 [av 3 cV a] [] (fun r S=>∃ad cap,r=aP ad a.length cap∧bp 41 3 (a.flatMap cV) a.length ad cap S):=by
 refine VC.body func31 rfl ntmps31 aQ fun X0 w0 bg=>?_;have dz:=ei;refine af [0] ?_;refine aD 1 ?_;refine OD.zm ap rfl rfl ot bP underlying28 (fun O xY=>?_);refine an 8 [0,4] ?_;refine au ?_ ?_<;>intro aO bE
 ·exact G3
 refine bY ?_;refine OD.zn ap rfl rfl runUnderlying28 sizeOf41 (fun b5=>?_);refine aE 1 ?_;refine OD.pF (ls:=([]:List Vl)) (new:=a) (Sq:=[⟨b5,41,0*3,[]⟩]) eS BA ap rfl rfl underlying28 Z3 rfl w7 runUnderlying28 sizeOf41 ot (.inr ⟨b5,rfl,Nat.le_refl _,Nat.zero_le _,rfl⟩) (dg (A:=[])) ot iu iu (fun E I S7 qa=>?_);exact G5
theorem P4(a:List Vl)(ha:a.length≤1000000):VP Tryz.prog G 31 [av 3 cV a] (av 3 cV a):=(P3 a ha).cover fun r S ⟨ad,cap,h,ho⟩=>by subst h;exact lK ho (cu eS _) (fun B h=>h)
theorem Z4:(Tryz.prog.info? 69).map (fun i=>(i.zero,i.size,i.bytes))=some (some (.agg #[.string ⟨#[]⟩,.int .i64 0]),2,24):=by kernel_rfl
theorem abu(a:List cG)(ha:a.length≤1000000):VC Tryz.prog G 81 [av 2 cC a] [] (fun r S=>∃ad cap,r=aP ad a.length cap∧bp 69 2 (a.flatMap cC) a.length ad cap S):=by
 refine VC.body func81 rfl ntmps81 aQ fun X0 w0 bg=>?_;have dz:=ei;refine af [0] ?_;refine aD 1 ?_;refine OD.zm ap rfl rfl ot bP underlying27 (fun O xY=>?_);refine an 8 [0,4] ?_;refine au ?_ ?_<;>intro aO bE
 ·exact G3
 refine bY ?_;refine OD.zn ap rfl rfl runUnderlying27 sizeOf69 (fun b5=>?_);refine aE 1 ?_;refine OD.pF (ls:=([]:List cG)) (new:=a) (Sq:=[⟨b5,69,0*2,[]⟩]) jS afR ap rfl rfl underlying27 Z4 rfl w7 runUnderlying27 sizeOf69 ot (.inr ⟨b5,rfl,Nat.le_refl _,Nat.zero_le _,rfl⟩) (dg (A:=[])) ot iu iu (fun E I S7 qa=>?_);exact G5
theorem P5(a:List cG)(ha:a.length≤1000000):VP Tryz.prog G 81 [av 2 cC a] (av 2 cC a):=(abu a ha).cover fun r S ⟨ad,cap,h,ho⟩=>by subst h;exact lK ho (cu jS _) (fun B h=>h)
theorem abv(a:List Int)(ha:a.length≤1000000):VP Tryz.prog G 120 [av 1 Tw.cI a] (av 1 Tw.cI a):=(Tw.nZ a ha).cover fun r S ⟨ad,cap,h,ho⟩=>by subst h;exact lK ho (cu Tw.eo _) (fun B h=>h)

structure cj where
 r:List Vl
 ad:Option Addr
 cap:Nat
 S:List ah
def gR(o:cj):List D:=[aP o.ad o.r.length o.cap]
theorem u5(o:cj):(gR o).length=1:=rfl
theorem Ux(o:cj):(gR o).all V.one=true:=rfl
def bR(o:cj):List ah:=o.S
def nW(o:cj):Prop:=bp 41 3 (o.r.flatMap cV) o.r.length o.ad o.cap o.S
theorem Fk{S:List ah}:∀{L:List cj},(∀o∈L,nW o)→(∀B∈L.flatMap bR,B∈S)→gH S (L.flatMap gR) ((L.map cj.r).flatMap gp)
 | [],_,_=>trivial
 | o::L,h,hs=>by
  rw[map_cons,flatMap_cons,flatMap_cons];refine gH.append ⟨lK (h o mem_cons_self) (cu eS _) (fun B E=>hs B ?_),trivial⟩ (Fk (fun o ho=>h o (mem_cons_of_mem _ ho)) fun B E=>hs B ?_)
  ·rw[flatMap_cons];exact mem_append_left _ E
  rw[flatMap_cons];exact mem_append_right _ E
abbrev sQ(L:List cj)(ad:Option Addr)(cap:Nat)(S:List ah):Prop:=bp 28 1 (L.flatMap gR) L.length ad cap S
structure aU where
 t:aM
 cs:List D
 ad:Option Addr
 cap:Nat
 sr:List ah
 sx:List ah
variable {o:aU}
def gT(o:aU):List D:=[bn o.t.nm,av 2 cC o.t.az,aP o.ad o.t.rows.length o.cap,av 5 cP o.t.ix.ag,ae o.t.ix.root]
theorem uY(o:aU):(gT o).length=5:=rfl
theorem Uy(o:aU):(gT o).all V.one=true:=rfl
def bT(o:aU):List ah:=o.sr++o.sx
structure okW (o:aU):Prop where
 own:bp 28 1 o.cs o.t.rows.length o.ad o.cap o.sr
 ahJ:∀S:List ah,(∀B∈o.sx,B∈S)→gH S o.cs (o.t.rows.flatMap gp)
def qj(o:aU):Prop:=∃L:List cj,o.cs=L.flatMap gR∧o.sx=L.flatMap bR∧(∀x∈L,nW x)∧L.map cj.r=o.t.rows∧sQ L o.ad o.cap o.sr
theorem qj.w(h:qj o):okW o:=by
 obtain⟨L,h1,h2,h3,h4,h5⟩:=h;refine⟨?_,fun S hS=>?_⟩
 ·rw[h1,←h4,length_map];exact h5
 rw[h1,←h4];exact Fk h3 (by rw[←h2];exact hS)
theorem P6(h:okW o)(hs:∀B∈bT o,B∈S):View S (aP o.ad o.t.rows.length o.cap) (av 1 gp o.t.rows) :=
 A6 h.own (h.ahJ S fun B E=>hs B (mem_append_right _ E)) (cu jq _) (fun B E=>hs B (mem_append_left _ E))
theorem Tz(h:okW o)(hs:∀B∈bT o,B∈S):View S (.agg (gT o)) (.agg (c8 o.t)):=uS ⟨eU,eU,P6 h hs,eU,eU,trivial⟩
theorem TA{S:List ah}:∀{L:List aU},(∀o∈L,okW o)→(∀B∈L.flatMap bT,B∈S)→gH S (L.flatMap gT) ((L.map aU.t).flatMap c8)
 | [],_,_=>trivial
 | o::L,h,hs=>by
  rw[map_cons,flatMap_cons,flatMap_cons];refine gH.append ⟨eU,eU,P6 (h o mem_cons_self) (fun B E=>hs B ?_),eU,eU,trivial⟩ (TA (fun o ho=>h o (mem_cons_of_mem _ ho)) fun B E=>hs B ?_)
  ·rw[flatMap_cons];exact mem_append_left _ E
  rw[flatMap_cons];exact mem_append_right _ E
abbrev xH(L:List aU)(ad:Option Addr)(cap:Nat)(S:List ah):Prop:=bp 53 5 (L.flatMap gT) L.length ad cap S
theorem FF{Sx:List ah}{L:List aU}{ad:Option Addr}{cap:Nat}(ho:xH L ad cap Sx)(h:∀o∈L,okW o)(hs:∀B∈Sx++L.flatMap bT,B∈S):View S (aP ad L.length cap) (.list 5 ((L.map aU.t).flatMap c8) L.length) :=
 A6 ho (TA h fun B E=>hs B (mem_append_right _ E)) (by rw[cu jf,length_map]) (fun B E=>hs B (mem_append_left _ E))
def ahK(t:aM)(r:D)(S:List ah):Prop:=∃o:aU,o.t=t∧r = .agg (gT o)∧qj o∧S=bT o
def KU(l:List aM)(r:D)(S:List ah):Prop:=∃(L:List aU) (ad:Option Addr) (cap:Nat) (Sx:List ah),r = .agg [aP ad L.length cap]∧xH L ad cap Sx∧(∀o∈L,qj o)∧L.map aU.t=l∧S=Sx++L.flatMap bT
theorem KU.view{l:List aM}{r:D}(h:KU l r S):View S r (.agg [av 5 c8 l]):=by
 obtain⟨L,ad,cap,Sx,rfl,ho,aR,rfl,rfl⟩:=h;first|rw[length_map]|(show View _ _ (.list _ _ (length _));rw[length_map])|(show View _ _ (.agg [.list _ _ (length _)]);rw[length_map])
 exact uS ⟨FF ho (fun o h=>(aR o h).w) (fun B h=>h),trivial⟩
theorem TB(L:List cj)(o:cj):(L++[o]).flatMap bR=L.flatMap bR++bR o:=by simp
theorem TC(L:List aU)(o:aU):(L++[o]).flatMap bT=L.flatMap bT++bT o:=by simp
theorem Z5:(Tryz.prog.info? 88).map (fun i=>(i.zero,i.size,i.bytes))=some (some (.slice none 0 0),1,24):=by kernel_rfl
theorem Zv:(Tryz.prog.info? 153).map (fun i=>(i.zero,i.size,i.bytes))=some (some (.agg #[.bool false,.slice none 0 0,.slice none 0 0,.slice none 0 0,.int .i64 0]),5,88):=by kernel_rfl
theorem Z6(t:aF)(h:Nat)(v:Valid t h):VC Tryz.prog G 82 [.agg (cT t)] [] (fun r S=>∃ad cap,r = .agg [aP ad t.ag.length cap,ae t.root]∧bp 153 5 (t.ag.flatMap cP) t.ag.length ad cap S):=by
 refine VC.body func82 rfl ntmps82 aQ fun X0 w0 bg=>?_;unfold Tw.cT;have dz:=ei;have NN:=v.nN;refine bY ?_;refine OD.box (ds:=[_,_]) ap rfl rfl ot rfl rfl (fun b1=>?_);refine OD.alloc (ds:=[_,_]) ap rfl rfl zeroValue51 rfl (fun b2=>?_);refine an 53 [1,2] ?_;refine aD 3 ?_;refine OD.alloc (ds:=[_,_]) ap rfl rfl zeroValue51 rfl (fun b3=>?_);refine aN 0 [_,_] sizeOf51 ?_;refine an 53 [1,2,3] ?_;refine bY ?_;refine bf [2,3,13,14,15] ?_;refine eD [2,3,13,14] (fun aW _ (E:Nat×List de×Option Addr×Nat×List ah) aH=>match E with|(i,L,dr,cY,Sx)=>(i≤t.ag.length)∧(L=t.ag.take i)∧(bp 153 5 ((L).flatMap cP) (L).length dr cY Sx)∧aH=(⟨53,(15,ae (i:Nat))::aW,(⟨b3,51,2,[aP dr (L).length cY,ae t.root]⟩::⟨b2,51,2,[bA,ae 0]⟩::Sx)⟩:St)) (fun (E:Nat×List de×Option Addr×Nat×List ah)=>match E with|(i,L,dr,cY,Sx)=>t.ag.length-i) (0,([]:List de),none,0,[]) ⟨(Nat.zero_le _),rfl,(bp.cast ik jN),rfl⟩ ?_;rintro⟨i,L,dr,cY,Sx⟩ _ ⟨hi,hL,dY,rfl⟩;refine af [2,3,13,14,15,16] ?_;refine au ?_ ?_<;>intro aO bE
 ·have aa:i<t.ag.length:=(by omega)
  have rV:L.length=i:=(by rw[hL,length_take];omega)
  have po:=v.fD _ (getElem_mem aa);have mO:=po.eJ;have Yh:=po.hlen;have F1:(t.ag[i]'aa).kids.length≤6:=by
      exact Xm
  refine aD 2 ?_;refine OD.alloc (ds:=[_,_,_,_,_]) ap rfl rfl zeroValue153 rfl (fun b5=>?_);refine aN 0 [_,_,_,_,_] sizeOf153 ?_;refine an 53 [2,3,5,13,14,15] ?_;refine CD.seq ?_;refine uA 12 11 [2,3,5,6,13,14,15,29] ?_;refine di (abv (t.ag[i]'aa).kids w4) ?_;refine di (j7 (t.ag[i]'aa).high w4) ?_;refine nA 3 ?_;refine rP ?_;refine jZ ?_;refine⟨rfl,fun b6=>?_⟩;refine aN 0 [_,_,_,_,_] sizeOf153 ?_;refine an 53 [2,3,5,6,13,14,15] ?_;refine bY ?_;refine bf [2,3,6,13,14,15,31,32,33] ?_
  refine eD [2,3,6,13,14,15,31,32] (fun aW _ (E:Nat×List K×Option Addr×Nat×List ah×Option Addr×Nat×List ah) aH=>match E with|(j,M,gD,gE,Sy,dr,cY,Sx)=>(j≤(t.ag[i]'aa).keys.length)∧(M=(t.ag[i]'aa).keys.take j)∧(bp 88 1 ((M).flatMap Tw.cK) (M).length gD gE Sy)∧(bp 153 5 ((L).flatMap cP) (L).length dr cY Sx)∧aH=(⟨53,(33,ae (j:Nat))::aW,(⟨b6,153,5,[bS (t.ag[i]'aa).leaf,aP gD (M).length gE,.list 1 ((t.ag[i]'aa).kids.flatMap Tw.cI) (t.ag[i]'aa).kids.length,.list 1 ((t.ag[i]'aa).high.flatMap cB) (t.ag[i]'aa).high.length,ae (t.ag[i]'aa).next]⟩::⟨b3,51,2,[aP dr L.length cY,ae t.root]⟩::⟨b2,51,2,[bA,ae 0]⟩::(Sy++Sx))⟩:St)) (fun (E:Nat×List K×Option Addr×Nat×List ah×Option Addr×Nat×List ah)=>match E with|(j,M,gD,gE,Sy,dr,cY,Sx)=>(t.ag[i]'aa).keys.length-j) (0,([]:List K),none,0,[],dr,cY,Sx) ⟨(Nat.zero_le _),rfl,(bp.cast ik jN),(bp.cast dY jN),rfl⟩ ?_;rintro⟨j,M,gD,gE,Sy,dr,cY,Sx⟩ _ ⟨hj,hM,vV,dY,rfl⟩;refine af [2,3,6,13,14,15,31,32,33,34] ?_;refine au ?_ ?_<;>intro aY cJ
  ·have l6:j<(t.ag[i]'aa).keys.length:=(by omega)
   have LO:=(po.lC _ (getElem_mem l6)).2;have xO:M.length=j:=(by rw[hM,length_take];omega)
   refine af [2,3,6,8,13,14,15,31,32,33] ?_;refine fE 6 (aq (take 3 _)) ?_ (fun _ h=>(Sublist.map _ (take_sublist _ _)).subset h);refine ay 0 rfl (dh 1) ?_;refine ay 1 rfl (dI 0) ?_;refine ay 2 rfl aZ ?_;refine dm.later rfl ?_;refine AD.one (i:=3) aA ?_;refine jm call95 (j7 (t.ag[i]'aa).keys[j] w4) ?_;refine AD.one (i:=4) aA ?_;refine iV (cc 0 [_]) [.slice none 0 0] [_] zeroValue88 runUnderlying151 sizeOf88 (fun vN=>?_);refine iW 0 41 1 1 ?_;refine AD.one (i:=5) aA ?_;refine bj.en (ls:=(M)) (new:=[(t.ag[i]'aa).keys[j]]) (Sq:=Sy) Tw.gl Tw.pM rfl ap rfl rfl underlying151 Z5 rfl w7 ot vV (oO (A:=[_,_,_])) ot bq vH iu (fun U I akg akh=>?_);refine AD.perm (jo (S1:=[⟨U,88,I*1,flatMap Tw.cK ((M)++[(t.ag[i]'aa).keys[j]])⟩]) (A:=[_,_,_])) ?_;refine eE ?_;refine aE 1 ?_;refine aN 0 [_,_,_,_,_] sizeOf151 ?_;refine an 53 [2,3,6,13,14,15,31,32,33] ?_;refine rS ?_;refine bf [2,3,6,13,14,15,31,32,33] ?_;refine⟨((j+1),(M++[(t.ag[i]'aa).keys[j]]),(some ⟨U,0,none⟩),I,[⟨U,88,I*1,flatMap Tw.cK ((M)++[(t.ag[i]'aa).keys[j]])⟩],dr,cY,Sx),_,cz,aK,w4,(by rw[hM];exact pE l6),(bp.cast (bH akg akh) jN),(bp.cast dY jN),rfl⟩
  refine CD.exit ?_;have hMk:M=(t.ag[i]'aa).keys:=(by rw[hM,take_of_length_le w4])
  subst hMk;refine CD.EO (i:=1) (j:=0) (Sq:=Sy) (S':=⟨b6,153,5,[bS (t.ag[i]'aa).leaf,.list 1 ((t.ag[i]'aa).keys.flatMap Tw.cK) (t.ag[i]'aa).keys.length,.list 1 ((t.ag[i]'aa).kids.flatMap Tw.cI) (t.ag[i]'aa).kids.length,.list 1 ((t.ag[i]'aa).high.flatMap cB) (t.ag[i]'aa).high.length,ae (t.ag[i]'aa).next]⟩::⟨b3,51,2,[aP dr L.length cY,ae t.root]⟩::⟨b2,51,2,[bA,ae 0]⟩::Sx) vV (cu Tw.gl _) (oO (A:=[_,_,_])) rfl rfl rfl rfl ?_;refine dO 3 ?_;refine ev (cc 0 [_]) [.bool false,.slice none 0 0,.slice none 0 0,.slice none 0 0,.int .i64 0] [_,_,_,_,_] zeroValue153 runUnderlying49 sizeOf153 (fun N5=>?_);refine fF 0 48 5 1 ?_;refine OD.en (ls:=(L)) (new:=[(t.ag[i]'aa)]) (Sq:=Sx) FD af4 ap rfl rfl underlying49 Zv rfl w7 ot dY (dg (A:=[_,_,_])) ot bq mr mu (fun Z O aki akj=>?_);refine OD.perm (ee (S1:=[⟨Z,153,O*5,flatMap cP ((L)++[(t.ag[i]'aa)])⟩]) (A:=[_,_,_])) ?_;refine aE 1 ?_;refine aN 1 [_,_] sizeOf49 ?_;refine an 53 [2,3,13,14,15] ?_;refine cl [2,3,13,14,15] ?_;refine⟨((i+1),(L++[(t.ag[i]'aa)]),(some ⟨Z,0,none⟩),O,[⟨Z,153,O*5,flatMap cP ((L)++[(t.ag[i]'aa)])⟩]),_,cz,aK,w4,(by rw[hL];exact pE aa),(bp.cast (bH aki akj) jN),rfl⟩
 refine aD 1 ?_;refine aN 1 [_,_] sizeOf51 ?_;refine an 53 [2] ?_;refine aJ Sx ?_;have hLe:L=t.ag:=(by rw[hL,take_of_length_le w4])
 subst hLe;exact⟨dr,cY,rfl,dY⟩
theorem Z7(t:aF)(h:Nat)(v:Valid t h):VP Tryz.prog G 82 [.agg (cT t)] (.agg (cT t)):=(Z6 t h v).cover fun r S ⟨ad,cap,h,ho⟩=>by subst h;exact uS ⟨lK ho (cu FD _) (fun B h=>h),eU,trivial⟩
structure zh (t:aM):Prop where
 az:t.az.length≤1000
 rows:t.rows.length≤1000
 row:∀r∈t.rows,r.length≤1000
 ix:∃h,Valid t.ix h
theorem Z8:(Tryz.prog.info? 28).map (fun i=>(i.zero,i.size,i.bytes))=some (some (.slice none 0 0),1,24):=by kernel_rfl
theorem FE(t:aM)(hs:zh t):VC Tryz.prog G 40 [.agg (c8 t)] [] (ahK t):=by
 refine VC.body func40 rfl ntmps40 aQ fun X0 w0 bg=>?_;unfold c8;have dz:=ei;have hc:=hs.az;have hn:=hs.rows;obtain⟨h,v⟩:=hs.ix;have U:=Z7 (G:=G) t.ix h v;unfold Tw.cT at U;refine bY ?_;refine OD.box (ds:=[_,_,_,_,_]) ap rfl rfl ot rfl rfl (fun b1=>?_);refine OD.alloc (ds:=[_,_,_,_,_]) ap rfl rfl zeroValue53 rfl (fun b2=>?_);refine an 31 [1,2] ?_;refine CD.seq ?_;refine uA 10 9 [1,2,3,14] ?_;refine di (P5 t.az w4) ?_;refine di (U) ?_;refine nA 1 ?_;refine rP ?_;refine jZ ?_;refine⟨rfl,fun b3=>?_⟩;refine aN 0 [_,_,_,_,_] sizeOf53 ?_;refine an 31 [1,2,3] ?_;refine af [2,3,16,17,18] ?_;refine eD [2,3,16,17] (fun aW _ (I:Nat×List cj×Option Addr×Nat×List ah) aH=>match I with|(i,L,dr,cY,Sx)=>(i≤t.rows.length)∧(L.map cj.r=t.rows.take i)∧(∀o∈L,nW o)∧(sQ L dr cY Sx)∧aH=(⟨31,(18,ae (i:Nat))::aW,(⟨b3,53,5,[bn t.nm,av 2 cC t.az,aP dr L.length cY,av 5 cP t.ix.ag,ae t.ix.root]⟩::⟨b2,53,5,[eT,bA,bA,bA,ae 0]⟩::(Sx++L.flatMap bR))⟩:St)) (fun (I:Nat×List cj×Option Addr×Nat×List ah)=>match I with|(i,L,dr,cY,Sx)=>t.rows.length-i) (0,([]:List cj),none,0,[]) ⟨(Nat.zero_le _),rfl,(fun o h=>by cases h),ik,rfl⟩ ?_;rintro⟨i,L,dr,cY,Sx⟩ _ ⟨hi,hL,aR,dY,rfl⟩;refine af [2,3,16,17,18,19] ?_;refine au ?_ ?_<;>intro aO bE
 ·have aa:i<t.rows.length:=(by omega)
  have rV:L.length=i:=(by have:=congrArg length hL;rw[length_map,length_take] at this;omega)
  have qg:=hs.row _ (getElem_mem aa);refine af [2,3,5,16,17,18] ?_;refine fE 6 (aq (take 2 _)) ?_ (fun _ h=>(Sublist.map _ (take_sublist _ _)).subset h);refine ay 0 rfl (dh 2) ?_;refine ay 1 rfl (dI 0) ?_;refine ay 2 rfl aZ ?_;refine dm.later rfl ?_;refine AD.one (i:=3) aA ?_;refine bj.call rfl ap rfl rfl rfl call31 (P3 (t.rows[i]'aa) w4) ⟨ot,trivial⟩ (eR _) (fun b hb=>by simp[aq,St.put] at hb ⊢;first|(simp[hb];done)|(rcases hb with hb|hb<;>simp[hb])|(rcases hb with hb|hb|hb<;>simp[hb])) ?_;rintro _ Sz ⟨lX,lY,rfl,yt⟩;refine AD.perm (jo (A:=[_,_])) ?_;have vL:(L++[(⟨(t.rows[i]'aa),lX,lY,Sz⟩:cj)]).map cj.r=t.rows.take (i+1):=(by rw[map_append,hL];exact pE aa)
  have jW:∀o∈L++[(⟨(t.rows[i]'aa),lX,lY,Sz⟩:cj)],nW o:=fun o ho=>by rcases mem_append.1 ho with ho|ho;exact aR o ho;rw[mem_singleton] at ho;subst ho;exact yt
  refine AD.one (i:=4) aA ?_;refine iV (cc 0 [_]) [.slice none 0 0] [_] zeroValue28 runUnderlying34 sizeOf28 (fun b26=>?_);refine iW 0 26 1 1 ?_;refine AD.one (i:=5) aA ?_;refine bj.en (ls:=L) (new:=[(⟨(t.rows[i]'aa),lX,lY,Sz⟩:cj)]) (Sq:=Sx) u5 Ux rfl ap rfl rfl underlying34 Z8 rfl w7 ot dY (tw (A:=[_,_])) ot bq mr mu (fun O E Z akk=>?_);refine AD.perm (wq (S2:=[⟨O,28,E*1,flatMap gR (L++[(⟨(t.rows[i]'aa),lX,lY,Sz⟩:cj)])⟩]) (A:=[_,_])) ?_;refine AD.perm (S':=⟨b3,53,5,[bn t.nm,av 2 cC t.az,aP dr L.length cY,av 5 cP t.ix.ag,ae t.ix.root]⟩::⟨b2,53,5,[eT,bA,bA,bA,ae 0]⟩::([⟨O,28,E*1,flatMap gR (L++[(⟨(t.rows[i]'aa),lX,lY,Sz⟩:cj)])⟩]++(L++[(⟨(t.rows[i]'aa),lX,lY,Sz⟩:cj)]).flatMap bR)) (iH fun jj=>by rw[TB];simp only[bR,map_append,map_cons,map_nil,sum_append,sum_cons,sum_nil];omega) ?_;refine eE ?_;refine aE 1 ?_;refine aN 0 [_,_,_,_,_] sizeOf34 ?_;refine an 31 [2,3,16,17,18] ?_;refine cl [2,3,16,17,18] ?_;refine⟨((i+1),(L++[(⟨(t.rows[i]'aa),lX,lY,Sz⟩:cj)]),(some ⟨O,0,none⟩),E,[⟨O,28,E*1,flatMap gR (L++[(⟨(t.rows[i]'aa),lX,lY,Sz⟩:cj)])⟩]),_,cz,aK,w4,vL,jW,(bH Z akk),rfl⟩
 refine aD 1 ?_;refine aN 1 [_,_,_,_,_] sizeOf53 ?_;refine an 31 [2] ?_;refine aJ (Sx++L.flatMap bR) ?_;have pD:L.map cj.r=t.rows:=(by rw[hL,take_of_length_le w4])
 have hLn:t.rows.length=L.length:=(by rw[←pD,length_map])
 exact⟨⟨t,L.flatMap gR,dr,cY,Sx,L.flatMap bR⟩,rfl,(by unfold gT;rw[hLn]),⟨L,rfl,rfl,aR,pD,dY⟩,rfl⟩
theorem Z9:(Tryz.prog.info? 53).map (fun i=>(i.zero,i.size,i.bytes))=some (some (.agg #[.string ⟨#[]⟩,.slice none 0 0,.slice none 0 0,.slice none 0 0,.int .i64 0]),5,96):=by kernel_rfl
theorem P7(l:List aM)(hl:l.length≤1000)(H:∀t∈l,zh t):VC Tryz.prog G 26 [.agg [av 5 c8 l]] [] (KU l):=by
 refine VC.body func26 rfl ntmps26 aQ fun X0 w0 bg=>?_;have dz:=ei;refine bY ?_;refine OD.box (ds:=[_]) ap rfl rfl ot rfl rfl (fun b1=>?_);refine OD.alloc (ds:=[_]) ap rfl rfl zeroValue25 rfl (fun b2=>?_);refine an 22 [1,2] ?_;refine bY ?_;refine OD.alloc (ds:=[_]) ap rfl rfl zeroValue25 rfl (fun b3=>?_);refine an 22 [1,2,3] ?_;refine af [2,3,7,8,9] ?_;refine eD [2,3,7,8] (fun aW _ (I:Nat×List aU×Option Addr×Nat×List ah) aH=>match I with|(i,L,dr,cY,Sx)=>(i≤l.length)∧(L.map aU.t=l.take i)∧(∀o∈L,qj o)∧(xH L dr cY Sx)∧aH=(⟨22,(9,ae (i:Nat))::aW,(⟨b3,25,1,[aP dr L.length cY]⟩::⟨b2,25,1,[bA]⟩::(Sx++L.flatMap bT))⟩:St)) (fun (I:Nat×List aU×Option Addr×Nat×List ah)=>match I with|(i,L,dr,cY,Sx)=>l.length-i) (0,([]:List aU),none,0,[]) ⟨(Nat.zero_le _),rfl,(fun o h=>by cases h),ik,rfl⟩ ?_;rintro⟨i,L,dr,cY,Sx⟩ _ ⟨hi,hL,aR,dY,rfl⟩;refine af [2,3,7,8,9,10] ?_;refine au ?_ ?_<;>intro aO bE
 ·have aa:i<l.length:=(by omega)
  have rV:L.length=i:=(by have:=congrArg length hL;rw[length_map,length_take] at this;omega)
  refine aD 2 ?_;refine OD.alloc (ds:=[_,_,_,_,_]) ap rfl rfl zeroValue53 rfl (fun b5=>?_);refine aN 0 [_,_,_,_,_] sizeOf53 ?_;refine an 22 [2,3,5,7,8,9] ?_;refine fE 6 (aq (take 3 _)) ?_ (fun _ h=>(Sublist.map _ (take_sublist _ _)).subset h);refine ay 0 rfl (dh 0) ?_;refine ay 1 rfl (dI 1) ?_;refine ay 2 rfl (cU (mk:=Op.load 53) rfl ot (by first|exact nF (k:=0) (ds:=[_,_,_,_,_]) rfl rfl isAgg53 sizeOf53 rfl rfl|exact iJ jf isAgg53 sizeOf53 w5|exact iJ uY isAgg53 sizeOf53 w5|exact cn (k:=0) jf rfl rfl rfl isAgg53 sizeOf53 w5|exact cn (k:=1) jf rfl rfl rfl isAgg53 sizeOf53 w5|exact cn (k:=2) jf rfl rfl rfl isAgg53 sizeOf53 w5|exact cn (k:=0) uY rfl rfl rfl isAgg53 sizeOf53 w5|exact cn (k:=1) uY rfl rfl rfl isAgg53 sizeOf53 w5|exact cn (k:=2) uY rfl rfl rfl isAgg53 sizeOf53 w5|exact pN (ds:=[_,_,_,_,_]) isAgg53 sizeOf53 rfl rfl)) ?_;refine dm.later rfl ?_;refine AD.one (i:=3) aA ?_;refine bj.call rfl ap rfl rfl rfl call40 (FE (l[i]'aa) (H _ (getElem_mem aa))) ⟨ot,trivial⟩ (eR _) (fun b hb=>by simp[aq,St.put] at hb ⊢;first|(simp[hb];done)|(rcases hb with hb|hb<;>simp[hb])|(rcases hb with hb|hb|hb<;>simp[hb])) ?_;rintro _ _ ⟨o,HE,rfl,Dm,rfl⟩;refine AD.perm (jo (A:=[_,_,_])) ?_;have vL:(L++[o]).map aU.t=l.take (i+1):=(by rw[map_append,hL,map_cons,map_nil,HE];exact pE aa)
  have jW:∀x∈L++[o],qj x:=fun x hx=>by rcases mem_append.1 hx with hx|hx;exact aR x hx;rw[mem_singleton] at hx;subst hx;exact Dm
  refine AD.one (i:=4) aA ?_;refine iV (cc 0 [_]) [.string ⟨#[]⟩,.slice none 0 0,.slice none 0 0,.slice none 0 0,.int .i64 0] [_,_,_,_,_] zeroValue53 runUnderlying23 sizeOf53 (fun b17=>?_);refine iW 0 17 5 1 ?_;refine AD.one (i:=5) aA ?_;refine bj.en (ls:=L) (new:=[o]) (Sq:=Sx) uY Uy rfl ap rfl rfl underlying23 Z9 rfl w7 ot dY (tw (A:=[_,_,_])) ot bq mr mu (fun O E U Z=>?_);refine AD.perm (wq (S2:=[⟨O,53,E*5,flatMap gT (L++[o])⟩]) (A:=[_,_,_])) ?_;have XR:(bT o++(([⟨O,53,E*5,flatMap gT (L++[o])⟩]:List ah)++L.flatMap bT)).Perm (([⟨O,53,E*5,flatMap gT (L++[o])⟩]:List ah)++(L++[o]).flatMap bT):=(iH fun jj=>by rw[TC];simp only[map_append,map_cons,map_nil,sum_append,sum_cons,sum_nil];omega)
  refine AD.perm (Perm.cons _ (Perm.cons _ (Perm.cons _ XR))) ?_;refine eE ?_;refine aE 1 ?_;refine aN 1 [_] sizeOf23 ?_;refine an 22 [2,3,7,8,9] ?_;refine cl [2,3,7,8,9] ?_;refine⟨((i+1),(L++[o]),(some ⟨O,0,none⟩),E,[⟨O,53,E*5,flatMap gT (L++[o])⟩]),_,cz,aK,w4,vL,jW,(bH U Z),rfl⟩
 refine aD 1 ?_;refine aN 1 [_] sizeOf25 ?_;refine an 22 [2] ?_;refine aJ (Sx++L.flatMap bT) ?_;have pD:L.map aU.t=l:=(by rw[hL,take_of_length_le w4])
 exact⟨L,dr,cY,Sx,rfl,dY,aR,pD,rfl⟩
theorem abw(l:List aM)(hl:l.length≤1000)(H:∀t∈l,zh t):VP Tryz.prog G 26 [.agg [av 5 c8 l]] (.agg [av 5 c8 l]):=(P7 l hl H).cover fun r S hr=>hr.view

structure ew (t:aM) (n:Nat):Prop where
 nm:cL t.nm=0
 az:t.az=cM
 eJ:t.rows.length≤40
 ix:iM t.ix n
 row:∀i (h:i<t.rows.length),t.rows[i]≠[]→Pc.ec cM t.rows[i]=0∧(∀v∈t.rows[i],v.Ok)∧(c9 t.rows[i],(i:Int))∈eB t.ix
 iZ:∀x∈eB t.ix,0≤x.2∧∃h:x.2.toNat<t.rows.length,t.rows[x.2.toNat]≠[]∧x.1=c9 t.rows[x.2.toNat]
theorem oW{r:List Vl}(h:Pc.ec cM r=0):r.length=4:=by
 unfold Pc.ec at h;rw[if_neg Ao] at h;split at h
 ·cases h
 rename_i h2;exact Decidable.not_not.1 h2
theorem ew.len(g:ew t n){r:List Vl}(hr:r∈t.rows):r=[]∨(r.length=4∧∀v∈r,v.Ok):=by
 obtain⟨i,hi,rfl⟩:=mem_iff_getElem.1 hr;rcases Classical.em (t.rows[i]=[]) with h|h
 ·exact .inl h
 exact .inr ⟨oW (g.row i hi h).1,(g.row i hi h).2.1⟩
theorem ew.small(g:ew t n):zh t :=
 ⟨by rw[g.az];decide,Nat.le_trans g.eJ w7,fun r hr=>by rcases g.len hr with h|h;rw[h];exact Nat.zero_le _;omega,_,g.ix.val⟩
def rowAt(t:aM)(i:Int):List Vl:=t.rows.getD i.toNat []
theorem ja{i:Int}(h:i.toNat<t.rows.length):rowAt t i=t.rows[i.toNat]:=by unfold rowAt;rw[getD_eq_getElem?_getD,getElem?_eq_getElem h];rfl
def lE(t:aM)(w:List aX):List Int→List (K×Int)→List Int×Int
 | acc,[]=>(acc,0)
 | acc,x::r=>if 0<w.length then (if (fu t.az (rowAt t x.2) w).2≠0 then ([],(fu t.az (rowAt t x.2) w).2) else if (fu t.az (rowAt t x.2) w).1.n≠1 then lE t w acc r else lE t w (acc++[x.2]) r) else lE t w (acc++[x.2]) r
noncomputable def ax(t:aM)(w:List aX):List Int×Int:=if (iI t.az w).2≠0 then ([],(iI t.az w).2) else lE t w [] (oV t.ix (iI t.az w).1.1 (iI t.az w).1.2)
def CC(p:List Int×Int)(r:D)(S:List ah):Prop:=∃ad cap,r = .dJ [aP ad p.1.length cap,ae p.2]∧bp 3 1 (p.1.flatMap Tw.cI) p.1.length ad cap S
theorem CC.view{r:D}(h:CC p r S):View S r (.dJ [av 1 Tw.cI p.1,ae p.2]):=by
 obtain⟨ad,cap,rfl,ho⟩:=h;exact EL ⟨lK ho (cu Tw.eo _) (fun B h=>h),eU,trivial⟩
theorem CC.flat{r:D}(h:CC p r S):kQ r=true∧∀B∈S,∀d∈B.cs,kQ d=true:=by
 obtain⟨ad,cap,rfl,ho⟩:=h;refine⟨rfl,fun B E d hd=>?_⟩;rcases ho with ⟨_,_,_,_,rfl⟩|⟨b,_,_,_,rfl⟩
 ·cases E
 rw[mem_singleton] at E;subst E;obtain⟨n,_,hn⟩:=mem_flatMap.1 hd;rw[Tw.cI,mem_singleton] at hn;subst hn;rfl
theorem EY{t:aF}{f u:K}:∀x∈oV t f u,x∈eB t:=fun x hx=>by
 unfold oV wY at hx;have h1:=(takeWhile_sublist _).subset hx;unfold nk at h1;exact(mem_filter.1 h1).1
theorem RD{t:aF}(g:iM t n)(f u:K):(oV t f u).length≤16000:=by
 unfold oV wY;exact Nat.le_trans (takeWhile_sublist _).length_le (Rv g.val f)
theorem TD(l:List Vl):(fX l).1.length≤100:=by
 unfold fX;repeat' split
 all_goals first|exact Nat.zero_le _|(simp only;omega)
def Sm(b:lq):Prop:=b.1.length≤100∧b.2.length≤100
theorem TE{key:ByteArray}{ops:List aX}{no:Bool}{b:lq}(h:Sm b):Sm (nh key ops no b):=by
 have hk:(zP ops).length≤100:=TD _;have hl:∀b,Sm b→Sm (ox (zP ops) b):=fun b h=>by unfold ox;split;exact⟨hk,h.2⟩;exact h
 have E:∀b,Sm b→Sm (sB (zP ops) b):=fun b h=>by unfold sB;split;exact⟨h.1,hk⟩;exact h
 unfold nh;split
 ·exact h
 split
 ·exact h
 unfold vo;cases(nD ops (ops.length-1)==6||(dR (mc key) (ops.take 2)==0)!=no)<;>cases(nD ops (ops.length-1)==6||(dR (mc key) (ops.take 2)==0)==no)<;>first|exact h|exact hl _ h|exact E _ h|exact E _ (hl _ h)
theorem Kr{key:ByteArray}:∀(f:Nat) (ops:List aX) (b:lq),Sm b→Sm (gg key f ops b)
 | 0,_,_,h=>h
 | f+1,ops,b,h=>by
  unfold gg;split
  ·exact Kr f _ _ (Kr f _ _ h)
  split
  ·exact TE h
  exact TE h
theorem agj(l:List cG)(ops:List aX):Sm (iI l ops).1:=by
 have h0:Sm (([],[]):lq):=⟨Nat.zero_le _,Nat.zero_le _⟩
 unfold iI;repeat' split
 all_goals first|exact h0|exact Kr _ _ _ h0
theorem P8:(Tryz.prog.info? 3).map (fun i=>(i.zero,i.size,i.bytes))=some (some (.int .i64 0),1,8):=by kernel_rfl
theorem Ks(hm:(3,marksC)∈G)(hw:(1,wordsC)∈G)(ht:(0,typesC)∈G)(hG:(2,[Value.int .i64 m])∈G)(t:aM)(g:ew t n)(w:List aX)(ho:∀o∈w,o.nm.size≤maxLen)(fR:∀o∈w,o.v.Ok):VC Tryz.prog G 86 [.agg (c8 t),av 5 cO w] [] (CC (ax t w)):=by
 refine VC.body func86 rfl ntmps86 aQ fun X0 w0 bg=>?_;have AN:=agj t.az w;have oD:=aaW (G:=G) hm hw ht hG t.az xQ xP w ho fR;unfold NK at oD;have dz:=ei;have AO:=Uw (G:=G) g.ix (iI t.az w).1.1 (iI t.az w).1.2 AN.1 AN.2;unfold Tw.cT at AO;have mO:=RD g.ix (iI t.az w).1.1 (iI t.az w).1.2;generalize hL:(oV t.ix (iI t.az w).1.1 (iI t.az w).1.2)=L at *;unfold c8;have Ln:∀x∈L,x∈eB t.ix:=fun x hx=>EY x (hL ▸ hx);refine bY ?_;refine OD.box (ds:=[_,_,_,_,_]) ap rfl rfl ot rfl rfl (fun b2=>?_);refine an 70 [1,2] ?_;refine cX [1,2,6,7,8] (oD) ?_;refine af [1,2,6,7,8,25] ?_;refine au ?_ ?_<;>intro aO bE
 ·have hne:(iI t.az w).2≠0:=(by simpa using aO)
  have aV:ax t w=([],(iI t.az w).2):=if_pos hne;refine af [4,5] ?_;refine aJ [] ?_;rw[aV];exact⟨none,0,rfl,ik⟩
 have hz:(iI t.az w).2=0:=(by simpa using aO)
 have ahL:ax t w=lE t w [] (L.drop 0):=(by unfold ax;rw[if_neg (by simp[hz]),hL,drop_zero])
 refine cX [1,2,9] (AO) ?_;refine bY ?_;refine bf [1,2,9,11] ?_;refine af [1,2,11,35,36,37] ?_;refine eD [1,2,35,36] (fun aW _ (O:Nat×List Int×Option Addr×Nat×List ah) aH=>match O with|(k,acc,dr,cY,Sx)=>(k≤L.length)∧((acc).length≤k)∧(ax t w=lE t w acc (L.drop k))∧(bp 3 1 ((acc).flatMap Tw.cI) (acc).length dr cY Sx)∧aH=(⟨70,(11,aP dr (acc).length cY)::(37,ae (k:Nat))::aW,(⟨b2,53,5,[bn t.nm,av 2 cC t.az,av 1 gp t.rows,av 5 cP t.ix.ag,ae t.ix.root]⟩::Sx)⟩:St)) (fun (O:Nat×List Int×Option Addr×Nat×List ah)=>match O with|(k,acc,dr,cY,Sx)=>L.length-k) (0,([]:List Int),none,0,[]) ⟨(Nat.zero_le _),(Nat.zero_le _),ahL,(bp.cast ik jN),rfl⟩ ?_;rintro⟨k,acc,dr,cY,Sx⟩ _ ⟨hk,oZ,aV,dY,rfl⟩;refine af [1,2,11,35,36,37,38] ?_;refine au ?_ ?_<;>intro aY cJ
 ·have aa:k<L.length:=(by omega)
  obtain⟨gF,U,nX,MZ⟩:=g.iZ _ (Ln _ (getElem_mem aa));have E:=ja (t:=t) U;have jx:L.drop k=(L[k]'aa)::L.drop (k+1):=drop_eq_getElem_cons aa;have yw:=(g.row _ U nX).2.1;have hr4:=oW (g.row _ U nX).1;refine aD 2 ?_;refine OD.alloc (ds:=[_,_]) ap rfl rfl zeroValue90 rfl (fun mC=>?_);refine aN 0 [_,_] sizeOf90 ?_;refine an 70 [1,2,11,13,35,36,37] ?_;refine af [1,2,11,13,35,36,37,43] ?_;refine au ?_ ?_<;>intro cm cW
  ·have Z:0<w.length:=(by omega)
   have yo:=Tc (G:=G) hm hw ht t.az xQ xP (t.rows[(L[k]'aa).2.toNat]) w4 yw w ho fR;rw[←E] at yo;unfold mX at yo;rw[E] at yo;refine CD.seq ?_;refine uA 14 13 [1,2,11,13,14,35,36,37,55,56] ?_;refine aS 6 ?_ (h:=by exact(dc 1 (h:=by first|exact .l (j:=(L[k]'aa).2.toNat) (Int.toNat_of_nonneg gF).symm U|exact .r (j:=(L[k]'aa).2.toNat) (Int.toNat_of_nonneg gF).symm U)));refine di (yo) ?_;refine nA 3 ?_;refine rP ?_;refine jZ ?_;refine⟨rfl,fun Ax=>?_⟩;refine aN 0 [_,_,_] sizeOf41 ?_;refine an 70 [1,2,11,13,14,15,35,36,37] ?_;refine af [1,2,11,13,14,15,35,36,37,58] ?_;refine au ?_ ?_<;>intro da ek
   ·have hne:(fu t.az (rowAt t (L[k]'aa).2) w).2≠0:=(by rw[E];simpa using da)
    have I:ax t w=([],(fu t.az (rowAt t (L[k]'aa).2) w).2):=(by rw[aV,jx,lE,if_pos Z,if_pos hne])
    rw[E] at I;refine af [4,5] ?_;refine aJ [] ?_;rw[I];exact⟨none,0,rfl,ik⟩
   have hne:¬(fu t.az (rowAt t (L[k]'aa).2) w).2≠0:=(by rw[E];simpa using da)
   refine af [1,2,11,13,35,36,37,62] ?_;refine au ?_ ?_<;>intro ez fw
   ·have gv:(fu t.az (rowAt t (L[k]'aa).2) w).1.n≠1:=(by rw[E];simpa using ez)
    have nT:ax t w=lE t w acc (L.drop (k+1)):=(by rw[aV,jx,lE,if_pos Z,if_neg hne,if_pos gv])
    refine cl [1,2,11,35,36,37] ?_;refine⟨((k+1),acc,dr,cY,Sx),_,cz,aK,w4,w4,nT,(bp.cast dY jN),rfl⟩
   have gv:¬(fu t.az (rowAt t (L[k]'aa).2) w).1.n≠1:=(by rw[E];simpa using ez)
   have nT:ax t w=lE t w (acc++[(L[k]'aa).2]) (L.drop (k+1)):=(by rw[aV,jx,lE,if_pos Z,if_neg hne,if_neg gv])
   refine dO 3 ?_;refine ev (cc 0 [_]) [.int .i64 0] [_] zeroValue3 runUnderlying67 sizeOf3 (fun pA=>?_);refine fF 0 66 1 1 ?_;refine OD.en (ls:=(acc)) (new:=[(L[k]'aa).2]) (Sq:=Sx) Tw.eo Tw.nG ap rfl rfl underlying67 P8 rfl w7 ot dY (dg (A:=[_,_,_])) ot bq mr mu (fun qK ry Gg Gh=>?_);refine OD.perm (ee (S1:=[⟨qK,3,ry*1,flatMap Tw.cI ((acc)++[(L[k]'aa).2])⟩]) (A:=[_,_,_])) ?_;exact z70
  have Z:¬0<w.length:=(by omega)
  have nT:ax t w=lE t w (acc++[(L[k]'aa).2]) (L.drop (k+1)):=(by rw[aV,jx,lE,if_neg Z])
  refine dO 3 ?_;refine ev (cc 0 [_]) [.int .i64 0] [_] zeroValue3 runUnderlying67 sizeOf3 (fun pA=>?_);refine fF 0 66 1 1 ?_;refine OD.en (ls:=(acc)) (new:=[(L[k]'aa).2]) (Sq:=Sx) Tw.eo Tw.nG ap rfl rfl underlying67 P8 rfl w7 ot dY (dg (A:=[_,_])) ot bq mr mu (fun qK ry Gg Gh=>?_);refine OD.perm (ee (S1:=[⟨qK,3,ry*1,flatMap Tw.cI ((acc)++[(L[k]'aa).2])⟩]) (A:=[_,_])) ?_;exact z70
 have I:ax t w=(acc,0):=(by rw[aV,drop_of_length_le w4];rfl)
 refine af [4,5] ?_;refine aJ Sx ?_;rw[I];exact⟨dr,cY,rfl,dY⟩

end Go.Proofs.YtdgichenhdikgaaGreatDoor.Ba
namespace Go.Proofs.YtdgichenhdikgaaGreatDoor.So
open List
open Go.Proofs.Tryz
variable {α:Type} {R:α→α→Prop} {l L M X Y:List α} {x y:α} {k:Nat}
theorem Ic(ht:∀{x y z:α},R x y→R y z→R x z)(hs:L.Pairwise R)(hk:k≤L.length)(h:k=0∨∃h:k-1<L.length,R (L[k-1]) x):∀z∈L.take k,R z x:=by
 intro z hz;obtain⟨i,hi,rfl⟩:=mem_iff_getElem.1 hz;rw[length_take] at hi;rw[getElem_take];rcases h with rfl|⟨h1,h2⟩
 ·omega
 rcases Nat.lt_or_ge i (k-1) with h3|h3
 ·exact ht (pairwise_iff_getElem.1 hs i (k-1) w4 h1 h3) h2
 have:i=k-1:=(by omega)
 subst this;exact h2
theorem HW(ht:∀{x y z:α},R x y→R y z→R x z)(hs:L.Pairwise R)(h:k=L.length∨∃h:k<L.length,R x (L[k])):∀z∈L.drop k,R x z:=by
 intro z hz;obtain⟨i,hi,rfl⟩:=mem_iff_getElem.1 hz;rw[length_drop] at hi;rw[getElem_drop];rcases h with rfl|⟨h1,h2⟩
 ·omega
 rcases Nat.eq_zero_or_pos i with rfl|h3
 ·simpa using h2
 exact ht h2 (pairwise_iff_getElem.1 hs k (k+i) h1 w4 w4)
theorem ac6(hs:(X++Y).Pairwise R)(h1:∀z∈X,R z x)(h2:∀z∈Y,R x z):(X++x::Y).Pairwise R:=by
 rw[pairwise_append] at hs ⊢;obtain⟨p1,p2,p3⟩:=hs;refine⟨p1,pairwise_cons.2 ⟨h2,p2⟩,fun a ha b hb=>?_⟩;rcases mem_cons.1 hb with rfl|hb
 ·exact h1 a ha
 exact p3 a ha b hb
theorem TF(ht:∀{x y z:α},R x y→R y z→R x z)(hs:L.Pairwise R)(hk:k≤L.length)(h1:k=0∨∃h:k-1<L.length,R (L[k-1]) x)(h2:k=L.length∨∃h:k<L.length,R x (L[k])):(L.take k++x::L.drop k).Pairwise R :=
 ac6 (by rw[take_append_drop];exact hs) (Ic ht hs hk h1) (HW ht hs h2)
theorem abx (ht:∀{x y z:α},R x y→R y z→R x z) {A B:List α} {i j:Nat} (ha:A.Pairwise R) (hb:B.Pairwise R) (hi:i≤A.length) (hj:j≤B.length)
  (h1:i=0∨j=B.length∨∃(p:i-1<A.length) (q:j<B.length),R A[i-1] B[j]) (h2:j=0∨i=A.length∨∃(p:j-1<B.length) (q:i<A.length),R B[j-1] A[i]) :
  ∀a∈A.take i++B.take j,∀b∈A.drop i++B.drop j,R a b:=by
 have E:∀a∈A.take i,∀b∈A.drop i,R a b:=(by rw[←take_append_drop i A] at ha;exact(pairwise_append.1 ha).2.2)
 have I:∀a∈B.take j,∀b∈B.drop j,R a b:=(by rw[←take_append_drop j B] at hb;exact(pairwise_append.1 hb).2.2)
 intro a hm b hn;rcases mem_append.1 hm with hm|hm<;>rcases mem_append.1 hn with hn|hn
 ·exact E a hm b hn
 ·rcases h1 with rfl|rfl|⟨p,q,hr⟩
  ·simp at hm
  ·simp at hn
  exact Ic (R:=R) ht ha hi (.inr ⟨p,by
   rcases HW (R:=R) ht hb (k:=j) (x:=A[i-1]) (.inr ⟨q,hr⟩) b hn with h
   exact h⟩) a hm
 ·rcases h2 with rfl|rfl|⟨p,q,hr⟩
  ·simp at hm
  ·simp at hn
  exact Ic (R:=R) ht hb hj (.inr ⟨p,HW (R:=R) ht ha (k:=i) (x:=B[j-1]) (.inr ⟨q,hr⟩) b hn⟩) a hm
 exact I a hm b hn
theorem IL{l1 l2:List α}:((l1++x::y::l2).set l1.length y).set (l1.length+1) x=l1++y::x::l2:=by
 rw[set_append_right _ _ (Nat.le_refl _),Nat.sub_self,set_cons_zero,set_append_right _ _ w4,show l1.length+1-l1.length=1 by omega,set_cons_succ,set_cons_zero]
def sw(l:List Int)(i j:Nat):List Int:=(l.set i (l.getD j 0)).set j (l.getD i 0)
theorem agk{l:List Int}{i j:Nat}:(sw l i j).length=l.length:=by unfold sw;simp
theorem mG{l:List Int}{i:Nat}(h:i<l.length):l.getD i 0=l[i]:=by simp[h]
def j3(l:List Int)(a b:Nat):Nat→List Int
 | 0=>l
 | k+1=>sw (j3 l a b k) (a+k) (b+k)
theorem By{l:List Int}{a b:Nat}:∀{k:Nat},(j3 l a b k).length=l.length
 | 0=>rfl
 | k+1=>by rw[j3,agk,By]
theorem TG{l:List Int}{a b:Nat}:∀{k:Nat},a+k≤b→b+k≤l.length→∀j,(j3 l a b k)[j]?=if a≤j∧j<a+k then l[b+(j-a)]? else if b≤j∧j<b+k then l[a+(j-b)]? else l[j]?
 | 0,_,_,j=>by rw[if_neg w4,if_neg w4];try rfl
 | k+1,h1,h2,j=>by
  have E:=TG (l:=l) (a:=a) (b:=b) (k:=k) w4 w4;have e1:(j3 l a b k).getD (b+k) 0=l.getD (b+k) 0:=(by rw[getD_eq_getElem?_getD,E,if_neg w4,if_neg w4,getD_eq_getElem?_getD])
  have e2:(j3 l a b k).getD (a+k) 0=l.getD (a+k) 0:=(by rw[getD_eq_getElem?_getD,E,if_neg w4,if_neg w4,getD_eq_getElem?_getD])
  rw[j3,sw,e1,e2,getElem?_set,getElem?_set,length_set,By,E];by_cases q1:b+k=j
  ·subst q1;rw[if_pos rfl,if_pos w4,if_neg w4,if_pos w4,mG w4,show a+(b+k-b)=a+k by omega,getElem?_eq_getElem w4]
  rw[if_neg q1];by_cases q2:a+k=j
  ·subst q2;rw[if_pos rfl,if_pos w4,if_pos w4,mG w4,show b+(a+k-a)=b+k by omega,getElem?_eq_getElem w4]
  rw[if_neg q2];simp only[show(a≤j∧j<a+(k+1))↔(a≤j∧j<a+k) by omega,show(b≤j∧j<b+(k+1))↔(b≤j∧j<b+k) by omega]
theorem JW{P U M W Q:List Int}(h:U.length=W.length):j3 (P++(U++(M++(W++Q)))) P.length (P.length+U.length+M.length) U.length=P++(W++(M++(U++Q))):=by
 refine ext_getElem? fun j=>?_;rw[TG w4 (by simp only[length_append];omega)];simp only[getElem?_append];repeat' split
 all_goals first|omega|(congr 1<;>omega)
def rX(T cur:List Int)(m i j:Nat):Prop:=∃P X Y Q,cur=P++(X++(Y++Q))∧X.length=i∧Y.length=j∧P.length+i=m∧T=P++(Y++(X++Q))
variable {T cur:List Int} {m i j:Nat}
theorem rX.len(h:rX T cur m i j):i≤m∧m+j≤cur.length∧T.length=cur.length:=by
 obtain⟨P,X,Y,Q,rfl,rfl,rfl,hm,rfl⟩:=h;simp only[length_append];omega
theorem agl(h:rX T cur m i j)(E:j<i):rX T (j3 cur (m-i) m j) m (i-j) j:=by
 obtain⟨P,X,Y,Q,rfl,rfl,rfl,hm,rfl⟩:=h;have l1:(X.take Y.length).length=Y.length:=(by rw[length_take];omega)
 have l2:(X.drop Y.length).length=X.length-Y.length:=length_drop;have e:=JW (P:=P) (U:=X.take Y.length) (M:=X.drop Y.length) (W:=Y) (Q:=Q) l1;rw[l1,l2,←append_assoc (X.take _) (X.drop _),take_append_drop,show P.length+Y.length+(X.length-Y.length)=m by omega,show P.length=m-X.length by omega] at e;exact⟨P++Y,X.drop Y.length,X.take Y.length,Q,by rw[e];simp,l2,l1,by rw[length_append];omega,by rw[←append_assoc (X.take _) (X.drop _),take_append_drop];simp⟩
theorem agm(h:rX T cur m i j)(E:i<j):rX T (j3 cur (m-i) (m+j-i) i) m i (j-i):=by
 obtain⟨P,X,Y,Q,rfl,rfl,rfl,hm,rfl⟩:=h;have l1:(Y.take (Y.length-X.length)).length=Y.length-X.length:=(by rw[length_take];omega)
 have l2:(Y.drop (Y.length-X.length)).length=X.length:=(by rw[length_drop];omega)
 have e:=JW (P:=P) (U:=X) (M:=Y.take (Y.length-X.length)) (W:=Y.drop (Y.length-X.length)) (Q:=Q) l2.symm;rw[l1,←append_assoc (Y.take _) (Y.drop _),take_append_drop,show P.length+X.length+(Y.length-X.length)=m+Y.length-X.length by omega,show P.length=m-X.length by omega] at e;exact⟨P,Y.drop (Y.length-X.length),Y.take (Y.length-X.length),X++Q,e,l2,l1,hm,by rw[←append_assoc (Y.take _) (Y.drop _),take_append_drop]⟩
theorem agn(h:rX T cur m i i):j3 cur (m-i) m i=T:=by
 obtain⟨P,X,Y,Q,rfl,rfl,hl,hm,rfl⟩:=h;have e:=JW (P:=P) (U:=X) (M:=[]) (W:=Y) (Q:=Q) hl.symm;rw[length_nil,Nat.add_zero,show P.length+X.length=m by omega,show P.length=m-X.length by omega] at e;simpa using e

end Go.Proofs.YtdgichenhdikgaaGreatDoor.So
namespace Go.Proofs.YtdgichenhdikgaaGreatDoor.So
open List
open Go.Proofs.Tryz
open Go.RowKit V Tw
variable {G:List (Nat×List Value)}
theorem JX(l:List Int)(E la lb k cap I:Nat)(eC:D)(Sc:List ah)(gi:l.length=E)(h1:la+k≤lb)(h2:lb+k≤E)(h3:E≤cap)(h4:cap≤maxLen):VC Tryz.prog G 173 [aP (some ⟨I,0,none⟩) E cap,ae (la:Nat),ae (lb:Nat),ae (k:Nat),eC] (⟨I,3,cap*1,(l).flatMap cI⟩::Sc) (fun r S'=>r = .dJ []∧S'=⟨I,3,cap*1,(j3 l la lb k).flatMap cI⟩::Sc):=by
 refine VC.body func173 rfl ntmps173 aQ fun X0 w0 bg=>?_;have dz:=ei;refine af [0,1,2,3,10] ?_;refine eD [0,1,2,3] (fun aW _ (i:Nat) aH=>(i≤k)∧aH=(⟨38,(10,ae (i:Nat))::aW,(⟨I,3,cap*1,(j3 l la lb i).flatMap cI⟩::Sc)⟩:St)) (fun (i:Nat)=>k-i) 0 ⟨(Nat.zero_le _),rfl⟩ ?_;rintro i _ ⟨hi,rfl⟩;refine af [0,1,2,3,10,13] ?_;refine au ?_ ?_<;>intro aO bE
 ·have O:i<k:=(by omega)
  have hlen:(j3 l la lb i).length=E:=(by rw[By,gi])
  have ha:la+i<(j3 l la lb i).length:=(by omega)
  have hb:lb+i<(j3 l la lb i).length:=(by omega)
  refine CD.skip ?_;refine CD.seq ?_;refine CD.block ?_;refine fE 22 (aq (eraseIdx _ 0)) ?_ (fun _ h=>(Sublist.map _ (eraseIdx_sublist _ 0)).subset h);refine ay 0 rfl aZ ?_;refine ay 1 rfl aZ ?_;refine ay 2 rfl aZ ?_;refine ay 3 rfl mT ?_;refine ay 4 rfl aZ ?_;refine ay 5 rfl aZ ?_;refine ay 6 rfl aZ ?_;refine ay 7 rfl mT ?_;refine ay 8 rfl aZ ?_;refine ay 9 rfl aZ ?_;refine ay 10 rfl aZ ?_;refine ay 11 rfl mT ?_;refine ay 12 rfl (dc 1) ?_;refine ay 14 rfl aZ ?_;refine ay 15 rfl aZ ?_;refine ay 16 rfl aZ ?_;refine ay 17 rfl mT ?_;refine ay 18 rfl (dc 1) ?_;refine dm.later rfl ?_;refine AD.two (i:=13) (j:=19) aA ?_ ?_
  ·refine at_ rfl eK ?_;refine AD.one (i:=19) aA ?_;exact WS
  refine at_ rfl eK ?_;refine AD.one (i:=13) aA ?_;exact WS
 obtain rfl:i=k:=(by omega)
 refine aJ _ ?_;exact⟨by first|rfl|(simp[*];done),rfl⟩

theorem ago(l Tt:List Int)(Z a m b cap bd:Nat)(eC:D)(Sc:List ah)(h:rX Tt l m (m-a) (b-m))(h1:a<m)(h2:m<b)(gi:l.length=Z)(E:Z≤cap)(I:cap≤maxLen):VC Tryz.prog G 163 [aP (some ⟨bd,0,none⟩) Z cap,ae (a:Nat),ae (m:Nat),ae (b:Nat),eC] (⟨bd,3,cap*1,(l).flatMap cI⟩::Sc) (fun r S'=>r = .dJ []∧S'=⟨bd,3,cap*1,(Tt).flatMap cI⟩::Sc):=by
 refine VC.body func163 rfl ntmps163 aQ fun X0 w0 bg=>?_;have dz:=ei;have hlen:=h.len;refine cZ [0,2,3,4,10] ?_;refine aS 2 ?_ (h:=by exact(dw rfl ot ot (gj (r:=((m-a:Nat):Int)) qH)));refine bK ?_;refine cZ [0,2,4,10,11] ?_;refine aS 2 ?_ (h:=by exact(dw rfl ot ot (gj (r:=((b-m:Nat):Int)) qH)));refine bK ?_;refine eD [0,2,4] (fun aW _ (O:Nat×Nat×List Int) aH=>match O with|(i,j,cur)=>(rX Tt cur m i j)∧(0<i)∧(0<j)∧((cur).length=Z)∧aH=(⟨58,(10,ae (i:Nat))::(11,ae (j:Nat))::aW,(⟨bd,3,cap*1,(cur).flatMap cI⟩::Sc)⟩:St)) (fun (O:Nat×Nat×List Int)=>match O with|(i,j,cur)=>i+j) ((m-a),(b-m),l) ⟨h,w4,w4,gi,rfl⟩ ?_;rintro⟨i,j,cur⟩ _ ⟨hr,hi,hj,U,rfl⟩;refine af [0,2,4,10,11,20] ?_;refine au ?_ ?_<;>intro aO bE
 ·have qg:=hr.len;have hne:i≠j:=(by omega)
  refine af [0,2,4,10,11,23] ?_;refine au ?_ ?_<;>intro aY cJ
  ·have hgt:j<i:=(by omega)
   refine aD 3 ?_;refine bN (dw rfl ot ot (gj (r:=((m-i:Nat):Int)) qH)) ?_;refine aE 3 ?_;refine OD.call (R:=Sc) ap rfl rfl rfl call173 (JX cur Z (m-i) m j cap bd eC [] U w4 w4 E I) ⟨ot,ot,ot,ot,ot,trivial⟩ (Perm.refl _) ?_;rintro _ _ ⟨rfl,rfl⟩;refine an 58 [0,2,4,10,11] ?_;refine iv [0,2,4,10,11] ?_;refine aS 2 ?_ (h:=by exact(dw rfl ot ot (gj (r:=((i-j:Nat):Int)) qH)));refine bK ?_;refine⟨((i-j),j,(j3 cur (m-i) m j)),_,cz,aK,(agl hr hgt),w4,hj,(by rw[By];exact U),rfl⟩
  have aa:i<j:=(by omega)
  refine aD 3 ?_;refine bN (dw rfl ot ot (gj (r:=((m-i:Nat):Int)) qH)) ?_;refine aE 4 ?_;refine bN (dw rfl ot ot (gj (r:=((m+j-i:Nat):Int)) (by rw[show((m:Int)+j-i)=((m+j-i:Nat):Int) by omega];exact wrap_i64 w4 w4))) ?_;refine aE 2 ?_;refine OD.call (R:=Sc) ap rfl rfl rfl call173 (JX cur Z (m-i) (m+j-i) i cap bd eC [] U w4 w4 E I) ⟨ot,ot,ot,ot,ot,trivial⟩ (Perm.refl _) ?_;rintro _ _ ⟨rfl,rfl⟩;refine an 58 [0,2,4,10,11] ?_;refine iv [0,2,4,10,11] ?_;refine aS 2 ?_ (h:=by exact(dw rfl ot ot (gj (r:=((j-i:Nat):Int)) qH)));refine bK ?_;refine⟨(i,(j-i),(j3 cur (m-i) (m+j-i) i)),_,cz,aK,(agm hr aa),hi,w4,(by rw[By];exact U),rfl⟩
 have qg:=hr.len;obtain rfl:i=j:=(by omega)
 have he:=agn hr;refine dO 3 ?_;refine bN (dw rfl ot ot (gj (r:=((m-i:Nat):Int)) qH)) ?_;refine aE 3 ?_;refine OD.call (R:=Sc) ap rfl rfl rfl call173 (JX cur Z (m-i) m i cap bd eC [] U w4 w4 E I) ⟨ot,ot,ot,ot,ot,trivial⟩ (Perm.refl _) ?_;rintro _ _ ⟨rfl,rfl⟩;refine an 58 [] ?_;refine aJ _ ?_;exact⟨rfl,by rw[he];rfl⟩

end Go.Proofs.YtdgichenhdikgaaGreatDoor.So
namespace Go.Proofs.YtdgichenhdikgaaGreatDoor.So
open List
open Go.Proofs.Tryz
variable {x y:Int} {Z S:List Int} {cF:Int→Int→Int}
def oI(R:Int→Int→Prop)(l0 l:List Int)(a i:Nat):Prop :=
 ∃(P A B A0:List Int),l=P++(A++B)∧P.length=a∧a+A.length=i∧A.Pairwise R∧A.Perm A0∧l0=P++(A0++B)
def sR(R:Int→Int→Prop)(l0 l:List Int)(a i j:Nat):Prop :=
 ∃(P A:List Int) (x:Int) (B A0:List Int) (k:Nat),l=P++(A.take k++x::(A.drop k++B))∧P.length=a∧k≤A.length∧a+k=j∧a+A.length=i∧A.Pairwise R∧(k=A.length∨∃h:k<A.length,R x A[k])∧A.Perm A0∧l0=P++(A0++x::B)
variable {R Lt:Int→Int→Prop} {l0 l:List Int} {a i j:Nat}
theorem sR.len(h:sR R l0 l a i j):a≤j∧j≤i∧i<l.length∧l.length=l0.length:=by
 obtain⟨P,A,x,B,E,k,rfl,rfl,hk,rfl,rfl,hs,hx,hp,rfl⟩:=h;have:=hp.length_eq;simp only[length_append,length_cons,length_take,length_drop];omega
theorem I9(h:a≤l.length):oI R l l a a :=
 ⟨l.take a,[],l.drop a,[],by simp,by rw[length_take];omega,by simp,Pairwise.nil,.refl _,by simp⟩
theorem aeQ(h:a<l.length):oI R l l a (a+1) :=
 ⟨l.take a,[l[a]],l.drop (a+1),[l[a]],by simp,by rw[length_take];omega,by simp,pairwise_singleton _ _,.refl _,by simp⟩
theorem aby(h:oI R l0 l a i)(hi:i<l.length):sR R l0 l a i i:=by
 obtain⟨P,A,B,E,rfl,rfl,rfl,hs,hp,rfl⟩:=h;cases B with
 | nil=>simp at hi
 | cons x B=>exact⟨P,A,x,B,E,A.length,by simp,rfl,Nat.le_refl _,rfl,rfl,hs,.inl rfl,hp,rfl⟩
theorem Fl{P A B:List Int}{k:Nat}(hk:k<A.length):P++(A.take (k+1)++x::(A.drop (k+1)++B))=(P++A.take k)++A[k]::x::(A.drop (k+1)++B):=by
 rw[take_succ_eq_append_getElem hk];simp only[append_assoc,singleton_append]
theorem DV(n:Nat)(hn:n=Z.length)(h:n<(Z++y::S).length):(Z++y::S)[n]'h=y:=by subst hn;simp
theorem DW(n:Nat)(hn:n=Z.length+1)(h:n<(Z++y::x::S).length):(Z++y::x::S)[n]'h=x:=by subst hn;simp[getElem_append_right]
theorem aap(h:sR R l0 l a i j)(hj:a<j)(h1:j<l.length)(h0:j-1<l.length)(hr:R l[j] l[j-1]):sR R l0 ((l.set j l[j-1]).set (j-1) l[j]) a i (j-1):=by
 obtain⟨P,A,x,B,E,k,rfl,rfl,hk,rfl,rfl,hs,hx,hp,rfl⟩:=h;obtain⟨k,rfl⟩:∃m,k=m+1:=⟨k-1,by omega⟩
 have e:=Fl (P:=P) (B:=B) (x:=x) hk;have hl:(P++A.take k).length=P.length+k:=(by rw[length_append,length_take];omega)
 simp only[e] at hr ⊢;rw[DV (P.length+(k+1)-1) w4,DW (P.length+(k+1)) w4] at hr ⊢;refine⟨P,A,x,B,E,k,?_,rfl,by omega,by omega,rfl,hs,.inr ⟨hk,hr⟩,hp,rfl⟩;rw[set_comm _ _ w4,show P.length+(k+1)-1=(P++A.take k).length by omega,show P.length+(k+1)=(P++A.take k).length+1 by omega,IL];rw[show A.drop k=A[k]::A.drop (k+1) from drop_eq_getElem_cons hk];simp only[append_assoc,cons_append]
theorem abS(ht:∀{x y z:Int},R x y→R y z→R x z)(h:sR R l0 l a i j)(h1:j<l.length)(h0:j-1<l.length)(hr:j=a∨R l[j-1] l[j]):oI R l0 l a (i+1):=by
 obtain⟨P,A,x,B,E,k,rfl,rfl,hk,rfl,rfl,hs,hx,hp,rfl⟩:=h;refine⟨P,A.take k++x::A.drop k,B,E++[x],by simp,rfl,by simp;omega,TF ht hs hk ?_ hx,?_,by simp⟩
 ·rcases Nat.eq_zero_or_pos k with rfl|hp
  ·exact .inl rfl
  right;obtain⟨k,rfl⟩:∃m,k=m+1:=⟨k-1,by omega⟩
  refine⟨by omega,?_⟩;rcases hr with hr|hr
  ·omega
  have e:=Fl (P:=P) (B:=B) (x:=x) hk;have hl:(P++A.take k).length=P.length+k:=(by rw[length_append,length_take];omega)
  simp only[e] at hr;rw[DV (P.length+(k+1)-1) w4,DW (P.length+(k+1)) w4] at hr;exact hr
 refine List.perm_middle.trans ?_;rw[take_append_drop];exact(Perm.cons x hp).trans (perm_append_singleton x E).symm
theorem adI(h:sR R l0 l a i j)(hj:a<j)(h1:j<l.length)(h0:j-1<l.length)(hq:(l0.drop a).Pairwise Lt):Lt l[j-1] l[j]:=by
 obtain⟨P,A,x,B,E,k,rfl,rfl,hk,rfl,rfl,hs,hx,hp,rfl⟩:=h;obtain⟨k,rfl⟩:∃m,k=m+1:=⟨k-1,by omega⟩
 have e:=Fl (P:=P) (B:=B) (x:=x) hk;have hl:(P++A.take k).length=P.length+k:=(by rw[length_append,length_take];omega)
 simp only[e];rw[DV (P.length+(k+1)-1) w4,DW (P.length+(k+1)) w4];rw[drop_left' rfl,pairwise_append] at hq;exact hq.2.2 _ (hp.subset (getElem_mem hk)) x (mem_cons_self)
theorem sR.perm(h:sR R l0 l a i j):l.Perm l0:=by
 obtain⟨P,A,x,B,E,k,rfl,rfl,hk,rfl,rfl,hs,hx,hp,rfl⟩:=h;refine(perm_append_left_iff P).2 (List.perm_middle.trans ?_);rw[←append_assoc,take_append_drop];exact(Perm.cons x ((perm_append_right_iff B).2 hp)).trans List.perm_middle.symm
def Rc(cF:Int→Int→Int)(Lt:Int→Int→Prop)(x y:Int):Prop:=cF x y<0∨cF x y=0∧Lt x y
theorem E3(h:cF y x<0):Rc cF Lt y x:=.inl h
theorem Ft(ha:∀x y,0≤cF y x→cF x y≤0)(E:Lt x y)(h:¬cF y x<0):Rc cF Lt x y:=by
 have:=ha x y w4;unfold Rc;rcases Int.lt_or_eq_of_le this with q|q
 ·exact .inl q
 exact .inr ⟨q,E⟩
def Part(R:Int→Int→Prop)(l0 l:List Int)(a b:Nat):Prop:=∃(P M M0 Q:List Int),l=P++(M++Q)∧l0=P++(M0++Q)∧P.length=a∧a+M.length=b∧M.Perm M0∧M.Pairwise R
theorem oI.part{b:Nat}(h:oI R l0 l a b):Part R l0 l a b:=by
 obtain⟨P,A,B,E,h1,h2,h3,hs,hp,h4⟩:=h;exact⟨P,A,E,B,h1,h4,h2,h3,hp,hs⟩

end Go.Proofs.YtdgichenhdikgaaGreatDoor.So
namespace Go.Proofs.YtdgichenhdikgaaGreatDoor.So
open List
open Go.Proofs.Tryz
open Go.RowKit V Tw
variable {G:List (Nat×List Value)}
theorem Uz(l:List Int)(U a b cap bd fc:Nat)(O:List D)(Z:List ah)(cF:Int→Int→Int)(V:Int→Prop)(Lt:Int→Int→Prop)(hV:∀x∈l,V x)(hc:∀x y,V x→V y→VC Tryz.prog G fc ([ae x,ae y]++O) Z (fun r S'=>r=ae (cF x y)∧S'=Z))(vw:∀args w,(callFunc fc args).run Tryz.prog w = .ok (.enter fc args) w)(ht:∀{x y z:Int},Rc cF Lt x y→Rc cF Lt y z→Rc cF Lt x z)(ha:∀x y,0≤cF y x→cF x y≤0)(hq:(l.drop a).Pairwise Lt)(h1:a≤b)(h2:b≤U)(gi:l.length=U)(pU:U≤cap)(rC:cap≤maxLen)(apH:U<maxLen):VC Tryz.prog G 152 [aP (some ⟨bd,0,none⟩) U cap,ae (a:Nat),ae (b:Nat),.eC (.func fc) O] (⟨bd,3,cap*1,(l).flatMap cI⟩::Z) (fun r S'=>r = .dJ []∧∃lz,Part (Rc cF Lt) l lz a b∧S'=⟨bd,3,cap*1,(lz).flatMap cI⟩::Z):=by
 refine VC.body func152 rfl ntmps152 aQ fun X0 w0 bg=>?_;have dz:=ei;refine af [0,1,2,3,8] ?_;refine eD [0,1,2,3] (fun aW _ (E:Nat×List Int) aH=>match E with|(i,cur)=>((i≤b→oI (Rc cF Lt) l cur a i))∧(a<i)∧((a<b→i≤b))∧((a=b→cur=l))∧((cur).length=U)∧aH=(⟨53,(8,ae (i:Nat))::aW,(⟨bd,3,cap*1,(cur).flatMap cI⟩::Z)⟩:St)) (fun (E:Nat×List Int)=>match E with|(i,cur)=>b-i) ((a+1),l) ⟨(fun q=>aeQ w4),(Nat.lt_succ_self _),(fun q=>q),(fun _=>rfl),gi,rfl⟩ ?_;rintro⟨i,cur⟩ _ ⟨hs,Yp,hib,qR,lm,rfl⟩;refine af [0,1,2,3,8,14] ?_;refine au ?_ ?_<;>intro aO bE
 ·have aa:i<b:=(by omega)
  refine af [0,1,2,3,8,9] ?_;refine eD [0,1,2,3,8] (fun aW _ (E:Nat×List Int) aH=>match E with|(j,lG)=>(sR (Rc cF Lt) l lG a i j)∧((lG).length=U)∧aH=(⟨53,(9,ae (j:Nat))::aW,(⟨bd,3,cap*1,(lG).flatMap cI⟩::Z)⟩:St)) (fun (E:Nat×List Int)=>match E with|(j,lG)=>j) (i,cur) ⟨(aby (hs w4) w4),lm,rfl⟩ ?_;rintro⟨j,lG⟩ _ ⟨hj,zD,rfl⟩;have l6:=hj.len;have qJ:j<lG.length:=(by omega)
  have qI:j-1<lG.length:=(by omega)
  refine CD.seq ?_;refine CD.seq ?_;refine fE 14 (aq (take 1 _)) ?_ (fun _ h=>(Sublist.map _ (take_sublist _ _)).subset h);refine ay 0 rfl aZ ?_;refine ay 1 rfl aZ ?_;refine ay 2 rfl mT ?_;refine ay 3 rfl aZ ?_;refine dm.split (t:=21) lk (fun qE=>?_) (fun qE=>?_)
  ·have I:=qE;(try simp only[V.nx,ne_eq] at I)
   refine ay 4 rfl aZ ?_;refine ay 5 rfl aZ ?_;refine ay 6 rfl aZ ?_;refine ay 7 rfl (dc 1 (h:=by first|exact .l (j:=j) rfl w4|exact .r (j:=j) rfl w4)) ?_;refine ay 8 rfl eK ?_;refine ay 9 rfl aZ ?_;refine ay 10 rfl aZ ?_;refine ay 11 rfl (dw rfl ot bP (gj (r:=((j-1:Nat):Int)) (by rw[show((j:Int)-1)=((j-1:Nat):Int) by have Dq:=of_decide_eq_true qE;omega];exact wrap_i64 (by have Dq:=of_decide_eq_true qE;omega) w4))) ?_;refine ay 12 rfl (dc 1 (h:=by first|exact .l (j:=j-1) rfl w4|exact .r (j:=j-1) rfl w4)) ?_;refine ay 13 rfl eK ?_;refine dm.later rfl ?_;refine eE ?_;have Yq:∀x∈lG,V x:=fun x hx=>hV x (hj.perm.subset hx);refine OD.kz (f:=fc) (args:=[_,_]) (Sf:=Z) iw rfl rfl ot vw (hc _ _ (Yq _ (getElem_mem qJ)) (Yq _ (getElem_mem qI))) rfl ⟨ot,ot,trivial⟩ (perm_append_singleton _ _).symm ?_;rintro _ S2 ⟨rfl,iF⟩;rw[iF];clear iF;refine OD.perm (perm_append_singleton _ _) ?_;refine an 53 [0,1,2,3,8,9,34] ?_;refine au ?_ ?_<;>intro aY cJ
   ·have hja:a<j:=(by have q:=of_decide_eq_true qE;omega)
    have agN:cF (lG[j]'qJ) (lG[j-1]'qI)<0:=cJ;refine CD.skip ?_;refine CD.seq ?_;refine CD.block ?_;refine fE 16 (aq (eraseIdx _ 0)) ?_ (fun _ h=>(Sublist.map _ (eraseIdx_sublist _ 0)).subset h);refine ay 0 rfl aZ ?_;refine ay 1 rfl aZ ?_;refine ay 2 rfl aZ ?_;refine ay 3 rfl aZ ?_;refine ay 4 rfl (dw rfl ot bP (gj (r:=((j-1:Nat):Int)) Mu)) ?_;refine ay 5 rfl aZ ?_;refine ay 6 rfl aZ ?_;refine ay 7 rfl (dw rfl ot bP (gj (r:=((j-1:Nat):Int)) Mu)) ?_;refine ay 8 rfl (dc 1 (h:=by first|exact .l (j:=j-1) rfl w4|exact .r (j:=j-1) rfl w4)) ?_;refine ay 10 rfl aZ ?_;refine ay 11 rfl aZ ?_;refine ay 12 rfl (dc 1 (h:=by first|exact .l (j:=j) rfl w4|exact .r (j:=j) rfl w4)) ?_;refine dm.later rfl ?_;refine AD.two (i:=9) (j:=13) aA ?_ ?_
    ·refine at_ rfl eK ?_;refine AD.one (i:=13) aA ?_;exact WL
    refine at_ rfl eK ?_;refine AD.one (i:=9) aA ?_;exact WL
   exact W4
  have I:=qE;(try simp only[V.nx,ne_eq] at I)
  refine mw 4 rfl ?_;refine mw 5 rfl ?_;refine mw 6 rfl ?_;refine mw 7 rfl ?_;refine mw 8 rfl ?_;refine mw 9 rfl ?_;refine mw 10 rfl ?_;refine mw 11 rfl ?_;refine mw 12 rfl ?_;refine mw 13 rfl ?_;refine dm.later rfl ?_;refine eE ?_;refine bf [0,1,2,3,8,9,34] ?_;refine fN ?_;exact W4
 have nr:oI (Rc cF Lt) l cur a b:=(Nat.eq_or_lt_of_le h1).elim (fun q=>by subst q;rw[qR rfl];exact I9 w4) (fun q=>(show i=b by omega) ▸ hs w4);refine aJ _ ?_;exact⟨rfl,_,nr.part,rfl⟩

end Go.Proofs.YtdgichenhdikgaaGreatDoor.So
namespace Go.Proofs.YtdgichenhdikgaaGreatDoor.So
open List
open Go.Proofs.Tryz
variable {i:Nat}
def Mv(P B Q:List Int)(x:Int)(t:Nat):List Int:=P++(B.take t++x::(B.drop t++Q))
variable {P B Q:List Int} {x:Int} {t:Nat}
theorem FG(h:t≤B.length):(Mv P B Q x t).length=P.length+(B.length+1+Q.length):=by
 unfold Mv;simp only[length_append,length_cons,length_take,length_drop];omega
theorem Fm(h:t<B.length):Mv P B Q x t=(P++B.take t)++x::B[t]::(B.drop (t+1)++Q):=by
 unfold Mv;rw[drop_eq_getElem_cons h];simp only[append_assoc,cons_append]
theorem Fp(h:t<B.length):Mv P B Q x (t+1)=(P++B.take t)++B[t]::x::(B.drop (t+1)++Q):=Fl h
theorem zB(h:t<B.length):(P++B.take t).length=P.length+t:=by rw[length_append,length_take];omega
theorem agp(h:t<B.length)(h0:P.length+t<(Mv P B Q x t).length):(Mv P B Q x t)[P.length+t]=x:=by
 simp only[Fm h];rw[DV _ (zB h).symm]
theorem aeR(h:t<B.length)(h0:P.length+t+1<(Mv P B Q x t).length):(Mv P B Q x t)[P.length+t+1]=B[t]:=by
 simp only[Fm h];rw[DW _ (by rw[zB h])]
theorem ac7(h:t<B.length):((Mv P B Q x t).set (P.length+t) B[t]).set (P.length+t+1) x=Mv P B Q x (t+1):=by
 rw[Fm h,Fp h,←zB (P:=P) h,IL]
theorem aeS(h:t<B.length):((Mv P B Q x (t+1)).set (P.length+t+1) B[t]).set (P.length+t) x=Mv P B Q x t:=by
 rw[Fm h,Fp h,←zB (P:=P) h,set_comm _ _ w4,IL]

variable {R Lt:Int→Int→Prop} {l l1 l2 l3:List Int} {a s m e b mid:Nat}
theorem TH(ht:∀{x y z:Int},R x y→R y z→R x z){P B Q:List Int}{x:Int}{s t:Nat}(E:B.Pairwise R)(hs:s≤B.length)(hk:t≤B.length)(h1:t=0∨∃h:t-1<B.length,R B[t-1] x)(h2:t=B.length∨∃h:t<B.length,R x B[t]) :
  Part R (Mv P B Q x s) (Mv P B Q x t) P.length (P.length+(B.length+1)):=by
 have hp:∀t,(B.take t++x::B.drop t).Perm (x::B):=fun t=>List.perm_middle.trans (by rw[take_append_drop]);refine⟨P,B.take t++x::B.drop t,B.take s++x::B.drop s,Q,by unfold Mv;simp,by unfold Mv;simp,rfl,?_,(hp t).trans (hp s).symm,TF ht E hk h1 h2⟩;have:=(hp t).length_eq;simp only[length_cons] at this;rw[this]
def qk(R Lt:Int→Int→Prop)(l:List Int)(a m b:Nat):Prop:=∃(P A B Q:List Int),l=P++(A++(B++Q))∧P.length=a∧a+A.length=m∧m+B.length=b∧A.Pairwise R∧B.Pairwise R∧∀x∈A,∀y∈B,Lt x y
theorem qk.len(h:qk R Lt l a m b):a≤m∧m≤b∧b≤l.length:=by
 obtain⟨P,A,B,Q,rfl,rfl,rfl,rfl,_⟩:=h;simp only[length_append];omega
theorem qk.lt(h:qk R Lt l a m b){j:Nat}(h1:a≤i)(h2:i<m)(h3:m≤j)(h4:j<b)(hi:i<l.length)(hj:j<l.length):Lt l[i] l[j]:=by
 obtain⟨P,A,B,Q,rfl,rfl,rfl,rfl,_,_,h⟩:=h;refine h _ ?_ _ ?_
 ·rw[getElem_append_right h1,getElem_append_left w4];exact getElem_mem _
 rw[getElem_append_right w4,getElem_append_right w4,getElem_append_left w4];exact getElem_mem _
theorem P9{P M Q:List Int}(h:M.Pairwise R):Part R (P++(M++Q)) (P++(M++Q)) P.length (P.length+M.length):=⟨P,M,M,Q,rfl,rfl,rfl,rfl,.refl _,h⟩
theorem RE{P E Q:List Int}{x y:Nat}(h:Part R (P++(E++Q)) l x y)(hx:x=P.length)(hy:y=P.length+E.length):∃M,l=P++(M++Q)∧M.Perm E∧M.Pairwise R:=by
 obtain⟨P',M,U,Q',h1,h2,h3,h4,h5,h6⟩:=h;have hl:=h5.length_eq;obtain⟨e1,e2⟩:=append_inj h2 w4;obtain⟨I,O⟩:=append_inj e2 w4;subst e1 I O;exact⟨M,h1,h5,h6⟩
def uq(R Lt:Int→Int→Prop)(l l1:List Int)(a s m e b mid:Nat):Prop:=∃(P A1 A2 B1 B2 Q:List Int),l=P++(A1++(A2++(B1++(B2++Q))))∧l1=P++(A1++(B1++(A2++(B2++Q))))∧P.length=a∧a+A1.length=s∧s+A2.length=m∧m+B1.length=e∧e+B2.length=b∧s+B1.length=mid ∧
 A1.Pairwise R∧A2.Pairwise R∧B1.Pairwise R∧B2.Pairwise R∧(∀x∈A1,∀y∈B1,Lt x y)∧(∀x∈A2,∀y∈B2,Lt x y)∧∀x∈A1++B1,∀y∈A2++B2,R x y
theorem aeT (ht:∀{x y z:Int},R x y→R y z→R x z) (h:qk R Lt l a m b) (h1:a≤s) (h2:s≤m) (h3:m≤e) (h4:e≤b) (hm:s+(e-m)=mid)
  (k1:s=a∨e=b∨∃(p:s-1<l.length) (q:e<l.length),R l[s-1] l[e]) (k2:e=m∨s=m∨∃(p:e-1<l.length) (q:s<l.length),R l[e-1] l[s]):∃l1,uq R Lt l l1 a s m e b mid∧rX l1 l m (m-s) (e-m):=by
 obtain⟨P,A,B,Q,rfl,rfl,rfl,rfl,hA,hB,aa⟩:=h;obtain⟨i,rfl⟩:∃i,s=P.length+i:=⟨s-P.length,by omega⟩
 obtain⟨j,rfl⟩:∃j,e=P.length+A.length+j:=⟨e-(P.length+A.length),by omega⟩
 have E:∀k (h:k<A.length) (q:P.length+k<(P++(A++(B++Q))).length),(P++(A++(B++Q)))[P.length+k]=A[k]:=fun k h q=>by
  rw[getElem_append_right w4,getElem_append_left w4];simp
 have I:∀k (h:k<B.length) (q:P.length+A.length+k<(P++(A++(B++Q))).length),(P++(A++(B++Q)))[P.length+A.length+k]=B[k]:=fun k h q=>by
  rw[getElem_append_right w4,getElem_append_right w4,getElem_append_left w4];congr 1;omega
 have hc:=abx (R:=R) ht hA hB (i:=i) (j:=j) w4 w4 (by
  rcases Nat.eq_zero_or_pos i with q|q
  ·exact .inl q
  rcases k1 with k1|k1|⟨p1,p2,k1⟩
  ·omega
  ·exact .inr (.inl w4)
  ·rcases Nat.lt_or_ge j B.length with q2|q2
   ·refine .inr (.inr ⟨by omega,q2,?_⟩);have e1:=E (i-1) w4 w4;simp only[show P.length+i-1=P.length+(i-1) by omega] at k1;rw[e1,I j q2] at k1;exact k1
   exact .inr (.inl w4)) (by
  rcases Nat.eq_zero_or_pos j with q|q
  ·exact .inl q
  rcases k2 with k2|k2|⟨p1,p2,k2⟩
  ·omega
  ·exact .inr (.inl w4)
  rcases Nat.lt_or_ge i A.length with q2|q2
  ·refine .inr (.inr ⟨by omega,q2,?_⟩);have e1:=I (j-1) w4 w4;simp only[show P.length+A.length+j-1=P.length+A.length+(j-1) by omega] at k2;rw[e1,E i q2] at k2;exact k2
  exact .inr (.inl w4))
 have la1:(A.take i).length=i:=(by rw[length_take];omega)
 have lb1:(B.take j).length=j:=(by rw[length_take];omega)
 have la2:(A.drop i).length=A.length-i:=length_drop;have lb2:(B.drop j).length=B.length-j:=length_drop;have O:A.take i++A.drop i=A:=take_append_drop ..;have U:B.take j++B.drop j=B:=take_append_drop ..;have Z:(A.take i++A.drop i).Pairwise R:=(by rw[O];exact hA)
 have pb:(B.take j++B.drop j).Pairwise R:=(by rw[U];exact hB)
 have ea:A++(B++Q)=A.take i++(A.drop i++(B.take j++(B.drop j++Q))):=(by rw[←append_assoc (A.take i),O,←append_assoc (B.take j),U])
 refine⟨P++(A.take i++(B.take j++(A.drop i++(B.drop j++Q)))),⟨P,A.take i,A.drop i,B.take j,B.drop j,Q,by rw[ea],rfl,rfl,by omega,by omega,by omega,by omega,by omega,(pairwise_append.1 Z).1,(pairwise_append.1 Z).2.1,(pairwise_append.1 pb).1,(pairwise_append.1 pb).2.1,fun x hx y hy=>aa x (mem_of_mem_take hx) y (mem_of_mem_take hy),fun x hx y hy=>aa x (mem_of_mem_drop hx) y (mem_of_mem_drop hy),hc⟩,
  P++A.take i,A.drop i,B.take j,B.drop j++Q,by rw[ea];simp,by omega,by omega,by rw[length_append];omega,by simp⟩
theorem uq.perm(h:uq R Lt l l1 a s m e b mid):l1.Perm l:=by
 obtain⟨P,E,I,O,B2,Q,rfl,rfl,_⟩:=h;refine Perm.append_left P (Perm.append_left E ?_);rw[←append_assoc O,←append_assoc I];exact List.perm_append_comm.append_right _
theorem aeU(h:uq R Lt l l1 a s m e b mid):qk R Lt l1 a s mid:=by
 obtain⟨P,E,I,O,B2,Q,rfl,rfl,e1,e2,Z,e4,e5,U,p1,p2,p3,p4,q1,q2,q3⟩:=h;exact⟨P,E,O,I++(B2++Q),rfl,e1,e2,U,p1,p3,q1⟩
theorem RF(h:uq R Lt l l1 a s m e b mid)(hn:¬(a<s∧s<mid)):Part R l1 l1 a mid:=by
 obtain⟨P,E,O,I,B2,Q,rfl,rfl,rfl,e2,U,Z,e5,e6,p1,p2,p3,p4,q1,q2,q3⟩:=h;have:(E++I).Pairwise R:=by
  rcases Nat.eq_zero_or_pos E.length with h|h
  ·rw[length_eq_zero_iff.1 h];exact p3
  rw[length_eq_zero_iff.1 (show I.length=0 by omega),append_nil];exact p1
 have:=P9 (P:=P) (Q:=O++(B2++Q)) this;rw[append_assoc,length_append] at this;rwa [show P.length+(E.length+I.length)=mid by omega] at this
theorem JY(h:uq R Lt l l1 a s m e b mid)(k:Part R l1 l2 a mid):∃(P I E O B2 Q M:List Int),l=P++(I++(E++(O++(B2++Q))))∧l2=P++(M++(E++(B2++Q)))∧P.length=a∧M.length+a=mid∧M.Perm (I++O)∧mid+E.length=e∧e+B2.length=b∧M.Pairwise R∧E.Pairwise R∧B2.Pairwise R∧(∀x∈E,∀y∈B2,Lt x y)∧∀x∈M,∀y∈E++B2,R x y:=by
 obtain⟨P,I,E,O,B2,Q,rfl,rfl,rfl,e2,e3,e4,e5,e6,p1,p2,p3,U,q1,q2,Z⟩:=h;rw[←append_assoc I] at k;obtain⟨M,h1,h2,h3⟩:=RE k rfl vE;have:=h2.length_eq;rw[length_append] at this;exact⟨P,I,E,O,B2,Q,M,rfl,h1,rfl,by omega,h2,by omega,by omega,h3,p2,U,q2,fun x hx=>Z x (h2.subset hx)⟩
theorem ac8(h:uq R Lt l l1 a s m e b mid)(k:Part R l1 l2 a mid):qk R Lt l2 mid e b:=by
 obtain⟨P,I,E,O,B2,Q,M,rfl,rfl,rfl,e1,e2,U,Z,p1,p2,p3,q1,q2⟩:=JY h k;exact⟨P++M,E,B2,Q,by simp,by rw[length_append];omega,by omega,by omega,p2,p3,q1⟩
theorem O9(h:uq R Lt l l1 a s m e b mid)(k:Part R l1 l2 a mid)(hn:¬(mid<e∧e<b)):Part R l2 l2 mid b:=by
 obtain⟨P,I,E,O,B2,Q,M,rfl,rfl,rfl,e1,e2,U,Z,p1,p2,p3,q1,q2⟩:=JY h k;have:(E++B2).Pairwise R:=by
  rcases Nat.eq_zero_or_pos E.length with h|h
  ·rw[length_eq_zero_iff.1 h];exact p3
  rw[length_eq_zero_iff.1 (show B2.length=0 by omega),append_nil];exact p2
 have:=P9 (P:=P++M) (Q:=Q) this;rw[append_assoc,length_append,length_append,append_assoc] at this;rwa [show P.length+M.length+(E.length+B2.length)=b by omega,show P.length+M.length=mid by omega] at this
theorem E5(h:uq R Lt l l1 a s m e b mid)(k:Part R l1 l2 a mid)(j:Part R l2 l3 mid b):Part R l l3 a b:=by
 obtain⟨P,E,I,O,B2,Q,M,rfl,rfl,rfl,e1,e2,Z,e4,p1,p2,p3,q1,q2⟩:=JY h k;rw[←append_assoc I,←append_assoc P] at j;obtain⟨U,h1,h2,h3⟩:=RE j vE (by rw[length_append,length_append];omega);have hl:=e2.length_eq;have iP:=h2.length_eq;rw[length_append] at hl iP;refine⟨P,M++U,E++(I++(O++B2)),Q,by rw[h1];simp,by simp,rfl,by rw[length_append];omega,?_,pairwise_append.2 ⟨p1,h3,fun x hx y hy=>q2 x hx y (h2.subset hy)⟩⟩;refine(e2.append h2).trans ?_;rw[append_assoc E];refine Perm.append_left E ?_;rw[←append_assoc O,←append_assoc I];exact List.perm_append_comm.append_right B2
theorem Part.perm(h:Part R l l1 a b):l1.Perm l:=by
 obtain⟨P,M,E,Q,rfl,rfl,_,_,hp,_⟩:=h;exact(hp.append_right Q).append_left P
theorem Part.len(h:Part R l l1 a b):l1.length=l.length:=h.perm.length_eq
theorem abT{T cur:List Int}{j:Nat}(h:rX T cur m i j)(hz:i=0∨j=0):T=cur:=by
 obtain⟨P,X,Y,Q,rfl,rfl,rfl,hm,rfl⟩:=h;rcases hz with h|h
 ·rw[length_eq_zero_iff.1 h];rfl
 rw[length_eq_zero_iff.1 h];rfl
theorem ac9(ht:∀{x y z:Int},R x y→R y z→R x z)(h:qk R Lt l a m b)(hm:m=a+1)(h1:m≤i)(h2:i≤b)(k1:i=m∨∃(p:i-1<l.length) (q:a<l.length),R l[i-1] l[a])(k2:i=b∨∃(p:a<l.length) (q:i<l.length),R l[a] l[i]) :
  ∃(P B Q:List Int) (x:Int),P.length=a∧l=Mv P B Q x 0∧i-m≤B.length∧m+B.length=b∧Part R l (Mv P B Q x (i-m)) a b:=by
 obtain⟨P,A,B,Q,rfl,rfl,rfl,rfl,hA,hB,aa⟩:=h;obtain⟨x,rfl⟩:=length_eq_one_iff.1 (show A.length=1 by omega);have E:∀(q:P.length<(P++([x]++(B++Q))).length),(P++([x]++(B++Q)))[P.length]=x:=fun q=>by rw[getElem_append_right w4];simp
 have I:∀k (h:k<B.length) (q:P.length+1+k<(P++([x]++(B++Q))).length),(P++([x]++(B++Q)))[P.length+1+k]=B[k]:=fun k h q=>by
  rw[getElem_append_right w4,getElem_append_right iu,getElem_append_left iu];simp only[length_singleton];congr 1;omega
 have j8:([x]:List Int).length=1:=rfl;rw[j8] at *;obtain⟨t,rfl⟩:∃t,i=P.length+1+t:=⟨i-(P.length+1),by omega⟩
 rw[show P.length+1+t-(P.length+1)=t by omega];have hp:=TH (R:=R) (P:=P) (B:=B) (Q:=Q) (x:=x) (s:=0) (t:=t) ht hB (Nat.zero_le _) w4 (by
  rcases Nat.eq_zero_or_pos t with q|q
  ·exact .inl q
  rcases k1 with k1|⟨p1,O,k1⟩
  ·omega
  ·refine .inr ⟨by omega,?_⟩;have e1:=I (t-1) w4 w4;simp only[show P.length+1+t-1=P.length+1+(t-1) by omega] at k1;rw[E,e1] at k1;exact k1) (by
  rcases k2 with k2|⟨p1,O,k2⟩
  ·exact .inl w4
  rcases Nat.lt_or_ge t B.length with q|q
  ·exact .inr ⟨q,by rw[E,I t q] at k2;exact k2⟩
  exact .inl w4)
 refine⟨P,B,Q,x,rfl,rfl,by omega,rfl,?_⟩;rw[show P.length+(B.length+1)=P.length+1+B.length by omega] at hp;exact hp
theorem abz(ht:∀{x y z:Int},R x y→R y z→R x z)(h:qk R Lt l a m b)(hm:b=m+1)(h1:a≤i)(h2:i≤m)(k1:i=a∨∃(p:i-1<l.length) (q:m<l.length),R l[i-1] l[m])(k2:i=m∨∃(p:m<l.length) (q:i<l.length),R l[m] l[i]) :
  ∃(P B Q:List Int) (x:Int),P.length=a∧l=Mv P B Q x (m-a)∧i-a≤B.length∧a+B.length=m∧Part R l (Mv P B Q x (i-a)) a b:=by
 obtain⟨P,A,B,Q,rfl,rfl,rfl,rfl,hA,hB,aa⟩:=h;obtain⟨x,rfl⟩:=length_eq_one_iff.1 (show B.length=1 by omega);have E:∀(q:P.length+A.length<(P++(A++([x]++Q))).length),(P++(A++([x]++Q)))[P.length+A.length]=x:=fun q=>by
  rw[getElem_append_right w4,getElem_append_right w4];simp
 have I:∀k (h:k<A.length) (q:P.length+k<(P++(A++([x]++Q))).length),(P++(A++([x]++Q)))[P.length+k]=A[k]:=fun k h q=>by
  rw[getElem_append_right w4,getElem_append_left w4];simp
 have j8:([x]:List Int).length=1:=rfl;rw[j8] at *;obtain⟨t,rfl⟩:∃t,i=P.length+t:=⟨i-P.length,by omega⟩
 rw[show P.length+t-P.length=t by omega,show P.length+A.length-P.length=A.length by omega];have he:P++(A++([x]++Q))=Mv P A Q x A.length:=(by unfold Mv;simp)
 have hp:=TH (R:=R) (P:=P) (B:=A) (Q:=Q) (x:=x) (s:=A.length) (t:=t) ht hA (Nat.le_refl _) w4 (by
  rcases Nat.eq_zero_or_pos t with q|q
  ·exact .inl q
  rcases k1 with k1|⟨p1,O,k1⟩
  ·omega
  ·refine .inr ⟨by omega,?_⟩;have e1:=I (t-1) w4 w4;simp only[show P.length+t-1=P.length+(t-1) by omega] at k1;rw[E,e1] at k1;exact k1) (by
  rcases k2 with k2|⟨p1,O,k2⟩
  ·exact .inl w4
  rcases Nat.lt_or_ge t A.length with q|q
  ·exact .inr ⟨q,by rw[E,I t q] at k2;exact k2⟩
  exact .inl w4)
 refine⟨P,A,Q,x,rfl,he,by omega,rfl,?_⟩;rw[he,show P.length+A.length+1=P.length+(A.length+1) by omega];exact hp
theorem ada(h:t<B.length)(h0:P.length+t<(Mv P B Q x (t+1)).length):(Mv P B Q x (t+1))[P.length+t]=B[t]:=by
 simp only[Fp h];rw[DV _ (zB h).symm]
theorem adb(h:t<B.length)(h0:P.length+t+1<(Mv P B Q x (t+1)).length):(Mv P B Q x (t+1))[P.length+t+1]=x:=by
 simp only[Fp h];rw[DW _ (by rw[zB h])]
theorem afq(h:t<B.length)(ha:P.length=a)(h0:a+t<(Mv P B Q x t).length)(h1:a+t+1<(Mv P B Q x t).length):((Mv P B Q x t).set (a+t) (Mv P B Q x t)[a+t+1]).set (a+t+1) (Mv P B Q x t)[a+t]=Mv P B Q x (t+1):=by
 subst ha;rw[aeR h,agp h,ac7 h]
theorem afp(h:t<B.length)(ha:P.length=a)(h0:a+t<(Mv P B Q x (t+1)).length)(h1:a+t+1<(Mv P B Q x (t+1)).length):((Mv P B Q x (t+1)).set (a+t+1) (Mv P B Q x (t+1))[a+t]).set (a+t) (Mv P B Q x (t+1))[a+t+1]=Mv P B Q x t:=by
 subst ha;rw[ada h,adb h,aeS h]

end Go.Proofs.YtdgichenhdikgaaGreatDoor.So
namespace Go.Proofs.YtdgichenhdikgaaGreatDoor.So
open List
open Go.Proofs.Tryz
open Go.RowKit V Tw
variable {G:List (Nat×List Value)}
theorem ade(ln cap O fc:Nat)(U:List D)(I:List ah)(cF:Int→Int→Int)(V:Int→Prop)(Lt:Int→Int→Prop)(hc:∀x y,V x→V y→VC Tryz.prog G fc ([ae x,ae y]++U) I (fun r S'=>r=ae (cF x y)∧S'=I))(Z:∀args w,(callFunc fc args).run Tryz.prog w = .ok (.enter fc args) w)(ht:∀{x y z:Int},Rc cF Lt x y→Rc cF Lt y z→Rc cF Lt x z)(ha:∀x y,0≤cF y x→cF x y≤0)(pU:ln≤cap)(rC:cap≤maxLen)(pu:ln≤1000000)(n:Nat)(ih:∀k,k<n→∀(l:List Int) (a m b:Nat),b-a=k→qk (Rc cF Lt) Lt l a m b→a<m→m<b→l.length=ln→(∀x∈l,V x)→VC Tryz.prog G 153 [aP (some ⟨O,0,none⟩) ln cap,ae (a:Nat),ae (m:Nat),ae (b:Nat),.eC (.func fc) U] (⟨O,3,cap*1,(l).flatMap cI⟩::I) (fun r S'=>r = .dJ []∧∃lz,Part (Rc cF Lt) l lz a b∧S'=⟨O,3,cap*1,(lz).flatMap cI⟩::I))(l:List Int)(a m b:Nat)(hn:b-a=n)(h:qk (Rc cF Lt) Lt l a m b)(h1:a<m)(h2:m<b)(gi:l.length=ln)(hV:∀x∈l,V x):VC Tryz.prog G 153 [aP (some ⟨O,0,none⟩) ln cap,ae (a:Nat),ae (m:Nat),ae (b:Nat),.eC (.func fc) U] (⟨O,3,cap*1,(l).flatMap cI⟩::I) (fun r S'=>r = .dJ []∧∃lz,Part (Rc cF Lt) l lz a b∧S'=⟨O,3,cap*1,(lz).flatMap cI⟩::I):=by
 refine VC.body func153 rfl ntmps153 aQ fun X0 w0 bg=>?_;have dz:=ei;have hlen:=h.len;refine cZ [0,1,2,3,4,28] ?_;refine aS 2 ?_ (h:=by exact(dw rfl ot ot (gj (r:=((m-a:Nat):Int)) qH)));refine bK ?_;refine au ?_ ?_<;>intro aO bE
 ·have Dp:m=a+1:=(by omega)
  refine af [0,1,3,4,10] ?_;refine af [0,1,4,10,11] ?_;refine eD [0,1,4] (fun aW _ (E:Nat×Nat) aH=>match E with|(i,j)=>(m≤i)∧(i≤j)∧(j≤b)∧((i=m∨∃(p:i-1<l.length) (q:a<l.length),(Rc cF Lt) l[i-1] l[a]))∧((j=b∨∃(p:a<l.length) (q:j<l.length),(Rc cF Lt) l[a] l[j]))∧aH=(⟨220,(10,ae (i:Nat))::(11,ae (j:Nat))::aW,(⟨O,3,cap*1,(l).flatMap cI⟩::I)⟩:St)) (fun (E:Nat×Nat)=>match E with|(i,j)=>j-i) (m,b) ⟨(Nat.le_refl _),w4,(Nat.le_refl _),(.inl rfl),(.inl rfl),rfl⟩ ?_;rintro⟨i,j⟩ _ ⟨mD,Yg,hjb,dP,fy,rfl⟩;refine af [0,1,4,10,11,33] ?_;refine au ?_ ?_<;>intro aY cJ
  ·have hh:i<j:=(by omega)
   have hH:((i+j)/2)<l.length:=(by omega)
   have hA:a<l.length:=(by omega)
   refine cZ [0,1,4,10,11,12] ?_;refine aS 2 ?_ (h:=by exact(dw rfl ot ot (kx (r:=((i+j:Nat):Int)) Ah)));refine aS 0 ?_ (h:=by exact(oM rfl ot (oN (r:=((i+j:Nat):Int)) runUnderlying3 runUnderlying231 (IntWalk.u64_in _ w4))));refine aS 0 ?_ (h:=by exact(dw rfl ot bP (y4 w7 BQ)));refine aS 0 ?_ (h:=by exact(oM rfl ot (oN (r:=((((i+j)/2):Nat):Int)) runUnderlying231 runUnderlying3 (wrap_i64 w4 w4))));refine bK ?_;refine CD.seq ?_;refine fE 9 (aq (take 1 _)) ?_ (fun _ h=>(Sublist.map _ (take_sublist _ _)).subset h);refine ay 0 rfl aZ ?_;refine ay 1 rfl aZ ?_;refine ay 2 rfl aZ ?_;refine ay 3 rfl (dc 1 (h:=by first|exact .l (j:=((i+j)/2)) rfl w4|exact .r (j:=((i+j)/2)) rfl w4)) ?_;refine ay 4 rfl eK ?_;refine ay 5 rfl aZ ?_;refine ay 6 rfl aZ ?_;refine ay 7 rfl (dc 1 (h:=by first|exact .l (j:=a) rfl w4|exact .r (j:=a) rfl w4)) ?_;refine ay 8 rfl eK ?_;refine dm.later rfl ?_;refine eE ?_;refine OD.kz (f:=fc) (args:=[_,_]) (Sf:=I) ap rfl rfl ot Z (hc _ _ (hV _ (getElem_mem hH)) (hV _ (getElem_mem hA))) rfl ⟨ot,ot,trivial⟩ (perm_append_singleton _ _).symm ?_;rintro _ S2 ⟨rfl,iF⟩;rw[iF];clear iF;refine OD.perm (perm_append_singleton _ _) ?_;refine an 220 [0,1,4,10,11,12,50] ?_;refine au ?_ ?_<;>intro cm cW
   ·have xL:(Rc cF Lt) (l[((i+j)/2)]'hH) (l[a]'hA):=E3 cW;refine cl [0,1,4,10,11] ?_;exact Xo
   have Aw:(Rc cF Lt) (l[a]'hA) (l[((i+j)/2)]'hH):=Ft ha (h.lt (Nat.le_refl _) w4 w4 w4 hA hH) w4;refine cl [0,1,4,10,11] ?_;exact z105
  obtain rfl:i=j:=(by omega)
  obtain⟨P,B,Q,x,hP,hl,hiB,hB,KA⟩:=ac9 (R:=Rc cF Lt) (l:=l) (a:=a) (m:=m) (b:=b) (i:=i) ht h Dp mD hjb dP fy;subst hl;have l8:∀t,t≤B.length→(Mv P B Q x (t)).length=ln:=fun t ht=>by rw[FG ht,←gi,FG (Nat.zero_le _)]
  refine af [0,10,13] ?_;refine eD [0,10] (fun aW _ (t:Nat) aH=>(t≤i-m)∧aH=(⟨220,(13,ae (a+t:Nat))::aW,(⟨O,3,cap*1,(Mv P B Q x (t)).flatMap cI⟩::I)⟩:St)) (fun (t:Nat)=>i-m-t) 0 ⟨(Nat.zero_le _),rfl⟩ ?_;rintro t _ ⟨hti,rfl⟩;refine cZ [0,10,13,58] ?_;refine aS 2 ?_ (h:=by exact(dw rfl ot bP (gj (r:=((i-1:Nat):Int)) (by rw[show(((i:Nat):Int)-1)=((i-1:Nat):Int) by omega];exact wrap_i64 w4 w4))));refine bK ?_;refine au ?_ ?_<;>intro da ek
  ·have ML:t<B.length:=(by omega)
   have o8:=l8 t w4;refine CD.skip ?_;refine CD.seq ?_;refine CD.block ?_;refine fE 16 (aq (eraseIdx _ 0)) ?_ (fun _ h=>(Sublist.map _ (eraseIdx_sublist _ 0)).subset h);refine ay 0 rfl aZ ?_;refine ay 1 rfl aZ ?_;refine ay 2 rfl aZ ?_;refine ay 3 rfl aZ ?_;refine ay 4 rfl (dw rfl ot bP (kx (r:=((a+t+1:Nat):Int)) (by rw[show(((a+t:Nat):Int)+1)=((a+t+1:Nat):Int) by omega];exact wrap_i64 w4 w4))) ?_;refine ay 5 rfl aZ ?_;refine ay 6 rfl aZ ?_;refine ay 7 rfl (dw rfl ot bP (kx (r:=((a+t+1:Nat):Int)) (by rw[show(((a+t:Nat):Int)+1)=((a+t+1:Nat):Int) by omega];exact wrap_i64 w4 w4))) ?_;refine ay 8 rfl (dc 1 (h:=by first|exact .l (j:=a+t+1) rfl w4|exact .r (j:=a+t+1) rfl w4)) ?_;refine ay 10 rfl aZ ?_;refine ay 11 rfl aZ ?_;refine ay 12 rfl (dc 1 (h:=by first|exact .l (j:=a+t) rfl w4|exact .r (j:=a+t) rfl w4)) ?_;refine dm.later rfl ?_;refine AD.two (i:=9) (j:=13) aA ?_ ?_
   ·refine at_ rfl eK ?_;refine AD.one (i:=13) aA ?_;exact WK
   refine at_ rfl eK ?_;refine AD.one (i:=9) aA ?_;exact WK
  obtain rfl:t=i-m:=(by omega)
  exact G4
 refine cZ [0,1,2,3,4,80] ?_;refine aS 2 ?_ (h:=by exact(dw rfl ot ot (gj (r:=((b-m:Nat):Int)) qH)));refine bK ?_;refine au ?_ ?_<;>intro ez fw
 ·have Dp:b=m+1:=(by omega)
  refine af [0,2,4,14] ?_;refine af [0,2,4,14,15] ?_;refine eD [0,2,4] (fun aW _ (E:Nat×Nat) aH=>match E with|(i,j)=>(a≤i)∧(i≤j)∧(j≤m)∧((i=a∨∃(p:i-1<l.length) (q:m<l.length),(Rc cF Lt) l[i-1] l[m]))∧((j=m∨∃(p:m<l.length) (q:j<l.length),(Rc cF Lt) l[m] l[j]))∧aH=(⟨220,(14,ae (i:Nat))::(15,ae (j:Nat))::aW,(⟨O,3,cap*1,(l).flatMap cI⟩::I)⟩:St)) (fun (E:Nat×Nat)=>match E with|(i,j)=>j-i) (a,m) ⟨(Nat.le_refl _),w4,(Nat.le_refl _),(.inl rfl),(.inl rfl),rfl⟩ ?_;rintro⟨i,j⟩ _ ⟨Yp,Yg,Nk,dP,fy,rfl⟩;refine af [0,2,4,14,15,85] ?_;refine au ?_ ?_<;>intro fg gB
  ·have hh:i<j:=(by omega)
   have hH:((i+j)/2)<l.length:=(by omega)
   have hM:m<l.length:=(by omega)
   refine cZ [0,2,4,14,15,16] ?_;refine aS 2 ?_ (h:=by exact(dw rfl ot ot (kx (r:=((i+j:Nat):Int)) Ah)));refine aS 0 ?_ (h:=by exact(oM rfl ot (oN (r:=((i+j:Nat):Int)) runUnderlying3 runUnderlying231 (IntWalk.u64_in _ w4))));refine aS 0 ?_ (h:=by exact(dw rfl ot bP (y4 w7 BQ)));refine aS 0 ?_ (h:=by exact(oM rfl ot (oN (r:=((((i+j)/2):Nat):Int)) runUnderlying231 runUnderlying3 (wrap_i64 w4 w4))));refine bK ?_;refine CD.seq ?_;refine fE 9 (aq (take 1 _)) ?_ (fun _ h=>(Sublist.map _ (take_sublist _ _)).subset h);refine ay 0 rfl aZ ?_;refine ay 1 rfl aZ ?_;refine ay 2 rfl aZ ?_;refine ay 3 rfl (dc 1 (h:=by first|exact .l (j:=m) rfl w4|exact .r (j:=m) rfl w4)) ?_;refine ay 4 rfl eK ?_;refine ay 5 rfl aZ ?_;refine ay 6 rfl aZ ?_;refine ay 7 rfl (dc 1 (h:=by first|exact .l (j:=((i+j)/2)) rfl w4|exact .r (j:=((i+j)/2)) rfl w4)) ?_;refine ay 8 rfl eK ?_;refine dm.later rfl ?_;refine eE ?_;refine OD.kz (f:=fc) (args:=[_,_]) (Sf:=I) ap rfl rfl ot Z (hc _ _ (hV _ (getElem_mem hM)) (hV _ (getElem_mem hH))) rfl ⟨ot,ot,trivial⟩ (perm_append_singleton _ _).symm ?_;rintro _ S2 ⟨rfl,iF⟩;rw[iF];clear iF;refine OD.perm (perm_append_singleton _ _) ?_;refine an 220 [0,2,4,14,15,16,103] ?_;refine au ?_ ?_<;>intro gY kS
   ·have xL:(Rc cF Lt) (l[((i+j)/2)]'hH) (l[m]'hM):=Ft ha (h.lt w4 w4 (Nat.le_refl _) w4 hH hM) w4;refine cl [0,2,4,14,15] ?_;exact Xo
   have Aw:(Rc cF Lt) (l[m]'hM) (l[((i+j)/2)]'hH):=E3 kS;refine cl [0,2,4,14,15] ?_;exact z105
  obtain rfl:i=j:=(by omega)
  obtain⟨P,B,Q,x,hP,hl,hiB,hB,KA⟩:=abz (R:=Rc cF Lt) (l:=l) (a:=a) (m:=m) (b:=b) (i:=i) ht h Dp Yp Nk dP fy;subst hl;have l8:∀t,t≤B.length→(Mv P B Q x (t)).length=ln:=fun t ht=>by rw[FG ht,←gi,FG w4]
  refine af [0,14,17] ?_;refine eD [0,14] (fun aW _ (t:Nat) aH=>(i-a≤t)∧(t≤m-a)∧aH=(⟨220,(17,ae (a+t:Nat))::aW,(⟨O,3,cap*1,(Mv P B Q x (t)).flatMap cI⟩::I)⟩:St)) (fun (t:Nat)=>t) (m-a) ⟨w4,(Nat.le_refl _),rfl⟩ ?_;rintro t _ ⟨hti,htm,rfl⟩;refine af [0,14,17,110] ?_;refine au ?_ ?_<;>intro gq lB
  ·obtain⟨t,rfl⟩:∃k,t=k+1:=⟨t-1,by omega⟩
   have ML:t<B.length:=(by omega)
   have o8:=l8 (t+1) w4;refine CD.skip ?_;refine CD.seq ?_;refine CD.block ?_;refine fE 16 (aq (eraseIdx _ 0)) ?_ (fun _ h=>(Sublist.map _ (eraseIdx_sublist _ 0)).subset h);refine ay 0 rfl aZ ?_;refine ay 1 rfl aZ ?_;refine ay 2 rfl aZ ?_;refine ay 3 rfl aZ ?_;refine ay 4 rfl (dw rfl ot bP (gj (r:=((a+t:Nat):Int)) Ms)) ?_;refine ay 5 rfl aZ ?_;refine ay 6 rfl aZ ?_;refine ay 7 rfl (dw rfl ot bP (gj (r:=((a+t:Nat):Int)) Ms)) ?_;refine ay 8 rfl (dc 1 (h:=by first|exact .l (j:=a+t) rfl w4|exact .r (j:=a+t) rfl w4)) ?_;refine ay 10 rfl aZ ?_;refine ay 11 rfl aZ ?_;refine ay 12 rfl (dc 1 (h:=by first|exact .l (j:=a+t+1) rfl w4|exact .r (j:=a+t+1) rfl w4)) ?_;refine dm.later rfl ?_;refine AD.two (i:=9) (j:=13) aA ?_ ?_
   ·refine at_ rfl eK ?_;refine AD.one (i:=13) aA ?_;exact WJ
   refine at_ rfl eK ?_;refine AD.one (i:=9) aA ?_;exact WJ
  obtain rfl:t=i-a:=(by omega)
  exact G4
 obtain⟨mid,akl⟩:∃q,q=(a+b)/2:=⟨_,rfl⟩
 refine cZ [0,1,2,3,4,18] ?_;refine aS 2 ?_ (h:=by exact(dw rfl ot ot (kx (r:=((a+b:Nat):Int)) Ah)));refine aS 0 ?_ (h:=by exact(oM rfl ot (oN (r:=((a+b:Nat):Int)) runUnderlying3 runUnderlying231 (IntWalk.u64_in _ w4))));refine aS 0 ?_ (h:=by exact(dw rfl ot bP (y4 w7 BQ)));refine aS 0 ?_ (h:=by exact(oM rfl ot (oN (r:=((mid:Nat):Int)) runUnderlying231 runUnderlying3 (by rw[show(((a+b)/2:Nat):Int)=((mid:Nat):Int) by rw[akl]];exact wrap_i64 w4 w4))));refine bK ?_;refine cZ [0,1,2,3,4,18,19] ?_;refine aS 2 ?_ (h:=by exact(dw rfl ot ot (kx (r:=((mid+m:Nat):Int)) Ah)));refine bK ?_;refine af [0,1,2,3,4,18,19] ?_;refine jQ [0,1,2,3,4,18,19] (fun aW uL aH=>∃(s0:Nat),∃(r0:Nat),((mid<m∧s0=mid+m-b∧r0=mid)∨(m≤mid∧s0=a∧r0=m))∧aH=(⟨220,(20,ae (s0:Nat))::(21,ae (r0:Nat))::aW,uL⟩:St)) ?_ ?_
 ·refine af [0,1,2,3,4,18,19,140] ?_;refine au ?_ ?_<;>intro p9 Gs
  ·refine cZ [0,1,2,3,4,18,19,20] ?_;refine aS 2 ?_ (h:=by exact(dw rfl ot ot (gj (r:=(((mid+m)-b:Nat):Int)) qH)));refine bK ?_;refine cl [0,1,2,3,4,18,19,20,21] ?_;refine⟨_,aK,(mid+m-b),mid,(.inl ⟨by omega,rfl,rfl⟩),rfl⟩
  refine af [0,1,2,3,4,18,19,20] ?_;refine cl [0,1,2,3,4,18,19,20,21] ?_;refine⟨_,aK,a,m,(.inr ⟨by omega,rfl,rfl⟩),rfl⟩
 rintro _ ⟨s0,r0,HF,rfl⟩;refine cZ [0,1,2,3,4,18,19,20,21,22] ?_;refine aS 1 ?_ (h:=by exact(dw rfl ot bP (gj (r:=(((mid+m)-1:Nat):Int)) (by rw[show((((mid+m):Nat):Int)-1)=(((mid+m)-1:Nat):Int) by omega];exact wrap_i64 w4 w4))));refine bK ?_;refine eD [0,1,2,3,4,18,19,22] (fun aW _ (E:Nat×Nat) aH=>match E with|(s,r)=>(s0≤s)∧(s≤r)∧(r≤r0)∧((s=s0∨∃(p:s-1<l.length) (q:mid+m-s<l.length),(Rc cF Lt) l[s-1] l[mid+m-s]))∧((r=r0∨∃(p:mid+m-r-1<l.length) (q:r<l.length),(Rc cF Lt) l[mid+m-r-1] l[r]))∧aH=(⟨220,(20,ae (s:Nat))::(21,ae (r:Nat))::aW,(⟨O,3,cap*1,(l).flatMap cI⟩::I)⟩:St)) (fun (E:Nat×Nat)=>match E with|(s,r)=>r-s) (s0,r0) ⟨(Nat.le_refl _),w4,(Nat.le_refl _),(.inl rfl),(.inl rfl),rfl⟩ ?_;rintro⟨s,r⟩ _ ⟨pu,apI,Yr,dP,fy,rfl⟩;refine af [0,1,2,3,4,18,19,20,21,22,151] ?_;refine au ?_ ?_<;>intro Dj LA
 ·have hh:s<r:=(by omega)
  have hC:((s+r)/2)<l.length:=(by omega)
  have hQ:(mid+m-1-((s+r)/2))<l.length:=(by omega)
  refine cZ [0,1,2,3,4,18,19,20,21,22,23] ?_;refine aS 2 ?_ (h:=by exact(dw rfl ot ot (kx (r:=((s+r:Nat):Int)) Ah)));refine aS 0 ?_ (h:=by exact(oM rfl ot (oN (r:=((s+r:Nat):Int)) runUnderlying3 runUnderlying231 (IntWalk.u64_in _ w4))));refine aS 0 ?_ (h:=by exact(dw rfl ot bP (y4 w7 BQ)));refine aS 0 ?_ (h:=by exact(oM rfl ot (oN (r:=((((s+r)/2):Nat):Int)) runUnderlying231 runUnderlying3 (wrap_i64 w4 w4))));refine bK ?_;refine CD.seq ?_;refine fE 11 (aq (take 1 _)) ?_ (fun _ h=>(Sublist.map _ (take_sublist _ _)).subset h);refine ay 0 rfl aZ ?_;refine ay 1 rfl aZ ?_;refine ay 2 rfl aZ ?_;refine ay 3 rfl aZ ?_;refine ay 4 rfl (dw rfl ot ot (gj (r:=(((mid+m-1)-((s+r)/2):Nat):Int)) qH)) ?_;refine ay 5 rfl (dc 1 (h:=by first|exact .l (j:=(mid+m-1-((s+r)/2))) rfl w4|exact .r (j:=(mid+m-1-((s+r)/2))) rfl w4)) ?_;refine ay 6 rfl eK ?_;refine ay 7 rfl aZ ?_;refine ay 8 rfl aZ ?_;refine ay 9 rfl (dc 1 (h:=by first|exact .l (j:=((s+r)/2)) rfl w4|exact .r (j:=((s+r)/2)) rfl w4)) ?_;refine ay 10 rfl eK ?_;refine dm.later rfl ?_;refine eE ?_;refine OD.kz (f:=fc) (args:=[_,_]) (Sf:=I) ap rfl rfl ot Z (hc _ _ (hV _ (getElem_mem hQ)) (hV _ (getElem_mem hC))) rfl ⟨ot,ot,trivial⟩ (perm_append_singleton _ _).symm ?_;rintro _ S2 ⟨rfl,iF⟩;rw[iF];clear iF;refine OD.perm (perm_append_singleton _ _) ?_
  refine an 220 [0,1,2,3,4,18,19,20,21,22,23,171] ?_;refine au ?_ ?_<;>intro Gb BI
  ·have akm:(Rc cF Lt) (l[((s+r)/2)]'hC) (l[(mid+m-1-((s+r)/2))]'hQ):=Ft ha (h.lt w4 w4 w4 w4 hC hQ) w4;have xL:(Rc cF Lt) (l[((s+r)/2)+1-1]'w4) (l[mid+m-(((s+r)/2)+1)]'w4):=(by simpa only[show((s+r)/2)+1-1=((s+r)/2) by omega,show mid+m-(((s+r)/2)+1)=(mid+m-1-((s+r)/2)) by omega] using akm)
   refine cl [0,1,2,3,4,18,19,20,21,22] ?_;refine⟨((((s+r)/2)+1),r),_,cz,aK,w4,w4,w4,(.inr ⟨by omega,by omega,xL⟩),fy,rfl⟩
  have akn:(Rc cF Lt) (l[(mid+m-1-((s+r)/2))]'hQ) (l[((s+r)/2)]'hC):=E3 BI;have Aw:(Rc cF Lt) (l[mid+m-((s+r)/2)-1]'w4) (l[((s+r)/2)]'w4):=(by simpa only[show mid+m-((s+r)/2)-1=(mid+m-1-((s+r)/2)) by omega] using akn)
  refine cl [0,1,2,3,4,18,19,20,21,22] ?_;refine⟨(s,((s+r)/2)),_,cz,aK,w4,w4,w4,dP,(.inr ⟨by omega,by omega,Aw⟩),rfl⟩
 obtain rfl:s=r:=(by omega)
 obtain⟨l1,qD,K9⟩:=aeT (R:=Rc cF Lt) (l:=l) (a:=a) (m:=m) (b:=b) (s:=s) (e:=mid+m-s) (mid:=mid) ht h w4 w4 w4 w4 w4 (by rcases dP with q|q;(rcases HF with q2|q2;exact .inr (.inl w4);exact .inl w4);exact .inr (.inr q)) (by rcases fy with q|q;(rcases HF with q2|q2;exact .inl w4;exact .inr (.inl w4));exact .inr (.inr q));have j8:=K9.len.2.2;refine cZ [0,1,2,3,4,18,20,24] ?_;refine aS 2 ?_ (h:=by exact(dw rfl ot ot (gj (r:=(((mid+m)-s:Nat):Int)) qH)));refine bK ?_;refine jQ [0,1,3,4,18,20,24] (fun aW _ aH=>aH=(⟨220,aW,(⟨O,3,cap*1,(l1).flatMap cI⟩::I)⟩:St)) ?_ ?_
 ·refine aD 4 ?_;refine bW 181 (fun ahM agq=>?_) (fun ahM agq=>?_)
  ·refine bf [0,1,2,3,4,18,20,24,185] ?_;refine au ?_ ?_<;>intro vm FL
   ·refine dO 5 ?_;refine OD.call (R:=I) ap rfl rfl rfl call163 (ago l l1 ln s m (mid+m-s) cap O (.eC (.func fc) U) [] K9 w4 w4 gi pU w4) ⟨ot,ot,ot,ot,ot,trivial⟩ (Perm.refl _) ?_;rintro _ _ ⟨rfl,rfl⟩;refine an 220 [0,1,3,4,18,20,24] ?_;refine⟨_,aK,rfl⟩
   exact Vq
  refine bf [0,1,2,3,4,18,20,24,185] ?_;refine fN ?_;exact Vq
 rintro _ ⟨rfl⟩;refine jQ [0,3,4,18,24] (fun aW _ aH=>∃(l2:List Int),(Part (Rc cF Lt) l1 l2 a mid)∧aH=(⟨220,aW,(⟨O,3,cap*1,(l2).flatMap cI⟩::I)⟩:St)) ?_ ?_
 ·refine aD 4 ?_;refine bW 195 (fun ahN agr=>?_) (fun ahN agr=>?_)
  ·refine bf [0,1,3,4,18,20,24,199] ?_;refine au ?_ ?_<;>intro Gc agJ
   ·refine dO 5 ?_;refine OD.call (R:=[]) ap rfl rfl rfl call153 (ih (mid-a) w4 l1 a s mid rfl (aeU qD) w4 w4 (j8.trans gi) (fun z hz=>hV z (qD.perm.subset hz))) ⟨ot,ot,ot,ot,ot,trivial⟩ pc ?_;rintro _ _ ⟨rfl,l2,oF,rfl⟩;refine OD.perm (S':=⟨O,3,cap*1,(l2).flatMap cI⟩::I) pc ?_;refine an 220 [0,3,4,18,24] ?_;refine⟨_,aK,l2,oF,rfl⟩
   refine CD.skip ?_;refine⟨_,aK,l1,(RF qD w4),rfl⟩
  refine bf [0,1,3,4,18,20,24,199] ?_;refine fN ?_;refine CD.skip ?_;refine⟨_,aK,l1,(RF qD w4),rfl⟩
 rintro _ ⟨l2,oF,rfl⟩;refine aD 4 ?_;refine bW 209 (fun ahO ags=>?_) (fun ahO ags=>?_)
 ·refine bf [0,3,4,18,24,213] ?_;refine au ?_ ?_<;>intro K6 agK
  ·refine dO 5 ?_;refine OD.call (R:=[]) ap rfl rfl rfl call153 (ih (b-mid) w4 l2 mid (mid+m-s) b rfl (ac8 qD oF) w4 w4 (oF.len.trans (j8.trans gi)) (fun z hz=>hV z (qD.perm.subset (oF.perm.subset hz)))) ⟨ot,ot,ot,ot,ot,trivial⟩ pc ?_;rintro _ _ ⟨rfl,l3,WZ,rfl⟩;refine OD.perm (S':=⟨O,3,cap*1,(l3).flatMap cI⟩::I) pc ?_;refine an 220 [] ?_;exact G4
  exact G4
 refine bf [0,3,4,18,24,213] ?_;refine fN ?_;refine aJ _ ?_;first|exact⟨rfl,_,KA,rfl⟩|exact⟨rfl,_,E5 qD oF WZ,rfl⟩|exact⟨rfl,_,E5 qD oF (O9 qD oF w4),rfl⟩
theorem UA(I cap bd O:Nat)(E:List D)(U:List ah)(cF:Int→Int→Int)(V:Int→Prop)(Lt:Int→Int→Prop)(hc:∀x y,V x→V y→VC Tryz.prog G O ([ae x,ae y]++E) U (fun r S'=>r=ae (cF x y)∧S'=U))(Z:∀args w,(callFunc O args).run Tryz.prog w = .ok (.enter O args) w)(ht:∀{x y z:Int},Rc cF Lt x y→Rc cF Lt y z→Rc cF Lt x z)(ha:∀x y,0≤cF y x→cF x y≤0)(pU:I≤cap)(rC:cap≤maxLen)(pu:I≤1000000):∀(n:Nat) (l:List Int) (a m b:Nat),b-a=n→qk (Rc cF Lt) Lt l a m b→a<m→m<b→l.length=I→(∀x∈l,V x)→VC Tryz.prog G 153 [aP (some ⟨bd,0,none⟩) I cap,ae (a:Nat),ae (m:Nat),ae (b:Nat),.eC (.func O) E] (⟨bd,3,cap*1,(l).flatMap cI⟩::U) (fun r S'=>r = .dJ []∧∃lz,Part (Rc cF Lt) l lz a b∧S'=⟨bd,3,cap*1,(lz).flatMap cI⟩::U):=fun n=>Nat.strongRecOn n (ade I cap bd O E U cF V Lt hc Z ht ha pU rC pu)

end Go.Proofs.YtdgichenhdikgaaGreatDoor.So
namespace Go.Proofs.YtdgichenhdikgaaGreatDoor.So
open List
open Go.Proofs.Tryz
variable {R Lt:Int→Int→Prop} {l l1 cur nL:List Int} {a b m n k:Nat}
theorem IM(h:Part R l l1 a b):l1.drop b=l.drop b:=by
 obtain⟨P,M,E,Q,rfl,rfl,rfl,rfl,hp,_⟩:=h;rw[←append_assoc,drop_left' (by rw[length_append]),←append_assoc,drop_left' (by rw[length_append,hp.length_eq])]
theorem RG(h:Part R l l1 a a):l1=l:=by
 obtain⟨P,M,E,Q,rfl,rfl,rfl,h1,hp,_⟩:=h;have hl:=hp.length_eq;rw[length_eq_zero_iff.1 (show M.length=0 by omega),length_eq_zero_iff.1 (show E.length=0 by omega)]
theorem Jf(h:Part R l l1 0 n)(hn:l.length=n):l1.Perm l∧l1.Pairwise R:=by
 refine⟨h.perm,?_⟩;obtain⟨P,M,E,Q,rfl,rfl,h1,h2,hp,hs⟩:=h;have hl:=hp.length_eq;simp only[length_append] at hn;rw[length_eq_zero_iff.1 h1,length_eq_zero_iff.1 (show Q.length=0 by omega)];simpa using hs
def yx(R:Int→Int→Prop)(l cur:List Int)(k:Nat):Prop:=(k=0∧cur=l)∨(k=1∧Part R l cur 0 20)∨(k=2∧∃l1,Part R l l1 0 20∧Part R l1 cur 20 40)
def GF(R:Int→Int→Prop)(l cur:List Int)(n:Nat):Prop:=∃l1,Part R l l1 0 20∧Part R l1 cur 20 n
theorem yx.perm(h:yx R l cur k):cur.Perm l:=by
 rcases h with ⟨_,rfl⟩|⟨_,h⟩|⟨_,l1,h1,h2⟩
 ·exact .refl _
 ·exact h.perm
 exact h2.perm.trans h1.perm
theorem adf(h:yx R l cur k)(hk:k≤1)(hp:Part R cur nL (20*k) (20*(k+1))):yx R l nL (k+1):=by
 rcases h with ⟨rfl,rfl⟩|⟨rfl,h⟩|⟨rfl,_⟩
 ·exact .inr (.inl ⟨rfl,hp⟩)
 ·exact .inr (.inr ⟨rfl,_,h,hp⟩)
 omega
theorem adg(h:yx R l cur k):cur.drop (20*k)=l.drop (20*k):=by
 rcases h with ⟨rfl,rfl⟩|⟨rfl,h⟩|⟨rfl,l1,h1,h2⟩
 ·rfl
 ·exact IM h
 rw[IM h2];have:=congrArg (drop 20) (IM h1);rw[drop_drop,drop_drop] at this;exact this
theorem aeV(h:yx R l cur k)(h1:20*k≤n)(h2:n<20*(k+1))(h3:n≤40)(hl:l.length=n)(hp:Part R cur nL (20*k) n):(n≤20∧nL.Perm l∧nL.Pairwise R)∨(20<n∧GF R l nL n):=by
 rcases h with ⟨rfl,rfl⟩|⟨rfl,h⟩|⟨rfl,l1,p1,E⟩
 ·exact .inl ⟨by omega,Jf hp hl⟩
 ·rcases Nat.lt_or_ge 20 n with q|q
  ·exact .inr ⟨q,_,h,hp⟩
  obtain rfl:n=20:=(by omega)
  rw[RG hp];exact .inl ⟨q,Jf h hl⟩
 obtain rfl:n=40:=(by omega)
 rw[RG hp];exact .inr ⟨by omega,_,p1,E⟩
theorem adi(h:GF R l cur n)(hq:l.Pairwise Lt):qk R Lt cur 0 20 n:=by
 obtain⟨l1,⟨P,M,M0,Q,rfl,rfl,h1,h2,hp,hs⟩,p2⟩:=h;obtain rfl:=length_eq_zero_iff.1 h1;obtain⟨O,U,Z,I,rfl,h4,h5,h6,oF,E⟩:=p2;obtain⟨e1,e2⟩:=append_inj (show M++Q=O++(Z++I) from h4) w4;subst e1 e2;rw[nil_append,pairwise_append] at hq;exact⟨[],M,U,I,by simp,rfl,by omega,by omega,hs,E,fun x hx y hy=>hq.2.2 x (hp.subset hx) y (mem_append_left _ (oF.subset hy))⟩
theorem RH(h:GF R l cur n)(hp:Part R cur nL 0 n)(hl:l.length=n):nL.Perm l∧nL.Pairwise R:=by
 obtain⟨l1,p1,p2⟩:=h;have:=Jf hp (by rw[p2.len,p1.len,hl]);exact⟨this.1.trans (p2.perm.trans p1.perm),this.2⟩

end Go.Proofs.YtdgichenhdikgaaGreatDoor.So
namespace Go.Proofs.YtdgichenhdikgaaGreatDoor.So
open List
open Go.Proofs.Tryz
open Go.RowKit V Tw
variable {G:List (Nat×List Value)}
theorem abA(I cap U fc:Nat)(O:List D)(Z:List ah)(cF:Int→Int→Int)(V:Int→Prop)(Lt:Int→Int→Prop)(hc:∀x y,V x→V y→VC Tryz.prog G fc ([ae x,ae y]++O) Z (fun r S'=>r=ae (cF x y)∧S'=Z))(vw:∀args w,(callFunc fc args).run Tryz.prog w = .ok (.enter fc args) w)(ht:∀{x y z:Int},Rc cF Lt x y→Rc cF Lt y z→Rc cF Lt x z)(ha:∀x y,0≤cF y x→cF x y≤0)(pU:I≤cap)(rC:cap≤maxLen)(pu:I≤40)(l:List Int)(hq:l.Pairwise Lt)(gi:l.length=I)(hV:∀x∈l,V x):VC Tryz.prog G 129 [aP (some ⟨U,0,none⟩) I cap,ae (I:Nat),.eC (.func fc) O] (⟨U,3,cap*1,(l).flatMap cI⟩::Z) (fun r S'=>r = .dJ []∧∃(lz:List Int),(lz.Perm l∧lz.Pairwise (Rc cF Lt))∧S'=⟨U,3,cap*1,(lz).flatMap cI⟩::Z):=by
 refine VC.body func129 rfl ntmps129 aQ fun X0 w0 bg=>?_;have dz:=ei;refine af [0,1,2,6] ?_;refine af [0,1,2,6,7,8] ?_;refine CD.seq ?_;refine CD.block ?_;refine mV (fun (E:Nat×List Int) aH=>match E with|(k,cur)=>(20*k≤I)∧(yx (Rc cF Lt) l cur k)∧aH=(⟨63,[(0,aP (some ⟨U,0,none⟩) I cap),(1,ae (I:Nat)),(2,.eC (.func fc) O),(6,ae 20),(7,ae (20*k:Nat)),(8,ae (20*(k+1):Nat))],(⟨U,3,cap*1,(cur).flatMap cI⟩::Z)⟩:St)) (fun (E:Nat×List Int)=>match E with|(k,cur)=>3-k) (0,l) ⟨(Nat.zero_le _),(.inl ⟨rfl,rfl⟩),rfl⟩ (aK (h:=by repeat (first|exact trivial|refine⟨(by (repeat (first|exact fB|(apply fU;focus (first|rfl|(rw[show(20*(k+1):Nat)=20*k+20 by omega];rfl)|(simp;done)|(congr 3;omega)))|(apply fH;focus rfl)));done),?_⟩))) ?_;rintro⟨k,cur⟩ _ ⟨hk,fG,rfl⟩;have lm:=fG.perm.length_eq;have sY:(cur.drop (20*k)).Pairwise Lt:=(by rw[adg fG];exact hq.drop)
 have DX:∀x∈cur,V x:=fun x hx=>hV x (fG.perm.subset hx);refine af [0,1,2,6,7,8,13] ?_;refine au ?_ ?_<;>intro aO bE
 ·have qU:20*(k+1)≤I:=(by omega)
  refine aD 4 ?_;refine OD.call (R:=[]) ap rfl rfl rfl call152 (Uz cur I (20*k) (20*(k+1)) cap U fc O Z cF V Lt DX hc vw ht ha sY w4 w4 w4 pU rC w4) ⟨ot,ot,ot,ot,trivial⟩ pc ?_;rintro _ _ ⟨rfl,c1,ako,rfl⟩;refine OD.perm (S':=⟨U,3,cap*1,(c1).flatMap cI⟩::Z) pc ?_;refine an 63 [0,1,2,6,8] ?_;refine af [0,1,2,6,7,8] ?_;refine iv [0,1,2,6,7,8] ?_;refine aS 2 ?_ (h:=by exact(dw rfl ot ot (kx (r:=((20*(k+1+1):Nat):Int)) (by rw[show(((20*(k+1):Nat):Int)+20)=((20*(k+1+1):Nat):Int) by omega];exact wrap_i64 w4 w4))));refine bK ?_;refine⟨((k+1),c1),_,cz,(aK (h:=by repeat (first|exact trivial|refine⟨(by (repeat (first|exact fB|(apply fU;focus (first|rfl|(rw[show(20*(k+1):Nat)=20*k+20 by omega];rfl)|(simp;done)|(congr 3;omega)))|(apply fH;focus rfl)));done),?_⟩))),w4,(adf fG w4 ako),rfl⟩
 have qU:I<20*(k+1):=(by omega)
 refine aD 4 ?_;refine OD.call (R:=[]) ap rfl rfl rfl call152 (Uz cur I (20*k) I cap U fc O Z cF V Lt DX hc vw ht ha sY w4 w4 w4 pU rC w4) ⟨ot,ot,ot,ot,trivial⟩ pc ?_;rintro _ _ ⟨rfl,c2,Wd,rfl⟩;refine OD.perm (S':=⟨U,3,cap*1,(c2).flatMap cI⟩::Z) pc ?_;have fb:=aeV fG hk qU pu gi Wd;have We:c2.Perm l:=Wd.perm.trans fG.perm;refine an 63 [0,1,2,6] ?_;refine eD [0,1,2] (fun aW _ (E:Nat×List Int) aH=>match E with|(q,cur)=>((q=20∧cur=c2)∨(q=40∧(cur.Perm l∧cur.Pairwise (Rc cF Lt))))∧aH=(⟨63,(6,ae (q:Nat))::aW,(⟨U,3,cap*1,(cur).flatMap cI⟩::Z)⟩:St)) (fun (E:Nat×List Int)=>match E with|(q,cur)=>40-q) (20,c2) ⟨(.inl ⟨rfl,rfl⟩),rfl⟩ ?_;rintro⟨q,cur⟩ _ ⟨Dq,rfl⟩;refine af [0,1,2,6,30] ?_;refine au ?_ ?_<;>intro aY cJ
 ·obtain⟨rfl,rfl⟩:q=20∧cur=c2:=(by (rcases Dq with h|h;exact h;omega))
  have KV:GF (Rc cF Lt) l cur I:=(by (rcases fb with h|h;omega;exact h.2))
  have Wf:=adi KV hq;have lm:=We.length_eq;have DX:∀x∈cur,V x:=fun x hx=>hV x (We.subset hx);refine af [0,1,2,6,7,8] ?_;refine eD [0,1,2,6] (fun aW _ (E:Nat×List Int) aH=>match E with|(j,c3)=>((j=0∧c3=cur)∨(j=1∧I=40∧(c3.Perm l∧c3.Pairwise (Rc cF Lt))))∧aH=(⟨63,(7,ae (40*j:Nat))::(8,ae (40*(j+1):Nat))::aW,(⟨U,3,cap*1,(c3).flatMap cI⟩::Z)⟩:St)) (fun (E:Nat×List Int)=>match E with|(j,c3)=>1-j) (0,cur) ⟨(.inl ⟨rfl,rfl⟩),rfl⟩ ?_;rintro⟨j,c3⟩ _ ⟨qJ,rfl⟩;refine af [0,1,2,6,7,8,35] ?_;refine au ?_ ?_<;>intro cm cW
  ·obtain⟨qI,rfl⟩:j=0∧c3=cur:=(by (rcases qJ with h|h;exact h;omega))
   have Lw:I=40:=(by omega)
   refine aD 4 ?_;refine bN (dw rfl ot ot (kx (r:=((20:Nat):Int)) (by rw[qI];rfl))) ?_;refine aE 2 ?_;have aoM:=Lw;refine OD.call (R:=[]) ap rfl rfl rfl call153 (UA I cap U fc O Z cF V Lt hc vw ht ha pU rC w4 _ c3 (40*j) 20 (40*(j+1)) rfl (by rw[show 40*j=0 by omega,show 40*(j+1)=I by omega];exact Wf) w4 w4 w4 DX) ⟨ot,ot,ot,ot,ot,trivial⟩ pc ?_;rintro _ _ ⟨rfl,c5,akp,rfl⟩;refine OD.perm (S':=⟨U,3,cap*1,(c5).flatMap cI⟩::Z) pc ?_;have akq:Part (Rc cF Lt) c3 c5 0 I:=(by have:=akp;rwa [show 40*j=0 by omega,show 40*(j+1)=I by omega] at this)
   refine an 63 [0,1,2,6,8] ?_;refine af [0,1,2,6,7,8] ?_;refine cl [0,1,2,6,7,8] ?_;refine⟨(1,c5),_,cz,aK,(.inr ⟨rfl,Lw,RH KV akq gi⟩),rfl⟩
  refine CD.exit ?_;refine jQ [0,1,2,6] (fun aW _ aH=>∃(c4:List Int),((c4.Perm l∧c4.Pairwise (Rc cF Lt)))∧aH=(⟨63,aW,(⟨U,3,cap*1,(c4).flatMap cI⟩::Z)⟩:St)) ?_ ?_
  ·refine cZ [0,1,2,6,7,9] ?_;refine aS 2 ?_ (h:=by exact(dw rfl ot ot (kx (r:=((40*j+20:Nat):Int)) (by rw[show(((40*j:Nat):Int)+((20:Nat):Int))=((40*j+20:Nat):Int) by omega];exact wrap_i64 w4 w4))));refine bK ?_;refine af [0,1,2,6,7,9,54] ?_;refine au ?_ ?_<;>intro da ek
   ·obtain⟨qI,rfl⟩:j=0∧c3=cur:=(by (rcases qJ with h|h;exact h;omega))
    refine dO 5 ?_;refine OD.call (R:=[]) ap rfl rfl rfl call153 (UA I cap U fc O Z cF V Lt hc vw ht ha pU rC w4 _ c3 (40*j) (40*j+20) I rfl (by rw[show 40*j=0 by omega];exact Wf) w4 w4 w4 DX) ⟨ot,ot,ot,ot,ot,trivial⟩ pc ?_;rintro _ _ ⟨rfl,c6,akr,rfl⟩;refine OD.perm (S':=⟨U,3,cap*1,(c6).flatMap cI⟩::Z) pc ?_;have aks:Part (Rc cF Lt) c3 c6 0 I:=(by have:=akr;rwa [show 40*j=0 by omega] at this)
    refine an 63 [0,1,2,6] ?_;refine⟨_,aK,c6,(RH KV aks gi),rfl⟩
   have HF:(c3.Perm l∧c3.Pairwise (Rc cF Lt)):=(by (rcases qJ with h|h;omega;exact h.2.2))
   refine CD.skip ?_;refine⟨_,aK,c3,HF,rfl⟩
  rintro _ ⟨c4,ez,rfl⟩;refine cl [0,1,2,6] ?_;refine⟨(40,c4),_,cz,aK,(.inr ⟨rfl,ez⟩),rfl⟩
 have nr:(cur.Perm l∧cur.Pairwise (Rc cF Lt)):=(by (rcases Dq with ⟨rfl,rfl⟩|h;(rcases fb with h|h;exact h.2;omega);exact h.2))
 refine aJ _ ?_;exact⟨rfl,_,nr,rfl⟩
theorem aeW(O cap U Z:Nat)(E:List D)(I:List ah)(cF:Int→Int→Int)(V:Int→Prop)(Lt:Int→Int→Prop)(hc:∀x y,V x→V y→VC Tryz.prog G Z ([ae x,ae y]++E) I (fun r S'=>r=ae (cF x y)∧S'=I))(vw:∀args w,(callFunc Z args).run Tryz.prog w = .ok (.enter Z args) w)(ht:∀{x y z:Int},Rc cF Lt x y→Rc cF Lt y z→Rc cF Lt x z)(ha:∀x y,0≤cF y x→cF x y≤0)(pU:O≤cap)(rC:cap≤maxLen)(pu:O≤40)(l:List Int)(hq:l.Pairwise Lt)(gi:l.length=O)(hV:∀x∈l,V x):VC Tryz.prog G 87 [aP (some ⟨U,0,none⟩) O cap,.eC (.func Z) E] (⟨U,3,cap*1,(l).flatMap cI⟩::I) (fun r S'=>r = .dJ []∧∃(lz:List Int),(lz.Perm l∧lz.Pairwise (Rc cF Lt))∧S'=⟨U,3,cap*1,(lz).flatMap cI⟩::I):=by
 refine VC.body func87 rfl ntmps87 aQ fun X0 w0 bg=>?_;have dz:=ei;refine dO 4 ?_;refine OD.call (R:=[]) ap rfl rfl rfl call129 (abA O cap U Z E I cF V Lt hc vw ht ha pU rC pu l hq gi hV) ⟨ot,ot,ot,trivial⟩ pc ?_;rintro _ _ ⟨rfl,lz,yn,rfl⟩;refine OD.perm (S':=⟨U,3,cap*1,(lz).flatMap cI⟩::I) pc ?_;refine an 9 [] ?_;refine aJ _ ?_;exact⟨rfl,_,yn,rfl⟩

end Go.Proofs.YtdgichenhdikgaaGreatDoor.So
namespace Go.Proofs.YtdgichenhdikgaaGreatDoor.Ba
open List
open Go.Proofs.Tryz
open Go.RowKit V Pk Tr Vl Go.Proofs.YtdgichenhdikgaaGreatDoor.Nm Pc Cd Ex Tw Go.Proofs.YtdgichenhdikgaaGreatDoor.So
variable {t:aM} {o n:Nat} {i k:Int}
theorem Fq(a b:Vl):fk a b<0↔a.k<b.k∨(a.k=b.k∧(a.n<b.n∨(a.n=b.n∧Go.Lib.compareBytes a.s.data.toList b.s.data.toList<0))):=by
 exact Xf
theorem Qa{a b:Vl}(h:fk a b=0):a=b:=by
 unfold fk cmpL gh gh gh gh at h;have hs:a.k=b.k∧a.n=b.n∧Go.Lib.compareBytes a.s.data.toList b.s.data.toList=0:=by
  rcases sc a.k b.k with ⟨h1,h2⟩|⟨h1,h2⟩|⟨h1,h2⟩<;>rcases sc a.n b.n with ⟨k1,k2⟩|⟨k1,k2⟩|⟨k1,k2⟩<;>simp only[h1,k1] at h<;>(repeat' split at h)<;>first|omega|(refine⟨h2,k2,?_⟩;omega)
 obtain⟨e1,e2,E⟩:=hs;obtain⟨k,n,s⟩:=a;obtain⟨k',n',s'⟩:=b;simp only at e1 e2 E;subst e1 e2;rw[E6 (uc.1 E)]
theorem TI{a b c:Vl}(h1:fk a b<0)(h2:fk b c<0):fk a c<0:=by
 rw[Fq] at h1 h2 ⊢;rcases h1 with h1|⟨h1,h1|⟨E,h1⟩⟩<;>rcases h2 with h2|⟨h2,h2|⟨I,h2⟩⟩<;>first|omega|(refine .inr ⟨by omega,.inr ⟨by omega,?_⟩⟩;exact mg h1 h2)
def cellAt(t:aM)(o:Nat)(i:Int):Vl:=(rowAt t i).getD o bJ
def kZ(t:aM)(down:Bool)(o:Nat)(i k:Int):Int:=if down=true then -(fk (cellAt t o i) (cellAt t o k)) else fk (cellAt t o i) (cellAt t o k)
def DY(t:aM)(i k:Int):Prop:=bF (c9 (rowAt t i)) (c9 (rowAt t k))
theorem Qb(t:aM)(down:Bool)(o:Nat)(i k:Int):kZ t down o k i = -(kZ t down o i k):=by
 unfold kZ;rw[A8 (cellAt t o i) (cellAt t o k)];split<;>omega
theorem aeX{down:Bool}{l:Int}(h1:kZ t down o i k<0)(h2:kZ t down o k l<0):kZ t down o i l<0:=by
 unfold kZ at *;split at h1
 ·rename_i hd;rw[if_pos hd] at h2 ⊢;have e1:=A8 (cellAt t o i) (cellAt t o k);have e2:=A8 (cellAt t o k) (cellAt t o l);have E:=A8 (cellAt t o i) (cellAt t o l);have:=TI (a:=cellAt t o l) (b:=cellAt t o k) (c:=cellAt t o i) w4 w4;omega
 rename_i hd;rw[if_neg hd] at h2 ⊢;exact TI h1 h2
theorem IN{down:Bool}(h:kZ t down o i k=0):cellAt t o i=cellAt t o k:=by
 unfold kZ at h;split at h
 ·exact Qa w4
 exact Qa h
theorem TJ{down:Bool}(h:cellAt t o i=cellAt t o k)(l:Int):kZ t down o i l=kZ t down o k l:=by unfold kZ;rw[h]
theorem adj{down:Bool}(h:cellAt t o i=cellAt t o k)(l:Int):kZ t down o l i=kZ t down o l k:=by unfold kZ;rw[h]
abbrev vW(t:aM)(down:Bool)(o:Nat):Int→Int→Prop:=Rc (kZ t down o) (DY t)
theorem agt(t:aM)(down:Bool)(o:Nat){x y z:Int}(h1:vW t down o x y)(h2:vW t down o y z):vW t down o x z:=by
 rcases h1 with h1|⟨h1,E⟩<;>rcases h2 with h2|⟨h2,I⟩
 ·exact .inl (aeX h1 h2)
 ·exact .inl (by rw[←adj (IN h2)];exact h1)
 ·exact .inl (by rw[TJ (IN h1)];exact h2)
 exact .inr ⟨by rw[TJ (IN h1)];exact h2,mg E I⟩
theorem adk{down:Bool}{x y:Int}(h1:vW t down o x y)(h2:vW t down o y x):False:=by
 have e:=Qb t down o x y;rcases h1 with h1|⟨h1,E⟩<;>rcases h2 with h2|⟨h2,I⟩
 ·omega
 ·omega
 ·omega
 exact jR _ (mg E I)
noncomputable def B4(t:aM)(down:Bool)(o:Nat)(l:List Int):List Int:=Classical.epsilon fun lz=>lz.Perm l∧lz.Pairwise (vW t down o)
theorem JZ{down:Bool}{l lz:List Int}(h:lz.Perm l∧lz.Pairwise (vW t down o)):lz=B4 t down o l:=by
 have hs:=Classical.epsilon_spec (p:=fun lz=>lz.Perm l∧lz.Pairwise (vW t down o)) ⟨lz,h⟩;exact Perm.eq_of_pairwise (fun a b _ _ h1 h2=>(adk h1 h2).elim) h.2 hs.2 (h.1.trans hs.1.symm)
theorem EZ(t:aM)(w:List aX):∀(l:List (K×Int)) (acc:List Int),(lE t w acc l).1.Sublist (acc++l.map Prod.snd)
 | [],acc=>by unfold lE;simp
 | x::r,acc=>by
  have h1:(lE t w acc r).1.Sublist (acc++(x::r).map Prod.snd):=(EZ t w r acc).trans (Sublist.append_left (sublist_cons_self _ _) acc);have h2:(lE t w (acc++[x.2]) r).1.Sublist (acc++(x::r).map Prod.snd):=(by have:=EZ t w r (acc++[x.2]);rwa [append_assoc] at this)
  unfold lE;split
  ·split
   ·exact nil_sublist _
   split
   ·exact h1
   exact h2
  exact h2
def gb(t:aM)(i:Int):Prop:=0≤i∧∃h:i.toNat<t.rows.length,t.rows[i.toNat]≠[]
theorem adm{i:Nat}{c:Pc.cG}{v:Vl}(h:Pc.lR i c v=0):cD v=0:=by
 unfold Pc.lR at h;split at h
 ·exact h
 rename_i h1;exact Decidable.not_not.1 h1
theorem Qc:∀(i:Nat) (cs:List Pc.cG) (vs:List Vl),Pc.oX i cs vs=0→vs.length≤cs.length→∀v∈vs,cD v=0
 | i,c::cs,v::vs,h,hl,w,hw=>by
  unfold Pc.oX at h;split at h
  ·rename_i h1;exact absurd h h1
  rename_i h1;rcases mem_cons.1 hw with rfl|hw
  ·exact adm (Decidable.not_not.1 h1)
  exact Qc (i+1) cs vs h xk w hw
 | _,_,[],_,_,_,hw=>by cases hw
 | _,[],_::_,_,hl,_,_=>by simp at hl
theorem Jg{r:List Vl}(h:Pc.ec cM r=0):∀v∈r,cD v=0:=by
 have h4:=oW h;unfold Pc.ec at h;rw[if_neg Ao,if_neg xT] at h;exact Qc 0 cM r h xT
theorem gb.ok(g:ew t n)(h:gb t i):(rowAt t i).length=4∧(∀v∈rowAt t i,v.Ok∧cD v=0):=by
 obtain⟨h0,h1,h2⟩:=h;rw[ja h1];obtain⟨g1,g2,_⟩:=g.row _ h1 h2;exact⟨oW g1,fun v E=>⟨g2 v E,Jg g1 v E⟩⟩
theorem tZ(g:ew t n)(w:List aX):∀i∈(ax t w).1,gb t i:=fun i hi=>by
 unfold ax at hi;split at hi
 ·cases hi
 have h1:=(EZ t w _ []).subset hi;rw[nil_append] at h1;obtain⟨x,hx,rfl⟩:=mem_map.1 h1;obtain⟨h2,h3,h4,_⟩:=g.iZ x (EY x hx);exact⟨h2,h3,h4⟩
theorem E0(g:ew t n)(w:List aX):(ax t w).1.Pairwise (DY t):=by
 unfold ax;split
 ·exact Pairwise.nil
 refine Pairwise.sublist (EZ t w _ []) ?_;rw[nil_append,pairwise_map];have hr:(oV t.ix (iI t.az w).1.1 (iI t.az w).1.2).Pairwise fun x y=>bF x.1 y.1:=(abl g.ix.val _).sublist (takeWhile_sublist _);refine hr.imp_of_mem fun {x y} hx hy h=>?_;obtain⟨_,p1,_,p2⟩:=g.iZ x (EY x hx);obtain⟨_,q1,_,q2⟩:=g.iZ y (EY y hy);unfold DY;rw[ja p1,ja q1,←p2,←q2];exact h
theorem Fs(g:ew t n)(w:List aX):(ax t w).1.length≤40:=by
 have hp:=E0 g w;have E:=tZ g w;have hnd:((ax t w).1.map Int.toNat).Nodup:=by
  rw[Nodup,pairwise_map];refine hp.imp_of_mem fun {x y} hx hy h e=>?_;obtain⟨x0,_⟩:=E x hx;obtain⟨y0,_⟩:=E y hy;have:x=y:=(by omega)
  subst this;exact jR _ h
 have I:∀j∈(ax t w).1.map Int.toNat,j∈range t.rows.length:=fun j hj=>by
  obtain⟨x,hx,rfl⟩:=mem_map.1 hj;obtain⟨_,h1,_⟩:=E x hx;exact mem_range.2 h1
 have:=hnd.length_le_of_subset I;rw[length_map,length_range] at this;exact Nat.le_trans this g.eJ
variable {G:List (Nat×List Value)} {m:Int}

open Pa (cA bU)
theorem U8:∀x y:K,-1≤Go.Lib.compareBytes x y∧Go.Lib.compareBytes x y≤1
 | [],[]=>⟨by decide,by decide⟩
 | [],_::_=>⟨(by show(-1:Int)≤-1;decide),(by show(-1:Int)≤1;decide)⟩
 | _::_,[]=>⟨(by show(-1:Int)≤1;decide),(by show(1:Int)≤1;decide)⟩
 | a::x,b::y=>by
  have:=U8 x y;rw[Hv];repeat' split
  all_goals first|exact this|omega
theorem aeY(a b:Vl):-1≤fk a b∧fk a b≤1:=by
 have:=U8 a.s.data.toList b.s.data.toList;exact Xf
def mY(t:aM)(names:List ByteArray):List Int:=if names.length=0 then (range t.az.length).map Int.ofNat else names.map (bD t.az)
def rD(t:aM)(s:cA):Int:=if (s.order.toList==(⟨#[]⟩:ByteArray).toList)=true then 0 else bD t.az s.order
def sI(N6:Int)(l:List Int):List Int:=if 0≤N6∧N6<l.length then l.take N6.toNat else l
def zW(t:aM)(oJ:List Int)(i:Int):List Vl:=oJ.map fun c=>(rowAt t i).getD c.toNat bJ
noncomputable def tV(t:aM)(s:cA):List Int:=sI s.iq (B4 t s.down (rD t s).toNat (ax t s.aj).1)
noncomputable def lQ(t:aM)(s:cA):(List (List Vl)×Int)×Int :=
 if (s.names.any fun n=>decide (bD t.az n<0))=true then (([],0),8)
 else if rD t s<0 then (([],0),8)
 else if (ax t s.aj).2≠0 then (([],0),(ax t s.aj).2)
 else if s.count=true then (([[⟨2,(tV t s).length,⟨#[]⟩⟩]],(tV t s).length),0)
 else (((tV t s).map (zW t (mY t s.names)),(tV t s).length),0)
def AP(p:(List (List Vl)×Int)×Int):D:=.dJ [.agg [av 1 gp p.1.1,ae p.1.2],ae p.2]
theorem Kt{l:List cG}{nm:ByteArray}:-1≤bD l nm∧bD l nm<l.length:=by
 unfold bD dR;split
 ·rename_i i h;have:=(findIdx?_eq_some_iff_getElem.1 h).1;omega
 omega
theorem aeZ(t:aM)(g:ew t n)(s:cA)(o:Nat)(ho:o<4)(b2 k8 b3:Nat)(i k:Int)(hi:gb t i)(hk:gb t k):VC Tryz.prog G 88 ([ae i,ae k]++[dM b2,dM k8,dM b3]) [⟨b2,53,5,c8 t⟩,⟨k8,3,1,[ae (o:Nat)]⟩,⟨b3,32,12,bU s⟩] (fun r S=>r=ae (kZ t s.down o i k)∧S=[⟨b2,53,5,c8 t⟩,⟨k8,3,1,[ae (o:Nat)]⟩,⟨b3,32,12,bU s⟩]):=by
 refine VC.body func88 rfl ntmps88 aQ fun X0 w0 bg=>?_;obtain⟨I,E,lH⟩:=hi;obtain⟨xW,dP,fy⟩:=hk;obtain⟨gi1,O⟩:=gb.ok g ⟨I,E,lH⟩;obtain⟨gk1,U⟩:=gb.ok g ⟨xW,dP,fy⟩;rw[ja E] at gi1 O;rw[ja dP] at gk1 U;have Z:o<(t.rows[i.toNat]'E).length:=(by omega)
 have pC:o<(t.rows[k.toNat]'dP).length:=(by omega)
 have hci:cellAt t o i=(t.rows[i.toNat]'E)[o]:=(by unfold cellAt;rw[ja E,getD_eq_getElem?_getD,getElem?_eq_getElem Z];rfl)
 have HG:cellAt t o k=(t.rows[k.toNat]'dP)[o]:=(by unfold cellAt;rw[ja dP,getD_eq_getElem?_getD,getElem?_eq_getElem pC];rfl)
 have e9:=ZM (G:=G) (t.rows[i.toNat]'E)[o] (t.rows[k.toNat]'dP)[o] (O _ (getElem_mem Z)).1 (U _ (getElem_mem pC)).1;have oC:mK (t.rows[i.toNat]'E)[o] (t.rows[k.toNat]'dP)[o]=0:=(by unfold mK;rw[if_neg (by simp[(O _ (getElem_mem Z)).2]),(U _ (getElem_mem pC)).2])
 unfold Lv at e9;rw[oC,if_neg w7] at e9;have Ho:=aeY (t.rows[i.toNat]'E)[o] (t.rows[k.toNat]'dP)[o];unfold c8 bU;have aV:kZ t s.down o i k=if s.down=true then -(fk (t.rows[i.toNat]'E)[o] (t.rows[k.toNat]'dP)[o]) else fk (t.rows[i.toNat]'E)[o] (t.rows[k.toNat]'dP)[o]:=by unfold kZ;rw[hci,HG]
 refine af [0,1,2,3,4] ?_;refine cZ [4,8] ?_;refine aS 3 ?_ (h:=by exact(dc 1 (h:=by first|exact .l (j:=i.toNat) (Int.toNat_of_nonneg I).symm E|exact .r (j:=i.toNat) (Int.toNat_of_nonneg I).symm E)));refine aS 7 ?_ (h:=by exact(dc 1 (h:=by first|exact .l (j:=k.toNat) (Int.toNat_of_nonneg xW).symm dP|exact .r (j:=k.toNat) (Int.toNat_of_nonneg xW).symm dP)));refine di (e9) ?_;refine bK ?_;refine af [8,31] ?_;refine au ?_ ?_<;>intro aO bE
 ·have hd:s.down=true:=aO;refine cZ [7] ?_;refine aS 1 ?_ (h:=by exact(EJ rfl ot (J7 (wrap_i64 w4 w4))));refine bK ?_;refine aJ [_,_,_] ?_;first|(rw[aV,hd,if_pos rfl,←Int.zero_sub];exact⟨rfl,rfl⟩)|(rw[aV,hd,if_neg w7];exact⟨rfl,rfl⟩)
 have hd:s.down=false:=aO;refine af [7] ?_;refine aJ [_,_,_] ?_;first|(rw[aV,hd,if_pos rfl,←Int.zero_sub];exact⟨rfl,rfl⟩)|(rw[aV,hd,if_neg w7];exact⟨rfl,rfl⟩)
theorem ae0(eC:D):VP Tryz.prog G 152 [bA,ae 0,ae 0,eC] (.dJ []):=by
 refine VC.body func152 rfl ntmps152 aQ fun X0 w0 bg=>?_;refine af [0,1,2,3,8] ?_;refine eD [0,1,2,3] (fun aW _ (z:Nat) aH=>(True)∧aH=(⟨53,(8,ae (0+1))::aW,[]⟩:St)) (fun (z:Nat)=>0) 0 ⟨trivial,rfl⟩ ?_;rintro z _ ⟨_,rfl⟩;refine af [0,1,2,3,8,14] ?_;refine au ?_ ?_<;>intro aO bE
 ·exact absurd aO (by simp at aO)
 exact nw
theorem aaa(eC:D):VP Tryz.prog G 129 [bA,ae 0,eC] (.dJ []):=by
 refine VC.body func129 rfl ntmps129 aQ fun X0 w0 bg=>?_;refine af [0,1,2,6] ?_;refine af [0,1,2,6,7,8] ?_;refine eD [0,1,2,6] (fun aW _ (z:Nat) aH=>(True)∧aH=(⟨63,(7,ae 0)::(8,ae 20)::aW,[]⟩:St)) (fun (z:Nat)=>0) 0 ⟨trivial,rfl⟩ ?_;rintro z _ ⟨_,rfl⟩;refine af [0,1,2,6,7,8,13] ?_;refine au ?_ ?_<;>intro aO bE
 ·exact absurd aO (by simp at aO)
 refine cX [0,1,2,6] (ae0 eC) ?_;refine eD [0,1,2] (fun aW _ (z:Nat) aH=>(True)∧aH=(⟨63,(6,ae 20)::aW,[]⟩:St)) (fun (z:Nat)=>0) 0 ⟨trivial,rfl⟩ ?_;rintro z _ ⟨_,rfl⟩;refine af [0,1,2,6,30] ?_;refine au ?_ ?_<;>intro aY cJ
 ·exact absurd aY (by simp at aY)
 exact nw
theorem adn(eC:D):VP Tryz.prog G 87 [bA,eC] (.dJ []):=by
 refine VC.body func87 rfl ntmps87 aQ fun X0 w0 bg=>?_;refine iv [] ?_;refine di (aaa eC) ?_;refine jZ ?_;exact nw

end Go.Proofs.YtdgichenhdikgaaGreatDoor.Ba

namespace Go.Proofs.YtdgichenhdikgaaGreatDoor.Ba
open List
open Go.Proofs.Tryz
open Go.RowKit V Pk Go.Proofs.YtdgichenhdikgaaGreatDoor.Tr Go.Proofs.YtdgichenhdikgaaGreatDoor.Vl Go.Proofs.YtdgichenhdikgaaGreatDoor.Nm Go.Proofs.YtdgichenhdikgaaGreatDoor.Pc Go.Proofs.YtdgichenhdikgaaGreatDoor.Cd Go.Proofs.YtdgichenhdikgaaGreatDoor.Ex Go.Proofs.YtdgichenhdikgaaGreatDoor.Tw
open Pa (cA bU)
variable {j sz:Nat} {ds:List D}
section mid
variable {P:Program} {G:List (Nat×List Value)} {x:St} {o:Oper} {t b off:Nat} {y:Operand} {B:ah} {pre c post:List D} {d:D}
theorem agu(hp:pre.length=off)(hj:c[j]?=some d):(pre++(c++post))[off+j]?=some d:=by
 subst hp;rw[getElem?_append_right w4,Nat.add_sub_cancel_left,getElem?_append_left (List.getElem?_eq_some_iff.1 hj).1];exact hj
theorem RI{m:List D}(hp:pre.length=off)(hm:qd j c m)(hd:mz sz m ds):((pre++(c++post)).drop (off+j)).take sz=ds:=by
 subst hp;obtain⟨h1,h2⟩:=hd.eq;have h3:=hm.eq;have hl:j+sz≤c.length∨sz=0:=by
  have:=congrArg length h1;rw[length_take,h2,←h3,length_drop] at this;omega
 rw[←drop_drop,drop_left' rfl];rcases hl with hl|rfl
 ·rw[drop_append_of_le_length w4,h3,take_append_of_le_length (by rw[←h3,length_drop];omega)];exact h1
 rw[List.take_zero];rw[List.take_zero] at h1;exact h1
theorem Bz{E:List D}(hp:pre.length=off)(hl:j+ds.length≤c.length)(hc:dx c j ds=E):dx (pre++(c++post)) (off+j) ds=pre++(E++post):=by
 subst hp hc;rw[wc _ _ _ hl,wc _ _ _ (by simp only[length_append];omega)];rw[take_append,take_of_length_le w4,Nat.add_sub_cancel_left,take_append_of_le_length w4,Nat.add_assoc,←drop_drop (l:=pre++(c++post)),drop_left' rfl,drop_append_of_le_length w4];simp only[append_assoc]
theorem oK(k:Nat)(ho:o.op = .load t y:=by exact rfl)(hy:aG x y = .v (.pointer (some ⟨b,off+j,none⟩)):=by exact ot)(ha:qP P t false=true:=by kernel_rfl)(hk:x.S[k]?=some B:=by exact rfl)(hb:B.b=b:=by exact rfl)(dH:B.cs=pre++(c++post):=by exact rfl)(hp:pre.length=off:=by assumption)(hj:c[j]?=some d:=by exact rfl)(hne:isMap B.e=false:=by exact rfl):bZ P G x o (.fA k) d :=
 Ed (hne:=hne) ho hy hk hb (iL ha) (by rw[dH];exact agu hp hj)
theorem xI(k:Nat){m:List D}(ho:o.op = .load t y:=by exact rfl)(hy:aG x y = .v (.pointer (some ⟨b,off+j,none⟩)):=by exact ot)(hn:qO P t sz=true:=by exact Sz.h)(ha:qP P t true=true:=by kernel_rfl)(hk:x.S[k]?=some B:=by exact rfl)(hb:B.b=b:=by exact rfl)(dH:B.cs=pre++(c++post):=by exact rfl)(hp:pre.length=off:=by assumption)(hm:qd j c m:=by exact qy)(hd:mz sz m ds:=by exact nj)(hne:isMap B.e=false:=by exact rfl):bZ P G x o (.fA k) (.agg ds) :=
 AX (hne:=hne) ho hy hk hb (iL ha) (lO hn) hd.eq.2 (by rw[dH];exact RI hp hm hd)
theorem L0(k:Nat)(ho:o.op = .load t y:=by exact rfl)(hy:aG x y = .v (.pointer (some ⟨b,off,none⟩)):=by exact ot)(hn:qO P t sz=true:=by exact Sz.h)(ha:qP P t true=true:=by kernel_rfl)(hk:x.S[k]?=some B:=by exact rfl)(hb:B.b=b:=by exact rfl)(dH:B.cs=pre++(c++post):=by exact rfl)(hp:pre.length=off:=by assumption)(hd:mz sz c ds:=by exact nj)(hne:isMap B.e=false:=by exact rfl):bZ P G x o (.fA k) (.agg ds) :=
 AX (hne:=hne) ho hy hk hb (iL ha) (lO hn) hd.eq.2 (by rw[dH];exact RI (j:=0) hp .z hd)
end mid
variable {G:List (Nat×List Value)} {m:Int}
noncomputable def gC(t:aM)(row:List Vl):aM×Int :=
 if Pc.ec t.az row≠0 then (t,Pc.ec t.az row) else if iA t.ix (c9 row) (dL t.ix)=true then (t,9) else if t.rows.length=40 then (t,10)
 else ({t with rows:=t.rows++[row],ix:=gK t.ix (dL t.ix) (c9 row) t.rows.length},0)
def tC(t:aM)(ad:Option Addr)(cap:Nat):List D:=[bn t.nm,av 2 cC t.az,aP ad t.rows.length cap,av 5 cP t.ix.ag,ae t.ix.root]
abbrev vy(t:aM)(ad:Option Addr)(cap:Nat)(S:List ah):Prop:=bp 28 1 (t.rows.flatMap gp) t.rows.length ad cap S
theorem wF{r:List Vl}(h:Pc.ec cM r=0):1≤(c9 r).length∧(c9 r).length≤100:=by
 refine⟨?_,TD _⟩;have h4:=oW h;have hz:=Jg h;match r,h4 with
 | [a,b,c,d],_ =>
  have ha:cD a=0:=hz a mem_cons_self;unfold c9 fX;rw[if_neg bq,if_neg (by simp[sM,ha])];have hl:(ff [a]).length≤43:=(by have:=EP (l:=[a]) (fun v E=>by rw[mem_singleton] at E;rw[E];exact ha);simpa using this)
  rw[if_neg (by show ¬(ff [a]).length>100;omega)];show 1≤(ff [a]).length;unfold ff Cd.pQ;simp

theorem aab:(Tryz.prog.info? 28).map (fun i=>(i.zero,i.size,i.bytes))=some (some (.slice none 0 0),1,24):=by kernel_rfl

theorem IJ(hm:(3,marksC)∈G)(hw:(1,wordsC)∈G)(ht:(0,typesC)∈G)(hG:(2,[Value.int .i64 m])∈G)(t:aM){n:Nat}(g:ew t n)(hn:n≤300)(row:List Vl)(qg:row.length≤1000)(aR:∀v∈row,v.Ok)(bt off I:Nat)(pre post:List D)(hp:pre.length=off)(ad:Option Addr)(cap:Nat)(Sr:List ah)(Z:vy t ad cap Sr):VC Tryz.prog G 43 [.v (.pointer (some ⟨bt,off,none⟩)),av 3 cV row] (⟨bt,53,I,pre++(tC t ad cap++post)⟩::Sr) (fun r S=>r=ae (gC t row).2∧((gC t row).2=0→∃nV E oL,vy (gC t row).1 nV E oL∧S=⟨bt,53,I,pre++(tC (gC t row).1 nV E++post)⟩::oL)):=by
 refine VC.body func43 rfl ntmps43 aQ fun X0 w0 bg=>?_;have hko:=fun h=>wF (r:=row) h;have yy:=Kh (G:=G) hm hw ht t.az xQ xP row (Nat.le_trans qg w7);have dz:=ei;have mO:=g.eJ;unfold tC;refine af [0,1] ?_;refine cZ [0,1,5] ?_;refine aS 3 ?_ (h:=by exact(oK 0));refine di (yy) ?_;refine bK ?_;refine af [0,1,5,17] ?_;refine au ?_ ?_<;>intro aO bE
 ·have hne:Pc.ec t.az row≠0:=(by simpa using aO)
  have aV:gC t row=(t,Pc.ec t.az row):=if_pos hne;refine af [4] ?_;refine aJ [] ?_;rw[aV];exact⟨rfl,fun h=>absurd h hne⟩
 have hz:Pc.ec t.az row=0:=(by simpa using aO)
 have C2:Pc.ec cM row=0:=(by rw[←g.az];exact hz)
 have dX:=hko C2;have hr4:=oW C2;have O:=ze (G:=G) hG row w4 w4 aR;refine CD.skip ?_;refine CD.seq ?_;refine CD.seq ?_;rcases iU:iA t.ix (c9 row) (dL t.ix) with _|_
 ·have fP:=Kp (G:=G) g.ix (c9 row);rw[aeO g.ix dX iU] at fP;unfold Tw.cT at fP;have U:=RA (G:=G) g.ix (c9 row) (t.rows.length:Int);rw[Uv g.ix hn dX w4 iU] at U;unfold Tw.cT at U;refine iv [0,1,7] ?_;refine aS 3 ?_ (h:=by exact(xI 0));refine di (O) ?_;refine di (fP) ?_;refine bK ?_;refine af [0,1,30] ?_;refine au ?_ ?_<;>intro aY cJ
  ·exact absurd aY (by simp at aY)
  refine cZ [0,1,36] ?_;refine aS 3 ?_ (h:=by exact(oK 0));refine bK ?_;refine au ?_ ?_<;>intro cm cW
  ·have aV:gC t row=(t,10):=(by unfold gC;rw[if_neg (by simp[hz]),if_neg xR,if_pos w4])
   refine af [4] ?_;refine aJ [] ?_;rw[aV];exact⟨rfl,fun h=>absurd (show(10:Int)=0 from h) w7⟩
  have aV:gC t row=({t with rows:=t.rows++[row],ix:=gK t.ix (dL t.ix) (c9 row) t.rows.length},0):=(by unfold gC;rw[if_neg (by simp[hz]),if_neg xR,if_neg w4])
  refine CD.skip ?_;refine CD.seq ?_;refine uA 16 15 [0,1,8,50,51] ?_;refine aS 3 ?_ (h:=by exact(xI 0));refine di (O) ?_;refine aS 3 ?_ (h:=by exact(oK 0));refine di (U) ?_;refine nA 3 ?_;refine rP ?_;refine jZ ?_;refine⟨rfl,fun b8=>?_⟩;refine aN 0 [_,_] sizeOf51 ?_;refine an 70 [0,1,8,9] ?_;refine af [0,1,8,9,53] ?_;refine au ?_ ?_<;>intro da ek
  ·exact absurd da (by simp at da)
  refine aD 4 ?_;refine OD.storeAt (k:=1) (cs':=pre++([bn t.nm,av 2 cC t.az,aP ad t.rows.length cap,.list 5 ((gK t.ix (dL t.ix) (c9 row) t.rows.length).ag.flatMap cP) (gK t.ix (dL t.ix) (c9 row) t.rows.length).ag.length,ae (gK t.ix (dL t.ix) (c9 row) t.rows.length).root]++post)) ap rfl rfl ot rfl rfl ot rfl rfl sizeOf51 rfl (by show off+3+2≤(pre++(([bn t.nm,av 2 cC t.az,aP ad t.rows.length cap,av 5 cP t.ix.ag,ae t.ix.root]:List D)++post)).length;simp only[length_append,length_cons,length_nil];omega) (by exact Bz (j:=3) hp aQ rfl) ?_;refine an 70 [0,1] ?_;refine CD.seq ?_;refine fE 9 (aq (take 2 _)) ?_ (fun _ h=>(Sublist.map _ (take_sublist _ _)).subset h);refine ay 0 rfl aZ ?_;refine ay 1 rfl aZ ?_;refine ay 2 rfl lW ?_;refine ay 3 rfl (dh 2) ?_;refine ay 4 rfl (oK 1) ?_;refine ay 5 rfl aZ ?_;refine dm.later rfl ?_;refine AD.one (i:=6) aA ?_;refine jm call31 (P4 row w4) ?_;refine AD.one (i:=7) aA ?_;refine iV (cc 0 [_]) [.slice none 0 0] [_] zeroValue28 runUnderlying34 sizeOf28 (fun pA=>?_);refine iW 0 66 1 1 ?_;refine AD.one (i:=8) aA ?_;refine bj.en (ls:=t.rows) (new:=[row]) (Sq:=Sr) jq RC rfl ap rfl rfl underlying34 aab rfl w7 ot Z (dg (A:=[_,_])) ot bq mr mu (fun qK ry Gg Gh=>?_);refine AD.perm (ee (S1:=[⟨qK,28,ry*1,flatMap gp (t.rows++[row])⟩]) (A:=[_,_])) ?_;refine eE ?_;refine aE 2 ?_
  refine OD.storeAt (k:=1) (cs':=pre++((([bn t.nm,av 2 cC t.az,aP ad t.rows.length cap,.list 5 ((gK t.ix (dL t.ix) (c9 row) t.rows.length).ag.flatMap cP) (gK t.ix (dL t.ix) (c9 row) t.rows.length).ag.length,ae (gK t.ix (dL t.ix) (c9 row) t.rows.length).root]:List D)).set 2 (aP (some ⟨qK,0,none⟩) ((t.rows++[row])).length ry)++post)) ap rfl rfl ot rfl rfl ot rfl rfl sizeOf34 rfl (by show off+2+1≤(pre++(([bn t.nm,av 2 cC t.az,aP ad t.rows.length cap,.list 5 ((gK t.ix (dL t.ix) (c9 row) t.rows.length).ag.flatMap cP) (gK t.ix (dL t.ix) (c9 row) t.rows.length).ag.length,ae (gK t.ix (dL t.ix) (c9 row) t.rows.length).root]:List D)++post)).length;simp only[length_append,length_cons,length_nil];omega) (by exact Bz (j:=2) hp aQ rfl) ?_;refine an 70 [] ?_;refine af [4] ?_;refine aJ (⟨bt,53,I,pre++(_++post)⟩::[⟨qK,28,ry*1,flatMap gp (t.rows++[row])⟩]) ?_;rw[aV];exact⟨rfl,fun _=>⟨(some ⟨qK,0,none⟩),ry,[⟨qK,28,ry*1,flatMap gp (t.rows++[row])⟩],(bH Gg Gh),rfl⟩⟩
 obtain⟨rw0,akt⟩:=(Be g.ix (c9 row)).1 iU;have fP:=Kp (G:=G) g.ix (c9 row);rw[Rz g.ix dX akt] at fP;unfold Tw.cT at fP;have aV:gC t row=(t,9):=(by unfold gC;rw[if_neg (by simp[hz]),if_pos iU])
 refine iv [0,1,7] ?_;refine aS 3 ?_ (h:=by exact(xI 0));refine di (O) ?_;refine di (fP) ?_;refine bK ?_;refine af [0,1,30] ?_;refine au ?_ ?_<;>intro aY cJ
 ·refine af [4] ?_;refine aJ [] ?_;rw[aV];exact⟨rfl,fun h=>absurd (show(9:Int)=0 from h) w7⟩
 exact absurd aY (by simp at aY)

end Go.Proofs.YtdgichenhdikgaaGreatDoor.Ba

namespace Go.Proofs.YtdgichenhdikgaaGreatDoor.Ba
open List
open Go.Proofs.Tryz
open Go.RowKit V Pk Tr Vl Go.Proofs.YtdgichenhdikgaaGreatDoor.Nm Pc Cd Ex Tw
open Pa (cA bU)
variable {G:List (Nat×List Value)} {m:Int}
variable {t:aM} {n:Nat} {i:Int}
theorem J0{t:aF}(g:iM t n){x y:K×Int}(hx:x∈eB t)(hy:y∈eB t)(h:x.1=y.1):x=y:=by
 have hr:(eB t).Pairwise (fun a b=>bF a.1 b.1):=IF g.val;obtain⟨i,hi,rfl⟩:=mem_iff_getElem.1 hx;obtain⟨j,hj,rfl⟩:=mem_iff_getElem.1 hy;have hp:=pairwise_iff_getElem.1 hr;rcases Nat.lt_trichotomy i j with q|q|q
 ·have:=hp i j hi hj q;rw[h] at this;exact absurd this (jR _)
 ·subst q;rfl
 have:=hp j i hj hi q;rw[h] at this;exact absurd this (jR _)
theorem gb.iZ(g:ew t n)(h:gb t i):(c9 (rowAt t i),i)∈eB t.ix:=by
 obtain⟨h0,h1,h2⟩:=h;have:=(g.row _ h1 h2).2.2;rw[ja h1];rwa [Int.toNat_of_nonneg h0] at this
noncomputable def nP(t:aM)(i:Int):aM:={t with rows:=t.rows.set i.toNat [],ix:=gL t.ix (dL t.ix) (c9 (rowAt t i))}
noncomputable def rE:aM→List Int→aM
 | t,[]=>t
 | t,i::r=>rE (nP t i) r
noncomputable def mH(t:aM)(w:List aX):aM×Int×Int:=if (ax t w).2≠0 then (t,0,(ax t w).2) else (rE t (ax t w).1,(ax t w).1.length,0)
theorem agv(g:ew t n)(h:gb t i):iM (gL t.ix (dL t.ix) (c9 (rowAt t i))) n∧∀x,x∈eB (gL t.ix (dL t.ix) (c9 (rowAt t i)))↔x∈eB t.ix∧x.1≠c9 (rowAt t i) :=
 Je g.ix ((Bc g.ix.val _).2 ⟨i,h.iZ g⟩)
theorem Qd(g:ew t n)(h:gb t i):ew (nP t i) n:=by
 obtain⟨d1,d2⟩:=agv g h;have I:=h.iZ g;obtain⟨h0,h1,h2⟩:=h;refine⟨g.nm,g.az,by show(t.rows.set _ _).length≤40;rw[length_set];exact g.eJ,d1,fun j hj hne=>?_,fun x hx=>?_⟩
 ·simp only[nP] at hj hne ⊢;rw[length_set] at hj;rw[getElem_set] at hne;split at hne
  ·exact absurd rfl hne
  rename_i E;have he:(t.rows.set i.toNat [])[j]'xN=t.rows[j]:=getElem_set_ne E _;rw[he];obtain⟨p1,p2,p3⟩:=g.row j hj hne;refine⟨p1,p2,(d2 _).2 ⟨p3,fun e=>?_⟩⟩;have:=J0 g.ix p3 I e;simp only[Prod.mk.injEq] at this;omega
 obtain⟨x1,O⟩:=(d2 x).1 hx;obtain⟨p0,p1,p2,p3⟩:=g.iZ x x1;have E:i.toNat≠x.2.toNat:=fun e=>by
  refine O ?_;rw[p3,ja h1];congr 1;simp only[e]
 refine⟨p0,by show _<(t.rows.set _ _).length;rw[length_set];exact p1,?_⟩;have he:(t.rows.set i.toNat [])[x.2.toNat]'(by rw[length_set];exact p1)=t.rows[x.2.toNat]:=getElem_set_ne E _;show(t.rows.set i.toNat [])[x.2.toNat]'(by rw[length_set];exact p1)≠[]∧x.1=c9 ((t.rows.set i.toNat [])[x.2.toNat]'(by rw[length_set];exact p1));rw[he];exact⟨p2,p3⟩
theorem TK{j:Int}(h:gb t j)(E:j≠i)(hi:0≤i):gb (nP t i) j:=by
 obtain⟨h0,h1,h2⟩:=h;refine⟨h0,by show _<(t.rows.set _ _).length;rw[length_set];exact h1,?_⟩;show(t.rows.set i.toNat [])[j.toNat]'(by rw[length_set];exact h1)≠[];have e:=getElem_set_ne (l:=t.rows) (i:=i.toNat) (j:=j.toNat) (a:=[]) w4 (by rw[length_set];exact h1);rw[e];exact h2
theorem EB(g:ew t n)(w:List aX):(ax t w).1.Nodup:=(E0 g w).imp fun h e=>by rw[e] at h;exact jR _ h
theorem abB(hm:(3,marksC)∈G)(hw:(1,wordsC)∈G)(ht:(0,typesC)∈G)(hG:(2,[Value.int .i64 m])∈G)(t:aM)(g:ew t n)(s:cA)(ho:∀o∈s.aj,o.nm.size≤maxLen)(fR:∀o∈s.aj,o.v.Ok)(bt off ql:Nat)(pre post:List D)(hp:pre.length=off)(ad:Option Addr)(cap:Nat)(Sr:List ah)(kJ:vy t ad cap Sr):VC Tryz.prog G 46 [.v (.pointer (some ⟨bt,off,none⟩)),.agg (bU s)] (⟨bt,53,ql,pre++(tC t ad cap++post)⟩::Sr) (fun r S=>r = .dJ [ae (mH t s.aj).2.1,ae (mH t s.aj).2.2]∧((mH t s.aj).2.2=0→∃nV kK oL,vy (mH t s.aj).1 nV kK oL∧S=⟨bt,53,ql,pre++(tC (mH t s.aj).1 nV kK++post)⟩::oL)):=by
 refine VC.body func46 rfl ntmps46 aQ fun X0 w0 bg=>?_;have dz:=ei;have mO:=g.eJ;have DZ:=Fs g s.aj;have mD:=tZ g s.aj;have hnd:=EB g s.aj;unfold tC;unfold bU;refine bY ?_;refine OD.box (ds:=[_,_,_,_,_,_,_,_,_,_,_,_]) ap rfl rfl ot rfl rfl (fun b3=>?_);refine an 56 [0,3] ?_;refine CD.seq ?_;refine fE 9 (aq (take 2 _)) ?_ (fun _ h=>(Sublist.map _ (take_sublist _ _)).subset h);refine ay 0 rfl aZ ?_;refine ay 1 rfl lW ?_;refine ay 2 rfl (L0 1) ?_;refine ay 3 rfl (dh 6) ?_;refine ay 4 rfl (dI 0) ?_;refine dm.later rfl ?_;refine AD.one (i:=5) aA ?_;refine bj.KI rfl ap rfl rfl rfl call86 (Ks hm hw ht hG t g s.aj ho fR) (fun r S h=>h.flat) ⟨⟨_,ot,(uS ⟨eU,eU,lK kJ (cu jq _) (fun B hB=>by simp[hB]),eU,eU,trivial⟩:View _ (.agg [bn t.nm,av 2 cC t.az,aP ad t.rows.length cap,av 5 cP t.ix.ag,ae t.ix.root]) (.agg (c8 t)))⟩,⟨_,ot,eU⟩,trivial⟩ ?_;rintro _ Sx ⟨dr,cY,rfl,dY⟩;refine AD.perm (jo (A:=[_,_])) ?_;refine cr 6 rfl aZ ?_;refine cr 7 rfl MY ?_;refine cr 8 rfl MY ?_;refine eE ?_;refine bf [0,6,7] ?_;refine af [0,6,7,20] ?_;refine au ?_ ?_<;>intro aO bE
 ·have hne:(ax t s.aj).2≠0:=(by simpa using aO)
  have aV:mH t s.aj=(t,0,(ax t s.aj).2):=if_pos hne;refine af [4,5] ?_;refine aJ [] ?_;rw[aV];exact⟨rfl,fun h=>absurd h hne⟩
 have hz:(ax t s.aj).2=0:=(by simpa using aO)
 have aV:mH t s.aj=(rE t (ax t s.aj).1,((ax t s.aj).1.length:Int),0):=if_neg (fun h=>h hz);refine CD.skip ?_;refine CD.seq ?_;refine CD.seq ?_;refine CD.ic (t:=6) (Sq:=Sx) lk dY (cu Tw.eo _) (oO (A:=[_,_])) ?_;refine rS ?_;refine bf [0,6,22,23,24] ?_;refine eD [0,6,22,23] (fun aW _ (U:Nat×aM×Option Addr×Nat×List ah) aH=>match U with|(k,u,Z,E,O)=>(k≤(ax t s.aj).1.length)∧(rE u ((ax t s.aj).1.drop k)=rE t (ax t s.aj).1)∧(ew u n)∧(∀i∈(ax t s.aj).1.drop k,gb u i)∧(vy u Z E O)∧aH=(⟨56,(24,ae (k:Nat))::aW,(⟨b3,32,12,bU s⟩::⟨bt,53,ql,pre++([bn u.nm,av 2 cC u.az,aP Z u.rows.length E,av 5 cP u.ix.ag,ae u.ix.root]++post)⟩::O)⟩:St)) (fun (U:Nat×aM×Option Addr×Nat×List ah)=>match U with|(k,u,Z,E,O)=>(ax t s.aj).1.length-k) (0,t,ad,cap,Sr) ⟨(Nat.zero_le _),rfl,g,mD,kJ,rfl⟩ ?_;rintro⟨k,u,Z,E,O⟩ _ ⟨hk,Wg,gu,ko,vX,rfl⟩;refine af [0,6,22,23,24,25] ?_;refine au ?_ ?_<;>intro aY cJ
 ·have aa:k<(ax t s.aj).1.length:=(by omega)
  have jx:(ax t s.aj).1.drop k=((ax t s.aj).1[k]'aa)::(ax t s.aj).1.drop (k+1):=drop_eq_getElem_cons aa;have rY:gb u ((ax t s.aj).1[k]'aa):=ko _ (by rw[jx];exact mem_cons_self);obtain⟨gF,I,nX⟩:=id rY;obtain⟨br,rfl,uD,uE,rfl⟩:=vX.pos w4;have gu2:=Qd gu rY;have gi:(nP u ((ax t s.aj).1[k]'aa)).rows.length=u.rows.length:=length_set;have ahP:rE (nP u ((ax t s.aj).1[k]'aa)) ((ax t s.aj).1.drop (k+1))=rE t (ax t s.aj).1:=(by rw[←Wg,jx];rfl)
  have LL:∀i∈(ax t s.aj).1.drop (k+1),gb (nP u ((ax t s.aj).1[k]'aa)) i:=fun i hi=>TK (ko i (by rw[jx];exact mem_cons_of_mem _ hi)) (fun e=>by subst e;have h9:=hnd.sublist (drop_sublist k _);rw[jx,nodup_cons] at h9;exact h9.1 hi) gF;have CE:vy (nP u ((ax t s.aj).1[k]'aa)) (some ⟨br,0,none⟩) E [⟨br,28,E*1,(nP u ((ax t s.aj).1[k]'aa)).rows.flatMap gp⟩]:=bH (by show(u.rows.set _ _).length≤_;rw[length_set];exact uD) uE;obtain⟨Yt,D0⟩:=gb.ok gu rY;have vY:=ze (G:=G) hG (u.rows[((ax t s.aj).1[k]'aa).toNat]) (by rw[←ja I];omega) (by rw[←ja I];omega) (fun v hv=>(D0 v (by rw[ja I];exact hv)).1);rw[show c9 (u.rows[((ax t s.aj).1[k]'aa).toNat])=c9 (rowAt u ((ax t s.aj).1[k]'aa)) from by rw[ja I]] at vY;have yz:=RB (G:=G) gu.ix (c9 (rowAt u ((ax t s.aj).1[k]'aa)));rw[Tv gu.ix (wF (by rw[ja I];exact(gu.row _ I nX).1)) ((Be gu.ix _).2 ⟨_,rY.iZ gu⟩)] at yz;unfold Tw.cT at yz;have aoN:=gu.eJ;refine af [0,6,9,22,23,24] ?_;refine CD.seq ?_;refine mv 17 [0,6,9,22,23,24,29,43] ?_;refine aS 4 ?_ (h:=by exact(xI 1));refine aS 3 ?_ (h:=by exact(oK 1));refine aS 1 ?_ (h:=by exact(dc 1 (h:=by first|exact .l (j:=((ax t s.aj).1[k]'aa).toNat) (Int.toNat_of_nonneg gF).symm I|exact .r (j:=((ax t s.aj).1[k]'aa).toNat) (Int.toNat_of_nonneg gF).symm I)))
  refine aS 0 ?_ (h:=by exact(cU (mk:=Op.load 28) rfl ot (jb (k:=2) (i:=((ax t s.aj).1[k]'aa).toNat) (ls:=u.rows) jq rfl rfl rfl isAgg28 I rfl)));refine di (vY) ?_;refine di (yz) ?_;refine bK ?_;refine aE 2 ?_;refine OD.storeAt (k:=1) (cs':=pre++([bn u.nm,av 2 cC u.az,aP (some ⟨br,0,none⟩) (nP u ((ax t s.aj).1[k]'aa)).rows.length E,.list 5 ((nP u ((ax t s.aj).1[k]'aa)).ix.ag.flatMap cP) (nP u ((ax t s.aj).1[k]'aa)).ix.ag.length,ae (nP u ((ax t s.aj).1[k]'aa)).ix.root]++post)) ap rfl rfl ot rfl rfl ot rfl rfl sizeOf51 rfl (by show off+3+2≤(pre++(([bn u.nm,av 2 cC u.az,aP (some ⟨br,0,none⟩) u.rows.length E,av 5 cP u.ix.ag,ae u.ix.root]:List D)++post)).length;simp only[length_append,length_cons,length_nil];omega) (by exact Bz (j:=3) hp aQ (by rw[gi];rfl)) ?_;refine an 56 [0,6,9,22,23,24] ?_;refine dO 3 ?_;refine bN (oK 1) ?_;refine aE 1 ?_;refine bN (dc 1 (h:=by first|exact .l (j:=((ax t s.aj).1[k]'aa).toNat) (Int.toNat_of_nonneg gF).symm (by rw[gi];exact I)|exact .r (j:=((ax t s.aj).1[k]'aa).toNat) (Int.toNat_of_nonneg gF).symm (by rw[gi];exact I))) ?_
  refine OD.storeAt (k:=2) (cs':=(u.rows.flatMap gp).set ((ax t s.aj).1[k]'aa).toNat (bA)) ap rfl rfl ot rfl rfl bP rfl rfl sizeOf28 rfl (by show 0+((ax t s.aj).1[k]'aa).toNat*1+1≤(u.rows.flatMap gp).length;rw[cu jq];omega) (by show(u.rows.flatMap gp).set (0+((ax t s.aj).1[k]'aa).toNat*1) _=_;rw[Nat.zero_add,Nat.mul_one]) ?_;refine OD.cells (k:=2) (cs':=(nP u ((ax t s.aj).1[k]'aa)).rows.flatMap gp) (S':=[_,_,_]) rfl (by have:=SG (fp (sz:=3)) (u.rows.flatMap gp) ((ax t s.aj).1[k]'aa).toNat;rw[show(u.rows.flatMap gp).set ((ax t s.aj).1[k]'aa).toNat (.list 3 [] 0)=(u.rows.set ((ax t s.aj).1[k]'aa).toNat []).flatMap gp from by have:=oQ jq u.rows [] I;rw[Nat.mul_one] at this;exact this] at this;exact this) rfl ?_;refine an 56 [0,6,22,23,24] ?_;refine cl [0,6,22,23,24] ?_;refine⟨((k+1),(nP u ((ax t s.aj).1[k]'aa)),(some ⟨br,0,none⟩),E,[⟨br,28,E*1,(nP u ((ax t s.aj).1[k]'aa)).rows.flatMap gp⟩]),_,cz,aK,w4,ahP,gu2,LL,CE,rfl⟩
 have nr:u=rE t (ax t s.aj).1:=(by rw[←Wg,drop_of_length_le w4];rfl)
 subst nr;refine af [4,5] ?_;refine aJ (⟨bt,53,ql,pre++(_++post)⟩::O) ?_;rw[aV];exact⟨rfl,fun _=>⟨Z,E,O,vX,rfl⟩⟩

end Go.Proofs.YtdgichenhdikgaaGreatDoor.Ba
namespace Go.Proofs.YtdgichenhdikgaaGreatDoor.Ba
open List
open Go.Proofs.Tryz
open Go.RowKit V Pk Tr Vl Go.Proofs.YtdgichenhdikgaaGreatDoor.Nm Pc Cd Ex Tw
open Pa (cA bU)
variable {ops:List aX} {row:List Vl}
theorem Jh:∀(i:Nat) (cs:List cG) (vs:List Vl),cs.length=vs.length→(Pc.oX i cs vs=0↔∀j (h1:j<cs.length) (h2:j<vs.length),Pc.lR (i+j) cs[j] vs[j]=0)
 | _,[],[],_=>⟨fun _ j h1=>absurd h1 (Nat.not_lt_zero j),fun _=>rfl⟩
 | _,[],_::_,h=>by cases h
 | _,_::_,[],h=>by cases h
 | i,c::cs,v::vs,h=>by
  rw[Pc.oX];have E:=Jh (i+1) cs vs (Nat.succ.inj h);by_cases he:Pc.lR i c v=0
  ·rw[if_neg (fun h=>h he),E];constructor
   ·intro k j h1 h2;cases j with
    | zero=>exact he
    | succ j=>have:=k j (Nat.lt_of_succ_lt_succ h1) (Nat.lt_of_succ_lt_succ h2);rw[show i+(j+1)=i+1+j by omega];exact this
   intro k j h1 h2;have:=k (j+1) (Nat.succ_lt_succ h1) (Nat.succ_lt_succ h2);rw[show i+(j+1)=i+1+j by omega] at this;exact this
  rw[if_pos he];exact⟨fun h=>absurd h he,fun k=>absurd (k 0 (Nat.succ_pos _) (Nat.succ_pos _)) he⟩
theorem J1{r:List Vl}:Pc.ec cM r=0↔r.length=4∧∀j (h1:j<cM.length) (h2:j<r.length),Pc.lR j cM[j] r[j]=0:=by
 constructor
 ·intro h;have h4:=oW h;unfold Pc.ec at h;rw[if_neg Ao,if_neg xT,Jh 0 cM r (by rw[h4];rfl)] at h;refine⟨h4,fun j h1 h2=>?_⟩;have:=h j h1 h2;rwa [Nat.zero_add] at this
 intro ⟨h4,h⟩;unfold Pc.ec;rw[if_neg Ao,if_neg xT,Jh 0 cM r (by rw[h4];rfl)];intro j h1 h2;rw[Nat.zero_add];exact h j h1 h2
theorem ae1{i:Nat}{c:cG}{v:Vl}(h:Pc.lR i c v=0):jU c.k v:=by
 unfold Pc.lR at h;by_cases h1:cD v=0
 ·rw[if_neg (fun e=>e h1)] at h;by_cases h2:v.k≠c.k∧(i=0∨v.k≠0)
  ·rw[if_pos h2] at h;cases h
  exact⟨h1,by omega⟩
 rw[if_pos h1] at h;exact absurd h h1
theorem ae2{r:List Vl}(h:Pc.ec cM r=0):FY cM r:=fun i=>by
 obtain⟨h4,hf⟩:=J1.1 h;have hc:cM.length=4:=rfl;rw[getD_eq_getElem?_getD,getD_eq_getElem?_getD];by_cases hi:i<4
 ·rw[getElem?_eq_getElem w4,getElem?_eq_getElem w4];exact ae1 (hf i w4 w4)
 rw[getElem?_eq_none w4,getElem?_eq_none w4];exact BE
theorem TL{r:List Vl}(h:Pc.ec cM r=0){c:Nat}(hc:c<cM.length){v:Vl}(E:jU cM[c].k v)(h0:c=0→v.k≠0):Pc.ec cM (r.set c v)=0:=by
 obtain⟨h4,hf⟩:=J1.1 h;refine J1.2 ⟨by rw[length_set];exact h4,fun j h1 h2=>?_⟩;rw[length_set] at h2;rw[getElem_set];split
 ·rename_i e;subst e;unfold Pc.lR;rw[if_neg (fun e=>e E.1),if_neg (fun e=>?_)];have:=E.2;have:=e.2;have:=e.1;by_cases I:c=0
  ·have:=h0 I;omega
  omega
 exact hf j h1 h2
theorem E1:∀(ops:List aX) (h:Int),fK h ops=0→∀o∈ops,∃h',fh h' o=0
 | [],_,_,o,ho=>by cases ho
 | x::r,h,hx,o,ho=>by
  rw[fK] at hx;by_cases he:fh h x=0
  ·rw[if_pos he] at hx;rcases mem_cons.1 ho with rfl|ho
   ·exact⟨_,he⟩
   exact E1 r _ hx o ho
  rw[if_neg he] at hx;exact absurd hx he
theorem abC{l:List cG}(lg:∀o∈ops,o.nm.size≤maxLen)(fR:∀o∈ops,o.v.Ok)(hk:(ey l ops).2=0):∀o∈ops,zy l o:=fun o ho=>by
 obtain⟨_,hx,he⟩:=Fg hk;obtain⟨h',h1⟩:=E1 ops 0 (wE hx).2 o ho;obtain⟨_,h2,h3,_⟩:=wz h1;exact⟨lg o ho,fR o ho,Ev h3,h2.1,h2.2,PI (by rw[he] at hk;exact hk) o ho⟩
theorem RJ{l:List cG}{row:List Vl}(hr:∀v∈row,v.Ok):∀(ops:List aX),(∀o∈ops,o.v.Ok)→∀st:List Vl,(∀v∈st,v.Ok)→(jH bJ (fW l row) ops st).1.Ok
 | [],_,st,fG=>JI fG 0
 | o::r,hg,st,fG=>by
  have I:(fW l row o (fj bJ o.k st) (eY bJ o.k st)).1.Ok:=Tb hr (hg o mem_cons_self) (Bs fG _) (Bt fG _);by_cases hz:(fW l row o (fj bJ o.k st) (eY bJ o.k st)).2=0
  ·rw[JJ hz];refine RJ hr r (fun x hx=>hg x (mem_cons_of_mem _ hx)) _ fun v E=>?_;rcases mem_append.1 E with E|E
   ·exact fG v (mem_of_mem_take E)
   rw[mem_singleton] at E;rw[E];exact I
  rw[I2 hz];exact ue
theorem ae3{l:List cG}(hr:∀v∈row,v.Ok)(fR:∀o∈ops,o.v.Ok):(fu l row ops).1.Ok:=by
 unfold fu;repeat' split
 all_goals first|exact ue|exact RJ hr ops fR [] (fun v E=>by cases E)
theorem adp(lg:∀o∈ops,o.nm.size≤maxLen)(fR:∀o∈ops,o.v.Ok)(hw:Pc.ec cM row=0)(hk:(ey cM ops).2=0)(he:(fu cM row ops).2=0):jU (ey cM ops).1 (fu cM row ops).1:=by
 obtain⟨_,_,_,h4⟩:=aaR Jn hw (ae2 hw) (abC lg fR hk) (Fg hk).2.1;obtain⟨_,h5|h5⟩:=h4 hk
 ·rw[h5] at he;cases he
 exact h5.2
def iQ(t:aM)(c:Int)(e:List aX):List Vl→List Int→List Vl×Int
 | acc,[]=>(acc,0)
 | acc,i::r=>if (fu t.az (rowAt t i) e).2≠0 then ([],(fu t.az (rowAt t i) e).2) else if c=0∧(fu t.az (rowAt t i) e).1.k=0 then ([],4) else iQ t c e (acc++[(fu t.az (rowAt t i) e).1]) r
def rF(t:aM)(i:Int)(c:Nat)(v:Vl):aM:={t with rows:=t.rows.set i.toNat ((rowAt t i).set c v)}
def mP(c:Nat):aM→List Int→List Vl→aM
 | t,i::r,v::s=>mP c (rF t i c v) r s
 | t,_,_=>t
noncomputable def ou(t:aM):aF→List Int→aF
 | x,[]=>x
 | x,i::r=>ou t (gL x (dL x) (c9 (rowAt t i))) r
noncomputable def kH:aM→List Int→List Vl→aM×Int
 | t,i::r,v::s=>if iA t.ix (c9 (rowAt (rF t i 0 v) i)) (dL t.ix)=true then (t,9) else kH {rF t i 0 v with ix:=gK t.ix (dL t.ix) (c9 (rowAt (rF t i 0 v) i)) i} r s
 | t,_,_=>(t,0)
noncomputable def ig(t:aM)(s:cA):aM×Int×Int :=
 if bD t.az s.set<0 then (t,0,8) else if (ey t.az s.bV).2≠0 then (t,0,(ey t.az s.bV).2)
 else if (ey t.az s.bV).1≠(t.az.getD (bD t.az s.set).toNat ⟨⟨#[]⟩,0⟩).k∧(ey t.az s.bV).1≠0 then (t,0,4)
 else if (ax t s.aj).2≠0 then (t,0,(ax t s.aj).2)
 else if (iQ t (bD t.az s.set) s.bV [] (ax t s.aj).1).2≠0 then (t,0,(iQ t (bD t.az s.set) s.bV [] (ax t s.aj).1).2)
 else if 0<bD t.az s.set then (mP (bD t.az s.set).toNat t (ax t s.aj).1 (iQ t (bD t.az s.set) s.bV [] (ax t s.aj).1).1,(ax t s.aj).1.length,0)
 else if (kH {t with ix:=ou t t.ix (ax t s.aj).1} (ax t s.aj).1 (iQ t (bD t.az s.set) s.bV [] (ax t s.aj).1).1).2≠0 then (t,0,(kH {t with ix:=ou t t.ix (ax t s.aj).1} (ax t s.aj).1 (iQ t (bD t.az s.set) s.bV [] (ax t s.aj).1).1).2)
 else ((kH {t with ix:=ou t t.ix (ax t s.aj).1} (ax t s.aj).1 (iQ t (bD t.az s.set) s.bV [] (ax t s.aj).1).1).1,(ax t s.aj).1.length,0)

end Go.Proofs.YtdgichenhdikgaaGreatDoor.Ba
