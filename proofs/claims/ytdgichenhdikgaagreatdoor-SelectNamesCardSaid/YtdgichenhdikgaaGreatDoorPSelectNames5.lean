/-
  What the proof of SelectNames leans on, part 5 of 9: walks of the program's functions at the level of values, and plain facts of what they compute.
-/
import Derived.Test.YtdgichenhdikgaaGreatDoorPSelectNames4
set_option linter.unusedVariables false
set_option linter.unusedSimpArgs false
set_option maxRecDepth 100000
set_option maxHeartbeats 4000000
namespace Go.Proofs.YtdgichenhdikgaaGreatDoor.Nm
open List
open Go.Proofs.Tryz
open Go.RowKit V Pk Vl
variable {G:List (Nat×List Value)}
variable {ts:List Tw} {h:Int}
theorem QX{r:Nat}{n:Int}{s:ByteArray}{i:Nat}(hi:i<ts.length):iB r ts[i]=gJ r ts n s i:=by unfold gJ;rw[getElem?_eq_getElem hi]
theorem QY{r:Nat}{n:Int}{s:ByteArray}{i:Nat}(hi:ts.length≤i):mF n i s=gJ r ts n s i:=by unfold gJ;rw[getElem?_eq_none hi]
theorem wm(r:Nat)(k n:Int)(s:ByteArray)(ts:List Tw):iB (r+1) (.mk k n s ts)=if 1+dU k 11=1 then [sC n s] else if 1+dU k 11=2 then [wP n]
  else if 1+dU k 11=5∨1+dU k 11=11 then gJ r ts n s 0++[rf (1+dU k 11)] else (gJ r ts n s 0++gJ r ts n s 1)++[rf (1+dU k 11)]:=rfl
theorem Kz(r:Nat)(k n d:Int)(s:ByteArray)(ts:List Tw)(i b2 b3:Nat)(IH:∀t∈ts,VC Tryz.prog G 32 [.agg t.cs,ae (d+1)] [] (xE (iB r t)))(gv:-9223372036854775808≤n)(iX:n≤9223372036854775807)(hs:s.size≤maxLen)(hd1:0≤d)(hd:d≤2)(hi:i≤1):VC Tryz.prog G 52 [ae (i:Int),dM b2,dM b3] [⟨b3,3,1,[ae d]⟩,⟨b2,62,4,[ae k,ae n,bn s,.list 4 (ts.flatMap Tw.cs) ts.length]⟩] (fun x S=>∃S1,xE (gJ r ts n s i) x S1∧S=S1++[⟨b3,3,1,[ae d]⟩,⟨b2,62,4,[ae k,ae n,bn s,.list 4 (ts.flatMap Tw.cs) ts.length]⟩]):=by
 refine VC.body func52 rfl ntmps52 aQ fun X0 w0 bg=>?_;refine aD 1 ?_;refine OD.wk (Wk.dS (n:=25) (l':=[(0,_),(1,_),(2,_)]) (S':=_) rfl rfl fm) ?_;refine OD.nil ?_;refine aD 5 ?_;refine OD.wk (Wk.dS (n:=25) (l':=[(0,_),(1,_),(2,_),(9,_)]) (S':=_) rfl rfl fm) ?_;refine OD.nil ?_;refine au ?_ ?_<;>intro aO bE
 ·have aa:i<ts.length:=(by omega)
  refine CD.seq ?_;refine CD.draw (aq _) aA (fun _ h=>h) ?_;refine ay 0 rfl (dh 3) ?_;refine ay 1 rfl (dI 1) ?_;refine ay 2 rfl aZ ?_;refine ay 3 rfl (dc 4) ?_;refine ay 4 rfl (cU (mk:=Op.load 62) rfl ot (by first|exact nF (k:=0) (ds:=[_,_,_,_]) rfl rfl isAgg62 sizeOf62 rfl rfl|exact nF (k:=1) (ds:=[_,_,_,_]) rfl rfl isAgg62 sizeOf62 rfl rfl|exact iJ Tw.Fy isAgg62 sizeOf62 w5|exact cn (k:=0) Tw.Fy rfl rfl rfl isAgg62 sizeOf62 w5|exact cn (k:=1) Tw.Fy rfl rfl rfl isAgg62 sizeOf62 w5|exact pN (ds:=[_,_,_,_]) isAgg62 sizeOf62 rfl rfl)) ?_;refine ay 5 rfl (dI 0) ?_;refine ay 6 rfl mT ?_;refine dm.later rfl ?_;refine AD.one (i:=7) aA ?_;refine bj.call rfl ap rfl rfl rfl call32 (IH _ (getElem_mem aa)) ⟨ot,ot,trivial⟩ (eR _) (fun _ h=>h) ?_;rintro _ O ⟨U,Z,rfl,E⟩;refine cr 8 rfl aZ ?_;refine AD.wk (y:=⟨25,[(4,_)],((O++[_,_]))⟩) (Wk.dS rfl rfl fm) rfl ?_;refine AD.done aA ?_;refine aJ _ ?_;first|exact⟨_,gm.cast (gm.mk E) (QX aa),rfl⟩|exact⟨_,gm.cast (gm.mk I) (QY w4),rfl⟩
 refine aD 6 ?_;refine OD.call ap rfl rfl rfl call32 (S5 n (i:Int) 9 s (bA) rfl gv iX w4 w4 hs w7) ⟨ot,bP,trivial⟩ (eR _) ?_;rintro _ S24 ⟨apx,apy,rfl,I⟩;refine aE 1 ?_;refine OD.wk (Wk.dS (n:=25) (l':=[(4,_)]) (S':=_) rfl rfl fm) ?_;refine OD.nil ?_;refine aJ _ ?_;first|exact⟨_,gm.cast (gm.mk E) (QX aa),rfl⟩|exact⟨_,gm.cast (gm.mk I) (QY w4),rfl⟩
theorem HY:(Tryz.prog.info? 43).map (fun i=>(i.zero,i.size,i.bytes))=some (some (.agg #[.int .i64 0,.int .i64 0,.int .i64 0,.string ⟨#[]⟩,.string ⟨#[]⟩]),5,56):=by kernel_rfl
theorem ael(r:Nat)(hr:r≤2)(k n d:Int)(s:ByteArray)(ts:List Tw)(IH:∀t∈ts,VC Tryz.prog G 32 [.agg t.cs,ae (d+1)] [] (xE (iB r t)))(dP:-9223372036854775808≤k)(fy:k≤9223372036854775807)(gv:-9223372036854775808≤n)(iX:n≤9223372036854775807)(hs:s.size≤maxLen)(hd1:0≤d)(hd:d≤2):VC Tryz.prog G 32 [.agg [ae k,ae n,bn s,.list 4 (ts.flatMap Tw.cs) ts.length],ae d] [] (xE (iB (r+1) (.mk k n s ts))):=by
 refine VC.body func32 rfl ntmps32 aQ fun X0 w0 bg=>?_;have yl:=jD k (by decide:(1:Int)≤11);have hpn:=jD n (by decide:(1:Int)≤40);have hpc:=jD n (by decide:(1:Int)≤4);obtain⟨j,hj⟩:=Int.eq_ofNat_of_zero_le hpc.1;have hj4:j<4:=(by omega)
 have I:=kp G n 4 gv iX w7;rw[hj] at I;have fR:(⟨n,dU n 40-20,s⟩:Vl).Ok:=⟨gv,iX,by show _≤dU n 40-20;omega,by show dU n 40-20≤_;omega,hs⟩
 have Xw:=OX ⟨n,dU n 40-20,s⟩;have hml:100≤maxLen:=(by decide)
 obtain⟨kk,lF⟩:∃kk:Int,1+dU k 11=kk:=⟨_,rfl⟩
 have mR:=SZ r ts n s 0;have j8:=SZ r ts n s 1;have h2p:2 ^ (r+1)≤8:=Nat.pow_le_pow_right w7 (show r+1≤3 by omega);refine bY ?_;refine OD.box (ds:=[_,_,_,_]) ap rfl rfl ot rfl rfl (fun b2=>?_);refine OD.box (ds:=[_]) ap rfl rfl ot rfl rfl (fun b3=>?_);refine an 69 [2,3] ?_;refine cZ [2,3,5] ?_;refine di (kp G k 11 dP fy w7) ?_;refine aS 0 ?_ (h:=by exact(dw (r:=.int .i64 kk) rfl bP ot (kx (by rw[lF];exact wrap_i64 w4 w4))));refine bK ?_;refine aD 3 ?_;refine bW 14 (fun E Z=>?_) (fun E Z=>?_)
 ·exact absurd E (by simp at E;omega)
 refine bf [2,3,5,17] ?_;refine fN ?_;refine cZ [2,5,6] ?_;refine aS 0 ?_ (h:=by exact(pG (ds:=[_,_]) rfl ⟨ot,ot,trivial⟩));refine bK ?_;refine af [2,5,6,19] ?_;refine af [2,5,6,19,20] ?_;refine au ?_ ?_<;>intro aY cJ
 ·refine CD.seq ?_;refine uA 11 10 [5,7,31] ?_;refine di (kp G n 40 gv iX w7) ?_;refine di (Qq ⟨n,dU n 40-20,s⟩ fR) ?_;refine rP ?_;refine jZ ?_;refine⟨rfl,fun b7=>?_⟩;refine aN 0 [_,_,_] sizeOf41 ?_;refine an 69 [5,7] ?_;refine aD 2 ?_;refine dV call16 (Fu (pK ⟨n,dU n 40-20,s⟩).s 4 w4) ?_;refine aE 1 ?_;refine aN 0 [_,_,_] sizeOf9 ?_;refine an 69 [5,7] ?_;refine aD 3 ?_;refine ev (cc 0 [_]) [.int .i64 0,.int .i64 0,.int .i64 0,.string ⟨#[]⟩,.string ⟨#[]⟩] [_,_,_,_,_] zeroValue43 runUnderlying30 sizeOf43 (fun CQ=>?_);exact WU
 refine af [2,5,6,19,40] ?_;refine au ?_ ?_<;>intro cm cW
 ·refine aD 1 ?_;refine ev (cc 0 [_,_,_,_]) [.string ⟨#[]⟩,.string ⟨#[]⟩,.string ⟨#[]⟩,.string ⟨#[]⟩] [_,_,_,_] zeroValue9 runUnderlying29 sizeOf9 (fun NI=>?_);refine fF 0 43 1 4 ?_;refine aE 2 ?_;refine dV call21 (I) ?_;refine aE 1 ?_;refine bN (cU (mk:=Op.load 9) rfl ot (Cf isAgg9 (S4 hj4))) ?_;refine aE 1 ?_;refine ev (cc 0 [_]) [.int .i64 0,.int .i64 0,.int .i64 0,.string ⟨#[]⟩,.string ⟨#[]⟩] [_,_,_,_,_] zeroValue43 runUnderlying30 sizeOf43 (fun AK=>?_);exact WU
 refine af [5,6,19,51] ?_;refine au ?_ ?_<;>intro da ek
 ·refine eI ?_;exact z31
 refine cl [5,6,51] ?_;refine au ?_ ?_<;>intro ez fw
 ·exact z31
 refine aD 1 ?_;refine OD.kz (f:=52) (args:=[_]) (all:=[_,_,_]) (Sf:=[_,_]) (R:=[]) ap rfl rfl ot call52 (Kz r k n d s ts 0 b2 b3 IH gv iX hs hd1 hd w7) rfl ⟨bP,trivial⟩ (Perm.refl _) ?_;rintro _ _ ⟨X8,⟨apz,apA,rfl,ajz⟩,rfl⟩;refine OD.perm (Qn (A:=[_,_])) ?_;refine aE 1 ?_;refine OD.kz (f:=52) (args:=[_]) (all:=[_,_,_]) (Sf:=[_,_]) (R:=X8) ap rfl rfl ot call52 (Kz r k n d s ts 1 b2 b3 IH gv iX hs hd1 hd w7) rfl ⟨bP,trivial⟩ (Perm.refl _) ?_;rintro _ _ ⟨De,⟨VR,xC,rfl,Cl⟩,rfl⟩;refine OD.perm (ab2 (A:=[_,_])) ?_;refine OD.ic (t:=63) (Sq:=De) lk Cl (cu nf _) (yL (A:=[_,_])) ?_;refine OD.en (ls:=(gJ r ts n s 0)) (new:=(gJ r ts n s 1)) (Sq:=X8) nf J6 ap rfl rfl underlying30 HY rfl w7 ot ajz (dg (A:=[_,_])) ot w4 Ab Ab (fun Dn O ajA ajB=>?_);refine OD.perm (ee (S1:=[⟨Dn,43,O*5,flatMap cO ((gJ r ts n s 0)++(gJ r ts n s 1))⟩]) (A:=[_,_])) ?_;refine aE 2 ?_;refine ev (cc 0 [_]) [.int .i64 0,.int .i64 0,.int .i64 0,.string ⟨#[]⟩,.string ⟨#[]⟩] [_,_,_,_,_] zeroValue43 runUnderlying30 sizeOf43 (fun qK=>?_);refine fF 0 67 5 1 ?_
 refine OD.en (ls:=((gJ r ts n s 0)++(gJ r ts n s 1))) (new:=[(⟨kk,bJ,⟨#[]⟩⟩:aX)]) (Sq:=[⟨Dn,43,O*5,flatMap cO ((gJ r ts n s 0)++(gJ r ts n s 1))⟩]) nf J6 ap rfl rfl underlying30 HY rfl w7 ot (bH ajA ajB) (dg (A:=[_,_])) ot bq Ab Ab (fun X9 U ajC ajD=>?_);refine OD.perm (ee (S1:=[⟨X9,43,U*5,flatMap cO (((gJ r ts n s 0)++(gJ r ts n s 1))++[(⟨kk,bJ,⟨#[]⟩⟩:aX)])⟩]) (A:=[_,_])) ?_;refine an 69 [4] ?_;refine aJ [⟨X9,43,U*5,flatMap cO (((gJ r ts n s 0)++(gJ r ts n s 1))++[(⟨kk,bJ,⟨#[]⟩⟩:aX)])⟩] ?_;exact gm.cast (gm.mk (bH ajC ajD)) (by rw[wm,lF,if_neg w4,if_neg w4,if_neg w4];rfl)
theorem Ul:∀(r:Nat),r≤3→∀(t:Tw),t.Ok→VC Tryz.prog G 32 [.agg t.cs,ae (3-(r:Int))] [] (xE (iB r t))
 | 0,_,.mk k n s ts,h=>S5 k n 3 s (.list 4 (Tw.mB ts) ts.length) rfl h.1.1 h.1.2 h.2.1.1 h.2.1.2 h.2.2.1 w7
 | r+1,hr,.mk k n s ts,h=>by
  have:=ael (G:=G) r w4 k n (3-((r+1:Nat):Int)) s ts (fun t ht=>by
   have h1:=Ul r w4 t (Tw.SX h.2.2.2.2 t ht);rw[show(3-((r+1:Nat):Int)+1)=3-(r:Int) by omega];exact h1) h.1.1 h.1.2 h.2.1.1 h.2.1.2 h.2.2.1 w4 w4
  rw[←Tw.Ki] at this;exact this
theorem afW(t:Tw)(h:t.Ok):VC Tryz.prog G 19 [.agg t.cs] [] (xE (iB 3 t)):=by
 refine VC.body func19 rfl ntmps19 aQ fun X0 w0 bg=>?_;obtain⟨k,n,s,ts⟩:=t;have E:=Ul (G:=G) 3 (Nat.le_refl _) (.mk k n s ts) h;unfold Tw.cs at E ⊢;refine bY ?_;refine OD.box (ds:=[_,_,_,_]) ap rfl rfl ot rfl rfl (fun b1=>?_);refine an 5 [1] ?_;refine aD 1 ?_;refine OD.call ap rfl rfl rfl call32 (E) ⟨ot,bP,trivial⟩ (eR _) ?_;rintro _ O ⟨U,Z,rfl,I⟩;refine OD.perm ee ?_;refine an 5 [2] ?_;refine aJ O ?_;exact gm.mk I
theorem Um(t:Tw)(h:t.Ok):VP Tryz.prog G 19 [.agg t.cs] (.list 5 ((iB 3 t).flatMap cO) (iB 3 t).length):=(afW t h).wU nf

def runs:Int→List aX→Option Int
 | h,[]=>some h
 | h,o::r=>if fh h o=0 then runs (h+(1-bQ o.k)) r else none
theorem yE:∀(a b:List aX) (h:Int),runs h (a++b)=(runs h a).bind fun h'=>runs h' b
 | [],b,h=>rfl
 | o::r,b,h=>by
  rw[cons_append,runs,runs];split
  ·exact yE r b _
  rfl
theorem OY:∀{a:List aX} {h h':Int} (b:List aX),runs h a=some h'→fK h (a++b)=fK h' b
 | [],h,h',b,e=>by cases e;rfl
 | o::r,h,h',b,e=>by
  rw[runs] at e;split at e
  ·rename_i h0;rw[cons_append,fK,if_pos h0];exact OY b e
  cases e
theorem aem:((⟨#[]⟩:ByteArray).toList==(⟨#[]⟩:ByteArray).toList)=true:=by simp
theorem Pz:zeroV bJ=true:=by unfold zeroV bJ;simp
theorem QZ:iS bJ=0:=by decide
theorem acq(n:Int)(s:ByteArray):iS (uh n s)=0:=by
 have h1:=jD n (by decide:(1:Int)≤40);have h2:=jD (dU n 40-20) (by decide:(1:Int)≤2);have hc:(nM (nM s 10) 4).size≤4:=(by rw[Iq];omega)
 have he:nM (⟨#[]⟩:ByteArray) 4=ByteArray.empty:=E6 (by rw[Pr];rfl);unfold iS uh pK;split
 ·simp[cD,he];omega
 split
 ·simp[cD,he];omega
 split
 ·simp[cD];omega
 unfold bJ;simp[cD,he]
theorem S6(h0:0≤h)(n:Int)(s:ByteArray):fh h (sC n s)=0:=by
 unfold fh sC;rw[acq];simp[bQ];omega
theorem Q0(j:Int):cL (om j)=0:=by
 unfold om;split
 ·exact tq (l:=[105,100]) w7 w7 w7
 split
 ·exact tq (l:=[110]) w7 w7 w7
 split
 ·exact tq (l:=[115]) w7 w7 w7
 exact tq (l:=[98]) w7 w7 w7
theorem S8(h0:0≤h)(n:Int):fh h (wP n)=0:=by
 unfold fh wP;rw[QZ,Pz,Q0];simp[bQ];omega
theorem Q1{k:Int}(h1:3≤k)(h2:k≤11)(E:bQ k≤h):fh h (rf k)=0:=by
 unfold fh rf;simp only[QZ,Pz,aem];rw[if_neg w4,if_neg bq,if_neg bq,if_neg w4,if_neg w4]
theorem PA(h0:0≤h)(k n:Int)(s:ByteArray):runs h (mF k n s)=some (h+1):=by
 unfold mF;split
 ·rw[runs,if_pos (S8 h0 n),runs];rfl
 rw[runs,if_pos (S6 h0 n s),runs];rfl
theorem Q2:∀(r:Nat) (t:Tw) (h:Int),0≤h→runs h (iB r t)=some (h+1)
 | 0,.mk k n s ts,h,h0=>PA h0 k n s
 | r+1,.mk k n s ts,h,h0=>by
  have E:∀(i:Nat) (h:Int),0≤h→runs h (gJ r ts n s i)=some (h+1):=fun i h h0=>by
   unfold gJ;split
   ·exact Q2 r _ h h0
   exact PA h0 _ _ _
  have hk:=jD k (by decide:(1:Int)≤11);rw[wm];split
  ·rw[runs,if_pos (S6 h0 n s),runs];rfl
  split
  ·rw[runs,if_pos (S8 h0 n),runs];rfl
  split
  ·rename_i h3;rw[yE,E 0 h h0,Option.bind_some,runs,if_pos (Q1 w4 w4 (by unfold bQ;rw[if_neg w4,if_pos h3];omega)),runs];unfold rf bQ;rw[if_neg (by simp only[];omega),if_pos h3];simp
  rename_i h3;rw[yE,yE,E 0 h h0,Option.bind_some,E 1 (h+1) w4,Option.bind_some,runs,if_pos (Q1 w4 w4 (by unfold bQ;rw[if_neg w4,if_neg h3];omega)),runs];unfold rf bQ;rw[if_neg (by simp only[];omega),if_neg h3];congr 1;omega
theorem PB(t:Tw):1≤(iB 3 t).length∧(iB 3 t).length≤15:=by
 have:=JG 3 t;omega
theorem PC(t:Tw):iR (iB 3 t)=0:=by
 unfold iR;rw[if_neg (by have:=PB t;omega)];have:=OY [] (Q2 3 t 0 (Int.le_refl _));rw[append_nil] at this;rw[this];rfl
theorem acr(t:Tw):∀o∈iB 3 t,o.nm.size≤2:=by
 have hn:∀j:Int,(om j).size≤2:=fun j=>by
  unfold om;split
  ·decide
  split
  ·decide
  split<;>decide
 have E:∀k n s,∀o∈mF k n s,o.nm.size≤2:=fun k n s o ho=>by
  unfold mF at ho;split at ho<;>(simp only[mem_singleton] at ho;subst ho)
  ·exact hn _
  exact Nat.zero_le _
 have key:∀(r:Nat) (t:Tw),∀o∈iB r t,o.nm.size≤2:=by
  intro r;induction r with
  | zero=>intro t;obtain⟨k,n,s,ts⟩:=t;exact E k n s
  | succ r ih =>
   intro t o ho;obtain⟨k,n,s,ts⟩:=t;have I:∀i:Nat,∀o∈gJ r ts n s i,o.nm.size≤2:=fun i o ho=>by
    unfold gJ at ho;split at ho
    ·exact ih _ o ho
    exact E _ _ _ o ho
   have hb:∀k,(rf k).nm.size≤2:=fun k=>Nat.zero_le _;rw[wm] at ho;split at ho
   ·simp only[mem_singleton] at ho;subst ho;exact Nat.zero_le _
   split at ho
   ·simp only[mem_singleton] at ho;subst ho;exact hn _
   split at ho
   ·rcases mem_append.1 ho with ho|ho
    ·exact I 0 o ho
    simp only[mem_singleton] at ho;subst ho;exact hb _
   rcases mem_append.1 ho with ho|ho
   ·rcases mem_append.1 ho with ho|ho
    ·exact I 0 o ho
    exact I 1 o ho
   simp only[mem_singleton] at ho;subst ho;exact hb _
 exact key 3 t
theorem acs{l:List aX}(h:∀o∈l,o.nm.size≤2):∀o∈l,o.nm.size≤maxLen:=fun o ho=>Nat.le_trans (h o ho) w7
theorem Q3{H:Type}{enc:TypeId×Value→H}{w:World}{base:Nat}{sp:Nat→Bool}{held:Bool}:∀n,mo n enc Tryz.prog w base sp held 62 Tw.cs Tw.Ok:=by
 intro n;induction n using Nat.strongRecOn with
 | _ n ih =>
  intro cs x h;obtain⟨⟨k,m,s,ts⟩,h1,h2,h3,h4,h5⟩:=ZH (fuel:=n) (n0:=1) (n1:=1) (n2:=1) (n3:=1) underlying62 aA rfl rfl rfl rfl aA aA aA aA
   (fun q _=>(tY underlying3).at q) (fun q _=>(tY underlying3).at q) (fun q _=>(Pj underlying9).at q) (fun q hq=>Pp (sz:=4) underlying60 aA w7 (fun z hz=>ih z w4) Tw.Fy) cs x h
  refine⟨.mk k m s ts,?_,h2,h3,h4,h5.2,Tw.SY h5.1⟩;unfold Tw.cs;rw[Tw.Ki];exact h1

end Go.Proofs.YtdgichenhdikgaaGreatDoor.Nm
namespace Go.Proofs.YtdgichenhdikgaaGreatDoor.Ex
open List
open Go.Proofs.Tryz
open Go.RowKit V Pk Vl Go.Proofs.YtdgichenhdikgaaGreatDoor.Nm Pc
variable {α:Type} {l:List aX} {i:Nat} {h:Int}
theorem wD(p:α→Bool)(ls:List α):-1≤dR p ls∧dR p ls<ls.length:=by
 unfold dR;cases h:ls.findIdx? p with
 | none=>simp;omega
 | some i=>have:=(findIdx?_eq_some_iff_findIdx_eq.1 h).1;simp;omega
def bD(l:List cG)(nm:ByteArray):Int:=dR (fun c=>c.n.toList==nm.toList) l
def rU(a b:Int):Bool:=a==b||a==0
def okF(k a b:Int):Bool :=
 if k=3∨k=4 then rU a 1&&rU b 1 else if k=5 then rU a 1 else if k=6∨k=7 then rU a b||b==0 else if k=8∨k=9∨k=10 then rU a 2&&rU b 2 else true
def xp(k:Int):Int:=if k=8∨k=9∨k=10 then 2 else 1
def u4(l:List cG)(nm:ByteArray):Int×Int:=if bD l nm<0 then (0,8) else ((l.getD (bD l nm).toNat ⟨⟨#[]⟩,0⟩).k,0)
def jg(l:List cG)(o:aX)(a b:Int):Int×Int :=
 if o.k=1 then (o.v.k,0) else if o.k=2 then u4 l o.nm else if okF o.k a b=true then (xp o.k,0) else (0,4)
def fj(z:α)(k:Int)(st:List α):α:=if 0<bQ k then st.getD (st.length-(bQ k).toNat) z else z
def eY(z:α)(k:Int)(st:List α):α:=if 1<bQ k then st.getD (st.length-(bQ k).toNat+1) z else z
def jH{α:Type}(z:α)(f:aX→α→α→α × Int):List aX→List α→α × Int
 | [],st=>(st.getD 0 z,0)
 | o::r,st =>
  if (f o (fj z o.k st) (eY z o.k st)).2≠0 then (z,(f o (fj z o.k st) (eY z o.k st)).2)
  else jH z f r (st.take (st.length-(bQ o.k).toNat)++[(f o (fj z o.k st) (eY z o.k st)).1])
theorem RZ{z:α}{f:aX→α→α→α × Int}{st:List α}(hi:i<l.length)(h:(f l[i] (fj z l[i].k st) (eY z l[i].k st)).2≠0) :
  jH z f (l.drop i) st=(z,(f l[i] (fj z l[i].k st) (eY z l[i].k st)).2):=by rw[drop_eq_getElem_cons hi,jH,if_pos h]
theorem RV{z:α}{f:aX→α→α→α × Int}{st:List α}(hi:i<l.length)(h:(f l[i] (fj z l[i].k st) (eY z l[i].k st)).2=0) :
  jH z f (l.drop i) st=jH z f (l.drop (i+1)) (st.take (st.length-(bQ l[i].k).toNat)++[(f l[i] (fj z l[i].k st) (eY z l[i].k st)).1]):=by
 rw[drop_eq_getElem_cons hi,jH,if_neg (by rw[h];simp)]
theorem Q4{z:α}{f:aX→α→α→α × Int}{st:List α}(hi:¬i<l.length):jH z f (l.drop i) st=(st.getD 0 z,0):=by
 rw[drop_of_length_le w4];rfl
theorem PF(hi:i<l.length)(h0:fK h (l.drop i)=0):fh h l[i]=0∧fK (h+(1-bQ l[i].k)) (l.drop (i+1))=0:=by
 rw[drop_eq_getElem_cons hi,fK] at h0;by_cases he:fh h l[i]=0
 ·rw[if_pos he] at h0;exact⟨he,h0⟩
 rw[if_neg he] at h0;exact absurd h0 he
theorem Q5(hi:¬i<l.length)(h0:fK h (l.drop i)=0):h=1:=by
 rw[drop_of_length_le w4,fK] at h0;split at h0
 ·assumption
 cases h0
theorem wz{o:aX}(he:fh h o=0):bQ o.k≤h∧(1≤o.k∧o.k≤11)∧iS o.v=0∧(o.k=2→cL o.nm=0):=by
 unfold fh at he;split at he
 ·cases he
 split at he
 ·rename_i h2;exact absurd he h2
 split at he
 ·cases he
 split at he
 ·rename_i h4;exact absurd he h4.2
 split at he
 ·cases he
 rename_i q1 q2 I E O;refine⟨by omega,by omega,by simpa using q2,fun hk=>?_⟩;by_cases hn:cL o.nm=0
 ·exact hn
 exact absurd ⟨hk,hn⟩ E
def ud(l:List cG)(ops:List aX):Int×Int:=jH 0 (jg l) ops []
def ey(l:List cG)(ops:List aX):Int×Int:=if fI l≠0 then (0,fI l) else if iR ops≠0 then (0,iR ops) else ud l ops
def pV(r:Int×Int):D:=.dJ [ae r.1,ae r.2]
def cI(n:Int):List D:=[ae n]
theorem eo(n:Int):(cI n).length=1:=rfl
theorem nG(n:Int):(cI n).all V.one=true:=rfl
theorem wE{ops:List aX}(h:iR ops=0):ops.length≤40∧fK 0 ops=0:=by
 unfold iR at h;split at h
 ·cases h
 exact⟨by omega,h⟩
variable {G:List (Nat×List Value)}
theorem EQ(k:Int):VP Tryz.prog G 60 [ae k] (ae (bQ k)):=by
 refine VC.body func60 rfl ntmps60 aQ fun X0 w0 bg=>?_;exact WN
theorem aaK(c:cG)(nm:ByteArray)(b:Nat):VC Tryz.prog G 107 [.agg (cC c),dM b] [⟨b,9,1,[bn nm]⟩] (fun r S=>r=bS (c.n.toList==nm.toList)∧S=[⟨b,9,1,[bn nm]⟩]):=by
 refine VC.body func107 rfl ntmps107 aQ fun X0 w0 bg=>?_;exact Xc
theorem qt(l:List cG)(hl:l.length≤6)(nm:ByteArray):VP Tryz.prog G 63 [av 2 cC l,bn nm] (ae (bD l nm)):=by
 refine VC.body func63 rfl ntmps63 aQ fun X0 w0 bg=>?_;refine bY ?_;refine OD.box (ds:=[_]) ap rfl rfl ot rfl rfl (fun b3=>?_);refine an 8 [0,3] ?_;refine aD 1 ?_;refine bN (pG (ds:=[_]) rfl ⟨ot,trivial⟩) ?_;refine OD.call ap rfl rfl rfl call106 (I0 l 107 [dM b3] _ (fun c=>c.n.toList==nm.toList) call107 (fun h _=>aaK h nm b3) w4) ⟨ot,ot,trivial⟩ (kr (k:=0) rfl) ?_;rintro _ S2 ⟨rfl,iF⟩;rw[iF];clear iF;refine an 8 [4] ?_;exact nw
theorem zk(a b:Int):VP Tryz.prog G 134 [ae a,ae b] (bS (rU a b)):=by
 refine VC.body func134 rfl ntmps134 aQ fun X0 w0 bg=>?_;refine af [0,1] ?_;refine aD 4 ?_;refine bW 8 (fun I E=>?_) (fun I E=>?_)
 ·refine bf [4] ?_;refine eO ?_;refine⟨vb ?_,rfl⟩;unfold rU;simp_all
 refine bf [4] ?_;refine eO ?_;refine⟨vb ?_,rfl⟩;unfold rU;simp_all
theorem aen(l:List cG)(hl:l.length≤6)(o:aX)(a b:Int):VP Tryz.prog G 99 [.agg (cO o),av 2 cC l,ae a,ae b] (pV (jg l o a b)):=by
 refine VC.body func99 rfl ntmps99 aQ fun X0 w0 bg=>?_;unfold cO pV;have I:=wD (fun c:cG=>c.n.toList==o.nm.toList) l;have E:bD l o.nm=dR (fun c:cG=>c.n.toList==o.nm.toList) l:=rfl;rw[←E] at I;clear E;refine bY ?_;refine OD.box (ds:=[_,_,_,_,_]) ap rfl rfl ot rfl rfl (fun b4=>?_);refine an 76 [1,2,3,4] ?_;refine af [1,2,3,4,10] ?_;refine af [1,2,3,4,10,11,12] ?_;refine af [1,2,3,4,10,11,12,15] ?_;refine af [1,2,3,4,10,11,12,15,16] ?_;refine au ?_ ?_<;>intro aO bE
 ·exact z22
 refine af [1,2,3,4,10,11,12,15,21] ?_;refine au ?_ ?_<;>intro aY cJ
 ·refine cX [1,13] (qt l hl o.nm) ?_;refine af [1,13,28] ?_;refine au ?_ ?_<;>intro cm cW
  ·have dG:u4 l o.nm=(0,8):=(by unfold u4;rw[if_pos w4])
   exact z22
  have O:(bD l o.nm).toNat<l.length:=(by omega)
  have dG:u4 l o.nm=(l[(bD l o.nm).toNat].k,0):=(by unfold u4;rw[if_neg w4,getD_eq_getElem?_getD,getElem?_eq_getElem O];rfl)
  exact z22
 refine af [2,3,10,11,12,15,34] ?_;refine au ?_ ?_<;>intro da ek
 ·refine eI ?_;exact z117
 refine cl [2,3,10,11,12,15,34] ?_;refine au ?_ ?_<;>intro ez fw
 ·exact z117
 refine af [2,3,10,11,12,15,45] ?_;refine au ?_ ?_<;>intro fg gB
 ·refine dO 2 ?_;refine OD.kz (f:=134) (args:=[_,_]) (all:=[_,_]) (Sf:=[]) ap rfl rfl ot call134 (zk a 1) rfl ⟨ot,bP,trivial⟩ (eR _) ?_;rintro _ _ ⟨rfl,rfl⟩;exact z21
 refine af [2,3,10,11,12,15,50] ?_;refine au ?_ ?_<;>intro gY kS
 ·refine eI ?_;exact Vx
 refine cl [2,3,10,11,12,15,50] ?_;refine au ?_ ?_<;>intro gq lB
 ·exact Vx
 refine af [2,3,10,11,12,15,61] ?_;refine au ?_ ?_<;>intro p9 U
 ·refine eI ?_;exact Lb
 refine af [2,3,10,11,12,15,61] ?_;refine au ?_ ?_<;>intro Dj Z
 ·refine eI ?_;exact Lb
 refine cl [2,3,10,11,12,61] ?_;refine au ?_ ?_<;>intro Gb BI
 ·exact Lb
 refine af [12,74] ?_;refine fN ?_;refine af [8,9] ?_;refine aJ [] ?_;refine⟨?_,rfl⟩;unfold jg okF xp;simp_all
theorem Pb(l:List cG)(hl:l.length≤6)(o:aX)(a b a' I:Int)(ha:a=a')(hb:b=I)(b2:Nat):VC Tryz.prog G 98 [.agg (cO o),ae a',ae I,dM b2] [⟨b2,27,1,[av 2 cC l]⟩] (fun r S=>r=pV (jg l o a b)∧S=[⟨b2,27,1,[av 2 cC l]⟩]):=by
 refine VC.body func98 rfl ntmps98 aQ fun X0 w0 bg=>?_;subst ha hb;have E:=aen (G:=G) l hl o a b;unfold cO at E ⊢;unfold pV at E ⊢;refine bY ?_;refine OD.box (ds:=[_,_,_,_,_]) ap rfl rfl ot rfl rfl (fun b4=>?_);refine an 16 [1,2,3,4] ?_;refine cX [7,8] (E) ?_;refine aJ [⟨b2,27,1,[av 2 cC l]⟩] ?_;exact⟨rfl,rfl⟩
theorem aao:(Tryz.prog.info? 3).map (fun i=>(i.zero,i.size,i.bytes))=some (some (.int .i64 0),1,8):=by kernel_rfl
theorem acu(l:List cG)(hl:l.length≤6)(ops:List aX)(qf:ops.length≤40)(hx:fK 0 ops=0)(b2:Nat):VC Tryz.prog G 97 [av 5 cO ops,.eC (.func 98) [dM b2]] [⟨b2,27,1,[av 2 cC l]⟩] (fun r S=>r=pV (ud l ops)∧S=[⟨b2,27,1,[av 2 cC l]⟩]):=by
 refine VC.body func97 rfl ntmps97 aQ fun X0 w0 bg=>?_;unfold pV;refine af [0,1] ?_;refine af [0,1,6] ?_;refine bY ?_;refine bf [0,1,6,7] ?_;refine af [1,6,7,16,17,18] ?_;refine CD.block ?_;refine mV (fun (E:Nat×List Int×Option Addr×Nat×List ah) aH=>match E with|(i,st,I,kf,Z)=>(i≤ops.length)∧(st.length≤i)∧(fK ((st.length:Nat):Int) (ops.drop i)=0)∧(ud l ops=jH 0 (jg l) (ops.drop i) st)∧(bp 3 1 ((st).flatMap cI) (st).length I kf Z)∧aH=(⟨64,[(1,.eC (.func 98) [dM b2]),(6,ae 0),(7,aP I (st).length kf),(16,av 5 cO ops),(17,ae (ops.length:Nat)),(18,ae (i:Nat))],(⟨b2,27,1,[av 2 cC l]⟩::Z)⟩:St)) (fun (E:Nat×List Int×Option Addr×Nat×List ah)=>match E with|(i,st,I,kf,Z)=>ops.length-i) (0,[],none,0,[]) ⟨(Nat.zero_le _),(Nat.zero_le _),hx,rfl,(bp.cast ik jN),rfl⟩ (aK (h:=by repeat (first|exact trivial|refine⟨GN,?_⟩))) ?_;rintro⟨i,st,I,kf,Z⟩ _ ⟨hi,fG,hex,hinv,nS,rfl⟩;refine af [1,6,7,16,17,18,19] ?_;refine au ?_ ?_<;>intro aO bE
 ·have aa:i<ops.length:=(by omega)
  obtain⟨he,ym⟩:=PF aa hex;obtain⟨rN,VS,yn,qL⟩:=wz he;have uI:=tI ops[i].k;have rK:(st.take (st.length-(bQ ops[i].k).toNat)++[(jg l ops[i] (fj 0 ops[i].k st) (eY 0 ops[i].k st)).1]).length=st.length+1-(bQ ops[i].k).toNat:=(by rw[length_append,length_take,length_singleton];omega)
  have nT:fK (((st.take (st.length-(bQ ops[i].k).toNat)++[(jg l ops[i] (fj 0 ops[i].k st) (eY 0 ops[i].k st)).1]).length:Nat):Int) (ops.drop (i+1))=0:=(by rw[rK,show(((st.length+1-(bQ ops[i].k).toNat:Nat)):Int)=(st.length:Int)+(1-bQ ops[i].k) by omega];exact ym)
  refine aD 2 ?_;refine OD.alloc (ds:=[_,_,_,_,_]) ap rfl rfl zeroValue43 rfl (fun b9=>?_);refine aN 0 [_,_,_,_,_] sizeOf43 ?_;refine an 64 [1,6,7,9,16,17,18] ?_;refine af [1,6,7,9,10,11,16,17,18] ?_;refine cX [1,6,7,9,10,11,12,16,17,18] (EQ ops[i].k) ?_;refine af [1,6,7,9,10,11,12,13,16,17,18] ?_;refine af [1,6,7,9,10,11,12,13,16,17,18,30] ?_;refine au ?_ ?_<;>intro aY cJ
  ·obtain⟨bh,rfl,xm,wN,rfl⟩:=nS.pos w4;have uK:(st.length-(bQ ops[i].k).toNat)<st.length:=(by omega)
   have ha:fj 0 ops[i].k st=st[(st.length-(bQ ops[i].k).toNat)]:=(by unfold fj;rw[if_pos w4,getD_eq_getElem?_getD,getElem?_eq_getElem uK];rfl)
   refine iv [1,6,7,9,10,11,12,13,16,17,18] ?_;refine aS 2 ?_ (h:=by exact(dc 1 (h:=by first|exact .l (j:=(st.length-(bQ ops[i].k).toNat)) w4 w4|exact .r (j:=(st.length-(bQ ops[i].k).toNat)) w4 w4)));refine aS 0 ?_ (h:=by exact(cU (mk:=Op.load 3) rfl ot (jb (k:=2) eo rfl rfl rfl isAgg3 uK rfl)));refine bK ?_;refine af [1,6,7,9,10,11,13,16,17,18,36] ?_;refine au ?_ ?_<;>intro cm cW
   ·have O:(st.length-(bQ ops[i].k).toNat)+1<st.length:=(by omega)
    have hb:eY 0 ops[i].k st=st[(st.length-(bQ ops[i].k).toNat)+1]:=(by unfold eY;rw[if_pos w4,getD_eq_getElem?_getD,getElem?_eq_getElem O];rfl)
    refine iv [1,6,7,9,10,11,13,16,17,18] ?_;refine aS 3 ?_ (h:=by exact(dc 1 (h:=by first|exact .l (j:=(st.length-(bQ ops[i].k).toNat)+1) w4 w4|exact .r (j:=(st.length-(bQ ops[i].k).toNat)+1) w4 w4)));refine aS 0 ?_ (h:=by exact(cU (mk:=Op.load 3) rfl ot (jb (k:=2) eo rfl rfl rfl isAgg3 O rfl)));refine bK ?_;exact Vt
   have hb:eY 0 ops[i].k st=0:=(by unfold eY;rw[if_neg w4])
   exact Vt
  have ha:fj 0 ops[i].k st=0:=(by unfold fj;rw[if_neg w4])
  refine af [1,6,7,9,10,11,13,16,17,18,36] ?_;refine au ?_ ?_<;>intro cm cW
  ·exact absurd cm (by simp at *;omega)
  have hb:eY 0 ops[i].k st=0:=(by unfold eY;rw[if_neg w4])
  refine aD 4 ?_;refine OD.kz (f:=98) (args:=[_,_,_]) (all:=[_,_,_,_]) (Sf:=[⟨b2,27,1,[av 2 cC l]⟩]) ap rfl rfl ot call98 (Pb l hl ops[i] _ _ _ _ ha hb b2) rfl ⟨ot,ot,ot,trivial⟩ (kr (k:=1) rfl) ?_;rintro _ _ ⟨rfl,rfl⟩;refine an 64 [1,6,7,13,14,15,16,17,18] ?_;refine af [1,6,7,13,14,15,16,17,18,51] ?_;refine au ?_ ?_<;>intro da ek
  ·exact WY
  have hz:(jg l ops[i] (fj 0 ops[i].k st) (eY 0 ops[i].k st)).2=0:=(by simpa using da)
  refine CD.skip ?_;refine CD.sI (k:=(st.length-(bQ ops[i].k).toNat)) (ls:=(st)) (Sq:=Z) eo w4 nS (dg (A:=[_,_])) (fun B6 BH=>?_);exact z12
 have h1:=Q5 w4 hex;have U:0<st.length:=(by omega)
 obtain⟨bh,rfl,xm,wN,rfl⟩:=nS.pos w4;have aV:=hinv.trans (Q4 w4);have ke:st.getD 0 0=st[0]:=(by rw[getD_eq_getElem?_getD,getElem?_eq_getElem U];rfl)
 rw[ke] at aV;refine cZ [4,5] ?_;refine aS 1 ?_ (h:=by exact(so (mk:=Op.indexAddr 67) rfl ot bP (by first|exact tO (j:=0) runUnderlying67 sizeOf3 rfl Aj|exact tX (j:=0) runUnderlying67 sizeOf3 rfl Aj)));refine aS 0 ?_ (h:=by exact(cU (mk:=Op.load 3) rfl ot (jb (k:=1) eo rfl rfl rfl isAgg3 U rfl)));refine bK ?_;refine aJ [⟨b2,27,1,[av 2 cC l]⟩] ?_;rw[aV];exact⟨rfl,rfl⟩
theorem aaL(l:List cG)(hl:l.length≤6)(ops:List aX)(hx:iR ops=0):VP Tryz.prog G 57 [av 2 cC l,av 5 cO ops] (pV (ud l ops)):=by
 refine VC.body func57 rfl ntmps57 aQ fun X0 w0 bg=>?_;obtain⟨E,gF⟩:=wE hx;have fP:=fun b2=>acu (G:=G) l hl ops E gF b2;unfold pV at fP ⊢;refine bY ?_;refine OD.box (ds:=[_]) ap rfl rfl ot rfl rfl (fun b2=>?_);refine an 11 [1,2] ?_;refine aD 1 ?_;refine bN (pG (ds:=[_]) rfl ⟨ot,trivial⟩) ?_;refine OD.call ap rfl rfl rfl call97 (fP b2) ⟨ot,ot,trivial⟩ (kr (k:=0) rfl) ?_;rintro _ _ ⟨rfl,rfl⟩;refine an 11 [4,5] ?_;exact nw
theorem afX(hm:(3,marksC)∈G)(hw:(1,wordsC)∈G)(ht:(0,typesC)∈G)(l:List cG)(hl:l.length≤6)(aR:∀c∈l,c.n.size≤maxLen)(ops:List aX)(ho:∀o∈ops,o.nm.size≤maxLen):VP Tryz.prog G 56 [av 2 cC l,av 5 cO ops] (ae (if fI l≠0 then fI l else iR ops)):=by
 refine VC.body func56 rfl ntmps56 aQ fun X0 w0 bg=>?_;have dz:=ei;refine af [0,1] ?_;refine cX [1,5] (Ff hm hw ht l w4 aR) ?_;refine af [1,5,9] ?_;refine au ?_ ?_<;>intro aO bE
 ·refine af [4] ?_;refine aJ [] ?_;refine⟨vi ?_,rfl⟩;simp_all
 refine cX [4] (JA hm hw ops ho) ?_;refine aJ [] ?_;refine⟨vi ?_,rfl⟩;simp_all
theorem JH(hm:(3,marksC)∈G)(hw:(1,wordsC)∈G)(ht:(0,typesC)∈G)(l:List cG)(hl:l.length≤6)(aR:∀c∈l,c.n.size≤maxLen)(ops:List aX)(ho:∀o∈ops,o.nm.size≤maxLen):VP Tryz.prog G 34 [av 2 cC l,av 5 cO ops] (pV (ey l ops)):=by
 refine VC.body func34 rfl ntmps34 aQ fun X0 w0 bg=>?_;have e9:=afX hm hw ht l hl aR ops ho;have E:=fun hx=>aaL (G:=G) l hl ops hx;unfold pV at E ⊢;refine af [0,1] ?_;refine cX [0,1,6] (e9) ?_;refine af [0,1,6,11] ?_;refine au ?_ ?_<;>intro aO bE
 ·have aV:ey l ops=(0,if fI l≠0 then fI l else iR ops):=(by unfold ey;split<;>simp_all)
  refine af [4,5] ?_;exact oE
 have h0:fI l=0∧iR ops=0:=(by split at aO<;>simp_all)
 have aV:ey l ops=ud l ops:=(by unfold ey;simp[h0])
 refine cX [4,5] (E h0.2) ?_;exact uz

end Go.Proofs.YtdgichenhdikgaaGreatDoor.Ex
namespace Go.Proofs.YtdgichenhdikgaaGreatDoor.Ex
open List
open Go.Proofs.Tryz
open Go.RowKit V Pk Vl Cd
variable {i:Nat} {a b:Vl} {p:Vl→Prop}
def wr(n:Int):Int:=IntKind.i64.wrap n
theorem ahn(n:Int):-9223372036854775808≤wr n∧wr n≤9223372036854775807:=by unfold wr;rw[IntKind.wrap_i64];omega
def qv(b:Bool):Vl:=if b=true then ⟨1,1,⟨#[]⟩⟩ else ⟨1,0,⟨#[]⟩⟩
def iN(a b:Vl)(i:Nat):Vl:=if i=0 then a else b
theorem Ig(a b:Vl)(h:i<2):(([ae a.k,ae a.n,bn a.s,ae b.k,ae b.n,bn b.s]:List D).drop (i*3)).take 3=[ae (iN a b i).k,ae (iN a b i).n,bn (iN a b i).s]:=by
 match i,h with
 | 0,_|1,_=>rfl
def lA(a b:Vl)(d:Int):Vl×Int :=
 if (a.k≠1∧a.k≠0)∨(b.k≠1∧b.k≠0) then (bJ,4) else if a.k=1∧a.n=d then (a,0) else if b.k=1∧b.n=d then (b,0) else if a.k=0∨b.k=0 then (bJ,0) else (a,0)
theorem Jo(h:∀j,j<i→p (iN a b j))(hi:2≤i):p a∧p b:=⟨h 0 w4,h 1 w4⟩
theorem EE(h:∀j,j<i→p (iN a b j))(h1:p (iN a b i)):∀j,j<i+1→p (iN a b j):=fun j hj=>by
 by_cases e:j=i
 ·subst e;exact h1
 exact h j w4
theorem aaM{d:Int}(hi:i<2)(h1:(iN a b i).k≠1)(h2:(iN a b i).k≠0):lA a b d=(bJ,4):=by
 unfold lA;match i,hi with
 | 0,_=>rw[if_pos (.inl ⟨h1,h2⟩)]
 | 1,_=>rw[if_pos (.inr ⟨h1,h2⟩)]
theorem aaN{d:Int}(hi:i<2)(hg:¬((a.k≠1∧a.k≠0)∨(b.k≠1∧b.k≠0)))(h0:∀j,j<i→¬((iN a b j).k=1∧(iN a b j).n=d))(h1:(iN a b i).k=1)(h2:(iN a b i).n=d):lA a b d=(iN a b i,0):=by
 unfold lA;rw[if_neg hg];match i,hi with
 | 0,_=>rw[if_pos ⟨h1,h2⟩];rfl
 | 1,_=>rw[if_neg (show ¬(a.k=1∧a.n=d) from h0 0 w4),if_pos (show b.k=1∧b.n=d from⟨h1,h2⟩)];rfl
def pJ(k a b:Int):Int×Bool :=
 if k=8 then (wr (a+b),decide (wr (a+b)<a)==decide (b<0)) else if k=9 then (wr (a-b),decide (wr (a-b)>a)==decide (b<0))
 else (wr (a*b),a==0||(wr ((wr (a*b)).tdiv a)==b && !(a == -1&&b == -9223372036854775808)))
def rm(a b:Vl):Bool:=a.k==0||b.k==0
def iC(k:Int)(a b:Vl):Vl×Int :=
 if mK a b≠0 then (bJ,mK a b) else if k=3 then lA a b 0 else if k=4 then lA a b 1
 else if k=6∨k=7 then (if rm a b=true then (bJ,0) else if a.k≠b.k then (bJ,4) else (qv ((fk a b==0&&k==6)||(decide (fk a b<0)&&k==7)),0))
 else if k=8∨k=9∨k=10 then (if (a.k≠2∧a.k≠0)∨(b.k≠2∧b.k≠0) then (bJ,4) else if rm a b=true then (bJ,0) else if (pJ k a.n b.n).2=true then (⟨2,(pJ k a.n b.n).1,⟨#[]⟩⟩,0) else (bJ,5))
 else (bJ,2)
def uj(k:Int)(a:Vl):Vl×Int :=
 if cD a≠0 then (bJ,cD a) else if k=11 then (qv (a.k==0),0)
 else if k=5 then (if a.k=0 then (a,0) else if a.k=1 then (qv (a.n==0),0) else (bJ,4)) else (bJ,2)
def mX(r:Vl×Int):D:=.dJ [.agg (cV r.1),ae r.2]
variable {G:List (Nat×List Value)}
theorem tu(b:Bool):VP Tryz.prog G 100 [bS b] (.agg (cV (qv b))):=by
 refine VC.body func100 rfl ntmps100 aQ fun X0 w0 bg=>?_;refine bY ?_;refine OD.alloc (ds:=[_,_,_]) ap rfl rfl zeroValue41 rfl (fun b2=>?_);refine an 6 [0,2] ?_;refine af [2,3] ?_;refine au ?_ ?_<;>intro aO bE
 ·refine aD 1 ?_;refine aN 0 [_,_,_] sizeOf41 ?_;refine an 6 [2] ?_;refine aJ [] ?_;refine⟨?_,rfl⟩;unfold qv;simp_all[cV]
 refine aD 1 ?_;refine aN 0 [_,_,_] sizeOf41 ?_;refine an 6 [2] ?_;refine aJ [] ?_;refine⟨?_,rfl⟩;unfold qv;simp_all[cV]
theorem Ta(a b:Vl):VP Tryz.prog G 103 [.agg (cV a),.agg (cV b)] (bS (rm a b)):=by
 refine VC.body func103 rfl ntmps103 aQ fun X0 w0 bg=>?_;unfold cV;refine bY ?_;refine OD.box (ds:=[_,_,_]) ap rfl rfl ot rfl rfl (fun b2=>?_);refine OD.box (ds:=[_,_,_]) ap rfl rfl ot rfl rfl (fun b3=>?_);refine an 13 [2,3] ?_;refine aD 4 ?_;refine bW 8 (fun I E=>?_) (fun I E=>?_)
 ·refine bf [4] ?_;refine eO ?_;refine⟨vb ?_,rfl⟩;unfold rm;simp_all
 refine bf [4] ?_;refine eO ?_;refine⟨vb ?_,rfl⟩;unfold rm;simp_all
theorem Q6(a b:Vl)(d:Int):VP Tryz.prog G 102 [.agg (cV a),.agg (cV b),ae d] (mX (lA a b d)):=by
 refine VC.body func102 rfl ntmps102 aQ fun X0 w0 bg=>?_;unfold mX cV;have nv:=Ta (G:=G) a b;unfold cV at nv;refine bY ?_;refine OD.box (ds:=[_,_,_]) ap rfl rfl ot rfl rfl (fun b3=>?_);refine OD.box (ds:=[_,_,_]) ap rfl rfl ot rfl rfl (fun b4=>?_);refine OD.alloc (ds:=[_,_,_]) ap rfl rfl zeroValue41 rfl (fun b6=>?_);refine an 50 [2,3,4,6] ?_;refine cZ [2,3,4,6,14,15] ?_;refine aS 2 ?_ (h:=by exact(Ec (pl:=[(0,_),(1,_)]) (ds:=[_,_,_,_,_,_]) rfl zeroValue173 runUnderlying173 sizeOf41 ⟨rfl,ot,rfl,ot,trivial⟩ rfl rfl));refine bK ?_;refine eD [2,3,4,6,14] (fun aW _ (i:Nat) aH=>(i≤2)∧(∀j,j<i→¬((iN a b j).k≠1∧(iN a b j).k≠0))∧aH=(⟨50,(15,ae (i:Nat))::aW,[⟨b6,41,3,[ae 0,ae 0,eT]⟩,⟨b4,41,3,[ae b.k,ae b.n,bn b.s]⟩,⟨b3,41,3,[ae a.k,ae a.n,bn a.s]⟩]⟩:St)) (fun (i:Nat)=>2-i) 0 ⟨(Nat.zero_le _),(fun j hj=>absurd hj (Nat.not_lt_zero _)),rfl⟩ ?_;rintro i _ ⟨hi,fi,rfl⟩;refine af [2,3,4,6,14,15,16] ?_;refine au ?_ ?_<;>intro aO bE
 ·have aa:i<2:=(by omega)
  refine bY ?_;refine bN (HQ (j:=i) rfl ot ot runUnderlying173 sizeOf41 isAgg41 rfl aa (Ig a b aa)) ?_;refine OD.alloc (ds:=[_,_,_]) ap rfl rfl zeroValue41 rfl (fun b9=>?_);refine aN 0 [_,_,_] sizeOf41 ?_;refine an 50 [2,3,4,6,9,14,15] ?_;refine aD 4 ?_;refine bW 21 (fun qE I=>?_) (fun qE I=>?_)
  ·refine bf [2,3,4,6,14,15,25] ?_;refine au ?_ ?_<;>intro aY cJ
   ·have aV:lA a b d=(bJ,4):=aaM aa (by simp_all) (by simp_all);refine aD 1 ?_;refine aN 1 [_,_,_] sizeOf41 ?_;refine an 50 [6,7] ?_;exact oE
   exact Xe
  refine bf [2,3,4,6,14,15,25] ?_;refine fN ?_;exact Xe
 have CL:=Jo (p:=fun v=>¬(v.k≠1∧v.k≠0)) fi w4;have hg:¬((a.k≠1∧a.k≠0)∨(b.k≠1∧b.k≠0)):=fun h=>h.elim CL.1 CL.2;clear fi hi;refine cZ [2,3,4,6,30,31] ?_;refine aS 2 ?_ (h:=by exact(Ec (pl:=[(0,_),(1,_)]) (ds:=[_,_,_,_,_,_]) rfl zeroValue173 runUnderlying173 sizeOf41 ⟨rfl,ot,rfl,ot,trivial⟩ rfl rfl));refine bK ?_;refine eD [2,3,4,6,30] (fun aW _ (i:Nat) aH=>(i≤2)∧(∀j,j<i→¬((iN a b j).k=1∧(iN a b j).n=d))∧aH=(⟨50,(31,ae (i:Nat))::aW,[⟨b6,41,3,[ae 0,ae 0,eT]⟩,⟨b4,41,3,[ae b.k,ae b.n,bn b.s]⟩,⟨b3,41,3,[ae a.k,ae a.n,bn a.s]⟩]⟩:St)) (fun (i:Nat)=>2-i) 0 ⟨(Nat.zero_le _),(fun j hj=>absurd hj (Nat.not_lt_zero _)),rfl⟩ ?_;rintro i _ ⟨Z,KC,rfl⟩;refine af [2,3,4,6,30,31,32] ?_;refine au ?_ ?_<;>intro cm cW
 ·have aa:i<2:=(by omega)
  refine bY ?_;refine bN (HQ (j:=i) rfl ot ot runUnderlying173 sizeOf41 isAgg41 rfl aa (Ig a b aa)) ?_;refine OD.alloc (ds:=[_,_,_]) ap rfl rfl zeroValue41 rfl (fun k8=>?_);refine aN 0 [_,_,_] sizeOf41 ?_;refine an 50 [2,3,4,6,11,30,31] ?_;refine aD 4 ?_;refine bW 37 (fun U O=>?_) (fun U O=>?_)
  ·refine bf [2,3,4,6,11,30,31,42] ?_;refine au ?_ ?_<;>intro da ek
   ·have aV:lA a b d=(iN a b i,0):=aaN aa hg KC (by simp_all) (by simp_all);refine aD 1 ?_;refine aN 1 [_,_,_] sizeOf41 ?_;refine an 50 [6,7] ?_;exact oE
   exact Xg
  refine bf [2,3,4,6,11,30,31,42] ?_;refine fN ?_;exact Xg
 have E:=Jo (p:=fun v=>¬(v.k=1∧v.n=d)) KC w4;refine cX [3,6,47] (nv) ?_;refine au ?_ ?_<;>intro ez fw
 ·have aV:lA a b d=(bJ,0):=(by unfold lA;rw[if_neg hg,if_neg E.1,if_neg E.2,if_pos (by unfold rm at ez;simpa using ez)])
  refine aD 1 ?_;refine aN 0 [_,_,_] sizeOf41 ?_;refine an 50 [6,7] ?_;exact oE
 have aV:lA a b d=(a,0):=(by unfold lA;rw[if_neg hg,if_neg E.1,if_neg E.2,if_neg (by unfold rm at ez;simpa using ez)])
 refine aD 1 ?_;refine aN 0 [_,_,_] sizeOf41 ?_;refine an 50 [6,7] ?_;exact uz
theorem acv(k a b:Int):VP Tryz.prog G 105 [ae k,ae a,ae b] (.dJ [ae (pJ k a b).1,bS (pJ k a b).2]):=by
 refine VC.body func105 rfl ntmps105 aQ fun X0 w0 bg=>?_;refine af [0,1,2] ?_;refine af [1,2,11] ?_;refine af [1,2,11,12] ?_;refine au ?_ ?_<;>intro aO bE
 ·refine cZ [1,2,8] ?_;refine aS 2 ?_ (h:=by exact(dw (r:=.int .i64 (wr (a+b))) rfl ot ot (kx rfl)));exact z85
 refine af [1,2,24] ?_;refine au ?_ ?_<;>intro aY cJ
 ·refine cZ [1,2,9] ?_;refine aS 2 ?_ (h:=by exact(dw (r:=.int .i64 (wr (a-b))) rfl ot ot (gj rfl)));exact z85
 refine cZ [1,2,10] ?_;refine aS 2 ?_ (h:=by exact(dw (r:=.int .i64 (wr (a*b))) rfl ot ot (Jt rfl)));refine bK ?_;refine aD 4 ?_;refine bW 42 (fun ru E=>?_) (fun ru E=>?_)
 ·refine bf [6,7] ?_;refine MQ ?_;refine⟨?_,rfl⟩;unfold pJ;simp_all
 refine aE 2 ?_;refine OD.still iw rfl (dw (r:=.int .i64 (wr ((wr (a*b)).tdiv a))) rfl ot ot (adM (by simpa using ru) rfl)) ?_;refine aE 3 ?_;refine bW 48 (fun U I=>?_) (fun U I=>?_)
 ·refine aE 3 ?_;refine bW 51 (fun Z O=>?_) (fun Z O=>?_)
  ·refine an 58 [6,7] ?_;refine aJ [] ?_;refine⟨?_,rfl⟩;unfold pJ;simp_all
  refine an 58 [6,7] ?_;refine aJ [] ?_;refine⟨?_,rfl⟩;unfold pJ;simp_all
 refine an 58 [6,7] ?_;refine aJ [] ?_;refine⟨?_,rfl⟩;unfold pJ;simp_all
theorem afY(k:Int)(a:Vl):VP Tryz.prog G 61 [ae k,.agg (cV a)] (mX (uj k a)):=by
 refine VC.body func61 rfl ntmps61 aQ fun X0 w0 bg=>?_;unfold mX;have e9:=Vl.pH (G:=G) a;unfold cV at e9;unfold cV;refine bY ?_;refine OD.box (ds:=[_,_,_]) ap rfl rfl ot rfl rfl (fun b3=>?_);refine OD.alloc (ds:=[_,_,_]) ap rfl rfl zeroValue41 rfl (fun b4=>?_);refine an 35 [0,3,4] ?_;refine cX [0,3,4,6] (e9) ?_;refine af [0,3,4,6,10] ?_;refine au ?_ ?_<;>intro aO bE
 ·refine aD 2 ?_;exact CP
 refine af [3,4,13] ?_;refine af [3,4,13,14] ?_;refine au ?_ ?_<;>intro aY cJ
 ·refine aD 3 ?_;refine dV call100 (tu _) ?_;exact CP
 refine af [3,4,20] ?_;refine au ?_ ?_<;>intro cm cW
 ·refine af [3,4,23] ?_;refine af [3,4,23,24] ?_;refine au ?_ ?_<;>intro da ek
  ·refine aD 1 ?_;exact CP
  refine af [3,4,27] ?_;refine au ?_ ?_<;>intro ez fw
  ·refine aD 3 ?_;refine dV call100 (tu _) ?_;exact CP
  refine aD 1 ?_;exact CP
 refine aD 1 ?_;refine aN 0 [_,_,_] sizeOf41 ?_;refine an 35 [4,5] ?_;refine aJ [] ?_;refine⟨?_,rfl⟩;unfold uj;simp_all[bJ]
theorem adH{k:Int}(h0:mK a b=0)(hk:k=8∨k=9∨k=10)(hi:i<2)(h1:(iN a b i).k≠2)(h2:(iN a b i).k≠0):iC k a b=(bJ,4):=by
 unfold iC;rw[if_neg (by simp[h0]),if_neg w4,if_neg w4,if_neg w4,if_pos hk];match i,hi with
 | 0,_=>rw[if_pos (.inl ⟨h1,h2⟩)]
 | 1,_=>rw[if_pos (.inr ⟨h1,h2⟩)]
theorem O8{k:Int}(h0:mK a b=0)(hk:k=8∨k=9∨k=10)(hg:¬((a.k≠2∧a.k≠0)∨(b.k≠2∧b.k≠0))) :
  iC k a b=if rm a b=true then (bJ,0) else if (pJ k a.n b.n).2=true then (⟨2,(pJ k a.n b.n).1,⟨#[]⟩⟩,0) else (bJ,5):=by
 unfold iC;rw[if_neg (by simp[h0]),if_neg w4,if_neg w4,if_neg w4,if_pos hk,if_neg hg]
theorem afZ(k:Int)(a b:Vl)(oa:a.Ok)(ob:b.Ok):VP Tryz.prog G 62 [ae k,.agg (cV a),.agg (cV b)] (mX (iC k a b)):=by
 refine VC.body func62 rfl ntmps62 aQ fun X0 w0 bg=>?_;unfold mX;have oD:=Cd.SR (G:=G) a b;have nv:=Ta (G:=G) a b;have mR:=Q6 (G:=G) a b 0;have j8:=Q6 (G:=G) a b 1;have e9:=Cd.OT (G:=G) a b oa ob;have xU:=acv (G:=G) k a.n b.n;unfold mX at mR j8;unfold cV at oD nv mR j8 e9;unfold cV;refine bY ?_;refine OD.box (ds:=[_,_,_]) ap rfl rfl ot rfl rfl (fun b4=>?_);refine OD.box (ds:=[_,_,_]) ap rfl rfl ot rfl rfl (fun b5=>?_);refine OD.alloc (ds:=[_,_,_]) ap rfl rfl zeroValue41 rfl (fun b6=>?_);refine an 106 [0,4,5,6] ?_;refine cX [0,4,5,6,8] (oD) ?_;refine af [0,4,5,6,8,18] ?_;refine au ?_ ?_<;>intro aO bE
 ·have oC:mK a b≠0:=(by simpa using aO)
  have aV:iC k a b=(bJ,mK a b):=(by unfold iC;rw[if_pos oC])
  refine aD 2 ?_;exact z7
 have oC:mK a b=0:=(by simpa using aO)
 refine af [0,4,5,6,21] ?_;refine af [0,4,5,6,21,22] ?_;refine au ?_ ?_<;>intro aY cJ
 ·have aV:iC k a b=lA a b 0:=(by unfold iC;rw[if_neg (by simp[oC]),if_pos w4])
  refine aD 2 ?_;refine dV call102 (mR) ?_;refine aE 2 ?_;exact z7
 refine af [0,4,5,6,21,29] ?_;refine au ?_ ?_<;>intro cm cW
 ·have aV:iC k a b=lA a b 1:=(by unfold iC;rw[if_neg (by simp[oC]),if_neg w4,if_pos w4])
  refine aD 2 ?_;refine dV call102 (j8) ?_;refine aE 2 ?_;exact z7
 refine af [0,4,5,6,21,36] ?_;refine au ?_ ?_<;>intro da ek
 ·refine eI ?_;exact z107
 refine cl [0,4,5,6,21,36] ?_;refine au ?_ ?_<;>intro ez fw
 ·exact z107
 refine af [0,4,5,6,21,67] ?_;refine au ?_ ?_<;>intro gq lB
 ·refine eI ?_;exact z6
 refine af [0,4,5,6,21,67] ?_;refine au ?_ ?_<;>intro p9 E
 ·refine eI ?_;exact z6
 refine cl [0,4,5,6,67] ?_;refine au ?_ ?_<;>intro O I
 ·exact z6
 have aV:iC k a b=(bJ,2):=(by unfold iC;rw[if_neg (by simp[oC]),if_neg w4,if_neg w4,if_neg w4,if_neg w4])
 refine aD 1 ?_;refine aN 0 [_,_,_] sizeOf41 ?_;refine an 106 [6,7] ?_;refine aJ [] ?_;rw[aV];first|exact⟨rfl,rfl⟩|(refine⟨?_,rfl⟩;clear aV e9 xU mR j8 oD nv;generalize (fk a b==0)=z1 at *;generalize (decide (fk a b<0))=z2 at *;subst_vars;simp_all;done)

end Go.Proofs.YtdgichenhdikgaaGreatDoor.Ex
namespace Go.Proofs.YtdgichenhdikgaaGreatDoor.Ex
open List
open Go.Proofs.Tryz
open Go.RowKit V Pk Vl Go.Proofs.YtdgichenhdikgaaGreatDoor.Nm Pc
variable {a b:Vl} {l:List cG} {row:List Vl} {ops:List aX}
def fW(l:List cG)(row:List Vl)(o:aX)(a b:Vl):Vl×Int :=
 if bQ o.k=1 then uj o.k a else if bQ o.k=2 then iC o.k a b else if o.k=2 then (row.getD (bD l o.nm).toNat bJ,0) else (o.v,0)
def vg(l:List cG)(row:List Vl)(ops:List aX):Vl×Int:=jH bJ (fW l row) ops []
def fu(l:List cG)(row:List Vl)(ops:List aX):Vl×Int :=
 if ec l row≠0 then (bJ,ec l row) else if (ey l ops).2≠0 then (bJ,(ey l ops).2) else vg l row ops
theorem ue:bJ.Ok:=⟨by decide,by decide,by decide,by decide,Nat.zero_le _⟩
theorem Q7(b:Bool):(qv b).Ok:=by unfold qv;split<;>exact⟨by decide,by decide,by decide,by decide,Nat.zero_le _⟩
theorem ok_int{n:Int}(h:-9223372036854775808≤n∧n≤9223372036854775807):(⟨2,n,⟨#[]⟩⟩:Vl).Ok:=⟨by show -9223372036854775808≤(2:Int);decide,by show(2:Int)≤_;decide,h.1,h.2,Nat.zero_le _⟩
theorem acw{d:Int}(oa:a.Ok)(ob:b.Ok):(lA a b d).1.Ok:=by
 unfold lA;repeat' split
 all_goals first|exact ue|exact oa|exact ob
theorem ok_two{k:Int}(oa:a.Ok)(ob:b.Ok):(iC k a b).1.Ok:=by
 unfold iC;repeat' split
 all_goals first|exact ue|exact acw oa ob|exact Q7 _|skip
 unfold pJ;repeat' split
 all_goals exact ok_int (ahn _)
theorem ok_one{k:Int}(oa:a.Ok):(uj k a).1.Ok:=by
 unfold uj;repeat' split
 all_goals first|exact ue|exact oa|exact Q7 _
theorem Tb(hr:∀v∈row,v.Ok){o:aX}(ho:o.v.Ok)(oa:a.Ok)(ob:b.Ok):(fW l row o a b).1.Ok:=by
 unfold fW;split
 ·exact ok_one oa
 split
 ·exact ok_two oa ob
 split
 ·show(row.getD _ bJ).Ok;rw[getD_eq_getElem?_getD];cases h:row[(bD l o.nm).toNat]? with
  | none=>exact ue
  | some v=>exact hr v (mem_of_getElem? h)
 exact ho
theorem JI{st:List Vl}(h:∀v∈st,v.Ok)(j:Nat):(st.getD j bJ).Ok:=by
 rw[getD_eq_getElem?_getD];cases hj:st[j]? with
 | none=>exact ue
 | some v=>exact h v (mem_of_getElem? hj)
theorem Bs{st:List Vl}(h:∀v∈st,v.Ok)(k:Int):(fj bJ k st).Ok:=by unfold fj;split;exact JI h _;exact ue
theorem Bt{st:List Vl}(h:∀v∈st,v.Ok)(k:Int):(eY bJ k st).Ok:=by unfold eY;split;exact JI h _;exact ue
theorem PG{α:Type}{z:α}{f:aX→α→α→α × Int}:∀{l:List aX} {st:List α},(jH z f l st).2=0→∀o∈l,∃a b,(f o a b).2=0
 | [],_,_,o,ho=>by cases ho
 | x::r,st,h,o,ho=>by
  rw[jH] at h;split at h
  ·rename_i hne;exact absurd h hne
  rename_i he;rcases mem_cons.1 ho with rfl|ho
  ·exact⟨_,_,Classical.not_not.1 he⟩
  exact PG h o ho
theorem PI(h:(ud l ops).2=0):∀o∈ops,o.k=2→0≤bD l o.nm:=fun o ho hk=>by
 obtain⟨a,b,he⟩:=PG h o ho;unfold jg at he;rw[if_neg w4,if_pos hk] at he;unfold u4 at he;split at he
 ·cases he
 omega
theorem Jy(h:ec l row=0):row.length=l.length:=by
 unfold ec at h;split at h
 ·rename_i h1;exact absurd h h1
 split at h
 ·cases h
 omega
theorem Fg(h:(ey l ops).2=0):fI l=0∧iR ops=0∧ey l ops=ud l ops:=by
 unfold ey at h ⊢;split at h
 ·rename_i h1;exact absurd h h1
 rename_i h1;split at h
 ·rename_i h2;exact absurd h h2
 rename_i h2;exact⟨Classical.not_not.1 h1,Classical.not_not.1 h2,by rw[if_neg h1,if_neg h2]⟩
variable {G:List (Nat×List Value)}
theorem Iu(l:List cG)(hl:l.length≤6)(row:List Vl)(qg:row.length=l.length)(o:aX)(I:o.k=2→0≤bD l o.nm)(a b a' b':Vl)(ha:a=a')(hb:b=b')(oa:a.Ok)(ob:b.Ok)(br bc:Nat):VC Tryz.prog G 59 [.agg (cO o),.agg (cV a'),.agg (cV b'),dM br,dM bc] [⟨br,28,1,[av 3 cV row]⟩,⟨bc,27,1,[av 2 cC l]⟩] (fun r S=>r=mX (fW l row o a b)∧S=[⟨br,28,1,[av 3 cV row]⟩,⟨bc,27,1,[av 2 cC l]⟩]):=by
 refine VC.body func59 rfl ntmps59 aQ fun X0 w0 bg=>?_;subst ha hb;have mS:=afY (G:=G) o.k a;have E:=afZ (G:=G) o.k a b oa ob;unfold mX at mS E ⊢;unfold cV at mS E;unfold cO cV;have U:=wD (fun c:cG=>c.n.toList==o.nm.toList) l;have O:bD l o.nm=dR (fun c:cG=>c.n.toList==o.nm.toList) l:=rfl;rw[←O] at U;clear O;refine bY ?_;refine OD.box (ds:=[_,_,_,_,_]) ap rfl rfl ot rfl rfl (fun b5=>?_);refine OD.box (ds:=[_,_,_]) ap rfl rfl ot rfl rfl (fun b6=>?_);refine OD.box (ds:=[_,_,_]) ap rfl rfl ot rfl rfl (fun b7=>?_);refine OD.alloc (ds:=[_,_,_]) ap rfl rfl zeroValue41 rfl (fun b8=>?_);refine an 42 [3,4,5,6,7,8] ?_;refine cX [3,4,5,6,7,8,12] (EQ o.k) ?_;refine af [3,4,5,6,7,8,12,13] ?_;refine au ?_ ?_<;>intro aO bE
 ·have aV:fW l row o a b=uj o.k a:=(by unfold fW;rw[if_pos w4])
  refine aD 3 ?_;refine dV call61 (mS) ?_;refine aE 2 ?_;exact Le
 refine af [3,4,5,6,7,8,21] ?_;refine au ?_ ?_<;>intro aY cJ
 ·have aV:fW l row o a b=iC o.k a b:=(by unfold fW;rw[if_neg w4,if_pos w4])
  refine aD 4 ?_;refine dV call62 (E) ?_;refine aE 2 ?_;exact Le
 refine af [3,4,5,8,32] ?_;refine au ?_ ?_<;>intro cm cW
 ·have fy:o.k=2:=(by omega)
  have aO:=I fy;have Z:(bD l o.nm).toNat<row.length:=(by omega)
  have aV:fW l row o a b=(row[(bD l o.nm).toNat],0):=(by unfold fW;rw[if_neg w4,if_neg w4,if_pos fy,getD_eq_getElem?_getD,getElem?_eq_getElem Z];rfl)
  refine CD.seq ?_;refine mv 7 [8,39] ?_;refine di (qt l hl o.nm) ?_;refine bK ?_;exact Le
 have aV:fW l row o a b=(o.v,0):=(by unfold fW;rw[if_neg w4,if_neg w4,if_neg w4])
 refine aD 2 ?_;refine aN 0 [_,_,_] sizeOf41 ?_;refine an 42 [8,9] ?_;exact Vp
theorem Zw:(Tryz.prog.info? 41).map (fun i=>(i.zero,i.size,i.bytes))=some (some (.agg #[.int .i64 0,.int .i64 0,.string ⟨#[]⟩]),3,32):=by kernel_rfl
theorem acy(l:List cG)(hl:l.length≤6)(row:List Vl)(qg:row.length=l.length)(LJ:∀v∈row,v.Ok)(ops:List aX)(fR:∀o∈ops,o.v.Ok)(E:∀o∈ops,o.k=2→0≤bD l o.nm)(qf:ops.length≤40)(hx:fK 0 ops=0)(br bc:Nat):VC Tryz.prog G 58 [av 5 cO ops,.eC (.func 59) [dM br,dM bc]] [⟨br,28,1,[av 3 cV row]⟩,⟨bc,27,1,[av 2 cC l]⟩] (fun r S=>r=mX (vg l row ops)∧S=[⟨br,28,1,[av 3 cV row]⟩,⟨bc,27,1,[av 2 cC l]⟩]):=by
 refine VC.body func58 rfl ntmps58 aQ fun X0 w0 bg=>?_;unfold mX;refine bY ?_;refine OD.alloc (ds:=[_,_,_]) ap rfl rfl zeroValue41 rfl (fun b4=>?_);refine an 64 [0,1,4] ?_;refine bY ?_;refine OD.alloc (ds:=[_,_,_]) ap rfl rfl zeroValue41 rfl (fun b6=>?_);refine OD.perm (Bi (k:=2) (k':=2) rfl rfl) ?_;refine an 64 [0,1,4,6] ?_;refine bY ?_;refine bf [0,1,4,6,7] ?_;refine af [1,4,6,7,16,17,18] ?_;refine CD.block ?_;refine mV (fun (I:Nat×List Vl×Option Addr×Nat×List ah) aH=>match I with|(i,st,O,kf,Sh)=>(i≤ops.length)∧(st.length≤i)∧(fK ((st.length:Nat):Int) (ops.drop i)=0)∧(vg l row ops=jH bJ (fW l row) (ops.drop i) st)∧(∀v∈st,v.Ok)∧(bp 41 3 ((st).flatMap cV) (st).length O kf Sh)∧aH=(⟨64,[(1,.eC (.func 59) [dM br,dM bc]),(4,dM b4),(6,dM b6),(7,aP O (st).length kf),(16,av 5 cO ops),(17,ae (ops.length:Nat)),(18,ae (i:Nat))],(⟨br,28,1,[av 3 cV row]⟩::⟨bc,27,1,[av 2 cC l]⟩::⟨b6,41,3,[ae 0,ae 0,eT]⟩::⟨b4,41,3,[ae 0,ae 0,eT]⟩::Sh)⟩:St)) (fun (I:Nat×List Vl×Option Addr×Nat×List ah)=>match I with|(i,st,O,kf,Sh)=>ops.length-i) (0,[],none,0,[]) ⟨(Nat.zero_le _),(Nat.zero_le _),hx,rfl,(fun v U=>by cases U),(bp.cast ik jN),rfl⟩ (aK (h:=by repeat (first|exact trivial|refine⟨GN,?_⟩))) ?_;rintro⟨i,st,O,kf,Sh⟩ _ ⟨hi,fG,hex,hinv,aR,nS,rfl⟩;refine af [1,4,6,7,16,17,18,19] ?_;refine au ?_ ?_<;>intro aO bE
 ·have aa:i<ops.length:=(by omega)
  obtain⟨he,ym⟩:=PF aa hex;obtain⟨rN,VS,yn,qL⟩:=wz he;have uI:=tI ops[i].k;have rK:(st.take (st.length-(bQ ops[i].k).toNat)++[(fW l row ops[i] (fj bJ ops[i].k st) (eY bJ ops[i].k st)).1]).length=st.length+1-(bQ ops[i].k).toNat:=(by rw[length_append,length_take,length_singleton];omega)
  have nT:fK (((st.take (st.length-(bQ ops[i].k).toNat)++[(fW l row ops[i] (fj bJ ops[i].k st) (eY bJ ops[i].k st)).1]).length:Nat):Int) (ops.drop (i+1))=0:=(by rw[rK,show(((st.length+1-(bQ ops[i].k).toNat:Nat)):Int)=(st.length:Int)+(1-bQ ops[i].k) by omega];exact ym)
  have aia:∀v∈st.take (st.length-(bQ ops[i].k).toNat)++[(fW l row ops[i] (fj bJ ops[i].k st) (eY bJ ops[i].k st)).1],v.Ok:=fun v U=>by rcases mem_append.1 U with U|U;exact aR v (mem_of_mem_take U);rw[mem_singleton] at U;rw[U];exact Tb LJ (fR _ (getElem_mem aa)) (Bs aR _) (Bt aR _)
  refine aD 2 ?_;refine OD.alloc (ds:=[_,_,_,_,_]) ap rfl rfl zeroValue43 rfl (fun b9=>?_);refine aN 0 [_,_,_,_,_] sizeOf43 ?_;refine an 64 [1,4,6,7,9,16,17,18] ?_;refine bY ?_;refine OD.alloc (ds:=[_,_,_]) ap rfl rfl zeroValue41 rfl (fun lf=>?_);refine OD.alloc (ds:=[_,_,_]) ap rfl rfl zeroValue41 rfl (fun k8=>?_);refine an 64 [1,4,6,7,9,10,11,16,17,18] ?_;refine cX [1,4,6,7,9,10,11,12,16,17,18] (EQ ops[i].k) ?_;refine af [1,4,6,7,9,10,11,12,13,16,17,18] ?_;refine af [1,4,6,7,9,10,11,12,13,16,17,18,30] ?_;refine au ?_ ?_<;>intro aY cJ
  ·obtain⟨bh,rfl,xm,wN,rfl⟩:=nS.pos w4;have uK:(st.length-(bQ ops[i].k).toNat)<st.length:=(by omega)
   have ha:fj bJ ops[i].k st=st[(st.length-(bQ ops[i].k).toNat)]:=(by unfold fj;rw[if_pos w4,getD_eq_getElem?_getD,getElem?_eq_getElem uK];rfl)
   refine dO 2 ?_;refine bN (dc 3 (h:=by first|exact .l (j:=(st.length-(bQ ops[i].k).toNat)) w4 w4|exact .r (j:=(st.length-(bQ ops[i].k).toNat)) w4 w4)) ?_;refine bN (cU (mk:=Op.load 41) rfl ot (cn (k:=7) eS rfl rfl rfl isAgg41 sizeOf41 uK)) ?_;refine aN 1 [_,_,_] sizeOf41 ?_;refine an 64 [1,4,6,7,9,10,11,12,13,16,17,18] ?_;refine af [1,4,6,7,9,10,11,13,16,17,18,36] ?_;refine au ?_ ?_<;>intro cm cW
   ·have Z:(st.length-(bQ ops[i].k).toNat)+1<st.length:=(by omega)
    have hb:eY bJ ops[i].k st=st[(st.length-(bQ ops[i].k).toNat)+1]:=(by unfold eY;rw[if_pos w4,getD_eq_getElem?_getD,getElem?_eq_getElem Z];rfl)
    refine dO 3 ?_;refine bN (dc 3 (h:=by first|exact .l (j:=(st.length-(bQ ops[i].k).toNat)+1) w4 w4|exact .r (j:=(st.length-(bQ ops[i].k).toNat)+1) w4 w4)) ?_;refine bN (cU (mk:=Op.load 41) rfl ot (cn (k:=7) eS rfl rfl rfl isAgg41 sizeOf41 Z)) ?_;refine aN 0 [_,_,_] sizeOf41 ?_;refine an 64 [1,4,6,7,9,10,11,13,16,17,18] ?_;refine aD 4 ?_;refine OD.kz (f:=59) (args:=[_,_,_]) (all:=[_,_,_,_,_]) (Sf:=[⟨br,28,1,[av 3 cV row]⟩,⟨bc,27,1,[av 2 cC l]⟩]) ap rfl rfl ot call59 (Iu l hl row qg ops[i] (E _ (getElem_mem aa)) _ _ (st[(st.length-(bQ ops[i].k).toNat)]) (st[(st.length-(bQ ops[i].k).toNat)+1]) ha hb (Bs aR _) (Bt aR _) br bc) rfl ⟨ot,ot,ot,trivial⟩ (Bi (k:=3) (k':=3) rfl rfl) ?_;exact Vv
   have hb:eY bJ ops[i].k st=bJ:=(by unfold eY;rw[if_neg w4])
   refine aD 4 ?_;refine OD.kz (f:=59) (args:=[_,_,_]) (all:=[_,_,_,_,_]) (Sf:=[⟨br,28,1,[av 3 cV row]⟩,⟨bc,27,1,[av 2 cC l]⟩]) ap rfl rfl ot call59 (Iu l hl row qg ops[i] (E _ (getElem_mem aa)) _ _ (st[(st.length-(bQ ops[i].k).toNat)]) (bJ) ha hb (Bs aR _) (Bt aR _) br bc) rfl ⟨ot,ot,ot,trivial⟩ (Bi (k:=3) (k':=3) rfl rfl) ?_;exact Vv
  have ha:fj bJ ops[i].k st=bJ:=(by unfold fj;rw[if_neg w4])
  refine af [1,4,6,7,9,10,11,13,16,17,18,36] ?_;refine au ?_ ?_<;>intro cm cW
  ·exact absurd cm (by simp at *;omega)
  have hb:eY bJ ops[i].k st=bJ:=(by unfold eY;rw[if_neg w4])
  refine aD 4 ?_;refine OD.kz (f:=59) (args:=[_,_,_]) (all:=[_,_,_,_,_]) (Sf:=[⟨br,28,1,[av 3 cV row]⟩,⟨bc,27,1,[av 2 cC l]⟩]) ap rfl rfl ot call59 (Iu l hl row qg ops[i] (E _ (getElem_mem aa)) _ _ (bJ) (bJ) ha hb (Bs aR _) (Bt aR _) br bc) rfl ⟨ot,ot,ot,trivial⟩ (Bi (k:=3) (k':=3) rfl rfl) ?_;rintro _ _ ⟨rfl,rfl⟩;refine aE 3 ?_;refine OD.alloc (ds:=[_,_,_]) ap rfl rfl zeroValue41 rfl (fun Ax=>?_);refine aN 0 [_,_,_] sizeOf41 ?_;refine an 64 [1,4,6,7,13,14,15,16,17,18] ?_;refine af [1,4,6,7,13,14,15,16,17,18,51] ?_;refine au ?_ ?_<;>intro da ek
  ·exact z49
  have hz:(fW l row ops[i] (fj bJ ops[i].k st) (eY bJ ops[i].k st)).2=0:=(by simpa using da)
  refine CD.skip ?_;refine CD.sI (k:=(st.length-(bQ ops[i].k).toNat)) (ls:=(st)) (Sq:=Sh) eS w4 nS (dg (A:=[_,_,_,_,_,_,_,_])) (fun B6 BH=>?_);exact z5
 have h1:=Q5 w4 hex;have VY:0<st.length:=(by omega)
 obtain⟨bh,rfl,xm,wN,rfl⟩:=nS.pos w4;have aV:=hinv.trans (Q4 w4);have ke:st.getD 0 bJ=st[0]:=(by rw[getD_eq_getElem?_getD,getElem?_eq_getElem VY];rfl)
 rw[ke] at aV;refine aD 1 ?_;refine bN (so (mk:=Op.indexAddr 28) rfl ot bP (by first|exact tO (j:=0) runUnderlying28 sizeOf41 rfl Aj|exact tX (j:=0) runUnderlying28 sizeOf41 rfl Aj)) ?_;refine bN (cU (mk:=Op.load 41) rfl ot (cn (k:=4) eS rfl rfl rfl isAgg41 sizeOf41 VY)) ?_;refine aN 3 [_,_,_] sizeOf41 ?_;refine an 64 [4,5] ?_;exact Vp
theorem aeo(l:List cG)(hl:l.length≤6)(row:List Vl)(O:row.length=l.length)(E:∀v∈row,v.Ok)(ops:List aX)(fR:∀o∈ops,o.v.Ok)(I:∀o∈ops,o.k=2→0≤bD l o.nm)(hx:iR ops=0):VP Tryz.prog G 35 [av 2 cC l,av 3 cV row,av 5 cO ops] (mX (vg l row ops)):=by
 refine VC.body func35 rfl ntmps35 aQ fun X0 w0 bg=>?_;obtain⟨U,gF⟩:=wE hx;have fP:=fun br bc=>acy (G:=G) l hl row O E ops fR I U gF br bc;unfold mX at fP ⊢;generalize vg l row ops=q at fP ⊢;skip;refine bY ?_;refine OD.box (ds:=[_]) ap rfl rfl ot rfl rfl (fun b3=>?_);refine OD.box (ds:=[_]) ap rfl rfl ot rfl rfl (fun b4=>?_);refine OD.alloc (ds:=[_,_,_]) ap rfl rfl zeroValue41 rfl (fun b6=>?_);refine an 13 [2,3,4,6] ?_;refine aD 1 ?_;refine bN (pG (ds:=[_,_]) rfl ⟨ot,ot,trivial⟩) ?_;refine OD.call ap rfl rfl rfl call58 (fP b4 b3) ⟨ot,ot,trivial⟩ (Bi (k:=1) (k':=1) rfl rfl) ?_;rintro _ _ ⟨rfl,rfl⟩;refine aE 2 ?_;refine aN 2 [_,_,_] sizeOf41 ?_;refine an 13 [6,7] ?_;exact nw
theorem Tc(hm:(3,marksC)∈G)(hw:(1,wordsC)∈G)(ht:(0,typesC)∈G)(l:List cG)(hl:l.length≤6)(aR:∀c∈l,c.n.size≤maxLen)(row:List Vl)(Z:row.length≤1000)(E:∀v∈row,v.Ok)(ops:List aX)(ho:∀o∈ops,o.nm.size≤maxLen)(fR:∀o∈ops,o.v.Ok):VP Tryz.prog G 20 [av 2 cC l,av 3 cV row,av 5 cO ops] (mX (fu l row ops)):=by
 refine VC.body func20 rfl ntmps20 aQ fun X0 w0 bg=>?_;have dz:=ei;have U:=Kh hm hw ht l w4 aR row w4;have I:=JH hm hw ht l hl aR ops ho;unfold pV at I;unfold mX;refine bY ?_;refine OD.alloc (ds:=[_,_,_]) ap rfl rfl zeroValue41 rfl (fun b6=>?_);refine an 34 [0,1,2,6] ?_;refine cX [0,1,2,6,8] (U) ?_;refine af [0,1,2,6,8,15] ?_;refine au ?_ ?_<;>intro aO bE
 ·have h0:ec l row≠0:=(by simpa using aO)
  have aV:fu l row ops=(bJ,ec l row):=(by unfold fu;rw[if_pos h0])
  refine aD 2 ?_;refine aN 0 [_,_,_] sizeOf41 ?_;refine an 34 [6,7] ?_;exact oE
 have h0:ec l row=0:=(by simpa using aO)
 refine cX [0,1,2,6,10] (I) ?_;refine af [0,1,2,6,10,25] ?_;refine au ?_ ?_<;>intro aY cJ
 ·have h1:(ey l ops).2≠0:=(by simpa using aY)
  have aV:fu l row ops=(bJ,(ey l ops).2):=(by unfold fu;rw[if_neg (by simp[h0]),if_pos h1])
  refine aD 2 ?_;refine aN 0 [_,_,_] sizeOf41 ?_;refine an 34 [6,7] ?_;exact oE
 have h1:(ey l ops).2=0:=(by simpa using aY)
 obtain⟨k1,k2,k3⟩:=Fg h1;have aV:fu l row ops=vg l row ops:=(by unfold fu;rw[if_neg (by simp[h0]),if_neg (by simp[h1])])
 have O:=aeo (G:=G) l hl row (Jy h0) E ops fR (PI (by rw[←k3];exact h1)) k2;unfold mX at O;refine aD 3 ?_;refine dV call35 (O) ?_;refine aE 2 ?_;refine aN 0 [_,_,_] sizeOf41 ?_;refine an 34 [6,7] ?_;exact uz

end Go.Proofs.YtdgichenhdikgaaGreatDoor.Ex
namespace Go.Proofs.YtdgichenhdikgaaGreatDoor.Pc
open List
open Go.Proofs.Tryz
open Go.RowKit V Pk Vl Go.Proofs.YtdgichenhdikgaaGreatDoor.Nm
variable {G:List (Nat×List Value)}
def cM:List cG:=[⟨⟨#[105,100]⟩,2⟩,⟨⟨#[110]⟩,2⟩,⟨⟨#[115]⟩,3⟩,⟨⟨#[98]⟩,1⟩]
def qw(n:Int):Vl:=if dU n 3=2 then bJ else ⟨1,dU n 3,⟨#[]⟩⟩
def Gy(n:Int):Vl:=⟨2,n,⟨#[]⟩⟩
theorem aho:cL ⟨#[105,100]⟩=0:=tq (l:=[105,100]) w7 w7 w7
theorem ajE:cL ⟨#[110]⟩=0:=tq (l:=[110]) w7 w7 w7
theorem ajF:cL ⟨#[115]⟩=0:=tq (l:=[115]) w7 w7 w7
theorem ajG:cL ⟨#[98]⟩=0:=tq (l:=[98]) w7 w7 w7
theorem Jn:fI cM=0:=by
 simp[fI,cM,ri,nl,aho,ajE,ajF,ajG,wu]
theorem adG:∀c∈cM,c.n.size≤maxLen:=fun c hc=>by
 have h:c.n.size≤2:=by
  simp only[cM,mem_cons,not_mem_nil,or_false] at hc;rcases hc with rfl|rfl|rfl|rfl
  ·exact Nat.le_refl 2
  ·exact Nat.le_succ 1
  ·exact Nat.le_succ 1
  exact Nat.le_succ 1
 exact Nat.le_trans h w7
theorem af0(n:Int):cD (Gy n)=0:=by
 unfold cD;rw[if_neg (show ¬(Gy n).k=0 by show ¬(2:Int)=0;decide),if_neg (show ¬(Gy n).k=1 by show ¬(2:Int)=1;decide),if_pos (show(Gy n).k=2 from rfl),if_neg (fun h=>h rfl)]
theorem FX:cD bJ=0:=by decide
theorem Iv:VP Tryz.prog G 18 [] (av 2 cC cM):=by
 refine VC.body func18 rfl ntmps18 aQ fun X0 w0 bg=>?_;refine af [] ?_;refine aD 4 ?_;refine ev (cc 0 [_,_,_,_]) [.string ⟨#[]⟩,.int .i64 0,.string ⟨#[]⟩,.int .i64 0,.string ⟨#[]⟩,.int .i64 0,.string ⟨#[]⟩,.int .i64 0] [_,_,_,_,_,_,_,_] zeroValue69 runUnderlying27 sizeOf69 (fun b5=>?_);refine OD.perm (ee (S1:=[⟨b5,69,4*2,flatMap cC ([⟨⟨#[105,100]⟩,2⟩,⟨⟨#[110]⟩,2⟩,⟨⟨#[115]⟩,3⟩,⟨⟨#[98]⟩,1⟩])⟩]) (A:=[])) ?_;refine an 6 [0] ?_;refine CD.ic (t:=0) (Sq:=[⟨b5,69,4*2,flatMap cC ([⟨⟨#[105,100]⟩,2⟩,⟨⟨#[110]⟩,2⟩,⟨⟨#[115]⟩,3⟩,⟨⟨#[98]⟩,1⟩])⟩]) lk (bH (g:=cC) (sz:=2) (e:=69) (ls:=[⟨⟨#[105,100]⟩,2⟩,⟨⟨#[110]⟩,2⟩,⟨⟨#[115]⟩,3⟩,⟨⟨#[98]⟩,1⟩]) (Nat.le_refl _) (show 4≤maxLen by decide)) (cu jS _) (dg (A:=[])) ?_;exact nw

end Go.Proofs.YtdgichenhdikgaaGreatDoor.Pc
namespace Go.Proofs.YtdgichenhdikgaaGreatDoor.Ex
open List
open Go.Proofs.Tryz
open Go.RowKit V Pk Vl Go.Proofs.YtdgichenhdikgaaGreatDoor.Nm Pc
variable {k:Int} {a b:Vl} {l:List cG} {row:List Vl} {o:aX} {α:Type} {ks:List Int}
theorem HV(b:Bool):cD (qv b)=0:=by cases b<;>decide
theorem aaO(n:Int):cD ⟨2,n,⟨#[]⟩⟩=0:=af0 n
theorem Fh(h:¬(k=8∨k=9∨k=10)):xp k=1:=if_neg h
theorem aep(h:k=8∨k=9∨k=10):xp k=2:=if_pos h
theorem I1(b:Bool):(qv b).k=1:=by cases b<;>rfl
theorem Ev{v:Vl}(h:iS v=0):cD v=0:=by
 unfold iS at h;split at h
 ·cases h
 exact h
def jU(k:Int)(v:Vl):Prop:=cD v=0∧(v.k=k∨v.k=0)
theorem BE:jU 0 bJ:=⟨FX,.inl rfl⟩
structure zy (l:List cG) (o:aX):Prop where
 nm:o.nm.size≤maxLen
 ok:o.v.Ok
 ck:cD o.v=0
 k1:1≤o.k
 k2:o.k≤11
 Ya:o.k=2→0≤bD l o.nm
def FY(l:List cG)(row:List Vl):Prop:=∀i:Nat,jU (l.getD i ⟨⟨#[]⟩,0⟩).k (row.getD i bJ)
theorem zz{a b:Int}(h:rU a b=true):a=b∨a=0:=by
 unfold rU at h;simpa using h
theorem ZP{d:Int}(ha:cD a=0)(hb:cD b=0)(h1:a.k=1∨a.k=0)(h2:b.k=1∨b.k=0):(lA a b d).2=0∧jU 1 (lA a b d).1:=by
 unfold lA;rw[if_neg w4];split
 ·exact⟨rfl,ha,h1⟩
 split
 ·exact⟨rfl,hb,h2⟩
 split
 ·exact⟨rfl,FX,.inr rfl⟩
 exact⟨rfl,ha,h1⟩
theorem aeq(ha:cD a=0)(hb:cD b=0):Cd.mK a b=0:=by unfold Cd.mK;rw[ha,hb];rfl
theorem aaP(h:Cd.mK a b=0)(hk:k=3∨k=4):∃d,iC k a b=lA a b d:=by
 unfold iC;rw[if_neg (by simp[h])];rcases hk with rfl|rfl
 ·exact⟨0,if_pos rfl⟩
 exact⟨1,by rw[if_neg w7,if_pos rfl]⟩
theorem acz(h:Cd.mK a b=0)(hk:k=6∨k=7):iC k a b=if rm a b=true then (bJ,0) else if a.k≠b.k then (bJ,4) else (qv ((Cd.fk a b==0&&k==6)||(decide (Cd.fk a b<0)&&k==7)),0):=by
 unfold iC;rw[if_neg (by simp[h]),if_neg w4,if_neg w4,if_pos hk]
theorem aaQ(hr:FY l row)(ho:zy l o){a b:Int}{E vb:Vl}(ha:jU a E)(hb:jU b vb)(h:(jg l o a b).2=0) :
  (fW l row o E vb).2=5∨((fW l row o E vb).2=0∧jU (jg l o a b).1 (fW l row o E vb).1):=by
 have k1:=ho.k1;have k2:=ho.k2;obtain⟨ca,ka⟩:=ha;obtain⟨cb,kb⟩:=hb;have O:=aeq ca cb;unfold jg at h ⊢;by_cases e1:o.k=1
 ·rw[if_pos e1];have:fW l row o E vb=(o.v,0):=(by unfold fW bQ;rw[if_neg w4,if_neg (by rw[if_pos (.inl e1)];omega),if_neg w4]<;>(try rw[if_pos (.inl e1)];omega))
  rw[this];exact .inr ⟨rfl,ho.ck,.inl rfl⟩
 rw[if_neg e1] at h ⊢;by_cases e2:o.k=2
 ·rw[if_pos e2] at h ⊢;have hp:bQ o.k=0:=(by unfold bQ;rw[if_pos (.inr e2)])
  have hc:=ho.Ya e2;have:fW l row o E vb=(row.getD (bD l o.nm).toNat bJ,0):=(by unfold fW;rw[if_neg w4,if_neg w4,if_pos e2])
  rw[this];unfold u4;rw[if_neg w4];exact .inr ⟨rfl,hr _⟩
 rw[if_neg e2] at h ⊢;have aR:okF o.k a b=true:=by
  by_cases hk:okF o.k a b=true
  ·exact hk
  rw[if_neg hk] at h;cases h
 rw[if_pos aR];unfold okF at aR;by_cases I:o.k=5∨o.k=11
 ·have hp:bQ o.k=1:=(by unfold bQ;rw[if_neg w4,if_pos I])
  have he:fW l row o E vb=uj o.k E:=(by unfold fW;rw[if_pos hp])
  rw[he];unfold uj;rw[if_neg (by simp[ca])];rcases I with I|I
  ·have U:¬(o.k=3∨o.k=4):=(by omega)
   have Z:¬o.k=11:=(by omega)
   rw[if_neg U,if_pos I] at aR;have hi:=zz aR;rw[if_neg Z,if_pos I,Fh w4];by_cases z:E.k=0
   ·rw[if_pos z];exact .inr ⟨rfl,ca,.inr z⟩
   rw[if_neg z,if_pos w4];exact .inr ⟨rfl,HV _,.inl (I1 _)⟩
  rw[if_pos I,Fh w4];exact .inr ⟨rfl,HV _,.inl (I1 _)⟩
 have hp:bQ o.k=2:=(by unfold bQ;rw[if_neg w4,if_neg I])
 have he:fW l row o E vb=iC o.k E vb:=(by unfold fW;rw[if_neg w4,if_pos hp])
 rw[he];by_cases e3:o.k=3∨o.k=4
 ·rw[if_pos e3,Bool.and_eq_true] at aR;have i1:=zz aR.1;have i2:=zz aR.2;obtain⟨d,hd⟩:=aaP O e3;rw[hd,Fh w4];exact .inr (ZP ca cb w4 w4)
 have n5:¬o.k=5:=(by omega)
 rw[if_neg e3,if_neg n5] at aR;by_cases e6:o.k=6∨o.k=7
 ·rw[if_pos e6,Bool.or_eq_true] at aR;rw[acz O e6,Fh w4];by_cases hn:rm E vb=true
  ·rw[if_pos hn];exact .inr ⟨rfl,FX,.inr rfl⟩
  rw[if_neg hn];unfold rm at hn;simp only[Bool.or_eq_true,beq_iff_eq,not_or] at hn;have lF:E.k=vb.k:=by
   rcases aR with aR|aR
   ·have:=zz aR;omega
   have:b=0:=(by simpa using aR)
   omega
  rw[if_neg (by simpa using lF)];exact .inr ⟨rfl,HV _,.inl (I1 _)⟩
 have e8:o.k=8∨o.k=9∨o.k=10:=(by omega)
 rw[if_neg e6,if_pos e8,Bool.and_eq_true] at aR;have i1:=zz aR.1;have i2:=zz aR.2;rw[O8 O e8 w4,aep e8];split
 ·exact .inr ⟨rfl,FX,.inr rfl⟩
 split
 ·exact .inr ⟨rfl,aaO _,.inl rfl⟩
 exact .inl rfl
theorem JJ{z:α}{f:aX→α→α→α × Int}{r:List aX}{st:List α}(h:(f o (fj z o.k st) (eY z o.k st)).2=0):jH z f (o::r) st=jH z f r (st.take (st.length-(bQ o.k).toNat)++[(f o (fj z o.k st) (eY z o.k st)).1]):=by
 rw[jH,if_neg (by rw[h];simp)]
theorem I2{z:α}{f:aX→α→α→α × Int}{r:List aX}{st:List α}(h:(f o (fj z o.k st) (eY z o.k st)).2≠0):jH z f (o::r) st=(z,(f o (fj z o.k st) (eY z o.k st)).2):=by
 rw[jH,if_pos h]
def Cn(ks:List Int)(vs:List Vl):Prop:=ks.length=vs.length∧∀i:Nat,jU (ks.getD i 0) (vs.getD i bJ)
theorem Q8(z x:α)(l:List α)(n i:Nat)(hn:n≤l.length):(l.take n++[x]).getD i z=if i<n then l.getD i z else if i=n then x else z:=by
 have hl:(l.take n).length=n:=(by rw[length_take];omega)
 by_cases h1:i<n
 ·rw[if_pos h1,getD_eq_getElem?_getD,getD_eq_getElem?_getD,getElem?_append_left w4,getElem?_take,if_pos h1]
 rw[if_neg h1,getD_eq_getElem?_getD,getElem?_append_right w4,hl];by_cases h2:i=n
 ·rw[if_pos h2,h2,Nat.sub_self];rfl
 rw[if_neg h2,getElem?_eq_none (by rw[length_singleton];omega)];rfl
theorem aer{vs:List Vl}(h:Cn ks vs){v:Vl}(hr:jU k v){n:Nat}(hn:n≤ks.length):Cn (ks.take n++[k]) (vs.take n++[v]):=by
 have hl:=h.1;refine⟨by simp only[length_append,length_take,length_singleton];omega,fun i=>?_⟩;rw[Q8 _ _ _ _ _ hn,Q8 _ _ _ _ _ w4];split
 ·exact h.2 i
 split
 ·exact hr
 exact BE
theorem aes{vs:List Vl}(h:Cn ks vs)(k:Int):jU (fj 0 k ks) (fj bJ k vs)∧jU (eY 0 k ks) (eY bJ k vs):=by
 have hl:=h.1;unfold fj eY;rw[hl];refine⟨?_,?_⟩
 ·split
  ·exact h.2 _
  exact BE
 split
 ·exact h.2 _
 exact BE
theorem PJ{l:List cG}{row:List Vl}(hr:FY l row):∀(ops:List aX),(∀o∈ops,zy l o)→∀(ks:List Int) (vs:List Vl),Cn ks vs→(jH 0 (jg l) ops ks).2=0 →
  (jH bJ (fW l row) ops vs).2=5∨((jH bJ (fW l row) ops vs).2=0∧jU (jH 0 (jg l) ops ks).1 (jH bJ (fW l row) ops vs).1)
 | [],_,ks,vs,h,_=>.inr ⟨rfl,h.2 0⟩
 | o::r,hg,ks,vs,h,h0=>by
  obtain⟨hA,hB⟩:=aes h o.k;by_cases hm:(jg l o (fj 0 o.k ks) (eY 0 o.k ks)).2=0
  ·rw[JJ hm] at h0 ⊢;rcases aaQ hr (hg o mem_cons_self) hA hB hm with h5|⟨hz,E⟩
   ·rw[I2 (by rw[h5];decide)];exact .inl h5
   rw[JJ hz];have:=aer h E (n:=ks.length-(bQ o.k).toNat) (Nat.sub_le _ _);rw[show vs.length-(bQ o.k).toNat=ks.length-(bQ o.k).toNat by rw[h.1]];exact PJ hr r (fun x hx=>hg x (mem_cons_of_mem _ hx)) _ _ this h0
  rw[I2 hm] at h0;exact absurd h0 hm
theorem acA(ho:zy l o)(a b:Int):(jg l o a b).2=0∨(jg l o a b).2=4:=by
 unfold jg;split
 ·exact .inl rfl
 split
 ·rename_i h2;have:=ho.Ya h2;unfold u4;rw[if_neg w4];exact .inl rfl
 split
 ·exact .inl rfl
 exact .inr rfl
theorem Q9{l:List cG}:∀(ops:List aX),(∀o∈ops,zy l o)→∀ks,(jH 0 (jg l) ops ks).2=0∨(jH 0 (jg l) ops ks).2=4
 | [],_,ks=>.inl rfl
 | o::r,hg,ks=>by
  rw[jH];split
  ·rename_i hne;rcases acA (hg o mem_cons_self) (fj 0 o.k ks) (eY 0 o.k ks) with h|h
   ·exact absurd h hne
   exact .inr h
  exact Q9 r (fun x hx=>hg x (mem_cons_of_mem _ hx)) _
theorem aet:Cn [] []:=⟨rfl,fun i=>by rw[getD_nil,getD_nil];exact BE⟩
theorem aaR{ops:List aX}(hl:fI l=0)(hw:ec l row=0)(hr:FY l row)(hg:∀o∈ops,zy l o)(hx:iR ops=0) :
  ey l ops=ud l ops∧((ey l ops).2=0∨(ey l ops).2=4)∧((ey l ops).2=4→fu l row ops=(bJ,4)) ∧
  ((ey l ops).2=0→fu l row ops=vg l row ops∧((fu l row ops).2=5∨((fu l row ops).2=0∧jU (ey l ops).1 (fu l row ops).1))):=by
 have hk:ey l ops=ud l ops:=(by unfold ey;rw[if_neg (by simp[hl]),if_neg (by simp[hx])])
 refine⟨hk,by rw[hk];exact Q9 ops hg [],fun h4=>?_,fun h0=>?_⟩
 ·unfold fu;rw[if_neg (by simp[hw]),if_pos xT,h4]
 have he:fu l row ops=vg l row ops:=(by unfold fu;rw[if_neg (by simp[hw]),if_neg (by simp[h0])])
 refine⟨he,?_⟩;rw[he,hk];exact PJ hr ops hg [] [] aet (by rw[hk] at h0;exact h0)
theorem ahp:bD cM ⟨#[105,100]⟩=0:=by decide +kernel
theorem ajH:bD cM ⟨#[110]⟩=1:=by decide +kernel
theorem ajI:bD cM ⟨#[115]⟩=2:=by decide +kernel
theorem ajJ:bD cM ⟨#[98]⟩=3:=by decide +kernel

end Go.Proofs.YtdgichenhdikgaaGreatDoor.Ex
namespace Go.Proofs.YtdgichenhdikgaaGreatDoor.Pc
open List
open Go.Proofs.Tryz
open Go.RowKit V Pk Vl Go.Proofs.YtdgichenhdikgaaGreatDoor.Nm
def typesB:List (List UInt8):=[[],[66,79,79,76],[73,78,84],[84,69,88,84]]
abbrev TypesTab(w:World):Prop:=Tab.mJ w 0 typesC

end Go.Proofs.YtdgichenhdikgaaGreatDoor.Pc
namespace Go.Proofs.YtdgichenhdikgaaGreatDoor.Ex





open List
open Go.Proofs.Tryz
open Go.RowKit V Pk Vl Go.Proofs.YtdgichenhdikgaaGreatDoor.Nm Pc Cd
open Go.Lib (compareBytes)
variable {ops:List aX} {k:List UInt8}
def nD(ops:List aX)(i:Nat):Int:=(ops.getD i (rf 0)).k
def iT(ops:List aX):Nat→Int→Nat
 | 0,_=>0
 | i+1,need=>if need+(bQ (nD ops i)-1)>0 then iT ops i (need+(bQ (nD ops i)-1)) else i
theorem u0{i:Nat}(h:i<ops.length):nD ops i=ops[i].k:=by unfold nD;rw[getD_eq_getElem?_getD,getElem?_eq_getElem h];rfl
theorem Un{h h':Int}{o:aX}(he:fh h o=0)(hp:bQ o.k≤h'):fh h' o=0:=by
 unfold fh at he ⊢;split at he
 ·cases he
 rename_i q1;rw[if_neg q1];split at he
 ·rename_i h2;exact absurd he h2
 rename_i q2;rw[if_neg q2];split at he
 ·cases he
 rename_i E;rw[if_neg E];split at he
 ·rename_i h4;exact absurd he h4.2
 rename_i I;rw[if_neg I,if_neg w4]
theorem Iw{n:Nat}{h:Int}(hn:n<ops.length)(e:runs 0 (ops.take (n+1))=some h):∃h',runs 0 (ops.take n)=some h'∧fh h' ops[n]=0∧h=h'+(1-bQ ops[n].k):=by
 rw[take_succ_eq_append_getElem hn,yE] at e;cases hr:runs 0 (ops.take n) with
 | none=>rw[hr] at e;cases e
 | some h' =>
  rw[hr,Option.bind_some,runs] at e;split at e
  ·rename_i he;rw[runs] at e;cases e;exact⟨h',rfl,he,rfl⟩
  cases e
theorem Ra{ops:List aX}:∀(n:Nat) (need h:Int),n≤ops.length→runs 0 (ops.take n)=some h→1≤need→need≤h →
  iT ops n need<n∧runs 0 (ops.take (iT ops n need))=some (h-need)∧∀k:Int,0≤k→runs k ((ops.take n).drop (iT ops n need))=some (k+need)
 | 0,need,h,_,e,h1,h2=>by rw[List.take_zero,runs] at e;cases e;omega
 | n+1,need,h,hn,e,h1,h2=>by
  have aa:n<ops.length:=(by omega)
  obtain⟨h',e1,e2,U⟩:=Iw aa e;have I:=tI ops[n].k;have rN:=(wz e2).1;have E:∀m,m≤n→(ops.take (n+1)).drop m=(ops.take n).drop m++[ops[n]]:=fun m hm=>by
   rw[take_succ_eq_append_getElem aa,drop_append,show m-(ops.take n).length=0 by rw[length_take];omega,drop_zero]
  rw[iT,u0 aa];by_cases hc:need+(bQ ops[n].k-1)>0
  ·rw[if_pos hc];obtain⟨q1,q2,O⟩:=Ra n (need+(bQ ops[n].k-1)) h' w4 e1 w4 w4;refine⟨by omega,by rw[q2];congr 1;omega,fun k hk=>?_⟩;rw[E _ w4,yE,O k hk,Option.bind_some,runs,if_pos (Un e2 w4),runs];congr 1;omega
  rw[if_neg hc];refine⟨by omega,by rw[e1];congr 1;omega,fun k hk=>?_⟩;rw[E n (Nat.le_refl _),drop_of_length_le o9,nil_append,runs,if_pos (Un e2 w4),runs];congr 1;omega
def mc(key:ByteArray)(o:aX):Bool:=o.k==2&&o.nm.toList==key.toList
def gS(o:aX):Bool:=o.k==1 && !(o.v.k==0)
abbrev lq:=List UInt8×List UInt8
variable {b:lq}
def ox(k:List UInt8)(b:lq):lq:=if compareBytes k b.1>0 then (k,b.2) else b
def sB(k:List UInt8)(b:lq):lq:=if b.2.length=0∨compareBytes k b.2<0 then (b.1,k) else b
def vo(kc:Int)(eq not:Bool)(k:List UInt8)(b:lq):lq :=
 bif eq||(kc==0)!=not then sB k (bif eq||(kc==0)==not then ox k b else b) else bif eq||(kc==0)==not then ox k b else b
def zP(ops:List aX):List UInt8:=(fX [(ops.getD (dR gS (ops.take 2)).toNat (rf 0)).v]).1
def nh(key:ByteArray)(ops:List aX)(not:Bool)(b:lq):lq :=
 if ops.length≠3∨(not=true∧nD ops (ops.length-1)≠7)∨(nD ops (ops.length-1)≠6∧nD ops (ops.length-1)≠7) then b
 else if dR (mc key) (ops.take 2)<0∨dR gS (ops.take 2)<0 then b
 else vo (dR (mc key) (ops.take 2)) (nD ops (ops.length-1)==6) not (zP ops) b
def gg(key:ByteArray):Nat→List aX→lq→lq
 | 0,_,b=>b
 | f+1,ops,b =>
  if nD ops (ops.length-1)=3 then gg key f ((ops.take (ops.length-1)).drop (iT ops (ops.length-1) 1)) (gg key f (ops.take (iT ops (ops.length-1) 1)) b)
  else if nD ops (ops.length-1)=5 then nh key (ops.take (ops.length-1)) true b
  else nh key ops false b
variable {G:List (Nat×List Value)} {m:Int}
theorem aaS(ops:List aX)(qf:ops.length≤40)(n:Nat)(hn:n≤ops.length)(h:Int)(hr:runs 0 (ops.take n)=some h)(h1:1≤h):VP Tryz.prog G 159 [av 5 cO ops,ae (n:Nat)] (ae (iT ops n 1:Nat)):=by
 refine VC.body func159 rfl ntmps159 aQ fun X0 w0 bg=>?_;refine af [0,1] ?_;refine af [0,5] ?_;refine af [0,5,6] ?_;refine eD [0] (fun aW _ (E:Nat×Int) aH=>match E with|(i,need)=>(i≤n)∧(0≤need)∧(need≤1+2*((n:Int)-i))∧((need=0∧iT ops n 1=i)∨(1≤need∧iT ops n 1=iT ops i need∧∃h,runs 0 (ops.take i)=some h∧need≤h))∧aH=(⟨22,(5,ae (i:Nat))::(6,ae need)::aW,[]⟩:St)) (fun (E:Nat×Int)=>match E with|(i,need)=>i) (n,1) ⟨(Nat.le_refl _),w7,w4,(.inr ⟨by decide,rfl,h,hr,h1⟩),rfl⟩ ?_;rintro⟨i,need⟩ _ ⟨hi,gN,vR,hinv,rfl⟩;refine af [0,5,6,9] ?_;refine au ?_ ?_<;>intro aO bE
 ·obtain⟨hz,_⟩|⟨gv,I,h2,e1,e2⟩:=hinv
  ·omega
  have NJ:0<i:=(by rcases Nat.eq_zero_or_pos i with rfl|h;rw[List.take_zero,runs] at e1;cases e1;omega;exact h)
  have O:-9223372036854775808≤((i-1:Nat):Int):=(by omega)
  have U:((i-1:Nat):Int)≤9223372036854775807:=(by omega)
  have kj:(i:Int)-1=((i-1:Nat):Int):=(by omega)
  have aa:i-1<ops.length:=(by omega)
  have uI:=tI ops[i-1].k;obtain⟨h3,e3,e4,e5⟩:=Iw aa (by rw[show i-1+1=i by omega];exact e1);have rN:=(wz e4).1;have Z:iT ops i need=if need+(bQ ops[i-1].k-1)>0 then iT ops (i-1) (need+(bQ ops[i-1].k-1)) else i-1:=by obtain⟨j,rfl⟩:∃j,i=j+1:=⟨i-1,by omega⟩;rw[iT,u0 w4];rfl
  have nT:(need+(bQ ops[i-1].k-1)=0∧iT ops n 1=i-1)∨(1≤need+(bQ ops[i-1].k-1)∧iT ops n 1=iT ops (i-1) (need+(bQ ops[i-1].k-1))∧∃h,runs 0 (ops.take (i-1))=some h∧need+(bQ ops[i-1].k-1)≤h):=(by (by_cases hc:need+(bQ ops[i-1].k-1)>0);exact .inr ⟨by omega,by rw[I,Z,if_pos hc],h3,e3,by omega⟩;exact .inl ⟨by omega,by rw[I,Z,if_neg hc]⟩)
  refine cZ [0,5,6] ?_;refine aS 1 ?_ (h:=by exact(dw rfl ot bP (gj (r:=((i-1:Nat):Int)) (by rw[kj];exact wrap_i64 O U))));refine bK ?_;refine iv [0,5,6] ?_;refine di (EQ ops[i-1].k) ?_;refine bK ?_;refine⟨((i-1),(need+(bQ ops[i-1].k-1))),_,cz,aK,w4,w4,w4,nT,rfl⟩
 have aV:iT ops n 1=i:=(by rcases hinv with ⟨_,h⟩|⟨h,_⟩;exact h;omega)
 refine af [4] ?_;exact uz
theorem PM(ls:List aX)(g:Nat)(E:List D)(S:List ah)(p:aX→Bool)(fq:∀args w,(callFunc g args).run Tryz.prog w = .ok (.enter g args) w)(hp:∀x∈ls,VC Tryz.prog G g (.agg (cO x)::E) S (fun r S'=>r=bS (p x)∧S'=S))(hlen:ls.length≤1000000):VC Tryz.prog G 160 [av 5 cO ls,.eC (.func g) E] S (fun r S'=>r=ae (dR p ls)∧S'=S):=by
 refine VC.body func160 rfl ntmps160 aQ fun X0 w0 bg=>?_;unfold cO at hp;exact WB
theorem aaT(o:aX)(nm:ByteArray)(b:Nat):VC Tryz.prog G 161 [.agg (cO o),dM b] [⟨b,9,1,[bn nm]⟩] (fun r S=>r=bS (mc nm o)∧S=[⟨b,9,1,[bn nm]⟩]):=by
 refine VC.body func161 rfl ntmps161 aQ fun X0 w0 bg=>?_;unfold cO mc;refine bY ?_;refine OD.box (ds:=[_,_,_,_,_]) ap rfl rfl ot rfl rfl (fun b2=>?_);refine an 13 [1,2] ?_;refine aD 4 ?_;refine bW 7 (fun I E=>?_) (fun I E=>?_)
 ·refine bf [3] ?_;refine aJ [⟨b,9,1,[bn nm]⟩] ?_;first|exact⟨rfl,rfl⟩|(refine⟨vb ?_,rfl⟩;simp_all)
 refine bf [3] ?_;refine aJ [⟨b,9,1,[bn nm]⟩] ?_;first|exact⟨rfl,rfl⟩|(refine⟨vb ?_,rfl⟩;simp_all)
theorem aaU(o:aX):VC Tryz.prog G 162 [.agg (cO o)] [] (fun r S=>r=bS (gS o)∧S=[]):=by
 refine VC.body func162 rfl ntmps162 aQ fun X0 w0 bg=>?_;unfold cO gS;refine bY ?_;refine OD.box (ds:=[_,_,_,_,_]) ap rfl rfl ot rfl rfl (fun b1=>?_);refine an 12 [1] ?_;refine aD 4 ?_;refine bW 6 (fun I E=>?_) (fun I E=>?_)
 ·refine bf [2] ?_;refine eO ?_;first|exact⟨rfl,rfl⟩|(refine⟨vb ?_,rfl⟩;simp_all;done)|(refine⟨vb ?_,rfl⟩;simp_all;rfl)
 refine bf [2] ?_;refine eO ?_;first|exact⟨rfl,rfl⟩|(refine⟨vb ?_,rfl⟩;simp_all;done)|(refine⟨vb ?_,rfl⟩;simp_all;rfl)
theorem RX(a b:List UInt8):VP Tryz.prog G 51 [av 1 cB a,av 1 cB b] (ae (compareBytes a b)):=by
 exact z130
theorem aaV:(Tryz.prog.info? 5).map (fun i=>(i.zero,i.size,i.bytes))=some (some (.int .u8 0),1,1):=by kernel_rfl
theorem IR(a:List UInt8)(ha:a.length≤1000):VP Tryz.prog G 95 [av 1 cB a] (av 1 cB a):=by
 refine VC.body func95 rfl ntmps95 aQ fun X0 w0 bg=>?_;have dz:=ei;refine af [0] ?_;refine aD 1 ?_;refine OD.zm ap rfl rfl ot bP underlying88 (fun O xY=>?_);refine an 8 [0,4] ?_;refine au ?_ ?_<;>intro aO bE
 ·exact Xi
 refine bY ?_;refine OD.zn ap rfl rfl runUnderlying88 sizeOf5 (fun b5=>?_);refine aE 1 ?_;refine OD.pF (ls:=([]:List UInt8)) (new:=a) (Sq:=[⟨b5,5,0*1,[]⟩]) pL wK ap rfl rfl underlying88 aaV rfl w7 runUnderlying88 sizeOf5 ot (.inr ⟨b5,rfl,Nat.le_refl _,Nat.zero_le _,rfl⟩) (dg (A:=[])) ot iu iu (fun E I S7 qa=>?_);exact VB
theorem Fb(l:List Vl):(fX l).1.length≤100:=by
 unfold fX;split
 ·simp
 split
 ·simp
 split
 ·simp
 simpa using by omega
theorem aeu(hk:k.length≤100)(h1:b.1.length≤100)(h2:b.2.length≤100):(ox k b).1.length≤100∧(ox k b).2.length≤100:=by unfold ox;split<;>exact⟨by assumption,by assumption⟩
theorem Rb(hk:k.length≤100)(h1:b.1.length≤100)(h2:b.2.length≤100):(sB k b).1.length≤100∧(sB k b).2.length≤100:=by unfold sB;split<;>exact⟨by assumption,by assumption⟩
theorem aev{E:Int}{eq not:Bool}(hk:k.length≤100)(h1:b.1.length≤100)(h2:b.2.length≤100):(vo E eq not k b).1.length≤100∧(vo E eq not k b).2.length≤100:=by
 unfold vo;have q1:=aeu hk h1 h2;have q2:=Rb hk h1 h2;have I:=Rb hk q1.1 q1.2;cases(eq||(E==0)!=not)<;>cases(eq||(E==0)==not)
 ·exact⟨h1,h2⟩
 ·exact q1
 ·exact q2
 exact I
theorem yO{key:ByteArray}{not:Bool}(h1:b.1.length≤100)(h2:b.2.length≤100):(nh key ops not b).1.length≤100∧(nh key ops not b).2.length≤100:=by
 unfold nh;split
 ·exact⟨h1,h2⟩
 split
 ·exact⟨h1,h2⟩
 exact aev (Fb _) h1 h2
theorem JK(key:ByteArray):∀(f:Nat) (ops:List aX) (b:lq),b.1.length≤100→b.2.length≤100→(gg key f ops b).1.length≤100∧(gg key f ops b).2.length≤100
 | 0,_,b,h1,h2=>⟨h1,h2⟩
 | f+1,ops,b,h1,h2=>by
  rw[gg];split
  ·have q:=JK key f (ops.take (iT ops (ops.length-1) 1)) b h1 h2;exact JK key f _ _ q.1 q.2
  split
  ·exact yO h1 h2
  exact yO h1 h2
theorem ER(h:runs 0 ops=some 1):1≤ops.length:=by
 cases ops with
 | nil=>rw[runs] at h;cases h
 | cons=>simp
theorem Re(h:runs 0 ops=some 1):∃(hn:ops.length-1<ops.length),runs 0 (ops.take (ops.length-1))=some (bQ ops[ops.length-1].k):=by
 have hp:=ER h;have aa:ops.length-1<ops.length:=(by omega)
 refine⟨aa,?_⟩;obtain⟨h',e1,e2,E⟩:=Iw aa (by rw[show ops.length-1+1=ops.length by omega,take_length];exact h);rw[e1];congr 1;omega
theorem aew(h:runs 0 ops=some 1)(hk:nD ops (ops.length-1)=3):iT ops (ops.length-1) 1<ops.length-1∧runs 0 (ops.take (iT ops (ops.length-1) 1))=some 1∧runs 0 ((ops.take (ops.length-1)).drop (iT ops (ops.length-1) 1))=some 1∧runs 0 (ops.take (ops.length-1))=some 2:=by
 obtain⟨hn,e⟩:=Re h;rw[u0 hn] at hk;rw[hk] at e;obtain⟨q1,q2,E⟩:=Ra (ops.length-1) 1 2 w4 e w7 w7;exact⟨q1,q2,E 0 w7,e⟩
variable {key:ByteArray}
theorem af1{ls:List aX}{j:Nat}(h:j<ls.length):((ls.flatMap cO).drop (j*5+1)).take 3=cV ls[j].v:=by
 rw[←drop_drop,uV nf,drop_eq_getElem_cons h,flatMap_cons];rfl
theorem acB(hG:(2,[Value.int .i64 m])∈G)(key:ByteArray)(f:Nat)(hf:f≤40)(IH:∀(ops:List aX) (lo hi:List UInt8),ops.length≤f→runs 0 ops=some 1→(∀o∈ops,o.v.Ok)→lo.length≤100→hi.length≤100→∀b0,VC Tryz.prog G 151 [dM b0,bn key,av 5 cO ops] [⟨b0,225,2,[av 1 cB lo,av 1 cB hi]⟩] (fun r S=>r = .dJ []∧S=[⟨b0,225,2,[.list 1 ((gg key f ops (lo,hi)).1.flatMap cB) (gg key f ops (lo,hi)).1.length,.list 1 ((gg key f ops (lo,hi)).2.flatMap cB) (gg key f ops (lo,hi)).2.length]⟩]))(ops:List aX)(lo hi:List UInt8)(hl:ops.length≤f+1)(qf:ops.length≤40)(hr:runs 0 ops=some 1)(aR:∀o∈ops,o.v.Ok)(eV:lo.length≤100)(eG:hi.length≤100)(b0:Nat):VC Tryz.prog G 151 [dM b0,bn key,av 5 cO ops] [⟨b0,225,2,[av 1 cB lo,av 1 cB hi]⟩] (fun r S=>r = .dJ []∧S=[⟨b0,225,2,[.list 1 ((gg key (f+1) ops (lo,hi)).1.flatMap cB) (gg key (f+1) ops (lo,hi)).1.length,.list 1 ((gg key (f+1) ops (lo,hi)).2.flatMap cB) (gg key (f+1) ops (lo,hi)).2.length]⟩]):=by
 refine VC.body func151 rfl ntmps151 aQ fun X0 w0 bg=>?_;have hp0:=ER hr;obtain⟨gv,Yb⟩:=Re hr;have I:=u0 gv;have dz:=ei;have uI:=tI ops[ops.length-1].k;refine bY ?_;refine OD.box (ds:=[_]) ap rfl rfl ot rfl rfl (fun b4=>?_);refine an 155 [0,2,4] ?_;refine cZ [0,2,4,6] ?_;refine aS 2 ?_ (h:=by exact(dw rfl ot bP (gj (r:=((ops.length-1:Nat):Int)) (by rw[show((ops.length:Nat):Int)-1=((ops.length-1:Nat):Int) by omega];exact wrap_i64 w4 w4))));refine bK ?_;refine af [0,2,4,6,22] ?_;refine au ?_ ?_<;>intro aO bE
 ·have lZ:nD ops (ops.length-1)=3:=(by rw[I];omega)
  obtain⟨Dp,Xu,hm3,hm4⟩:=aew hr lZ;have aV:(gg key (f+1) ops (lo,hi))=gg key f ((ops.take (ops.length-1)).drop (iT ops (ops.length-1) 1)) (gg key f (ops.take (iT ops (ops.length-1) 1)) (lo,hi)):=(by rw[gg,if_pos lZ])
  have Dq:=JK key f (ops.take (iT ops (ops.length-1) 1)) (lo,hi) eV eG;refine cX [0,2,4,6,7] (aaS ops w4 (ops.length-1) w4 2 hm4 w7) ?_;refine CD.seq ?_;refine mv 5 [0,2,4,6,7,26,27,30] ?_;refine aS 4 ?_ (h:=by exact(eA (l:=0) rfl ot trivial ⟨_,ot⟩ GR));refine jZ ?_;refine OD.call ap rfl rfl rfl call151 (IH (ops.take (iT ops (ops.length-1) 1)) (lo) (hi) (by simp only[length_drop,length_take];omega) Xu (fun o ho=>aR o (mem_of_mem_take ho)) w4 w4 b0) ⟨ot,ot,ot,trivial⟩ (kr (k:=1) rfl) ?_;rintro _ _ ⟨rfl,rfl⟩;refine an 155 [0,2,4,6,7] ?_;refine CD.seq ?_;refine mv 6 [32,33,37] ?_;refine aS 5 ?_ (h:=by exact(eA (l:=(iT ops (ops.length-1) 1)) (h:=(ops.length-1)) rfl ot ⟨_,ot⟩ ⟨_,ot⟩ (afL nf (fun h=>by cases h) (fun h=>by cases h) runUnderlying30 sizeOf43 w4 w4)));refine jZ ?_;refine OD.call ap rfl rfl rfl call151 (IH ((ops.take (ops.length-1)).drop (iT ops (ops.length-1) 1)) ((gg key f (ops.take (iT ops (ops.length-1) 1)) (lo,hi)).1) ((gg key f (ops.take (iT ops (ops.length-1) 1)) (lo,hi)).2) (by simp only[length_drop,length_take];omega) hm3 (fun o ho=>aR o (mem_of_mem_take (mem_of_mem_drop ho))) w4 w4 b0) ⟨ot,ot,ot,trivial⟩ (kr (k:=0) rfl) ?_;rintro _ _ ⟨rfl,rfl⟩;refine an 155 [] ?_;exact WR
 have lZ:¬nD ops (ops.length-1)=3:=(by rw[I];omega)
 refine af [0,2,4,6,8] ?_;refine CD.cut (fun aH=>∃(bw:List aX),∃(nt:Bool),((gg key (f+1) ops (lo,hi))=nh key bw nt (lo,hi))∧(1≤bw.length)∧(bw.length≤40)∧(∀o∈bw,o.v.Ok)∧(bw.length-1<bw.length)∧aH=(⟨155,[(0,dM b0),(2,av 5 cO bw),(4,dM b4),(6,ae ((bw.length-1):Nat)),(8,bS nt)],[⟨b4,9,1,[bn key]⟩,⟨b0,225,2,[av 1 cB lo,av 1 cB hi]⟩]⟩:St)) ?_ ?_
 ·refine af [0,2,4,6,8,45] ?_;refine au ?_ ?_<;>intro aY cJ
  ·have U:nD ops (ops.length-1)=5:=(by rw[I];simpa using aY)
   have iP:2≤ops.length:=(by rw[←I,U] at Yb;have:=ER Yb;rw[length_take] at this;omega)
   have AL:(gg key (f+1) ops (lo,hi))=nh key (ops.take (ops.length-1)) true (lo,hi):=(by rw[gg,if_neg lZ,if_pos U])
   have o8:(ops.take (ops.length-1)).length=(ops.length-1):=(by rw[length_take];omega)
   refine cZ [0,2,4,6,8] ?_;refine aS 2 ?_ (h:=by exact(eA (l:=0) rfl ot trivial ⟨_,ot⟩ GR));refine bK ?_;refine iv [0,2,4,6,8] ?_;refine aS 1 ?_ (h:=by exact(dw rfl ot bP (gj (r:=((ops.length-1-1:Nat):Int)) (by rw[show((ops.length-1:Nat):Int)-1=((ops.length-1-1:Nat):Int) by omega];exact wrap_i64 w4 w4))));refine bK ?_;refine⟨_,(aK (h:=by repeat (first|exact trivial|refine⟨(by (repeat (first|exact fB|(apply fU;focus (first|rfl|(rw[o8];done)|(rw[aY];done)))|(apply fH;focus rfl)));done),?_⟩))),(ops.take (ops.length-1)),true,AL,w4,w4,(fun o ho=>aR o (mem_of_mem_take ho)),w4,rfl⟩
  have U:¬nD ops (ops.length-1)=5:=(by rw[I];simpa using aY)
  have AL:(gg key (f+1) ops (lo,hi))=nh key ops false (lo,hi):=(by rw[gg,if_neg lZ,if_neg U])
  refine CD.skip ?_;refine⟨_,(aK (h:=by repeat (first|exact trivial|refine⟨(by (repeat (first|exact fB|(apply fU;focus (first|rfl|(rw[o8];done)|(rw[aY];done)))|(apply fH;focus rfl)));done),?_⟩))),ops,false,AL,hp0,qf,aR,gv,rfl⟩
 rintro _ ⟨bw,nt,aV,oF,apB,jW,vp,rfl⟩;refine jQ [0,2,4,6,8] (fun aW uL aH=>(¬(bw.length≠3∨(nt=true∧bw[bw.length-1].k≠7)∨(bw[bw.length-1].k≠6∧bw[bw.length-1].k≠7)))∧aH=(⟨155,aW,uL⟩:St)) ?_ ?_
 ·refine aD 3 ?_;refine bW 53 (fun Lz KK=>?_) (fun Lz KK=>?_)
  ·refine bf [0,2,4,6,8,79] ?_;refine eI ?_;exact z37
  refine aE 2 ?_;refine bW 55 (fun ug ahq=>?_) (fun ug ahq=>?_)
  ·refine aE 9 ?_;refine bW 64 (fun LK KN=>?_) (fun LK KN=>?_)
   ·refine bf [0,2,4,6,8,79] ?_;refine eI ?_;exact z37
   refine aE 7 ?_;exact WM
  refine x5 6 ?_;refine aE 10 ?_;exact WM
 rintro _ ⟨sH,rfl⟩;refine aD 1 ?_;refine bN (eA (l:=0) (h:=2) rfl ot trivial ⟨_,bP⟩ GR) ?_;refine bN (pG (ds:=[_]) rfl ⟨ot,trivial⟩) ?_;refine OD.call ap rfl rfl rfl call160 (PM (bw.take 2) 161 [dM b4] _ (mc key) call161 (fun h _=>aaT h key b4) o9) ⟨ot,ot,trivial⟩ (kr (k:=0) rfl) ?_;rintro _ SS2 ⟨rfl,E⟩;rw[E];clear E;refine an 155 [0,2,6,8,9] ?_;refine aD 1 ?_;refine bN (eA (l:=0) (h:=2) rfl ot trivial ⟨_,bP⟩ GR) ?_;refine OD.call ap rfl rfl rfl call160 (PM (bw.take 2) 162 [] [] gS call162 (fun h _=>aaU h) o9) ⟨ot,tv,trivial⟩ (eR _) ?_;rintro _ SS2 ⟨rfl,E⟩;rw[E];clear E;refine an 155 [0,2,6,8,9,10] ?_;refine aD 3 ?_;refine bW 89 (fun ajK ahr=>?_) (fun ajK ahr=>?_)
 ·refine bf [0,2,6,8,9,10,92] ?_;refine eI ?_;exact Vy
 refine bf [0,2,6,8,9,10,92] ?_;refine au ?_ ?_<;>intro da ek
 ·exact Vy
 have cm:¬((dR (mc key) (bw.take 2))<0∨(dR gS (bw.take 2))<0):=(by first|omega|(simp_all;omega)|simp_all)
 have hLb:=wD gS (bw.take 2);have He:bw.length=3:=(by omega)
 rw[length_take] at hLb;have O:(dR gS (bw.take 2)).toNat<bw.length:=(by omega)
 have Nn:zP bw=(fX [bw[(dR gS (bw.take 2)).toNat].v]).1:=(by unfold zP;rw[getD_eq_getElem?_getD,getElem?_eq_getElem O];rfl)
 have UJ:(gg key (f+1) ops (lo,hi))=vo (dR (mc key) (bw.take 2)) (bw[bw.length-1].k==6) nt (fX [bw[(dR gS (bw.take 2)).toNat].v]).1 (lo,hi):=(by rw[aV];unfold nh;rw[u0 vp,if_neg sH,if_neg cm,Nn])
 have yo:=afO hG [bw[(dR gS (bw.take 2)).toNat].v] iu (fun v hv=>by rw[mem_singleton] at hv;rw[hv];exact jW _ (getElem_mem O));have dX:=Fb [bw[(dR gS (bw.take 2)).toNat].v];unfold Lq BD at yo;refine cZ [0,2,6,8,9,11] ?_;refine aS 2 ?_ (h:=by exact(dc 5 (h:=by first|exact .l (j:=(dR gS (bw.take 2)).toNat) w4 O|exact .r (j:=(dR gS (bw.take 2)).toNat) w4 O)));refine aS 1 ?_ (h:=by exact(cU (mk:=Op.load 41) rfl ot (pN isAgg41 sizeOf41 rfl (af1 O))));refine di (yo) ?_;refine bK ?_;refine af [0,8,9,11,13] ?_;refine jQ [0,8,9,11,13] (fun aW _ aH=>∃(b1:lq),(b1=(bif (bw[bw.length-1].k==6)||(((dR (mc key) (bw.take 2))==0)==nt) then ox (fX [bw[(dR gS (bw.take 2)).toNat].v]).1 (lo,hi) else (lo,hi)))∧(b1.1.length≤100)∧(b1.2.length≤100)∧aH=(⟨155,aW,[⟨b0,225,2,[av 1 cB b1.1,av 1 cB b1.2]⟩]⟩:St)) ?_ ?_
 ·refine aD 2 ?_;refine bW 110 (fun Ky Z=>?_) (fun Ky Z=>?_)
  ·refine bf [0,8,9,11,13,115] ?_;refine eI ?_;exact WH
  refine aE 3 ?_;refine OD.still iw rfl (dw rfl ot ot (EH underlying4)) ?_;refine an 155 [0,8,9,11,13,115] ?_;refine au ?_ ?_<;>intro ez fw
  ·exact WH
  have CN:(lo,hi)=(bif (bw[bw.length-1].k==6)||(((dR (mc key) (bw.take 2))==0)==nt) then ox (fX [bw[(dR gS (bw.take 2)).toNat].v]).1 (lo,hi) else (lo,hi)):=(by rw[Ky,ez];rfl)
  refine CD.skip ?_;refine⟨_,aK,(lo,hi),CN,(by first|exact dX|exact eV),eG,rfl⟩
 rintro _ ⟨b1,jk,apC,apD,rfl⟩;refine aD 2 ?_;refine bW 129 (fun Kx af2=>?_) (fun Kx af2=>?_)
 ·refine bf [0,11,134] ?_;refine eI ?_;exact Wz
 refine aE 3 ?_;refine OD.still iw rfl (dw rfl ot ot (Qx underlying4)) ?_;refine an 155 [0,11,134] ?_;refine au ?_ ?_<;>intro gY kS
 ·exact Wz
 have MH:((bw[bw.length-1].k==6) || !(((dR (mc key) (bw.take 2))==0)==nt))=false:=(by rw[Kx,gY];rfl)
 have sZ:(gg key (f+1) ops (lo,hi))=b1:=(by rw[UJ];unfold vo;rw[show((bw[bw.length-1].k==6)||((dR (mc key) (bw.take 2))==0)!=nt)=false from MH,←jk];rfl)
 refine aJ [⟨b0,_,_,_⟩] ?_;refine⟨rfl,?_⟩;first|rw[sZ]|rw[aV]
theorem Uo(hG:(2,[Value.int .i64 m])∈G)(key:ByteArray):∀(f:Nat),f≤40→∀(ops:List aX) (lo hi:List UInt8),ops.length≤f→runs 0 ops=some 1→(∀o∈ops,o.v.Ok)→lo.length≤100→hi.length≤100→∀b0,VC Tryz.prog G 151 [dM b0,bn key,av 5 cO ops] [⟨b0,225,2,[av 1 cB lo,av 1 cB hi]⟩] (fun r S=>r = .dJ []∧S=[⟨b0,225,2,[.list 1 ((gg key f ops (lo,hi)).1.flatMap cB) (gg key f ops (lo,hi)).1.length,.list 1 ((gg key f ops (lo,hi)).2.flatMap cB) (gg key f ops (lo,hi)).2.length]⟩]):=by
 intro f;induction f with
 | zero =>
  intro _ ops lo hi hl hr;have:=ER hr;omega
 | succ f IH =>
  intro hf ops lo hi hl hr aR eV eG b0;exact acB hG key f w4 (IH w4) ops lo hi hl w4 hr aR eV eG b0
def iI(l:List cG)(ops:List aX):lq×Int :=
 if fI l≠0 then (([],[]),fI l) else if ops.length=0 then (([],[]),0) else if (ey l ops).2≠0 then (([],[]),(ey l ops).2)
 else if (ey l ops).1≠1∧(ey l ops).1≠0 then (([],[]),4) else (gg (l.getD 0 ⟨⟨#[]⟩,0⟩).n ops.length ops ([],[]),0)
def NK(r:lq×Int):D:=.dJ [BD r.1.1,BD r.1.2,ae r.2]
theorem acC{l:List cG}(h:fI l=0):0<l.length:=by
 unfold fI at h;split at h
 ·cases h
 omega
theorem ZQ(h:iR ops=0):runs 0 ops=some 1:=by
  obtain⟨_,h0⟩:=wE h;have key:∀(l:List aX) (k:Int),fK k l=0→runs k l=some 1:=by
    intro l;induction l with
    | nil => intro k h; rw[fK] at h; split at h; · rename_i e; rw[runs, e]
             · cases h
    | cons o r ih =>
      intro k h;rw[fK] at h;split at h
      · rename_i e;rw[runs,if_pos e];exact ih _ h
      rename_i e;exact absurd h e
  exact key ops 0 h0
theorem aaW(hm:(3,marksC)∈G)(hw:(1,wordsC)∈G)(ht:(0,typesC)∈G)(hG:(2,[Value.int .i64 m])∈G)(l:List cG)(hl:l.length≤6)(I:∀c∈l,c.n.size≤maxLen)(ops:List aX)(ho:∀o∈ops,o.nm.size≤maxLen)(aR:∀o∈ops,o.v.Ok):VP Tryz.prog G 128 [av 2 cC l,av 5 cO ops] (NK (iI l ops)):=by
 refine VC.body func128 rfl ntmps128 aQ fun X0 w0 bg=>?_;have dz:=ei;have e9:=Ff hm hw ht l w4 I;have Z:=JH hm hw ht l hl I ops ho;unfold pV at Z;unfold NK BD;refine af [0,1] ?_;refine cX [0,1,7] (e9) ?_;refine af [0,1,7,13] ?_;refine au ?_ ?_<;>intro aO bE
 ·have h0:fI l≠0:=(by simpa using aO)
  have aV:iI l ops=(([],[]),fI l):=(by unfold iI;rw[if_pos h0])
  exact Gk
 have h0:¬fI l≠0:=(by simpa using aO)
 have E:=acC (Classical.not_not.1 h0);refine af [0,1,17] ?_;refine au ?_ ?_<;>intro aY cJ
 ·have h1:ops.length=0:=(by simpa using aY)
  have aV:iI l ops=(([],[]),0):=(by unfold iI;rw[if_neg h0,if_pos h1])
  exact Gk
 have h1:¬ops.length=0:=(by simpa using aY)
 refine cX [0,1,6,8] (Z) ?_;refine af [0,1,6,8,25] ?_;refine au ?_ ?_<;>intro cm cW
 ·have h2:(ey l ops).2≠0:=(by simpa using cm)
  have aV:iI l ops=(([],[]),(ey l ops).2):=(by unfold iI;rw[if_neg h0,if_neg h1,if_pos h2])
  exact Gk
 have h2:¬(ey l ops).2≠0:=(by simpa using cm)
 obtain⟨k1,k2,k3⟩:=Fg (Classical.not_not.1 h2);have AL:=ZQ k2;obtain⟨qf,_⟩:=wE k2;refine aD 3 ?_;refine bW 29 (fun ajL O=>?_) (fun ajL O=>?_)
 ·refine bf [0,1,32] ?_;refine au ?_ ?_<;>intro da ek
  ·have h3:(ey l ops).1≠1∧(ey l ops).1≠0:=(by simp_all)
   have aV:iI l ops=(([],[]),4):=(by unfold iI;rw[if_neg h0,if_neg h1,if_neg h2,if_pos h3])
   exact Gk
  have h3:¬((ey l ops).1≠1∧(ey l ops).1≠0):=(by simp_all)
  have aV:iI l ops=(gg l[0].n ops.length ops ([],[]),0):=(by unfold iI;rw[if_neg h0,if_neg h1,if_neg h2,if_neg h3,getD_eq_getElem?_getD,getElem?_eq_getElem E];rfl)
  refine aD 1 ?_;refine OD.box (ds:=[_,_]) ap rfl rfl ot rfl rfl (fun U=>?_);refine OD.wk (Wk.VQ (k:=0) (sz:=1) (sz':=1) rfl) ?_;refine an 50 [0,1,9] ?_;refine aD 2 ?_;refine bN (so (mk:=Op.indexAddr 27) rfl ot bP (by first|exact tO runUnderlying27 sizeOf69 (j:=0) rfl E|exact tX runUnderlying27 sizeOf69 (j:=0) rfl E)) ?_;refine aE 3 ?_;refine OD.call ap rfl rfl rfl call151 (Uo hG l[0].n ops.length qf ops [] [] (Nat.le_refl _) AL aR (Nat.zero_le _) (Nat.zero_le _) U) ⟨ot,ot,ot,trivial⟩ (kr (k:=0) rfl) ?_;rintro _ _ ⟨rfl,rfl⟩;refine an 50 [9] ?_;refine af [4,5,6] ?_;exact oE
 refine bf [0,1,32] ?_;refine fN ?_;have h3:¬((ey l ops).1≠1∧(ey l ops).1≠0):=(by simp_all)
 have aV:iI l ops=(gg l[0].n ops.length ops ([],[]),0):=(by unfold iI;rw[if_neg h0,if_neg h1,if_neg h2,if_neg h3,getD_eq_getElem?_getD,getElem?_eq_getElem E];rfl)
 refine aD 1 ?_;refine OD.box (ds:=[_,_]) ap rfl rfl ot rfl rfl (fun U=>?_);refine OD.wk (Wk.VQ (k:=0) (sz:=1) (sz':=1) rfl) ?_;refine an 50 [0,1,9] ?_;refine aD 2 ?_;refine bN (so (mk:=Op.indexAddr 27) rfl ot bP (by first|exact tO runUnderlying27 sizeOf69 (j:=0) rfl E|exact tX runUnderlying27 sizeOf69 (j:=0) rfl E)) ?_;refine aE 3 ?_;refine OD.call ap rfl rfl rfl call151 (Uo hG l[0].n ops.length qf ops [] [] (Nat.le_refl _) AL aR (Nat.zero_le _) (Nat.zero_le _) U) ⟨ot,ot,ot,trivial⟩ (kr (k:=0) rfl) ?_;rintro _ _ ⟨rfl,rfl⟩;refine an 50 [9] ?_;refine af [4,5,6] ?_;exact uz

end Go.Proofs.YtdgichenhdikgaaGreatDoor.Ex
namespace Go.Proofs.YtdgichenhdikgaaGreatDoor.Tr
open List
open Go.Proofs.Tryz
open Go.Lib (compareBytes)
variable {i j:Nat}
abbrev K:=List UInt8
variable {a b c k low:K}
theorem Hv(a b:UInt8)(x y:K):compareBytes (a::x) (b::y)=if a<b then -1 else if b<a then 1 else compareBytes x y:=by rw[compareBytes]
theorem u8{a b:UInt8}:a<b↔a.toNat<b.toNat:=UInt8.lt_iff_toNat_lt
theorem yp:∀(x y:K),(compareBytes x y = -1∧compareBytes y x=1)∨(compareBytes x y=0∧x=y)∨(compareBytes x y=1∧compareBytes y x = -1)
 | [],[]=>.inr (.inl ⟨rfl,rfl⟩)
 | [],_::_=>.inl ⟨rfl,rfl⟩
 | _::_,[]=>.inr (.inr ⟨rfl,rfl⟩)
 | a::x,b::y=>by
  rw[Hv,Hv];by_cases h1:a<b
  ·have h2:¬b<a:=(by rw[u8] at h1 ⊢;omega)
   rw[if_pos h1,if_neg h2,if_pos h1];exact .inl ⟨rfl,rfl⟩
  by_cases h2:b<a
  ·rw[if_neg h1,if_pos h2,if_pos h2];exact .inr (.inr ⟨rfl,rfl⟩)
  rw[if_neg h1,if_neg h2,if_neg h2,if_neg h1];have qR:a=b:=by
   apply UInt8.toNat_inj.1;rw[u8] at h1 h2;omega
  subst qR;rcases yp x y with h|⟨h,e⟩|h
  ·exact .inl h
  ·exact .inr (.inl ⟨h,by rw[e]⟩)
  exact .inr (.inr h)
theorem UT:∀(x y z:K),compareBytes x y = -1→compareBytes y z = -1→compareBytes x z = -1
 | [],[],_,h,_=>by cases h
 | _::_,[],_,h,_=>by cases h
 | _,_::_,[],_,h=>by cases h
 | [],_::_,_::_,_,_=>rfl
 | a::x,b::y,c::z,h1,h2=>by
  rw[Hv] at h1 h2 ⊢;by_cases p:a<b
  ·by_cases q:b<c
   ·rw[if_pos (by rw[u8] at p q ⊢;omega)]
   rw[if_neg q] at h2;by_cases r:c<b
   ·rw[if_pos r] at h2;cases h2
   rw[if_pos (by rw[u8] at p q r ⊢;omega)]
  rw[if_neg p] at h1;by_cases p':b<a
  ·rw[if_pos p'] at h1;cases h1
  rw[if_neg p'] at h1;by_cases q:b<c
  ·rw[if_pos (by rw[u8] at p p' q ⊢;omega)]
  rw[if_neg q] at h2;by_cases r:c<b
  ·rw[if_pos r] at h2;cases h2
  rw[if_neg r] at h2;rw[if_neg (by rw[u8] at p p' q r ⊢;omega),if_neg (by rw[u8] at p p' q r ⊢;omega)];exact UT x y z h1 h2
def bF(a b:K):Prop:=compareBytes a b<0
instance (a b:K):Decidable (bF a b):=inferInstanceAs (Decidable (_<_))
theorem JL:bF a b↔compareBytes a b = -1:=by
 unfold bF;rcases yp a b with ⟨h,_⟩|⟨h,_⟩|⟨h,_⟩<;>rw[h]<;>decide
theorem T5:0<compareBytes a b↔bF b a:=by
 unfold bF;rcases yp a b with ⟨h,h'⟩|⟨h,rfl⟩|⟨h,h'⟩
 ·rw[h,h'];decide
 ·rw[h]
 rw[h,h'];decide
theorem Kj(a:K):¬bF a []:=by
 unfold bF;cases a with
 | nil=>decide
 | cons x y=>show ¬(1:Int)<0;decide
theorem jR(a:K):¬bF a a:=fun h=>by
 rcases yp a a with ⟨h1,h2⟩|⟨h1,_⟩|⟨h1,h2⟩
 ·omega
 ·unfold bF at h;omega
 omega
theorem mg(h1:bF a b)(h2:bF b c):bF a c:=JL.2 (UT a b c (JL.1 h1) (JL.1 h2))
theorem za(h:bF a b):¬bF b a:=fun h'=>jR a (mg h h')
theorem zb(a b:K):bF a b∨a=b∨bF b a:=by
 unfold bF;rcases yp a b with ⟨h,_⟩|⟨_,h⟩|⟨_,h⟩
 ·exact .inl w4
 ·exact .inr (.inl h)
 exact .inr (.inr w4)
theorem uc:compareBytes a b=0↔a=b:=⟨fun h=>by
 rcases yp a b with ⟨h1,_⟩|⟨_,h1⟩|⟨h1,_⟩
 ·omega
 ·exact h1
 ·omega,fun h=>by
 subst h;rcases yp a a with ⟨h1,h2⟩|⟨h1,_⟩|⟨h1,h2⟩
 ·omega
 ·exact h1
 omega⟩
theorem OI(h1:¬bF b a)(h2:bF b c):bF a c:=by
 rcases zb a b with h|rfl|h
 ·exact mg h h2
 ·exact h2
 exact absurd h h1
theorem Zs(h1:bF a b)(h2:¬bF c b):bF a c:=by
 rcases zb b c with h|rfl|h
 ·exact mg h1 h
 ·exact h1
 exact absurd h h2
theorem UU(h1:¬bF b a)(h2:¬bF c b):¬bF c a:=fun h=>by
 rcases zb a b with h'|rfl|h'
 ·exact h2 (mg h h')
 ·exact h2 h
 exact h1 h'
theorem qY{α β:Type}{l:List α}{f g:α→List β}(h:∀a∈l,f a=g a):l.flatMap f=l.flatMap g:=by
 induction l with
 | nil=>rfl
 | cons a r ih=>rw[flatMap_cons,flatMap_cons,h a mem_cons_self,ih fun x hx=>h x (mem_cons_of_mem _ hx)]
structure de where
 leaf:Bool
 keys:List K
 kids:List Int
 high:K
 next:Int
variable {p:de}
def ajM:de:=⟨false,[],[],[],0⟩
structure aF where
 ag:List de
 root:Int
def aF.pg(t:aF)(i:Int):de:=t.ag.getD i.toNat ajM
def pW:aF:=⟨[⟨true,[],[],[],-1⟩],0⟩
structure eH (p:de) (many:Int):Prop where
 eJ:p.keys.length≤4
 hlen:p.high.length≤100
 xn:-1≤p.next
 wO:p.next<many
 xo:p.next<0↔p.high=[]
 leaf:p.leaf=true→p.kids.length=p.keys.length
 node:p.leaf=false→p.kids.length=p.keys.length+1∧p.keys≠[]
 lC:∀k∈p.keys,1≤k.length∧k.length≤100
 qB:p.high≠[]→∀k∈p.keys,bF k p.high
 jY:p.keys.Pairwise bF
 aC:∀n∈p.kids,0≤n
 vu:p.leaf=false→∀n∈p.kids,n<many
theorem eH.more{m E:Int}(h:eH p m)(hm:m≤E):eH p E :=
 ⟨h.eJ,h.hlen,h.xn,by have:=h.wO;omega,h.xo,h.leaf,h.node,h.lC,h.qB,h.jY,h.aC,fun hl n hn=>by have:=h.vu hl n hn;omega⟩
def iz(low:K)(p:de)(j:Nat):K:=if j=0 then low else p.keys.getD (j-1) []
def gZ(p:de)(j:Nat):K:=p.keys.getD j p.high
def dZ(t:aF):Nat→Int→K→K→Prop
 | 0,i,low,high=>(0≤i∧i<t.ag.length)∧(t.pg i).leaf=true∧(t.pg i).high=high∧∀k∈(t.pg i).keys,¬bF k low
 | h+1,i,low,high=>(0≤i∧i<t.ag.length)∧(t.pg i).leaf=false∧(t.pg i).high=high∧(∀k∈(t.pg i).keys,¬bF k low) ∧
  ∀j (hj:j<(t.pg i).kids.length),dZ t h (t.pg i).kids[j] (iz low (t.pg i) j) (gZ (t.pg i) j)
def ids(t:aF):Nat→Int→List Int
 | 0,i=>[i]
 | h+1,i=>i::(t.pg i).kids.flatMap (ids t h)
def cH(t:aF):Nat→Int→List Int
 | 0,i=>[i]
 | d+1,i=>(t.pg i).kids.flatMap (cH t d)
def eZ(p:de):List (K×Int):=p.keys.zip p.kids
def er(t:aF):Nat→Int→List (K×Int)
 | 0,i=>eZ (t.pg i)
 | h+1,i=>(t.pg i).kids.flatMap (er t h)
def fa(t:aF):List Int→Int→Prop
 | [],_=>True
 | [i],e=>(t.pg i).next=e
 | i::j::r,e=>(t.pg i).next=j∧fa t (j::r) e
structure Valid (t:aF) (h:Nat):Prop where
 pos:1≤t.ag.length
 nN:t.ag.length≤4000
 fD:∀p∈t.ag,eH p t.ag.length
 ok:dZ t h t.root [] []
 zQ:(ids t h t.root).Nodup
 all:(ids t h t.root).length=t.ag.length
 pB:∀d,d≤h→fa t (cH t d t.root) (-1)
theorem dZ.idx{t:aF}:∀{h:Nat} {i:Int} {low high:K},dZ t h i low high→0≤i∧i<t.ag.length
 | 0,_,_,_,h=>h.1
 | _+1,_,_,_,h=>h.1
theorem dZ.high{t:aF}:∀{h:Nat} {i:Int} {low high:K},dZ t h i low high→(t.pg i).high=high
 | 0,_,_,_,h=>h.2.2.1
 | _+1,_,_,_,h=>h.2.2.1
theorem vh{t:aF}{i:Int}(h:0≤i∧i<t.ag.length):t.pg i=t.ag[i.toNat]'w4:=by
 unfold aF.pg;rw[getD_eq_getElem?_getD,getElem?_eq_getElem w4];rfl
theorem jE{t:aF}{i:Int}(h:0≤i∧i<t.ag.length):t.pg i∈t.ag:=by rw[vh h];exact getElem_mem _
theorem tr{t:aF}(h:Nat)(i:Int):i∈ids t h i:=by cases h<;>simp[ids]
theorem frame{t u:aF}:∀(h:Nat) (i:Int),(∀j∈ids t h i,u.pg j=t.pg j)→ids u h i=ids t h i∧er u h i=er t h i∧∀d,d≤h→cH u d i=cH t d i
 | 0,i,hp=>by
  have h0:=hp i (tr 0 i);refine⟨rfl,by unfold er;rw[h0],fun d hd=>?_⟩;obtain rfl:d=0:=(by omega)
  rfl
 | h+1,i,hp=>by
  have h0:=hp i (tr _ i);have hs:∀j∈(t.pg i).kids,ids u h j=ids t h j∧er u h j=er t h j∧∀d,d≤h→cH u d j=cH t d j:=fun j hj=>frame h j fun x hx=>hp x (by
   rw[ids];exact mem_cons_of_mem _ (mem_flatMap.2 ⟨j,hj,hx⟩))
  refine⟨?_,?_,fun d hd=>?_⟩
  ·rw[ids,ids,h0];congr 1;exact qY (fun j hj=>(hs j hj).1)
  ·rw[er,er,h0];exact qY (fun j hj=>(hs j hj).2.1)
  cases d with
  | zero=>rfl
  | succ d=>rw[cH,cH,h0];exact qY (fun j hj=>(hs j hj).2.2 d w4)
theorem dZ.frame{t u:aF}(hl:t.ag.length≤u.ag.length):∀{h:Nat} {i:Int} {low high:K},dZ t h i low high→(∀j∈ids t h i,u.pg j=t.pg j)→dZ u h i low high
 | 0,i,low,high,⟨q1,q2,E,I⟩,hp=>by
  have h0:=hp i (tr 0 i);exact⟨⟨q1.1,by omega⟩,by rw[h0];exact q2,by rw[h0];exact E,by rw[h0];exact I⟩
 | h+1,i,low,high,⟨q1,q2,E,I,O⟩,hp=>by
  have h0:=hp i (tr _ i);refine⟨⟨q1.1,by omega⟩,by rw[h0];exact q2,by rw[h0];exact E,by rw[h0];exact I,?_⟩;rw[h0];exact fun j hj=>dZ.frame hl (O j hj) fun x hx=>hp x (by rw[ids];exact mem_cons_of_mem _ (mem_flatMap.2 ⟨_,getElem_mem hj,hx⟩))
theorem dZ.ids{t:aF}:∀{h:Nat} {i:Int} {low high:K},dZ t h i low high→∀j∈Tr.ids t h i,0≤j∧j<t.ag.length
 | 0,i,low,high,q,j,hj=>by
  rw[Tr.ids,mem_singleton] at hj;subst hj;exact q.1
 | h+1,i,low,high,⟨q1,q2,I,O,E⟩,j,hj=>by
  rw[Tr.ids] at hj;rcases mem_cons.1 hj with rfl|hj
  ·exact q1
  obtain⟨x,hx,hj⟩:=mem_flatMap.1 hj;obtain⟨n,hn,rfl⟩:=mem_iff_getElem.1 hx;exact dZ.ids (E n hn) j hj

theorem KO{α:Type}{p:α→Bool}:∀{l:List α} {i:Nat} (h:i<(l.takeWhile p).length),∃(h':i<l.length),p l[i]=true
 | a::r,i,h=>by
  rw[takeWhile_cons] at h;by_cases ha:p a=true
  ·rw[if_pos ha] at h;cases i with
   | zero=>exact⟨by simp,ha⟩
   | succ i =>
    obtain⟨h',q⟩:=KO (l:=r) (i:=i) ph;exact⟨by simpa using h',by simpa using q⟩
  rw[if_neg ha] at h;simp at h
theorem Kk{α:Type}{p:α→Bool}:∀{l:List α} (h:(l.takeWhile p).length<l.length),p l[(l.takeWhile p).length]=false
 | a::r,h=>by
  by_cases ha:p a=true
  ·have e:((a::r).takeWhile p).length=(r.takeWhile p).length+1:=(by rw[takeWhile_cons,if_pos ha];rfl)
   have h2:(r.takeWhile p).length<r.length:=(by rw[e] at h;simpa using h)
   have:=Kk (l:=r) h2;simp only[e,getElem_cons_succ];exact this
  have e:((a::r).takeWhile p).length=0:=(by rw[takeWhile_cons,if_neg ha];rfl)
  simp only[e,getElem_cons_zero];simpa using ha
theorem UW{α:Type}(p:α→Bool)(l:List α):(l.takeWhile p).length≤l.length:=(takeWhile_sublist p).length_le
def gA(keys:List K)(k:K):Nat:=(keys.takeWhile fun x=>decide (bF x k)).length
def mL(keys:List K)(k:K):Nat:=(keys.takeWhile fun x=>decide (¬bF k x)).length
def aL(p:de)(k:K):Nat:=if p.leaf=true then gA p.keys k else mL p.keys k
theorem Bk{keys:List K}(h:i<gA keys k):∃(h':i<keys.length),bF keys[i] k:=by
 obtain⟨h',q⟩:=KO h;exact⟨h',by simpa using q⟩
theorem A9{keys:List K}(h:gA keys k<keys.length):¬bF keys[gA keys k] k:=by
 exact of_decide_eq_false (Kk h)
theorem yP(keys:List K)(k:K):gA keys k≤keys.length:=UW _ _
theorem I3{keys:List K}(h:i<mL keys k):∃(h':i<keys.length),¬bF k keys[i]:=by
 obtain⟨h',q⟩:=KO h;exact⟨h',by simpa using q⟩
theorem Iy{keys:List K}(h:mL keys k<keys.length):bF k keys[mL keys k]:=by
 exact Classical.not_not.1 (of_decide_eq_false (Kk h))
theorem Bl(keys:List K)(k:K):mL keys k≤keys.length:=UW _ _
theorem nc{keys:List K}(h:keys.Pairwise bF)(E:i<j)(hj:j<keys.length):bF keys[i] keys[j]:=pairwise_iff_getElem.1 h i j w4 hj E
theorem Fz(h:j<p.keys.length):gZ p j=p.keys[j]:=by unfold gZ;rw[getD_eq_getElem?_getD,getElem?_eq_getElem h];rfl
theorem JM(h:p.keys.length≤j):gZ p j=p.high:=by unfold gZ;rw[getD_eq_getElem?_getD,getElem?_eq_none h];rfl
theorem Fi(h:0<j)(h':j-1<p.keys.length):iz low p j=p.keys[j-1]:=by unfold iz;rw[if_neg w4,getD_eq_getElem?_getD,getElem?_eq_getElem h'];rfl
def lJ(low high k:K):Prop:=¬bF k low∧(high≠[]→bF k high)
theorem tP(k:K):lJ [] [] k:=⟨Kj k,fun h=>absurd rfl h⟩
theorem down{n:Int}(hp:eH p n)(hl:p.leaf=false){high:K}(E:p.high=high)(hk:lJ low high k):aL p k<p.kids.length∧lJ (iz low p (aL p k)) (gZ p (aL p k)) k:=by
 have e:aL p k=mL p.keys k:=(by unfold aL;rw[if_neg (by rw[hl];decide)])
 have I:=Bl p.keys k;rw[e];refine⟨by rw[(hp.node hl).1];omega,?_,?_⟩
 ·rcases Nat.eq_zero_or_pos (mL p.keys k) with h0|h0
  ·rw[h0];exact hk.1
  obtain⟨h',q⟩:=I3 (keys:=p.keys) (k:=k) (i:=mL p.keys k-1) w4;rw[Fi h0 h'];exact q
 intro hne;by_cases aa:mL p.keys k<p.keys.length
 ·rw[Fz aa];exact Iy aa
 rw[JM w4] at hne ⊢;rw[E] at hne ⊢;exact hk.2 hne
def aI(t:aF)(k:K):Nat→Int→Int
 | 0,i=>i
 | h+1,i=>aI t k h ((t.pg i).kids.getD (aL (t.pg i) k) 0)
def jh(t:aF)(k:K):Nat→Int→List Int
 | 0,i=>[i]
 | h+1,i=>i::jh t k h ((t.pg i).kids.getD (aL (t.pg i) k) 0)
theorem PN(t:aF)(k:K):∀(h:Nat) (i:Int),(jh t k h i).getLast?=some (aI t k h i)
 | 0,i=>rfl
 | h+1,i=>by
  have:=PN t k h ((t.pg i).kids.getD (aL (t.pg i) k) 0);rw[jh,aI,getLast?_cons,this];rfl
theorem wA(t:aF):∀(h:Nat) (i:Int),er t h i=(cH t h i).flatMap fun l=>eZ (t.pg l)
 | 0,i=>by simp[er,cH]
 | h+1,i=>by
  rw[er,cH,flatMap_assoc];exact qY fun j _=>wA t h j
theorem zip_fst{α β:Type}:∀{a:List α} {b:List β},b.length=a.length→(a.zip b).map Prod.fst=a
 | [],_,_=>by simp
 | x::a,[],h=>by simp at h
 | x::a,y::b,h=>by simp[zip_fst (a:=a) (b:=b) ph]
theorem Rf{x:K×Int}(h:x∈eZ p):x.1∈p.keys:=(of_mem_zip h).1
theorem tG(h:j<p.kids.length):p.kids.getD j 0=p.kids[j]:=by rw[getD_eq_getElem?_getD,getElem?_eq_getElem h];rfl
variable {t:aF} {n:Int}
theorem ZR(hp:eH p n)(hl:p.leaf=false){high:K}(I:p.high=high)(E:∀k∈p.keys,¬bF k low)(hj:j<p.kids.length)(hk:lJ (iz low p j) (gZ p j) k):lJ low high k:=by
 have hn:=(hp.node hl).1;refine⟨?_,fun hne=>?_⟩
 ·rcases Nat.eq_zero_or_pos j with rfl|h0
  ·exact hk.1
  rw[Fi h0 w4] at hk;exact UU (E _ (getElem_mem _)) hk.1
 by_cases aa:j<p.keys.length
 ·rw[Fz aa] at hk;have hm:=getElem_mem aa;have h2:=hk.2 (by intro e;have:=(hp.lC _ hm).1;rw[e] at this;simp at this);exact mg h2 (by rw[←I];exact hp.qB (by rw[I];exact hne) _ hm)
 rw[JM w4,I] at hk;exact hk.2 hne
theorem Iz(hp:eH p n)(hl:p.leaf=false)(I:i<j)(hj:j<p.kids.length)(ha:lJ (iz low p i) (gZ p i) a)(hb:lJ (iz low p j) (gZ p j) b):bF a b:=by
 have hn:=(hp.node hl).1;have E:i<p.keys.length:=(by omega)
 rw[Fz E] at ha;have h1:=ha.2 (by intro e;have:=(hp.lC _ (getElem_mem E)).1;rw[e] at this;simp at this);rw[Fi w4 w4] at hb;refine Zs h1 ?_;refine UU ?_ hb.1;rcases Nat.lt_or_ge i (j-1) with h|h
 ·exact za (nc hp.jY h w4)
 have:j-1=i:=(by omega)
 simp only[this];exact jR _
theorem JN(hp:∀p∈t.ag,eH p n):∀{h:Nat} {i:Int} {low high:K},dZ t h i low high→(er t h i).Pairwise (fun x y=>bF x.1 y.1)∧∀x∈er t h i,lJ low high x.1
 | 0,i,low,high,ok=>by
  obtain⟨q1,q2,E,I⟩:=ok;have po:=hp _ (jE q1);rw[er];refine⟨?_,fun x hx=>⟨I _ (Rf hx),fun hne=>by rw[←E] at hne ⊢;exact po.qB hne _ (Rf hx)⟩⟩;have h1:((eZ (t.pg i)).map Prod.fst).Pairwise bF:=(by unfold eZ;rw[zip_fst (po.leaf q2)];exact po.jY)
  exact pairwise_map.1 h1
 | h+1,i,low,high,ok=>by
  obtain⟨q1,q2,E,I,O⟩:=ok;have po:=hp _ (jE q1);rw[er];have hk:∀j (hj:j<(t.pg i).kids.length),(er t h (t.pg i).kids[j]).Pairwise (fun x y=>bF x.1 y.1)∧∀x∈er t h (t.pg i).kids[j],lJ (iz low (t.pg i) j) (gZ (t.pg i) j) x.1:=fun j hj=>JN hp (O j hj);refine⟨pairwise_flatMap.2 ⟨fun a ha=>?_,?_⟩,fun x hx=>?_⟩
  ·obtain⟨j,hj,rfl⟩:=mem_iff_getElem.1 ha;exact(hk j hj).1
  ·refine pairwise_iff_getElem.2 fun a b ha hb qR x hx y hy=>?_;exact Iz po q2 qR hb ((hk a ha).2 x hx) ((hk b hb).2 y hy)
  obtain⟨c,hc,hx⟩:=mem_flatMap.1 hx;obtain⟨j,hj,rfl⟩:=mem_iff_getElem.1 hc;exact ZR po q2 E I hj ((hk j hj).2 x hx)
theorem Bm(hp:∀p∈t.ag,eH p n){k:K}:∀{h:Nat} {i:Int} {low high:K},dZ t h i low high→lJ low high k →
  ∃pre post lo hi,cH t h i=pre++aI t k h i::post∧(∀l∈pre,∀x∈eZ (t.pg l),bF x.1 k)∧(∀l∈post,∀x∈eZ (t.pg l),bF k x.1)∧dZ t 0 (aI t k h i) lo hi∧lJ lo hi k
 | 0,i,low,high,ok,hk=>⟨[],[],low,high,rfl,(fun _ h=>by cases h),(fun _ h=>by cases h),ok,hk⟩
 | h+1,i,low,high,ok,hk=>by
  obtain⟨q1,q2,I,O,E⟩:=ok;have po:=hp _ (jE q1);obtain⟨d1,d2⟩:=down po q2 I hk;obtain⟨pre,post,lo,hi,e,h1,h2,h3,h4⟩:=Bm hp (E _ d1) d2;have hm:∀j (hj:j<(t.pg i).kids.length),∀l∈cH t h (t.pg i).kids[j],∀x∈eZ (t.pg l),lJ (iz low (t.pg i) j) (gZ (t.pg i) j) x.1:=fun j hj l hl x hx =>
   (JN hp (E j hj)).2 x (by rw[wA];exact mem_flatMap.2 ⟨l,hl,hx⟩)
  refine⟨((t.pg i).kids.take (aL (t.pg i) k)).flatMap (cH t h)++pre,post++((t.pg i).kids.drop (aL (t.pg i) k+1)).flatMap (cH t h),lo,hi,?_,?_,?_,?_,h4⟩
  ·rw[cH];conv=>lhs;rw[←take_append_drop (aL (t.pg i) k) (t.pg i).kids]
   rw[drop_eq_getElem_cons d1,flatMap_append,flatMap_cons,e,aI,tG d1];simp
  ·intro l hl x hx;rcases mem_append.1 hl with hl|hl
   ·obtain⟨c,hc,hl⟩:=mem_flatMap.1 hl;obtain⟨j,hj,rfl⟩:=mem_iff_getElem.1 hc;rw[length_take] at hj;rw[getElem_take] at hl;exact Iz po q2 (show j<aL (t.pg i) k by omega) d1 (hm j w4 l hl x hx) d2
   exact h1 l hl x hx
  ·intro l hl x hx;rcases mem_append.1 hl with hl|hl
   ·exact h2 l hl x hx
   obtain⟨c,hc,hl⟩:=mem_flatMap.1 hl;obtain⟨j,hj,rfl⟩:=mem_iff_getElem.1 hc;rw[length_drop] at hj;rw[getElem_drop] at hl;exact Iz po q2 (show aL (t.pg i) k<aL (t.pg i) k+1+j by omega) w4 d2 (hm _ w4 l hl x hx)
  rw[aI,tG d1];exact h3
theorem aaX(hp:∀p∈t.ag,eH p n){h:Nat}{i:Int}{high:K}(ok:dZ t h i low high)(hk:lJ low high k) :
  ∃pre post,cH t h i=pre++aI t k h i::post∧(er t h i).filter (fun x=>decide (¬bF x.1 k))=(eZ (t.pg (aI t k h i))).drop (aL (t.pg (aI t k h i)) k)++post.flatMap fun l=>eZ (t.pg l):=by
 obtain⟨pre,post,lo,hi,e,h1,h2,h3,h4⟩:=Bm hp ok hk;refine⟨pre,post,e,?_⟩;have po:=hp _ (jE h3.1);rw[wA,e,flatMap_append,flatMap_cons,filter_append,filter_append];rw[filter_eq_nil_iff.2 (by
  intro x hx;obtain⟨l,hl,hx⟩:=mem_flatMap.1 hx;simpa using h1 l hl x hx),nil_append]
 congr 1
 ·have fM:=h3.2.1;rw[show aL (t.pg (aI t k h i)) k=gA (t.pg (aI t k h i)).keys k by unfold aL;rw[if_pos fM]];generalize I:t.pg (aI t k h i)=p at *;have E:=take_append_drop (gA p.keys k) (eZ p);conv=>lhs;rw[←E]
  have hlen:=po.leaf fM;rw[filter_append,filter_eq_nil_iff.2 (by
   intro x hx;obtain⟨j,hj,rfl⟩:=mem_iff_getElem.1 hx;rw[length_take] at hj;obtain⟨h',q⟩:=Bk (keys:=p.keys) (k:=k) (i:=j) w4;rw[getElem_take];simpa[eZ] using q),nil_append,filter_eq_self.2]
  intro x hx;obtain⟨j,hj,rfl⟩:=mem_iff_getElem.1 hx;rw[length_drop] at hj;have fO:(eZ p).length=p.keys.length:=(by unfold eZ;rw[length_zip,hlen,Nat.min_self])
  have hd:gA p.keys k<p.keys.length:=(by omega)
  have he:=A9 hd;rw[getElem_drop];have:¬bF p.keys[gA p.keys k+j] k:=by
   rcases Nat.eq_zero_or_pos j with rfl|h0
   ·exact he
   exact fun aa=>he (mg (nc po.jY w4 w4) aa)
  simpa[eZ] using this
 rw[filter_eq_self.2];intro x hx;obtain⟨l,hl,hx⟩:=mem_flatMap.1 hx;simpa using za (h2 l hl x hx)

end Go.Proofs.YtdgichenhdikgaaGreatDoor.Tr
namespace Go.Proofs.YtdgichenhdikgaaGreatDoor.Tr
open List
open Go.Proofs.Tryz
open Go.Lib (compareBytes)
variable {α:Type} {i n:Int} {p:de} {up low:K} {h:Nat}
def gU(l:List α)(i:Nat)(x:α):List α:=l.take i++x::l.drop i
def aF.set(t:aF)(i:Int)(p:de):aF:={t with ag:=t.ag.set i.toNat p}
variable {t:aF}
def bC(p:de)(up:K)(aC:Int):de :=
 {p with keys:=gU p.keys (aL p up) up,kids:=gU p.kids (if p.leaf=true then aL p up else aL p up+1) aC}
def jn(p:de):K:=p.keys.getD 2 []
def bu(p:de)(n:Int):de:={leaf:=p.leaf,keys:=p.keys.take 2,kids:=p.kids.take (if p.leaf=true then 2 else 3),high:=jn p,next:=n}
def bz(p:de):de:={leaf:=p.leaf,keys:=p.keys.drop (if p.leaf=true then 2 else 3),kids:=p.kids.drop (if p.leaf=true then 2 else 3),high:=p.high,next:=p.next}
def rA(t:aF)(i:Int)(up:K)(aC:Int):aF×Option (K×Int) :=
 if (bC (t.pg i) up aC).keys.length≤4 then (t.set i (bC (t.pg i) up aC),none)
 else (⟨(t.ag.set i.toNat (bu (bC (t.pg i) up aC) t.ag.length))++[bz (bC (t.pg i) up aC)],t.root⟩,some (jn (bC (t.pg i) up aC),t.ag.length))
def gC(t:aF)(k:K)(row:Int):Nat→Int→aF×Option (K×Int)
 | 0,i=>rA t i k row
 | h+1,i=>match gC t k row h ((t.pg i).kids.getD (aL (t.pg i) k) 0) with
  | (t',none)=>(t',none)
  | (t',some (up,aC))=>rA t' i up aC
def ahs(r:aF×Option (K×Int)):aF:=match r with
 | (t,none)=>t
 | (t,some (up,aC))=>⟨t.ag++[⟨false,[up],[t.root,aC],[],-1⟩],t.ag.length⟩
theorem oe(t:aF)(i:Int)(p:de):(t.set i p).ag.length=t.ag.length:=by simp[aF.set]
theorem Bn(h:0≤i∧i<t.ag.length)(p:de):(t.set i p).pg i=p:=by
 unfold aF.pg aF.set;rw[getD_eq_getElem?_getD,getElem?_set_self w4];rfl
theorem we{j:Int}(hi:0≤i)(hj:0≤j)(h:i≠j)(p:de):(t.set i p).pg j=t.pg j:=by
 unfold aF.pg aF.set;rw[getD_eq_getElem?_getD,getD_eq_getElem?_getD,getElem?_set_ne w4]
theorem yH(l:List α){i:Nat}(h:i≤l.length)(x:α):(gU l i x).length=l.length+1:=by unfold gU;simp;omega
theorem uR{l:List α}{i:Nat}{x y:α}:y∈gU l i x↔y=x∨y∈l:=by
 unfold gU;conv=>rhs;rw[←take_append_drop i l]
 simp only[mem_append,mem_cons];constructor
 ·rintro(h|h|h)
  ·exact .inr (.inl h)
  ·exact .inl h
  exact .inr (.inr h)
 rintro(h|h|h)
 ·exact .inr (.inl h)
 ·exact .inl h
 exact .inr (.inr h)
theorem aaY{β:Type}{a:List α}{b:List β}(h:b.length=a.length){i:Nat}(hi:i≤a.length)(x:α)(y:β):(gU a i x).zip (gU b i y)=gU (a.zip b) i (x,y):=by
 unfold gU;rw[zip_append (by simp[h]),zip_cons_cons];have h1:(a.zip b).take i=(a.take i).zip (b.take i):=take_zipWith;have h2:(a.zip b).drop i=(a.drop i).zip (b.drop i):=drop_zipWith;rw[h1,h2]
theorem I4(hp:eH p n)(hn:up∉p.keys):(∀j (hj:j<p.keys.length),j<aL p up→bF p.keys[j] up)∧(∀j (hj:j<p.keys.length),aL p up≤j→bF up p.keys[j])∧aL p up≤p.keys.length:=by
 unfold aL;split
 ·refine⟨fun j hj h=>(Bk h).2,fun j hj h=>?_,yP _ _⟩;have aa:gA p.keys up<p.keys.length:=(by omega)
  have h1:=A9 aa;have h2:¬bF p.keys[j] up:=by
   rcases Nat.lt_or_ge (gA p.keys up) j with h'|h'
   ·exact fun E=>h1 (mg (nc hp.jY h' hj) E)
   have:gA p.keys up=j:=(by omega)
   subst this;exact h1
  rcases zb p.keys[j] up with h|h|h
  ·exact absurd h h2
  ·exact absurd (h ▸ getElem_mem hj) hn
  exact h
 refine⟨fun j hj h=>?_,fun j hj h=>?_,Bl _ _⟩
 ·have h2:=(I3 h).2;rcases zb p.keys[j] up with h|h|h
  ·exact h
  ·exact absurd (h ▸ getElem_mem hj) hn
  exact absurd h h2
 have aa:mL p.keys up<p.keys.length:=(by omega)
 have h1:=Iy aa;rcases Nat.lt_or_ge (mL p.keys up) j with h'|h'
 ·exact mg h1 (nc hp.jY h' hj)
 have:mL p.keys up=j:=(by omega)
 subst this;exact h1
theorem acD(hp:eH p n)(hn:up∉p.keys):(gU p.keys (aL p up) up).Pairwise bF:=by
 obtain⟨h1,h2,h3⟩:=I4 hp hn;unfold gU;have hr:=hp.jY;conv at hr=>rw[←take_append_drop (aL p up) p.keys]
 rw[pairwise_append] at hr;rw[pairwise_append,pairwise_cons];refine⟨hr.1,⟨fun y hy=>?_,hr.2.1⟩,fun x hx y hy=>?_⟩
 ·obtain⟨j,hj,rfl⟩:=mem_iff_getElem.1 hy;rw[length_drop] at hj;rw[getElem_drop];exact h2 _ w4 w4
 rcases mem_cons.1 hy with rfl|hy
 ·obtain⟨j,hj,rfl⟩:=mem_iff_getElem.1 hx;rw[length_take] at hj;rw[getElem_take];exact h1 _ w4 w4
 exact hr.2.2 x hx y hy
structure wL (p:de) (many:Int):Prop where
 eJ:p.keys.length≤5
 hlen:p.high.length≤100
 xn:-1≤p.next
 wO:p.next<many
 xo:p.next<0↔p.high=[]
 leaf:p.leaf=true→p.kids.length=p.keys.length
 node:p.leaf=false→p.kids.length=p.keys.length+1∧p.keys≠[]
 lC:∀k∈p.keys,1≤k.length∧k.length≤100
 qB:p.high≠[]→∀k∈p.keys,bF k p.high
 jY:p.keys.Pairwise bF
 aC:∀n∈p.kids,0≤n
 vu:p.leaf=false→∀n∈p.kids,n<many
theorem wL.ok(h:wL p n)(hl:p.keys.length≤4):eH p n:=⟨hl,h.hlen,h.xn,h.wO,h.xo,h.leaf,h.node,h.lC,h.qB,h.jY,h.aC,h.vu⟩
theorem I5(hp:eH p n){aC:Int}(hn:up∉p.keys)(U:1≤up.length∧up.length≤100)(Z:p.high≠[]→bF up p.high)(hk:0≤aC)(O:p.leaf=false→aC<n):wL (bC p up aC) n:=by
 obtain⟨_,_,h3⟩:=I4 hp hn;have hf:=hp.eJ;refine⟨?_,hp.hlen,hp.xn,hp.wO,hp.xo,fun hl=>?_,fun hl=>?_,fun k I=>?_,fun hne k I=>?_,acD hp hn,fun m hm=>?_,fun hl m hm=>?_⟩
 ·show(gU _ _ _).length≤5;rw[yH _ h3];omega
 ·have E:p.leaf=true:=hl;show(gU _ _ _).length=(gU _ _ _).length;rw[if_pos E,yH _ h3,yH _ (by rw[hp.leaf E];exact h3),hp.leaf E]
 ·have E:p.leaf=false:=hl;refine⟨?_,?_⟩
  ·show(gU _ _ _).length=(gU _ _ _).length+1;rw[if_neg (by rw[E];decide),yH _ h3,yH _ (by rw[(hp.node E).1];omega),(hp.node E).1]
  show gU _ _ _≠[];intro e;have:=congrArg length e;rw[yH _ h3] at this;simp at this
 ·rcases uR.1 I with rfl|h
  ·exact U
  exact hp.lC k h
 ·rcases uR.1 I with rfl|h
  ·exact Z hne
  exact hp.qB hne k h
 ·rcases uR.1 hm with rfl|h
  ·exact hk
  exact hp.aC m h
 rcases uR.1 hm with rfl|h
 ·exact O hl
 exact hp.vu hl m h
theorem zc(h:p.keys.length=5):jn p=p.keys[2]:=by unfold jn;rw[getD_eq_getElem?_getD,getElem?_eq_getElem w4];rfl
theorem Up(hp:wL p n)(h5:p.keys.length=5)(h0:0≤n):eH (bu p n) (n+1):=by
 have U:=zc h5;have I:jn p∈p.keys:=(by rw[U];exact getElem_mem _)
 refine⟨?_,(hp.lC _ I).2,by show -1≤n;omega,by show n<n+1;omega,?_,fun hl=>?_,fun hl=>?_,fun k hk=>hp.lC k (mem_of_mem_take hk),fun _ k hk=>?_,hp.jY.sublist (take_sublist _ _),fun x hx=>hp.aC x (mem_of_mem_take hx),fun hl x hx=>?_⟩
 ·show(p.keys.take 2).length≤4;rw[length_take];omega
 ·show n<0↔jn p=[];have:=(hp.lC _ I).1;exact⟨fun h=>by omega,fun h=>by rw[h] at this;simp at this⟩
 ·have E:p.leaf=true:=hl;show(p.kids.take (if p.leaf=true then 2 else 3)).length=(p.keys.take 2).length;rw[if_pos E,length_take,length_take,hp.leaf E]
 ·have E:p.leaf=false:=hl;refine⟨?_,?_⟩
  ·show(p.kids.take (if p.leaf=true then 2 else 3)).length=(p.keys.take 2).length+1;rw[if_neg (by rw[E];decide),length_take,length_take,(hp.node E).1];omega
  show p.keys.take 2≠[];intro e;have:=congrArg length e;rw[length_take,h5] at this;cases this
 ·have O:k∈p.keys.take 2:=hk;obtain⟨j,hj,rfl⟩:=mem_iff_getElem.1 O;rw[length_take] at hj;show bF (p.keys.take 2)[j] (jn p);rw[getElem_take,U];exact nc hp.jY w4 w4
 have E:p.leaf=false:=hl;have:=hp.vu E x (mem_of_mem_take hx);omega
theorem Td{m:Int}(hp:wL p n)(h5:p.keys.length=5)(hm:n≤m):eH (bz p) m:=by
 refine⟨?_,hp.hlen,hp.xn,by have:=hp.wO;show p.next<m;omega,hp.xo,fun hl=>?_,fun hl=>?_,fun k hk=>hp.lC k (mem_of_mem_drop hk),fun hne k hk=>hp.qB hne k (mem_of_mem_drop hk),hp.jY.sublist (drop_sublist _ _),fun x hx=>hp.aC x (mem_of_mem_drop hx),fun hl x hx=>?_⟩
 ·show(p.keys.drop _).length≤4;rw[length_drop];split<;>omega
 ·have E:p.leaf=true:=hl;show(p.kids.drop _).length=(p.keys.drop _).length;rw[length_drop,length_drop,hp.leaf E]
 ·have E:p.leaf=false:=hl;refine⟨?_,?_⟩
  ·show(p.kids.drop _).length=(p.keys.drop _).length+1;rw[length_drop,length_drop,(hp.node E).1,if_neg (by rw[E];decide)];omega
  show p.keys.drop _≠[];intro e;have:=congrArg length e;rw[length_drop,if_neg (by rw[E];decide)] at this;simp at this;omega
 have E:p.leaf=false:=hl;have:=hp.vu E x (mem_of_mem_drop hx);omega

def jt(t:aF)(h:Nat):K→List Int→List K→K→Prop
 | low,c::cs,ks,high=>match cs,ks with
  | [],[]=>dZ t h c low high
  | _::_,k::ks=>dZ t h c low k∧jt t h k cs ks high
  | _,_=>False
 | _,[],_,_=>False
theorem Bo{high:K}{c:Int}:jt t h low [c] [] high↔dZ t h c low high:=by rw[jt]
theorem qo{high k:K}{c d:Int}{cs:List Int}{ks:List K}:jt t h low (c::d::cs) (k::ks) high↔dZ t h c low k∧jt t h k (d::cs) ks high:=by rw[jt]
theorem I6{t:aF}{h:Nat}{high:K}:∀{kids:List Int} {keys:List K} {low:K},kids.length=keys.length+1 →
  ((∀j (hj:j<kids.length),dZ t h kids[j] (if j=0 then low else keys.getD (j-1) []) (keys.getD j high))↔jt t h low kids keys high)
 | [],keys,low,e=>by simp at e
 | [c],[],low,e=>by
  rw[Bo];constructor
  ·intro q;exact q 0 bq
  intro q j hj;obtain rfl:j=0:=(by simpa using hj)
  exact q
 | [c],k::ks,low,e=>by simp at e
 | c::d::cs,[],low,e=>by simp at e
 | c::d::cs,k::ks,low,e=>by
  rw[qo,←I6 (kids:=d::cs) (keys:=ks) (low:=k) (by simpa using e)];constructor
  ·intro q;refine⟨q 0 bq,fun j hj=>?_⟩;have:=q (j+1) (by simpa using hj);rw[if_neg w4] at this;simp only[getElem_cons_succ,Nat.add_sub_cancel,getD_cons_succ] at this;cases j with
   | zero=>exact this
   | succ j=>exact this
  rintro⟨q0,q⟩ j hj;cases j with
  | zero=>exact q0
  | succ j =>
   have:=q j (by simpa using hj);rw[if_neg w4];simp only[getElem_cons_succ,Nat.add_sub_cancel,getD_cons_succ];cases j with
   | zero=>exact this
   | succ j=>exact this
theorem Bu{high:K}(hp:eH (t.pg i) n):dZ t (h+1) i low high↔(0≤i∧i<t.ag.length)∧(t.pg i).leaf=false∧(t.pg i).high=high∧(∀k∈(t.pg i).keys,¬bF k low)∧jt t h low (t.pg i).kids (t.pg i).keys high:=by
 constructor
 ·rintro⟨q1,q2,E,O,I⟩;refine⟨q1,q2,E,O,?_⟩;rw[←I6 (hp.node q2).1];intro j hj;have:=I j hj;unfold iz gZ at this;rw[E] at this;exact this
 rintro⟨q1,q2,E,O,I⟩;refine⟨q1,q2,E,O,?_⟩;rw[←I6 (hp.node q2).1] at I;intro j hj;have:=I j hj;unfold iz gZ;rw[E];exact this
theorem Rg{t u:aF}{h:Nat}{high:K}:∀{kids:List Int} {keys:List K} {low:K},jt t h low kids keys high→(∀c∈kids,∀lo hi,dZ t h c lo hi→dZ u h c lo hi)→jt u h low kids keys high
 | [],keys,low,q,_=>by simp[jt] at q
 | [c],[],low,q,f=>by rw[Bo] at q ⊢;exact f c bq _ _ q
 | [c],k::ks,low,q,f=>by simp[jt] at q
 | c::d::cs,[],low,q,f=>by simp[jt] at q
 | c::d::cs,k::ks,low,q,f=>by
  rw[qo] at q ⊢;exact⟨f c bq _ _ q.1,Rg q.2 fun x hx=>f x (by simp at hx ⊢;exact .inr hx)⟩
theorem Rh{t u:aF}{h:Nat}{high up:K}{aC:Int}:∀(j:Nat) {kids:List Int} {keys:List K} {low:K} (hj:j<kids.length),jt t h low kids keys high →
  (∀c∈kids.eraseIdx j,∀lo hi,dZ t h c lo hi→dZ u h c lo hi) →
  (dZ u h kids[j] (if j=0 then low else keys.getD (j-1) []) up)→dZ u h aC up (keys.getD j high)→jt u h low (gU kids (j+1) aC) (gU keys j up) high
 | 0,[],keys,low,hj,q,f,q1,q2=>by simp at hj
 | 0,[c],[],low,hj,q,f,q1,q2=>by
  show jt u h low [c,aC] [up] high;rw[qo,Bo];exact⟨q1,q2⟩
 | 0,[c],k::ks,low,hj,q,f,q1,q2=>by simp[jt] at q
 | 0,c::d::cs,[],low,hj,q,f,q1,q2=>by simp[jt] at q
 | 0,c::d::cs,k::ks,low,hj,q,f,q1,q2=>by
  show jt u h low (c::aC::d::cs) (up::k::ks) high;rw[qo,qo];rw[qo] at q;exact⟨q1,q2,Rg q.2 fun x hx=>f x (by simpa using hx)⟩
 | j+1,[],keys,low,hj,q,f,q1,q2=>by simp at hj
 | j+1,[c],keys,low,hj,q,f,q1,q2=>by simp at hj
 | j+1,c::d::cs,[],low,hj,q,f,q1,q2=>by simp[jt] at q
 | j+1,c::d::cs,k::ks,low,hj,q,f,q1,q2=>by
  rw[qo] at q;have e1:gU (c::d::cs) (j+1+1) aC=c::gU (d::cs) (j+1) aC:=rfl;have e2:gU (k::ks) (j+1) up=k::gU ks j up:=rfl;rw[e1,e2];have E:=Rh (t:=t) (u:=u) (up:=up) (aC:=aC) j (kids:=d::cs) (keys:=ks) (low:=k) (by simpa using hj) q.2 (fun x hx=>f x (by rw[eraseIdx_cons_succ];exact mem_cons_of_mem _ hx)) (by
   have:=q1;rw[if_neg w4] at this;simp only[getElem_cons_succ,Nat.add_sub_cancel] at this;cases j with
   | zero=>exact this
   | succ j=>exact this) (by simpa using q2)
  have I:gU (d::cs) (j+1) aC=d::gU cs j aC:=rfl;rw[I] at E ⊢;rw[qo];exact⟨f c (by rw[eraseIdx_cons_succ];simp) _ _ q.1,E⟩
theorem OZ{t:aF}{h:Nat}{high:K}:∀(m:Nat) {kids:List Int} {keys:List K} {low:K} (hm:m<keys.length),jt t h low kids keys high→jt t h low (kids.take (m+1)) (keys.take m) keys[m]∧jt t h keys[m] (kids.drop (m+1)) (keys.drop (m+1)) high
 | 0,c::d::cs,k::ks,low,hm,q=>by
  rw[qo] at q;exact⟨Bo.2 q.1,q.2⟩
 | m+1,c::d::cs,k::ks,low,hm,q=>by
  rw[qo] at q;obtain⟨q1,q2⟩:=OZ m (kids:=d::cs) (keys:=ks) (by simpa using hm) q.2;refine⟨?_,q2⟩;have e:(c::d::cs).take (m+1+1)=c::d::cs.take m:=rfl;rw[e];show jt t h low (c::d::cs.take m) (k::ks.take m) _;rw[qo];exact⟨q.1,q1⟩
 | _,_,[],_,hm,_=>by simp at hm
 | _,[],_::_,_,_,q=>by simp[jt] at q
 | _,[c],_::_,_,_,q=>by simp[jt] at q
theorem Bv{t:aF}{e:Int}:∀{a b:List Int},fa t (a++b) e↔fa t a (b.headD e)∧fa t b e
 | [],b=>by simp[fa]
 | [i],[]=>by simp[fa]
 | [i],j::b=>by simp[fa]
 | i::j::a,b=>by
  have:=Bv (t:=t) (e:=e) (a:=j::a) (b:=b);show(t.pg i).next=j∧fa t (j::a++b) e↔((t.pg i).next=j∧fa t (j::a) (b.headD e))∧fa t b e;rw[this,and_assoc]
theorem yI{t u:aF}:∀{a:List Int} {e:Int},(∀j∈a,(u.pg j).next=(t.pg j).next)→fa t a e→fa u a e
 | [],e,_,_=>trivial
 | [i],e,f,h=>by show(u.pg i).next=e;rw[f i bq];exact h
 | i::j::a,e,f,h=>⟨by rw[f i bq];exact h.1,yI (fun x hx=>f x (mem_cons_of_mem _ hx)) h.2⟩
theorem FB{t:aF}{n:Int}(hp:∀p∈t.ag,eH p n):∀{h:Nat} {i:Int} {low high:K},dZ t h i low high→∀d,d≤h→cH t d i≠[]
 | 0,i,low,high,ok,d,hd=>by
  obtain rfl:d=0:=(by omega)
  simp[cH]
 | h+1,i,low,high,ok,d,hd=>by
  cases d with
  | zero=>simp[cH]
  | succ d =>
   obtain⟨q1,q2,I,O,E⟩:=ok;have po:=hp _ (jE q1);have hl:=(po.node q2).1;have h0:0<(t.pg i).kids.length:=(by omega)
   have:=FB hp (E 0 h0) d w4;rw[cH];intro e;rw[flatMap_eq_nil_iff] at e;exact this (e _ (getElem_mem h0))
theorem su{t:aF}:∀(h:Nat) (i:Int) (d:Nat),d≤h→∀x∈cH t d i,x∈ids t h i
 | 0,i,d,hd,x,hx=>by
  obtain rfl:d=0:=(by omega)
  exact hx
 | h+1,i,0,hd,x,hx=>by
  have:x=i:=(by simpa[cH] using hx)
  subst this;exact tr _ _
 | h+1,i,d+1,hd,x,hx=>by
  rw[cH] at hx;obtain⟨c,hc,hx⟩:=mem_flatMap.1 hx;rw[ids];exact mem_cons_of_mem _ (mem_flatMap.2 ⟨c,hc,su h c d w4 x hx⟩)
theorem Ew{a b:List α}(h:a≠[])(e:α):(a++b).headD e=a.headD e:=by
 cases a with
 | nil=>exact absurd rfl h
 | cons x r=>rfl

def nO(t:aF)(h:Nat)(i:Int):Option (K×Int)→List Int
 | none=>ids t h i
 | some (_,aC)=>ids t h i++ids t h aC
def FZ(t:aF)(h:Nat)(i:Int):Option (K×Int)→List (K×Int)
 | none=>er t h i
 | some (_,aC)=>er t h i++er t h aC
def sO(t:aF)(d:Nat)(i:Int):Option (K×Int)→List Int
 | none=>cH t d i
 | some (_,aC)=>cH t d i++cH t d aC
def nW(t:aF)(h:Nat)(i:Int)(low high:K):Option (K×Int)→Prop
 | none=>dZ t h i low high
 | some (up,aC)=>(1≤up.length∧up.length≤100)∧bF low up∧(high≠[]→bF up high)∧dZ t h i low up∧dZ t h aC up high
structure oI (t u:aF) (h:Nat) (i:Int) (low high:K) (k:K) (row:Int) (r:Option (K×Int)):Prop where
 le:t.ag.length≤u.ag.length
 more:u.ag.length≤t.ag.length+(h+1)
 root:u.root=t.root
 fD:∀p∈u.ag,eH p u.ag.length
 out:∀j:Int,0≤j→j<t.ag.length→j∉ids t h i→u.pg j=t.pg j
 ok:nW u h i low high r
 sub:∀x∈nO u h i r,x∈ids t h i∨(t.ag.length:Int)≤x
 nodup:(nO u h i r).Nodup
 Yc:(nO u h i r).length+t.ag.length=(ids t h i).length+u.ag.length
 er:∀x,x∈FZ u h i r↔x=(k,row)∨x∈er t h i
 pB:∀d,d≤h→∀e,fa t (cH t d i) e→fa u (sO u d i r) e∧(sO u d i r).headD e=(cH t d i).headD e
def ju(t:aF)(i:Int)(a b:de):aF:=⟨(t.ag.set i.toNat a)++[b],t.root⟩
theorem pI(t:aF)(i:Int)(a b:de):(ju t i a b).ag.length=t.ag.length+1:=by simp[ju]
theorem PO(h:0≤i∧i<t.ag.length)(a b:de):(ju t i a b).pg i=a:=by
 unfold aF.pg ju;rw[getD_eq_getElem?_getD,getElem?_append_left vF,getElem?_set_self w4];rfl
theorem Ri(t:aF)(i:Int)(a b:de):(ju t i a b).pg t.ag.length=b:=by
 unfold aF.pg ju;rw[getD_eq_getElem?_getD,getElem?_append_right vF,length_set];simp
theorem O0{j:Int}(hi:0≤i)(hj:0≤j∧j<t.ag.length)(h:i≠j)(a b:de):(ju t i a b).pg j=t.pg j:=by
 unfold aF.pg ju;rw[getD_eq_getElem?_getD,getD_eq_getElem?_getD,getElem?_append_left vF,getElem?_set_ne w4]
theorem IA{q:de}(hp:∀p∈t.ag,eH p n)(hq:eH q n):∀p∈(t.set i q).ag,eH p n:=fun p h=>by
 rcases mem_or_eq_of_mem_set h with h|rfl
 ·exact hp p h
 exact hq
theorem O1{a b:de}{m:Int}(hp:∀p∈t.ag,eH p n)(hm:n≤m)(ha:eH a m)(hb:eH b m):∀p∈(ju t i a b).ag,eH p m:=fun p h=>by
 unfold ju at h;rcases mem_append.1 h with h|h
 ·rcases mem_or_eq_of_mem_set h with h|rfl
  ·exact(hp p h).more hm
  exact ha
 rw[mem_singleton] at h;subst h;exact hb
theorem I7{aC:Int}(h:(bC (t.pg i) up aC).keys.length≤4):rA t i up aC=(t.set i (bC (t.pg i) up aC),none):=by unfold rA;rw[if_pos h]
theorem IB{aC:Int}(h:¬(bC (t.pg i) up aC).keys.length≤4):rA t i up aC=(ju t i (bu (bC (t.pg i) up aC) t.ag.length) (bz (bC (t.pg i) up aC)),some (jn (bC (t.pg i) up aC),(t.ag.length:Int))):=by unfold rA;rw[if_neg h];rfl
theorem Te{q:de}(hr:q.keys.Pairwise bF)(h5:q.keys.length=5)(hl:∀k∈q.keys,¬bF k low):bF low (jn q)∧(∀k∈q.keys.drop 2,¬bF k (jn q)):=by
 rw[zc h5];refine⟨OI (hl _ (getElem_mem (by omega:0<q.keys.length))) (nc hr w4 w4),fun k hk=>?_⟩;obtain⟨j,hj,rfl⟩:=mem_iff_getElem.1 hk;rw[length_drop] at hj;rw[getElem_drop];rcases Nat.eq_zero_or_pos j with rfl|h0
 ·exact jR _
 exact za (nc hr w4 w4)
theorem acE(hp:∀p∈t.ag,eH p t.ag.length){high:K}(ok:dZ t 0 i low high){k:K}{row:Int}(hk:lJ low high k)(hn:∀x∈er t 0 i,x.1≠k)(hl:1≤k.length∧k.length≤100)(hr:0≤row):oI t (rA t i k row).1 0 i low high k row (rA t i k row).2:=by
 obtain⟨q1,q2,O,q4⟩:=ok;have po:=hp _ (jE q1);have U:k∉(t.pg i).keys:=fun hm=>by
  obtain⟨j,hj,e⟩:=mem_iff_getElem.1 hm;have hlen:=po.leaf q2;refine hn ((t.pg i).keys[j],(t.pg i).kids[j]'w4) ?_ e;show _∈eZ (t.pg i);unfold eZ;exact mem_iff_getElem.2 ⟨j,by rw[length_zip];omega,by rw[getElem_zip]⟩
 have hf:wL (bC (t.pg i) k row) t.ag.length:=I5 po U hl (fun hne=>hk.2 (by rw[←O];exact hne) |> fun h=>by rw[O];exact h) hr (fun h=>by rw[q2] at h;cases h);have fO:=(I4 po U).2.2;have hE:eZ (bC (t.pg i) k row)=gU (eZ (t.pg i)) (aL (t.pg i) k) (k,row):=by
  show(gU _ _ _).zip (gU _ _ _)=_;rw[if_pos q2];exact aaY (po.leaf q2) fO k row
 have E:∀x∈(bC (t.pg i) k row).keys,¬bF x low:=fun x hx=>by
  rcases uR.1 hx with rfl|h
  ·exact hk.1
  exact q4 x h
 by_cases h4:(bC (t.pg i) k row).keys.length≤4
 ·rw[I7 h4];have Z:=Bn q1 (bC (t.pg i) k row);refine⟨by rw[oe];omega,by rw[oe];omega,rfl,by rw[oe];exact IA hp (hf.ok h4),fun j h0 hj hne=>?_,?_,fun x hx=>.inl hx,?_,by rw[oe];rfl,fun x=>?_,fun d hd e hs=>?_⟩
  ·exact we q1.1 h0 (by intro e;subst e;simp[ids] at hne) _
  ·exact⟨by rw[oe];exact q1,by rw[Z];exact q2,by rw[Z];exact O,by rw[Z];exact E⟩
  ·show[i].Nodup;simp
  ·show x∈eZ ((t.set i _).pg i)↔_;rw[Z,hE,uR];rfl
  obtain rfl:d=0:=(by omega)
  refine⟨?_,rfl⟩;show((t.set i _).pg i).next=e;rw[Z];exact hs
 have h5:(bC (t.pg i) k row).keys.length=5:=(by have:=hf.eJ;omega)
 rw[IB h4];have I:(bC (t.pg i) k row).leaf=true:=q2;have ea:=PO q1 (bu (bC (t.pg i) k row) t.ag.length) (bz (bC (t.pg i) k row));have eb:=Ri t i (bu (bC (t.pg i) k row) t.ag.length) (bz (bC (t.pg i) k row));obtain⟨u1,u2⟩:=Te hf.jY h5 E;have Dr:jn (bC (t.pg i) k row)∈(bC (t.pg i) k row).keys:=(by rw[zc h5];exact getElem_mem _)
 have gX:eZ (bu (bC (t.pg i) k row) t.ag.length)++eZ (bz (bC (t.pg i) k row))=eZ (bC (t.pg i) k row):=by
  show((bC (t.pg i) k row).keys.take 2).zip ((bC (t.pg i) k row).kids.take (if (bC (t.pg i) k row).leaf=true then 2 else 3))++((bC (t.pg i) k row).keys.drop (if (bC (t.pg i) k row).leaf=true then 2 else 3)).zip ((bC (t.pg i) k row).kids.drop (if (bC (t.pg i) k row).leaf=true then 2 else 3))=_;rw[if_pos I,←zip_append (by rw[length_take,length_take,hf.leaf I]),take_append_drop,take_append_drop];rfl
 refine⟨by rw[pI];omega,by rw[pI];omega,rfl,?_,fun j h0 hj hne=>?_,⟨hf.lC _ Dr,u1,fun hne=>hf.qB (by show(t.pg i).high≠[];rw[O];exact hne) _ Dr |> fun h=>by rw[←O];exact h,?_,?_⟩,fun x hx=>?_,?_,by rw[pI];show[i,(t.ag.length:Int)].length+_=[i].length+_;simp;omega,fun x=>?_,fun d hd e hs=>?_⟩
 ·rw[pI];exact O1 hp w4 (Up hf h5 w4) (Td hf h5 w4)
 ·exact O0 q1.1 ⟨h0,hj⟩ (by intro e;subst e;simp[ids] at hne) _ _
 ·exact⟨by rw[pI];omega,by rw[ea];exact I,by rw[ea];rfl,by rw[ea];exact fun x hx=>E x (mem_of_mem_take hx)⟩
 ·refine⟨by rw[pI];omega,by rw[eb];exact I,by rw[eb];exact O,?_⟩;rw[eb];show ∀x∈(bC (t.pg i) k row).keys.drop (if (bC (t.pg i) k row).leaf=true then 2 else 3),_;rw[if_pos I];exact u2
 ·have pi:x∈[i,(t.ag.length:Int)]:=hx;simp only[mem_cons,not_mem_nil,or_false] at pi;rcases pi with rfl|rfl
  ·exact .inl (by simp[ids])
  exact .inr (Int.le_refl _)
 ·show[i,(t.ag.length:Int)].Nodup;simp;omega
 ·show x∈eZ ((ju t i _ _).pg i)++eZ ((ju t i _ _).pg _)↔_;rw[ea,eb,gX,hE,uR];rfl
 obtain rfl:d=0:=(by omega)
 refine⟨?_,rfl⟩;show((ju t i _ _).pg i).next=_∧((ju t i _ _).pg _).next=e;rw[ea,eb];exact⟨rfl,hs⟩

end Go.Proofs.YtdgichenhdikgaaGreatDoor.Tr

namespace Go.Proofs.YtdgichenhdikgaaGreatDoor.Tr
open List
open Go.Proofs.Tryz
open Go.Lib (compareBytes)
variable {α:Type} {A B:List Int} {v:aF}
theorem JO{keys:List K}(hr:keys.Pairwise bF){up:K}{j:Nat}(hj:j≤keys.length)(h1:∀(h:0<j),¬bF up (keys[j-1]'w4))(h2:∀(h:j<keys.length),bF up keys[j]):mL keys up=j:=by
 have E:=Bl keys up;rcases Nat.lt_trichotomy (mL keys up) j with h|h|h
 ·exfalso;have aa:mL keys up<keys.length:=(by omega)
  have h3:=Iy aa;have h4:=h1 w4;rcases Nat.lt_or_ge (mL keys up) (j-1) with h5|h5
  ·exact h4 (mg h3 (nc hr h5 w4))
  have:mL keys up=j-1:=(by omega)
  simp only[this] at h3;exact h4 h3
 ·exact h
 exact absurd (h2 w4) (I3 h).2
theorem OJ{l:List α}{j:Nat}(hj:j<l.length)(x:α):gU l (j+1) x=l.take j++l[j]::x::l.drop (j+1):=by
 unfold gU;rw[take_succ_eq_append_getElem hj,append_assoc];rfl
theorem uT{l:List α}{j:Nat}(hj:j<l.length):l=l.take j++l[j]::l.drop (j+1):=by
 conv=>lhs;rw[←take_append_drop j l,drop_eq_getElem_cons hj]
theorem Zt{l:List α}{j:Nat}{x:α}(h:x∈l.eraseIdx j):x∈l.take j∨x∈l.drop (j+1):=by
 rw[eraseIdx_eq_take_drop_succ] at h;exact mem_append.1 h
variable {t:aF}
theorem wg{h:Nat}{i:Int}{j:Nat}(hj:j<(t.pg i).kids.length)(hn:(ids t (h+1) i).Nodup):(ids t h (t.pg i).kids[j]).Nodup∧i∉ids t h (t.pg i).kids[j]∧(∀x∈(t.pg i).kids.take j++(t.pg i).kids.drop (j+1),(∀y∈ids t h x,y∉ids t h (t.pg i).kids[j])∧i∉ids t h x) ∧
  (((t.pg i).kids.take j).flatMap (ids t h)++((t.pg i).kids.drop (j+1)).flatMap (ids t h)).Nodup∧i∉((t.pg i).kids.take j).flatMap (ids t h)++((t.pg i).kids.drop (j+1)).flatMap (ids t h):=by
 rw[ids,nodup_cons] at hn;obtain⟨h0,hn⟩:=hn;have hs:=uT hj;rw[hs,flatMap_append,flatMap_cons] at hn h0;simp only[mem_append,not_or] at h0;rw[nodup_append] at hn;obtain⟨n1,n2,n3⟩:=hn;rw[nodup_append] at n2;obtain⟨n4,n5,n6⟩:=n2;refine⟨n4,h0.2.1,fun x hx=>?_,?_,?_⟩
 ·rcases mem_append.1 hx with hx|hx
  ·exact⟨fun y hy hc=>n3 y (mem_flatMap.2 ⟨x,hx,hy⟩) y (mem_append_left _ hc) rfl,fun hi=>h0.1 (mem_flatMap.2 ⟨x,hx,hi⟩)⟩
  exact⟨fun y hy hc=>n6 y hc y (mem_flatMap.2 ⟨x,hx,hy⟩) rfl,fun hi=>h0.2.2 (mem_flatMap.2 ⟨x,hx,hi⟩)⟩
 ·rw[nodup_append];exact⟨n1,n5,fun a ha b hb=>n3 a ha b (mem_append_right _ hb)⟩
 simp only[mem_append,not_or];exact⟨h0.1,h0.2.2⟩
theorem IC{f g:Int→List α}{c aC:Int}(hA:∀x∈A,f x=g x)(E:∀x∈B,f x=g x):(A++c::aC::B).flatMap f=A.flatMap g++(f c++f aC)++B.flatMap g:=by
 rw[flatMap_append,flatMap_cons,flatMap_cons,qY hA,qY E];simp
theorem I8{f g:Int→List α}{c:Int}(hA:∀x∈A,f x=g x)(E:∀x∈B,f x=g x):(A++c::B).flatMap f=A.flatMap g++f c++B.flatMap g:=by
 rw[flatMap_append,flatMap_cons,qY hA,qY E];simp

structure jB (t u:aF) (h:Nat) (i:Int) (low high:K) (j:Nat) (k:K) (row:Int) (r:Option (K×Int)):Prop where
 hp:∀p∈t.ag,eH p t.ag.length
 ok:dZ t (h+1) i low high
 nd:(ids t (h+1) i).Nodup
 hj:j<(t.pg i).kids.length
 hk:lJ (iz low (t.pg i) j) (gZ (t.pg i) j) k
 ins:oI t u h ((t.pg i).kids.getD j 0) (iz low (t.pg i) j) (gZ (t.pg i) j) k row r
section
variable {u:aF} {h:Nat} {i:Int} {low high:K} {j:Nat} {k:K} {row:Int} {r:Option (K×Int)}
theorem jB.aC(m:jB t u h i low high j k row r):(t.pg i).kids.getD j 0=(t.pg i).kids[j]'m.hj:=tG m.hj
theorem jB.same(m:jB t u h i low high j k row r):u.pg i=t.pg i:=by
 have:=(wg m.hj m.nd).2.1;exact m.ins.out i m.ok.idx.1 m.ok.idx.2 (by rw[m.aC];exact this)
structure oh (u v:aF) (i:Int):Prop where
 le:u.ag.length≤v.ag.length
 pg:∀x:Int,0≤x→x<u.ag.length→x≠i→v.pg x=u.pg x
theorem jB.others(m:jB t u h i low high j k row r)(ha:oh u v i):∀x∈(t.pg i).kids.take j++(t.pg i).kids.drop (j+1),∀y∈ids t h x,v.pg y=t.pg y:=fun x hx y hy=>by
 obtain⟨h1,h2⟩:=(wg m.hj m.nd).2.2.1 x hx;have I:y≠i:=fun e=>h2 (e ▸ hy);have E:0≤y∧y<t.ag.length:=by
  have hm:y∈ids t (h+1) i:=by
   rw[ids];refine mem_cons_of_mem _ (mem_flatMap.2 ⟨x,?_,hy⟩);rcases mem_append.1 hx with hx|hx
   ·exact mem_of_mem_take hx
   exact mem_of_mem_drop hx
  exact m.ok.ids y hm
 have O:=m.ins.le;rw[ha.pg y E.1 w4 I,m.ins.out y E.1 E.2 (by rw[m.aC];exact h1 y hy)]
theorem jB.below(m:jB t u h i low high j k row r)(ha:oh u v i):∀y∈nO u h ((t.pg i).kids[j]'m.hj) r,0≤y→y<u.ag.length→v.pg y=u.pg y:=fun y hy h0 hl=>by
 refine ha.pg y h0 hl fun e=>?_;have hs:=m.ins.sub y (by rw[m.aC];exact hy);rw[m.aC] at hs;rcases hs with hs|hs
 ·exact(wg m.hj m.nd).2.1 (e ▸ hs)
 have:=m.ok.idx;omega
theorem jB.qx(m:jB t u h i low high j k row r)(ha:oh u v i){x:Int}(hx:x∈(t.pg i).kids.take j++(t.pg i).kids.drop (j+1)):ids v h x=ids t h x∧er v h x=er t h x∧∀d,d≤h→cH v d x=cH t d x:=frame h x (m.others ha x hx)
theorem jB.Tf(m:jB t u h i low high j k row r)(ha:oh u v i){x:Int}(hx:x∈(t.pg i).kids.take j++(t.pg i).kids.drop (j+1)){lo hi:K}(aR:dZ t h x lo hi):dZ v h x lo hi:=by
 have:=m.ins.le;have:=ha.le;exact aR.frame w4 (m.others ha x hx)
theorem jB.Rj(m:jB t u h i low high j k row r):(((t.pg i).kids.take j).flatMap (ids t h)++nO u h ((t.pg i).kids[j]'m.hj) r++((t.pg i).kids.drop (j+1)).flatMap (ids t h)).Nodup∧i∉((t.pg i).kids.take j).flatMap (ids t h)++nO u h ((t.pg i).kids[j]'m.hj) r++((t.pg i).kids.drop (j+1)).flatMap (ids t h):=by
 obtain⟨a1,a2,a3,a4,a5⟩:=wg m.hj m.nd;have hnd:=m.ins.nodup;have E:=m.ins.sub;rw[m.aC] at hnd E;have aa:∀x∈(t.pg i).kids.take j++(t.pg i).kids.drop (j+1),∀y∈ids t h x,y<t.ag.length:=fun x hx y hy=>by
  refine(m.ok.ids y ?_).2;rw[ids];refine mem_cons_of_mem _ (mem_flatMap.2 ⟨x,?_,hy⟩);rcases mem_append.1 hx with hx|hx
  ·exact mem_of_mem_take hx
  exact mem_of_mem_drop hx
 have I:∀x∈(t.pg i).kids.take j++(t.pg i).kids.drop (j+1),∀y∈ids t h x,y∉nO u h ((t.pg i).kids[j]'m.hj) r:=fun x hx y hy hm=>by
  rcases E y hm with hs|hs
  ·exact(a3 x hx).1 y hy hs
  have:=aa x hx y hy;omega
 have O:i∉nO u h ((t.pg i).kids[j]'m.hj) r:=fun hm=>by
  rcases E i hm with hs|hs
  ·exact a2 hs
  have:=m.ok.idx;omega
 rw[nodup_append] at a4;obtain⟨b1,b2,b3⟩:=a4;refine⟨?_,?_⟩
 ·rw[nodup_append,nodup_append];refine⟨⟨b1,hnd,fun a ha b hb e=>?_⟩,b2,fun a ha b hb e=>?_⟩
  ·obtain⟨x,hx,ha⟩:=mem_flatMap.1 ha;subst e;exact I x (mem_append_left _ hx) a ha hb
  obtain⟨x,hx,jP⟩:=mem_flatMap.1 hb;subst e;rcases mem_append.1 ha with ha|ha
  ·exact b3 a ha a hb rfl
  exact I x (mem_append_right _ hx) a jP ha
 simp only[mem_append,not_or] at a5 ⊢;exact⟨⟨a5.1,O⟩,a5.2⟩
theorem jB.Uq(m:jB t u h i low high j k row r):(((t.pg i).kids.take j).flatMap (ids t h)++nO u h ((t.pg i).kids[j]'m.hj) r++((t.pg i).kids.drop (j+1)).flatMap (ids t h)).length+1+t.ag.length=(ids t (h+1) i).length+u.ag.length:=by
 have hc:=m.ins.Yc;rw[m.aC] at hc;have e:(ids t (h+1) i).length=1+((((t.pg i).kids.take j).flatMap (ids t h)).length+((ids t h ((t.pg i).kids[j]'m.hj)).length+(((t.pg i).kids.drop (j+1)).flatMap (ids t h)).length)):=by
  rw[ids];conv=>lhs;rw[uT m.hj]
  rw[length_cons,flatMap_append,flatMap_cons,length_append,length_append];omega
 rw[e,length_append,length_append];omega
theorem jB.T7(m:jB t u h i low high j k row r):∀x∈((t.pg i).kids.take j).flatMap (ids t h)++nO u h ((t.pg i).kids[j]'m.hj) r++((t.pg i).kids.drop (j+1)).flatMap (ids t h),x∈ids t (h+1) i∨(t.ag.length:Int)≤x:=fun x hx=>by
 have E:=m.ins.sub;rw[m.aC] at E;have up:∀c∈(t.pg i).kids,∀y∈ids t h c,y∈ids t (h+1) i:=fun c hc y hy=>by rw[ids];exact mem_cons_of_mem _ (mem_flatMap.2 ⟨c,hc,hy⟩)
 rcases mem_append.1 hx with hx|hx
 ·rcases mem_append.1 hx with hx|hx
  ·obtain⟨c,hc,hx⟩:=mem_flatMap.1 hx;exact .inl (up c (mem_of_mem_take hc) x hx)
  rcases E x hx with hs|hs
  ·exact .inl (up _ (getElem_mem _) x hs)
  exact .inr hs
 obtain⟨c,hc,hx⟩:=mem_flatMap.1 hx;exact .inl (up c (mem_of_mem_drop hc) x hx)
theorem jB.JP(m:jB t u h i low high j k row r)(x:K×Int):x∈((t.pg i).kids.take j).flatMap (er t h)++FZ u h ((t.pg i).kids[j]'m.hj) r++((t.pg i).kids.drop (j+1)).flatMap (er t h)↔x=(k,row)∨x∈er t (h+1) i:=by
 have he:=m.ins.er x;rw[m.aC] at he;have e:er t (h+1) i=((t.pg i).kids.take j).flatMap (er t h)++(er t h ((t.pg i).kids[j]'m.hj)++((t.pg i).kids.drop (j+1)).flatMap (er t h)):=by
  rw[er];conv=>lhs;rw[uT m.hj]
  rw[flatMap_append,flatMap_cons]
 rw[e];simp only[mem_append,he];constructor
 ·rintro((h|h|h)|h)
  ·exact .inr (.inl h)
  ·exact .inl h
  ·exact .inr (.inr (.inl h))
  exact .inr (.inr (.inr h))
 rintro(h|h|h|h)
 ·exact .inl (.inr (.inl h))
 ·exact .inl (.inl h)
 ·exact .inl (.inr (.inr h))
 exact .inr h
theorem jB.Kl(m:jB t u h i low high j k row r)(ha:oh u v i){d:Nat}(hd:d≤h){e:Int}(hs:fa t (cH t (d+1) i) e) :
  fa v (((t.pg i).kids.take j).flatMap (cH t d)++sO u d ((t.pg i).kids[j]'m.hj) r++((t.pg i).kids.drop (j+1)).flatMap (cH t d)) e∧(((t.pg i).kids.take j).flatMap (cH t d)++sO u d ((t.pg i).kids[j]'m.hj) r++((t.pg i).kids.drop (j+1)).flatMap (cH t d)).headD e=(cH t (d+1) i).headD e:=by
 have hl:cH t (d+1) i=((t.pg i).kids.take j).flatMap (cH t d)++(cH t d ((t.pg i).kids[j]'m.hj)++((t.pg i).kids.drop (j+1)).flatMap (cH t d)):=by
  rw[cH];conv=>lhs;rw[uT m.hj]
  rw[flatMap_append,flatMap_cons]
 rw[hl] at hs ⊢;rw[Bv,Bv] at hs;obtain⟨s1,s2,s3⟩:=hs;obtain⟨g1,g2⟩:=m.ins.pB d hd _ (by rw[m.aC];exact s2);rw[m.aC] at g1 g2;obtain⟨_,_,_,_,O⟩:=m.ok;have hne:cH t d ((t.pg i).kids[j]'m.hj)≠[]:=FB m.hp (O j m.hj) d hd;have fr:∀x∈(t.pg i).kids.take j++(t.pg i).kids.drop (j+1),∀y∈cH t d x,(v.pg y).next=(t.pg y).next:=fun x hx y hy=>by rw[m.others ha x hx y (su h x d hd y hy)]
 have U:∀y∈sO u d ((t.pg i).kids[j]'m.hj) r,(v.pg y).next=(u.pg y).next:=fun y hy=>by
  have aR:=m.ins.ok;rw[m.aC] at aR;cases r with
  | none =>
   have hi:=su h _ d hd y hy;have hb:=dZ.ids aR y hi;rw[m.below ha y hi hb.1 hb.2]
  | some q =>
   obtain⟨up,aC⟩:=q;obtain⟨_,_,_,o1,o2⟩:=aR;rcases mem_append.1 hy with hy|hy
   ·have hi:=su h _ d hd y hy;have hb:=o1.ids y hi;rw[m.below ha y (mem_append_left _ hi) hb.1 hb.2]
   have hi:=su h _ d hd y hy;have hb:=o2.ids y hi;rw[m.below ha y (mem_append_right _ hi) hb.1 hb.2]
 have E:sO u d ((t.pg i).kids[j]'m.hj) r≠[]:=fun e0=>by
  have aR:=m.ins.ok;rw[m.aC] at aR;cases r with
  | none=>exact FB m.ins.fD aR d hd e0
  | some q =>
   obtain⟨up,aC⟩:=q;exact FB m.ins.fD aR.2.2.2.1 d hd (append_eq_nil_iff.1 e0).1
 have I:=yI (u:=v) (fun y hy=>by obtain⟨x,hx,hy⟩:=mem_flatMap.1 hy;exact fr x (mem_append_left _ hx) y hy) s1;have Z:=yI (u:=v) (fun y hy=>by obtain⟨x,hx,hy⟩:=mem_flatMap.1 hy;exact fr x (mem_append_right _ hx) y hy) s3;have g1':=yI (u:=v) U g1;have hh:∀e':Int,(sO u d ((t.pg i).kids[j]'m.hj) r).headD e'=(cH t d ((t.pg i).kids[j]'m.hj)).headD e':=fun e'=>by
  cases h1:sO u d ((t.pg i).kids[j]'m.hj) r with
  | nil=>exact absurd h1 E
  | cons a b =>
   cases h2:cH t d ((t.pg i).kids[j]'m.hj) with
   | nil=>exact absurd h2 hne
   | cons a' b'=>rw[h1,h2] at g2;exact g2
 rw[append_assoc];refine⟨?_,?_⟩
 ·rw[Bv,Bv];refine⟨?_,g1',Z⟩;rw[Ew E,hh];rw[Ew hne] at I;exact I
 cases hA:((t.pg i).kids.take j).flatMap (cH t d) with
 | cons a b=>rfl
 | nil=>rw[nil_append,nil_append,Ew E,Ew hne,hh]
end
end Go.Proofs.YtdgichenhdikgaaGreatDoor.Tr

namespace Go.Proofs.YtdgichenhdikgaaGreatDoor.Tr
open List
open Go.Proofs.Tryz
open Go.Lib (compareBytes)
variable {t u:aF} {h:Nat} {i:Int} {low high:K} {j:Nat} {k:K} {row:Int}
theorem aaZ{α:Type}{l:List α}{j E:Nat}(I:E<l.length)(hne:E≠j):l[E]∈l.take j++l.drop (j+1):=by
 rcases Nat.lt_or_ge E j with h|h
 ·exact mem_append_left _ (mem_iff_getElem.2 ⟨E,by rw[length_take];omega,by rw[getElem_take]⟩)
 refine mem_append_right _ (mem_iff_getElem.2 ⟨E-(j+1),by rw[length_drop];omega,?_⟩);rw[getElem_drop];congr 1;omega
theorem I9(m:jB t u h i low high j k row none):oI t u (h+1) i low high k row none:=by
 have E:oh u u i:=⟨Nat.le_refl _,fun _ _ _ _=>rfl⟩
 have I:=m.same;have AM:=m.ok.idx;obtain⟨q1,q2,q3,q4,q5⟩:=m.ok;have aR:dZ u h ((t.pg i).kids[j]'m.hj) (iz low (t.pg i) j) (gZ (t.pg i) j):=(by have:=m.ins.ok;rw[m.aC] at this;exact this)
 have pT:ids u (h+1) i=i::(((t.pg i).kids.take j).flatMap (ids t h)++nO u h ((t.pg i).kids[j]'m.hj) none++((t.pg i).kids.drop (j+1)).flatMap (ids t h)):=by
  rw[ids,I];conv=>lhs;rw[uT m.hj]
  rw[I8 (fun x hx=>(m.qx E (mem_append_left _ hx)).1) (fun x hx=>(m.qx E (mem_append_right _ hx)).1)];rfl
 have O:er u (h+1) i=((t.pg i).kids.take j).flatMap (er t h)++FZ u h ((t.pg i).kids[j]'m.hj) none++((t.pg i).kids.drop (j+1)).flatMap (er t h):=by
  rw[er,I];conv=>lhs;rw[uT m.hj]
  rw[I8 (fun x hx=>(m.qx E (mem_append_left _ hx)).2.1) (fun x hx=>(m.qx E (mem_append_right _ hx)).2.1)];rfl
 have U:∀d,d≤h→cH u (d+1) i=((t.pg i).kids.take j).flatMap (cH t d)++sO u d ((t.pg i).kids[j]'m.hj) none++((t.pg i).kids.drop (j+1)).flatMap (cH t d):=fun d hd=>by
  rw[cH,I];conv=>lhs;rw[uT m.hj]
  rw[I8 (fun x hx=>(m.qx E (mem_append_left _ hx)).2.2 d hd) (fun x hx=>(m.qx E (mem_append_right _ hx)).2.2 d hd)];rfl
 have hle:=m.ins.le;have UX:=m.ins.more;have Z:=m.Rj;refine⟨hle,by omega,m.ins.root,m.ins.fD,fun x h0 hx hne=>?_,?_,?_,?_,?_,?_,?_⟩
 ·refine m.ins.out x h0 hx fun hm=>hne ?_;rw[m.aC] at hm;rw[ids];exact mem_cons_of_mem _ (mem_flatMap.2 ⟨_,getElem_mem _,hm⟩)
 ·refine⟨⟨AM.1,by omega⟩,by rw[I];exact q2,by rw[I];exact q3,by rw[I];exact q4,?_⟩;rw[I];intro j' jz;by_cases e:j'=j
  ·subst e;exact aR
  exact m.Tf E (aaZ jz e) (q5 j' jz)
 ·intro x hx;have pi:x∈ids u (h+1) i:=hx;exact Vn
 ·show(ids u (h+1) i).Nodup;rw[pT,nodup_cons];exact⟨Z.2,Z.1⟩
 ·show(ids u (h+1) i).length+_=_;rw[pT,length_cons];exact m.Uq
 ·intro x;show x∈er u (h+1) i↔_;rw[O];exact m.JP x
 intro d hd e hs;cases d with
 | zero=>exact⟨by show(u.pg i).next=e;rw[I];exact hs,rfl⟩
 | succ d =>
  show fa u (cH u (d+1) i) e∧(cH u (d+1) i).headD e=_;rw[U d w4];exact m.Kl E w4 hs
theorem jB.place{up:K}{aC:Int}(m:jB t u h i low high j k row (some (up,aC))):aL (t.pg i) up=j∧up∉(t.pg i).keys∧lJ low high up∧bF low up:=by
 obtain⟨q1,q2,I,O,Z⟩:=m.ok;have po:=m.hp _ (jE q1);have hn:=(po.node q2).1;have aR:=m.ins.ok;rw[m.aC] at aR;obtain⟨o1,o2,o3,o4,o5⟩:=aR;have U:=m.hj;have eV:∀(h0:0<j),bF ((t.pg i).keys[j-1]'w4) up:=fun h0=>by rw[Fi h0 w4] at o2;exact o2
 have eG:∀(hl:j<(t.pg i).keys.length),bF up (t.pg i).keys[j]:=fun hl=>by
  rw[Fz hl] at o3;exact o3 (by intro e;have:=(po.lC _ (getElem_mem hl)).1;rw[e] at this;simp at this)
 have fO:aL (t.pg i) up=j:=by
  unfold aL;rw[if_neg (by rw[q2];decide)];exact JO po.jY w4 (fun h0=>za (eV h0)) eG
 have E:bF low up:=by
  rcases Nat.eq_zero_or_pos j with h0|h0
  ·rw[h0] at o2;exact o2
  exact OI (O _ (getElem_mem (by omega:j-1<_))) (eV h0)
 refine⟨fO,fun hm=>?_,⟨za E,fun hne=>?_⟩,E⟩
 ·obtain⟨a,ha,e⟩:=mem_iff_getElem.1 hm;rcases Nat.lt_or_ge a j with h1|h1
  ·have h2:=eV w4;rcases Nat.lt_or_ge a (j-1) with h3|h3
   ·have:=mg (nc po.jY h3 w4) h2;rw[e] at this;exact jR _ this
   have:a=j-1:=(by omega)
   subst this;rw[e] at h2;exact jR _ h2
  have h2:=eG w4;rcases Nat.lt_or_ge j a with h3|h3
  ·have:=mg h2 (nc po.jY h3 ha);rw[e] at this;exact jR _ this
  have:a=j:=(by omega)
  subst this;rw[e] at h2;exact jR _ h2
 by_cases hl:j<(t.pg i).keys.length
 ·exact mg (eG hl) (by rw[←I];exact po.qB (by rw[I];exact hne) _ (getElem_mem hl))
 rw[JM w4,I] at o3;exact o3 hne
theorem acF{up:K}{aC:Int}(m:jB t u h i low high j k row (some (up,aC))):oI t (rA u i up aC).1 (h+1) i low high k row (rA u i up aC).2:=by
 obtain⟨p1,p2,p3,p4⟩:=m.place;have es:=m.same;have AM:=m.ok.idx;have aR:=m.ins.ok;rw[m.aC] at aR;obtain⟨o1,o2,o3,o4,o5⟩:=aR;obtain⟨q1,q2,q3,q4,q5⟩:=m.ok;have hle:=m.ins.le;have UX:=m.ins.more;have U:0≤i∧i<u.ag.length:=⟨AM.1,by omega⟩
 have Yd:=m.hp _ (jE q1);have po:eH (t.pg i) u.ag.length:=Yd.more w4;have hn:=(po.node q2).1;have l6:=m.hj;have hf:wL (bC (t.pg i) up aC) u.ag.length:=I5 po p2 o1 (by rw[q3];exact p3.2) o5.idx.1 (fun _=>o5.idx.2);have I:(bC (t.pg i) up aC).kids=(t.pg i).kids.take j++((t.pg i).kids[j]'m.hj)::aC::(t.pg i).kids.drop (j+1):=by
  show gU _ (if (t.pg i).leaf=true then _ else _) aC=_;rw[if_neg (by rw[q2];decide),p1];exact OJ m.hj aC
 have aht:(bC (t.pg i) up aC).keys=gU (t.pg i).keys j up:=by
  show gU _ _ _=_;rw[p1]
 have Z:∀x∈(bC (t.pg i) up aC).keys,¬bF x low:=fun x hx=>by
  rcases uR.1 hx with rfl|h
  ·exact p3.1
  exact q4 x h
 have hKT:jt t h low (t.pg i).kids (t.pg i).keys high:=(Bu Yd).1 m.ok |>.2.2.2.2
 -- what is below,in any tree apE aoh
 have below:∀{v:aF},oh u v i→(∀x,x∈ids u h ((t.pg i).kids[j]'m.hj)++ids u h aC→v.pg x=u.pg x):=fun E x hx=>by
  refine m.below E x hx ?_ ?_
  ·rcases mem_append.1 hx with hx|hx
   ·exact(o4.ids x hx).1
   exact(o5.ids x hx).1
  rcases mem_append.1 hx with hx|hx
  ·exact(o4.ids x hx).2
  exact(o5.ids x hx).2
 have NL:∀{v:aF},oh u v i→_:=fun {v} E=>frame (t:=u) (u:=v) h ((t.pg i).kids[j]'m.hj) (fun x hx=>below E x (mem_append_left _ hx));have NM:∀{v:aF},oh u v i→_:=fun {v} E=>frame (t:=u) (u:=v) h aC (fun x hx=>below E x (mem_append_right _ hx));have Ye:∀{v:aF},oh u v i→jt v h low (bC (t.pg i) up aC).kids (bC (t.pg i) up aC).keys high:=fun {v} E=>by
  have e1:(bC (t.pg i) up aC).kids=gU (t.pg i).kids (j+1) aC:=(by rw[I];exact(OJ m.hj aC).symm)
  rw[e1,aht];refine Rh j m.hj hKT (fun c hc lo hi aR=>m.Tf E ?_ aR) ?_ ?_
  ·rcases Zt hc with hc|hc
   ·exact mem_append_left _ hc
   exact mem_append_right _ hc
  ·have:=o4.frame E.le (fun x hx=>below E x (mem_append_left _ hx));unfold iz at this;exact this
  have:=o5.frame E.le (fun x hx=>below E x (mem_append_right _ hx));unfold gZ at this;rw[q3] at this;exact this
 have VZ:∀{v:aF},oh u v i→(bC (t.pg i) up aC).kids.flatMap (ids v h)=((t.pg i).kids.take j).flatMap (ids t h)++nO u h ((t.pg i).kids[j]'m.hj) (some (up,aC))++((t.pg i).kids.drop (j+1)).flatMap (ids t h):=fun {v} E=>by
  rw[I,IC (fun x hx=>(m.qx E (mem_append_left _ hx)).1) (fun x hx=>(m.qx E (mem_append_right _ hx)).1),(NL E).1,(NM E).1];rfl
 have UY:∀{v:aF},oh u v i→(bC (t.pg i) up aC).kids.flatMap (er v h)=((t.pg i).kids.take j).flatMap (er t h)++FZ u h ((t.pg i).kids[j]'m.hj) (some (up,aC))++((t.pg i).kids.drop (j+1)).flatMap (er t h):=fun {v} E=>by
  rw[I,IC (fun x hx=>(m.qx E (mem_append_left _ hx)).2.1) (fun x hx=>(m.qx E (mem_append_right _ hx)).2.1),(NL E).2.1,(NM E).2.1];rfl
 have V0:∀{v:aF},oh u v i→∀d,d≤h→(bC (t.pg i) up aC).kids.flatMap (cH v d)=((t.pg i).kids.take j).flatMap (cH t d)++sO u d ((t.pg i).kids[j]'m.hj) (some (up,aC))++((t.pg i).kids.drop (j+1)).flatMap (cH t d):=fun {v} E d hd=>by
  rw[I,IC (fun x hx=>(m.qx E (mem_append_left _ hx)).2.2 d hd) (fun x hx=>(m.qx E (mem_append_right _ hx)).2.2 d hd),(NL E).2.2 d hd,(NM E).2.2 d hd];rfl
 have td:=m.Rj;have Co:=m.Uq;have V1:∀x:Int,0≤x→x<t.ag.length→x∉ids t (h+1) i→u.pg x=t.pg x∧x≠i:=fun x h0 hx hne=>by
  refine⟨m.ins.out x h0 hx fun hm=>hne ?_,fun e=>hne (by rw[e];exact tr _ _)⟩;rw[m.aC] at hm;rw[ids];exact mem_cons_of_mem _ (mem_flatMap.2 ⟨_,getElem_mem _,hm⟩)
 by_cases h4:(bC (u.pg i) up aC).keys.length≤4
 ·rw[I7 h4];rw[es] at h4 ⊢;have ep:=Bn U (bC (t.pg i) up aC);have E:oh u (u.set i (bC (t.pg i) up aC)) i:=⟨by rw[oe];omega,fun x h0 hx hne=>we U.1 h0 (Ne.symm hne) _⟩
  have pT:ids (u.set i (bC (t.pg i) up aC)) (h+1) i=i::(((t.pg i).kids.take j).flatMap (ids t h)++nO u h ((t.pg i).kids[j]'m.hj) (some (up,aC))++((t.pg i).kids.drop (j+1)).flatMap (ids t h)):=(by rw[ids,ep,VZ E])
  refine⟨by rw[oe];omega,by rw[oe];omega,m.ins.root,by rw[oe];exact IA m.ins.fD (hf.ok h4),fun x h0 hx hne=>?_,?_,fun x hx=>?_,?_,?_,fun x=>?_,fun d hd e hs=>?_⟩
  ·obtain⟨e1,e2⟩:=V1 x h0 hx hne;rw[E.pg x h0 w4 e2,e1]
  ·show dZ _ (h+1) i low high;refine(Bu (n:=u.ag.length) (by rw[ep];exact hf.ok h4)).2 ?_;rw[ep];exact⟨by rw[oe];exact U,q2,q3,Z,Ye E⟩
  ·have pi:x∈ids (u.set i (bC (t.pg i) up aC)) (h+1) i:=hx;exact Vn
  ·show(ids _ (h+1) i).Nodup;rw[pT,nodup_cons];exact⟨td.2,td.1⟩
  ·show(ids _ (h+1) i).length+_=_;rw[pT,length_cons,oe];exact Co
  ·show x∈er _ (h+1) i↔_;rw[er,ep,UY E];exact m.JP x
  cases d with
  | zero=>exact⟨by show((u.set i _).pg i).next=e;rw[ep];exact hs,rfl⟩
  | succ d =>
   show fa _ (cH _ (d+1) i) e∧(cH _ (d+1) i).headD e=_;rw[cH,ep,V0 E d w4];exact m.Kl E w4 hs
 have h5:(bC (t.pg i) up aC).keys.length=5:=(by rw[es] at h4;have:=hf.eJ;omega)
 rw[IB h4];rw[es] at h4 ⊢;have Ds:(bC (t.pg i) up aC).leaf=false:=q2;have ea:=PO U (bu (bC (t.pg i) up aC) u.ag.length) (bz (bC (t.pg i) up aC));have eb:=Ri u i (bu (bC (t.pg i) up aC) u.ag.length) (bz (bC (t.pg i) up aC));have E:oh u (ju u i (bu (bC (t.pg i) up aC) u.ag.length) (bz (bC (t.pg i) up aC))) i:=⟨by rw[pI];omega,fun x h0 hx hne=>O0 U.1 ⟨h0,hx⟩ (Ne.symm hne) _ _⟩
 obtain⟨u1,u2⟩:=Te hf.jY h5 Z;have Dr:jn (bC (t.pg i) up aC)∈(bC (t.pg i) up aC).keys:=(by rw[zc h5];exact getElem_mem _)
 have eV:=Up hf h5 w4;have eG:=Td (m:=u.ag.length+1) hf h5 w4;have AE:=OZ 2 w4 (Ye E);rw[←zc h5] at AE;have Hw:(bu (bC (t.pg i) up aC) u.ag.length).kids=(bC (t.pg i) up aC).kids.take 3:=by
  show(bC (t.pg i) up aC).kids.take (if _ then _ else _)=_;rw[if_neg (by rw[Ds];decide)]
 have Hx:(bz (bC (t.pg i) up aC)).kids=(bC (t.pg i) up aC).kids.drop 3:=by
  show(bC (t.pg i) up aC).kids.drop (if _ then _ else _)=_;rw[if_neg (by rw[Ds];decide)]
 have ehy:(bz (bC (t.pg i) up aC)).keys=(bC (t.pg i) up aC).keys.drop 3:=by
  show(bC (t.pg i) up aC).keys.drop (if _ then _ else _)=_;rw[if_neg (by rw[Ds];decide)]
 have O:∀{α:Type} (f:Int→List α),((bC (t.pg i) up aC).kids.take 3).flatMap f++((bC (t.pg i) up aC).kids.drop 3).flatMap f=(bC (t.pg i) up aC).kids.flatMap f:=fun f=>by rw[←flatMap_append,take_append_drop]
 have pT:nO (ju u i (bu (bC (t.pg i) up aC) u.ag.length) (bz (bC (t.pg i) up aC))) (h+1) i (some (jn (bC (t.pg i) up aC),(u.ag.length:Int)))=(i::((bC (t.pg i) up aC).kids.take 3).flatMap (ids (ju u i (bu (bC (t.pg i) up aC) u.ag.length) (bz (bC (t.pg i) up aC))) h))++((u.ag.length:Int)::((bC (t.pg i) up aC).kids.drop 3).flatMap (ids (ju u i (bu (bC (t.pg i) up aC) u.ag.length) (bz (bC (t.pg i) up aC))) h)):=by
  show ids _ (h+1) i++ids _ (h+1) _=_;rw[ids,ids,ea,eb,Hw,Hx]
 have pid:=(O (ids (ju u i (bu (bC (t.pg i) up aC) u.ag.length) (bz (bC (t.pg i) up aC))) h)).trans (VZ E);have ajN:∀x∈((t.pg i).kids.take j).flatMap (ids t h)++nO u h ((t.pg i).kids[j]'m.hj) (some (up,aC))++((t.pg i).kids.drop (j+1)).flatMap (ids t h),x<u.ag.length:=fun x hx=>by
  rcases mem_append.1 hx with hx|hx
  ·rcases mem_append.1 hx with hx|hx
   ·obtain⟨c,hc,hx⟩:=mem_flatMap.1 hx;obtain⟨a,ha,rfl⟩:=mem_iff_getElem.1 (mem_of_mem_take hc);have:=(q5 a ha).ids x hx;omega
   rcases mem_append.1 hx with hx|hx
   ·exact(o4.ids x hx).2
   exact(o5.ids x hx).2
  obtain⟨c,hc,hx⟩:=mem_flatMap.1 hx;obtain⟨a,ha,rfl⟩:=mem_iff_getElem.1 (mem_of_mem_drop hc);have:=(q5 a ha).ids x hx;omega
 refine⟨by rw[pI];omega,by rw[pI];omega,m.ins.root,?_,fun x h0 hx hne=>?_,⟨hf.lC _ Dr,u1,fun hne=>?_,?_,?_⟩,fun x hx=>?_,?_,?_,fun x=>?_,fun d hd e hs=>?_⟩
 ·rw[pI];exact O1 m.ins.fD w4 eV eG
 ·obtain⟨e1,e2⟩:=V1 x h0 hx hne;rw[E.pg x h0 w4 e2,e1]
 ·have:=hf.qB (by show(t.pg i).high≠[];rw[q3];exact hne) _ Dr;rw[←q3];exact this
 ·refine(Bu (n:=(u.ag.length:Int)+1) (by rw[ea];exact eV)).2 ?_;rw[ea,Hw];exact⟨by rw[pI];omega,Ds,rfl,fun x hx=>Z x (mem_of_mem_take hx),AE.1⟩
 ·refine(Bu (n:=(u.ag.length:Int)+1) (by rw[eb];exact eG)).2 ?_;rw[eb,Hx,ehy];refine⟨by rw[pI];omega,Ds,q3,fun x hx=>u2 x ?_,AE.2⟩;rw[show 3=2+1 from rfl,←drop_drop] at hx;exact mem_of_mem_drop hx
 ·rw[pT] at hx;have fi:x=i∨x=(u.ag.length:Int)∨x∈((bC (t.pg i) up aC).kids.take 3).flatMap (ids (ju u i (bu (bC (t.pg i) up aC) u.ag.length) (bz (bC (t.pg i) up aC))) h)++((bC (t.pg i) up aC).kids.drop 3).flatMap (ids (ju u i (bu (bC (t.pg i) up aC) u.ag.length) (bz (bC (t.pg i) up aC))) h):=by
   rcases mem_append.1 hx with hx|hx
   ·rcases mem_cons.1 hx with h|h
    ·exact .inl h
    exact .inr (.inr (mem_append_left _ h))
   rcases mem_cons.1 hx with h|h
   ·exact .inr (.inl h)
   exact .inr (.inr (mem_append_right _ h))
  rw[pid] at fi;rcases fi with rfl|rfl|hx
  ·exact .inl (tr _ _)
  ·exact .inr w4
  exact m.T7 x hx
 ·rw[pT];have hnd:=td.1;rw[←pid,nodup_append] at hnd;have nU:=td.2;rw[←pid] at nU;simp only[mem_append,not_or] at nU;have j9:∀x∈((bC (t.pg i) up aC).kids.take 3).flatMap (ids (ju u i (bu (bC (t.pg i) up aC) u.ag.length) (bz (bC (t.pg i) up aC))) h)++((bC (t.pg i) up aC).kids.drop 3).flatMap (ids (ju u i (bu (bC (t.pg i) up aC) u.ag.length) (bz (bC (t.pg i) up aC))) h),x<u.ag.length:=fun x hx=>ajN x (by rw[←pid];exact hx);rw[nodup_append,nodup_cons,nodup_cons];refine⟨⟨nU.1,hnd.1⟩,⟨fun hm=>?_,hnd.2.1⟩,fun a ha b hb e=>?_⟩
  ·have:=j9 _ (mem_append_right _ hm);omega
  subst e;rcases mem_cons.1 ha with rfl|ha
  ·rcases mem_cons.1 hb with hb|hb
   ·omega
   exact nU.2 hb
  rcases mem_cons.1 hb with rfl|hb
  ·have:=j9 _ (mem_append_left _ ha);omega
  exact hnd.2.2 a ha a hb rfl
 ·rw[pT,pI];have:=congrArg length pid;rw[length_append] at this;rw[length_append,length_cons,length_cons];omega
 ·show x∈er _ (h+1) i++er _ (h+1) _↔_;rw[er,er,ea,eb,Hw,Hx,O,UY E];exact m.JP x
 cases d with
 | zero =>
  refine⟨?_,rfl⟩;show((ju u i _ _).pg i).next=_∧((ju u i _ _).pg _).next=e;rw[ea,eb];exact⟨rfl,hs⟩
 | succ d =>
  show fa _ (cH _ (d+1) i++cH _ (d+1) _) e∧(cH _ (d+1) i++cH _ (d+1) _).headD e=_;rw[cH,cH,ea,eb,Hw,Hx,O,V0 E d w4];exact m.Kl E w4 hs
theorem FC:∀{h:Nat} {t:aF} (hp:∀p∈t.ag,eH p t.ag.length) {i:Int} {low high:K} (ok:dZ t h i low high) (nd:(ids t h i).Nodup) {k:K} {row:Int} (hk:lJ low high k) (hn:∀x∈er t h i,x.1≠k) (hl:1≤k.length∧k.length≤100) (hr:0≤row),oI t (gC t k row h i).1 h i low high k row (gC t k row h i).2
 | 0,t,hp,i,low,high,ok,nd,k,row,hk,hn,hl,hr=>acE hp ok hk hn hl hr
 | h+1,t,hp,i,low,high,ok,nd,k,row,hk,hn,hl,hr=>by
  obtain⟨q1,q2,O,Z,U⟩:=id ok;have po:=hp _ (jE q1);obtain⟨d1,d2⟩:=down po q2 O hk;have E:=(wg d1 nd).1;have I:=FC (h:=h) hp (U _ d1) E d2 (fun x hx=>hn x MA) hl hr;rw[←tG d1] at I;rw[gC];generalize gC t k row h ((t.pg i).kids.getD (aL (t.pg i) k) 0)=R at I;obtain⟨u,r⟩:=R;have m:jB t u h i low high (aL (t.pg i) k) k row r:=⟨hp,ok,nd,d1,d2,I⟩
  cases r with
  | none=>exact I9 m
  | some q=>obtain⟨up,aC⟩:=q;exact acF m

end Go.Proofs.YtdgichenhdikgaaGreatDoor.Tr
namespace Go.Proofs.YtdgichenhdikgaaGreatDoor.Tr
open List
open Go.Proofs.Tryz
open Go.Lib (compareBytes)
variable {t:aF} {h:Nat} {k:K} {row:Int}
variable {p:de}
def kY(t:aF)(h:Nat):List (K×Int):=er t h t.root
def gK(t:aF)(h:Nat)(k:K)(row:Int):aF:=ahs (gC t k row h t.root)
def jd(u:aF)(up:K)(aC:Int):aF:=⟨u.ag++[⟨false,[up],[u.root,aC],[],-1⟩],u.ag.length⟩
theorem tH(u:aF)(up:K)(aC:Int):(jd u up aC).ag.length=u.ag.length+1:=by simp[jd]
theorem acG(u:aF)(up:K)(aC:Int):(jd u up aC).pg u.ag.length=⟨false,[up],[u.root,aC],[],-1⟩:=by
 unfold aF.pg jd;rw[getD_eq_getElem?_getD,getElem?_append_right w4];simp
theorem acH{u:aF}{x:Int}(hx:0≤x∧x<u.ag.length)(up:K)(aC:Int):(jd u up aC).pg x=u.pg x:=by
 unfold aF.pg jd;rw[getD_eq_getElem?_getD,getD_eq_getElem?_getD,getElem?_append_left w4]
theorem Valid.range(v:Valid t h):0≤t.root∧t.root<t.ag.length:=v.ok.idx
theorem Rk(hp:∀p∈t.ag,eH p t.ag.length):∀{h:Nat} {i:Int} {low high:K},dZ t h i low high→h+1≤(ids t h i).length
 | 0,_,_,_,_=>by simp[ids]
 | h+1,i,low,high,⟨q1,q2,I,O,E⟩=>by
  have po:=hp _ (jE q1);have hn:=(po.node q2).1;have h0:0<(t.pg i).kids.length:=(by omega)
  have:=Rk hp (E 0 h0);rw[ids,length_cons,uT h0,flatMap_append,flatMap_cons,length_append,length_append];omega
theorem Valid.high(v:Valid t h):h<t.ag.length:=by
 have:=Rk v.fD v.ok;rw[v.all] at this;omega
theorem aa0(v:Valid t h)(hn:∀x∈kY t h,x.1≠k)(hl:1≤k.length∧k.length≤100)(hr:0≤row)(hm:t.ag.length+(h+2)≤4000) :
  ∃h',(h≤h'∧h'≤h+1)∧Valid (gK t h k row) h'∧(t.ag.length≤(gK t h k row).ag.length∧(gK t h k row).ag.length≤t.ag.length+(h+2))∧∀x,x∈kY (gK t h k row) h'↔x=(k,row)∨x∈kY t h:=by
 have I:=FC v.fD v.ok v.zQ (tP k) hn hl hr;unfold gK;generalize gC t k row h t.root=R at I;obtain⟨u,r⟩:=R;have hle:t.ag.length≤u.ag.length:=I.le;have UX:u.ag.length≤t.ag.length+(h+1):=I.more;have O:(nO u h t.root r).length+t.ag.length=(ids t h t.root).length+u.ag.length:=I.Yc;rw[v.all] at O;have apF:=v.pos;have E:u.root=t.root:=I.root;cases r with
 | none =>
  refine⟨h,⟨Nat.le_refl _,by omega⟩,⟨by show 1≤u.ag.length;omega,by show u.ag.length≤4000;omega,I.fD,?_,?_,?_,fun d hd=>?_⟩,⟨hle,by show u.ag.length≤_;omega⟩,fun x=>?_⟩
  ·show dZ u h u.root [] [];rw[E];exact I.ok
  ·show(ids u h u.root).Nodup;rw[E];exact I.nodup
  ·show(ids u h u.root).length=u.ag.length;rw[E];have:(ids u h t.root).length+t.ag.length=t.ag.length+u.ag.length:=O;omega
  ·show fa u (cH u d u.root) (-1);rw[E];exact(I.pB d hd (-1) (v.pB d hd)).1
  show x∈er u h u.root↔_;rw[E];exact I.er x
 | some q =>
  obtain⟨up,aC⟩:=q;obtain⟨o1,o2,o3,o4,o5⟩:(1≤up.length∧up.length≤100)∧bF [] up∧(([]:K)≠[]→bF up [])∧dZ u h t.root [] up∧dZ u h aC up []:=I.ok;have ho:∀x∈ids u h t.root++ids u h aC,(jd u up aC).pg x=u.pg x:=fun x hx=>by
   refine acH ?_ up aC;rcases mem_append.1 hx with hx|hx
   ·exact o4.ids x hx
   exact o5.ids x hx
  have f1:=frame (t:=u) (u:=jd u up aC) h t.root (fun x hx=>ho x (mem_append_left _ hx));have f2:=frame (t:=u) (u:=jd u up aC) h aC (fun x hx=>ho x (mem_append_right _ hx));have g1:dZ (jd u up aC) h t.root [] up:=o4.frame (by rw[tH];omega) (fun x hx=>ho x (mem_append_left _ hx));have g2:dZ (jd u up aC) h aC up []:=o5.frame (by rw[tH];omega) (fun x hx=>ho x (mem_append_right _ hx));have U:=acG u up aC;rw[E] at U;have hnd:=I.nodup;have pT:ids (jd u up aC) (h+1) u.ag.length=(u.ag.length:Int)::(ids u h t.root++ids u h aC):=by
   rw[ids,U];show _::([t.root,aC].flatMap (ids (jd u up aC) h))=_;rw[flatMap_cons,flatMap_cons,flatMap_nil,append_nil,f1.1,f2.1]
  have Z:eH (⟨false,[up],[t.root,aC],[],-1⟩:de) (u.ag.length+1:Nat):=by
   have i1:=o4.idx;have i2:=o5.idx;refine⟨by simp,by simp,by simp,by simp;omega,by simp,(fun h=>by cases h),fun _=>⟨rfl,by simp⟩,fun x hx=>?_,fun h=>absurd rfl h,by simp,fun x hx=>?_,fun _ x hx=>?_⟩
   ·have:x=up:=(by simpa using hx)
    subst this;exact o1
   ·have:x=t.root∨x=aC:=(by simpa using hx)
    rcases this with rfl|rfl
    ·exact i1.1
    exact i2.1
   have:x=t.root∨x=aC:=(by simpa using hx)
   rcases this with rfl|rfl<;>omega
  refine⟨h+1,⟨by omega,by omega⟩,⟨?_,?_,?_,?_,?_,?_,fun d hd=>?_⟩,⟨?_,?_⟩,fun x=>?_⟩
  ·show 1≤(jd u up aC).ag.length;rw[tH];omega
  ·show(jd u up aC).ag.length≤4000;rw[tH];omega
  ·show ∀p∈(jd u up aC).ag,eH p (jd u up aC).ag.length;rw[tH];intro p hp;rcases mem_append.1 hp with hp|hp
   ·have As:eH p u.ag.length:=I.fD p hp;exact As.more w4
   rw[mem_singleton] at hp;subst hp;rw[E];exact Z
  ·show dZ (jd u up aC) (h+1) u.ag.length [] [];refine(Bu (n:=(u.ag.length+1:Nat)) (by rw[U];exact Z)).2 ?_;rw[U];refine⟨by rw[tH];omega,rfl,rfl,fun x _=>Kj x,?_⟩;rw[qo,Bo];exact⟨g1,g2⟩
  ·show(ids (jd u up aC) (h+1) u.ag.length).Nodup;rw[pT,nodup_cons];refine⟨fun hm=>?_,hnd⟩;rcases mem_append.1 hm with hm|hm
   ·have:=o4.ids _ hm;omega
   have:=o5.ids _ hm;omega
  ·show(ids (jd u up aC) (h+1) u.ag.length).length=(jd u up aC).ag.length;rw[pT,tH,length_cons];have:(ids u h t.root++ids u h aC).length+t.ag.length=t.ag.length+u.ag.length:=O;omega
  ·show fa (jd u up aC) (cH (jd u up aC) d u.ag.length) (-1);cases d with
   | zero=>show((jd u up aC).pg u.ag.length).next = -1;rw[U]
   | succ d =>
    rw[cH,U];show fa _ ([t.root,aC].flatMap (cH (jd u up aC) d)) (-1);rw[flatMap_cons,flatMap_cons,flatMap_nil,append_nil,f1.2.2 d w4,f2.2.2 d w4];refine yI (fun x hx=>?_) (I.pB d w4 (-1) (v.pB d w4)).1;have pi:x∈cH u d t.root++cH u d aC:=hx;rw[ho x ?_];rcases mem_append.1 pi with pi|pi
    ·exact mem_append_left _ (su h _ d w4 x pi)
    exact mem_append_right _ (su h _ d w4 x pi)
  ·show t.ag.length≤(jd u up aC).ag.length;rw[tH];omega
  ·show(jd u up aC).ag.length≤_;rw[tH];omega
  show x∈er (jd u up aC) (h+1) u.ag.length↔_;rw[er,U];show x∈[t.root,aC].flatMap (er (jd u up aC) h)↔_;rw[flatMap_cons,flatMap_cons,flatMap_nil,append_nil,f1.2.1,f2.2.1];exact I.er x
theorem PP:Valid pW 0:=by
 refine⟨by decide,by decide,fun p hp=>?_,⟨by decide,rfl,rfl,fun k hk=>by cases hk⟩,by simp[ids],rfl,fun d hd=>?_⟩
 ·have:p=⟨true,[],[],[],-1⟩:=(by simpa[pW] using hp)
  subst this;exact⟨by simp,by simp,by simp,by simp[pW],by simp,fun _=>rfl,(fun h=>by cases h),(fun k hk=>by cases hk),(fun h=>absurd rfl h),by simp,(fun n hn=>by cases hn),(fun h=>by cases h)⟩
 obtain rfl:d=0:=(by omega)
 rfl
theorem acI:kY pW 0=[]:=rfl
theorem ES(hl:p.kids.length=p.keys.length){a:Nat}(ha:a<p.keys.length):(eZ p)[a]'(by unfold eZ;rw[length_zip];omega)=(p.keys[a],p.kids[a]'w4):=by unfold eZ;rw[getElem_zip]
theorem Bb(hl:p.kids.length=p.keys.length){x:K×Int}:x∈eZ p↔∃a,∃(ha:a<p.keys.length),x=(p.keys[a],p.kids[a]'w4):=by
 constructor
 ·intro h;obtain⟨a,ha,e⟩:=mem_iff_getElem.1 h;have E:a<p.keys.length:=(by unfold eZ at ha;rw[length_zip] at ha;omega)
  exact⟨a,E,by rw[←e,ES hl E]⟩
 rintro⟨a,ha,rfl⟩;exact mem_iff_getElem.2 ⟨a,by unfold eZ;rw[length_zip];omega,ES hl ha⟩
def BF(t:aF)(k:K)(h:Nat):Prop:=∃(ha:aL (t.pg (aI t k h t.root)) k<(t.pg (aI t k h t.root)).keys.length),(t.pg (aI t k h t.root)).keys[aL (t.pg (aI t k h t.root)) k]=k
theorem Valid.leaf(v:Valid t h)(k:K):(0≤aI t k h t.root∧aI t k h t.root<t.ag.length)∧(t.pg (aI t k h t.root)).leaf=true:=by
 obtain⟨_,_,_,_,_,_,_,h3,_⟩:=Bm v.fD v.ok (tP k);exact⟨h3.1,h3.2.1⟩
theorem found(v:Valid t h)(k:K)(row:Int):(k,row)∈kY t h↔∃(ha:aL (t.pg (aI t k h t.root)) k<(t.pg (aI t k h t.root)).keys.length),(t.pg (aI t k h t.root)).keys[aL (t.pg (aI t k h t.root)) k]=k∧(t.pg (aI t k h t.root)).kids.getD (aL (t.pg (aI t k h t.root)) k) 0=row:=by
 obtain⟨pre,post,lo,hi,e,h1,h2,h3,h4⟩:=Bm v.fD v.ok (tP k);have po:=v.fD _ (jE h3.1);have fM:=h3.2.1;have hlen:=po.leaf fM;unfold kY;rw[wA,e,flatMap_append,flatMap_cons];generalize I:t.pg (aI t k h t.root)=p at *;have fO:aL p k=gA p.keys k:=(by unfold aL;rw[if_pos fM])
 rw[fO];simp only[mem_append];constructor
 ·rintro(hx|hx|hx)
  ·obtain⟨l,hl,hx⟩:=mem_flatMap.1 hx;exact absurd (h1 l hl _ hx) (jR k)
  ·obtain⟨a,ha,e2⟩:=(Bb hlen).1 hx;injection e2 with E O
   have:gA p.keys k=a:=by
    rcases Nat.lt_trichotomy (gA p.keys k) a with h5|h5|h5
    ·exfalso;have:=A9 (keys:=p.keys) (k:=k) w4;have h6:=nc po.jY h5 ha;rw[←E] at h6;exact this h6
    ·exact h5
    have:=(Bk h5).2;rw[←E] at this;exact absurd this (jR k)
   subst this;exact⟨ha,E.symm,by rw[getD_eq_getElem?_getD,getElem?_eq_getElem w4];exact O.symm⟩
  obtain⟨l,hl,hx⟩:=mem_flatMap.1 hx;exact absurd (h2 l hl _ hx) (jR k)
 rintro⟨ha,e1,e2⟩;refine .inr (.inl ((Bb hlen).2 ⟨_,ha,?_⟩));rw[getD_eq_getElem?_getD,getElem?_eq_getElem w4] at e2;rw[e1];congr 1;exact e2.symm
theorem Bc(v:Valid t h)(k:K):BF t k h↔∃row,(k,row)∈kY t h:=by
 constructor
 ·rintro⟨ha,e⟩;exact⟨_,(found v k _).2 ⟨ha,e,rfl⟩⟩
 rintro⟨row,hr⟩;obtain⟨ha,e,_⟩:=(found v k row).1 hr;exact⟨ha,e⟩
def kI(p:de)(a:Nat):de:={p with keys:=p.keys.eraseIdx a,kids:=p.kids.eraseIdx a}
def gL(t:aF)(h:Nat)(k:K):aF:=t.set (aI t k h t.root) (kI (t.pg (aI t k h t.root)) (aL (t.pg (aI t k h t.root)) k))
theorem af3{n:Int}(hp:eH p n)(hl:p.leaf=true){a:Nat}(ha:a<p.keys.length):eH (kI p a) n:=by
 have hlen:=hp.leaf hl;refine⟨?_,hp.hlen,hp.xn,hp.wO,hp.xo,fun _=>?_,fun h=>?_,fun k hk=>hp.lC k ((eraseIdx_sublist _ _).subset hk),fun hne k hk=>hp.qB hne k ((eraseIdx_sublist _ _).subset hk),hp.jY.sublist (eraseIdx_sublist _ _),fun x hx=>hp.aC x ((eraseIdx_sublist _ _).subset hx),fun h=>?_⟩
 ·show(p.keys.eraseIdx a).length≤4;rw[length_eraseIdx_of_lt ha];have:=hp.eJ;omega
 ·show(p.kids.eraseIdx a).length=(p.keys.eraseIdx a).length;rw[length_eraseIdx_of_lt ha,length_eraseIdx_of_lt w4,hlen]
 ·have:p.leaf=false:=h;rw[hl] at this;cases this
 have:p.leaf=false:=h;rw[hl] at this;cases this
theorem PR{α β:Type}:∀{a:List α} {b:List β} {n:Nat},(a.eraseIdx n).zip (b.eraseIdx n)=(a.zip b).eraseIdx n
 | [],_,n=>by simp
 | _::_,[],n=>by cases n<;>simp
 | x::a,y::b,0=>by simp
 | x::a,y::b,n+1=>by simp[PR (a:=a) (b:=b) (n:=n)]
theorem Rl{q:de}{l:Int}(hq:q.leaf=true)(hh:q.high=(t.pg l).high)(hx:q.next=(t.pg l).next)(hl:0≤l∧l<t.ag.length)(fM:(t.pg l).leaf=true)(E:∀k∈q.keys,k∈(t.pg l).keys):∀{h:Nat} {i:Int} {low high:K},dZ t h i low high →
  dZ (t.set l q) h i low high∧ids (t.set l q) h i=ids t h i∧∀d,d≤h→cH (t.set l q) d i=cH t d i
 | 0,i,low,high,⟨q1,q2,I,O⟩=>by
  refine⟨?_,rfl,fun d hd=>by cases Nat.le_zero.1 hd;rfl⟩;by_cases e:l=i
  ·subst e;rw[dZ,Bn hl,oe];exact⟨q1,hq,by rw[hh];exact I,fun k hk=>O k (E k hk)⟩
  rw[dZ,we hl.1 q1.1 e,oe];exact⟨q1,q2,I,O⟩
 | h+1,i,low,high,⟨q1,q2,I,O,q5⟩=>by
  have e:l≠i:=fun e=>by rw[e,q2] at fM;cases fM
  have U:=we (t:=t) hl.1 q1.1 e q;have Z:=fun j (hj:j<(t.pg i).kids.length)=>Rl hq hh hx hl fM E (q5 j hj);refine⟨?_,?_,fun d hd=>?_⟩
  ·rw[dZ,U,oe];exact⟨q1,q2,I,O,fun j hj=>(Z j hj).1⟩
  ·rw[ids,ids,U];congr 1;refine qY fun c hc=>?_;obtain⟨j,hj,rfl⟩:=mem_iff_getElem.1 hc;exact(Z j hj).2.1
  cases d with
  | zero=>rfl
  | succ d =>
   rw[cH,cH,U];refine qY fun c hc=>?_;obtain⟨j,hj,rfl⟩:=mem_iff_getElem.1 hc;exact(Z j hj).2.2 d w4
theorem aa1(v:Valid t h)(ht:BF t k h):Valid (gL t h k) h∧(gL t h k).ag.length=t.ag.length∧∀x,x∈kY (gL t h k) h↔x∈kY t h∧x.1≠k:=by
 obtain⟨ha,hk⟩:=ht;obtain⟨hl,fM⟩:=v.leaf k;have po:=v.fD _ (jE hl);have hq:=af3 po fM ha;have hlen:=po.leaf fM;have S:=fun {i:Int} {low high:K} (ok:dZ t h i low high)=>Rl (t:=t) (q:=kI (t.pg (aI t k h t.root)) (aL (t.pg (aI t k h t.root)) k)) (l:=aI t k h t.root) fM rfl rfl hl fM (fun k hk=>(eraseIdx_sublist _ _).subset hk) ok;obtain⟨s1,s2,s3⟩:=S v.ok;have E:(gL t h k).ag.length=t.ag.length:=oe _ _ _;refine⟨⟨by rw[E];exact v.pos,by rw[E];exact v.nN,?_,s1,?_,?_,fun d hd=>?_⟩,E,fun x=>?_⟩
 ·rw[E];exact IA v.fD hq
 ·show(ids (gL t h k) h t.root).Nodup;unfold gL;rw[s2];exact v.zQ
 ·show(ids (gL t h k) h t.root).length=_;rw[E];unfold gL;rw[s2];exact v.all
 ·show fa (gL t h k) (cH (gL t h k) d t.root) (-1);unfold gL;rw[s3 d hd];refine yI (fun y hy=>?_) (v.pB d hd);have I:=v.ok.ids y (su h _ d hd y hy);by_cases e:aI t k h t.root=y
  ·rw[←e,Bn hl];rfl
  rw[we hl.1 I.1 e]
 obtain⟨pre,post,lo,hi,e,h1,h2,h3,h4⟩:=Bm v.fD v.ok (tP k);have hlv:(cH t h t.root).Nodup→aI t k h t.root∉pre∧aI t k h t.root∉post:=fun hn=>by
  rw[e,nodup_append,nodup_cons] at hn;exact⟨fun hm=>hn.2.2 _ hm _ (mem_cons_self) rfl,hn.2.1.1⟩
 have eV:∀y∈pre,eZ ((gL t h k).pg y)=eZ (t.pg y)∨y=aI t k h t.root:=fun y hy=>by
  by_cases e':aI t k h t.root=y
  ·exact .inr e'.symm
  left;have I:=v.ok.ids y (su h _ h (Nat.le_refl _) y (by rw[e];exact mem_append_left _ hy));unfold gL;rw[we hl.1 I.1 e']
 have rN:∀y∈post,eZ ((gL t h k).pg y)=eZ (t.pg y)∨y=aI t k h t.root:=fun y hy=>by
  by_cases e':aI t k h t.root=y
  ·exact .inr e'.symm
  left;have I:=v.ok.ids y (su h _ h (Nat.le_refl _) y (by rw[e];exact mem_append_right _ (mem_cons_of_mem _ hy)));unfold gL;rw[we hl.1 I.1 e']
 have Z:(k,(t.pg (aI t k h t.root)).kids.getD (aL (t.pg (aI t k h t.root)) k) 0)∈eZ (t.pg (aI t k h t.root)):=(Bb hlen).2 ⟨_,ha,by rw[hk,getD_eq_getElem?_getD,getElem?_eq_getElem w4];rfl⟩;have ajO:aI t k h t.root∉pre:=fun hm=>absurd (h1 _ hm _ Z) (jR k);have ahu:aI t k h t.root∉post:=fun hm=>absurd (h2 _ hm _ Z) (jR k);have ed:eZ ((gL t h k).pg (aI t k h t.root))=(eZ (t.pg (aI t k h t.root))).eraseIdx (aL (t.pg (aI t k h t.root)) k):=by
  unfold gL;rw[Bn hl];exact PR
 have fe:∀{A:List Int},(∀y∈A,eZ ((gL t h k).pg y)=eZ (t.pg y)∨y=aI t k h t.root)→aI t k h t.root∉A→A.flatMap (fun l=>eZ ((gL t h k).pg l))=A.flatMap (fun l=>eZ (t.pg l)):=fun {A} hA hn=>qY fun y hy=>(hA y hy).resolve_right fun e'=>hn (e' ▸ hy);have O:∀x:K×Int,x∈(eZ (t.pg (aI t k h t.root))).eraseIdx (aL (t.pg (aI t k h t.root)) k)↔x∈eZ (t.pg (aI t k h t.root))∧x.1≠k:=fun x=>by
  rw[mem_eraseIdx_iff_getElem];constructor
  ·rintro⟨a,Yf,hne,rfl⟩;refine⟨getElem_mem _,fun hc=>hne ?_⟩;have U:a<(t.pg (aI t k h t.root)).keys.length:=(by unfold eZ at Yf;rw[length_zip] at Yf;omega)
   rw[ES hlen U] at hc;have hc:(t.pg (aI t k h t.root)).keys[a]=k:=hc;rcases Nat.lt_trichotomy a (aL (t.pg (aI t k h t.root)) k) with h5|h5|h5
   ·have:=nc po.jY h5 ha;rw[hc,hk] at this;exact absurd this (jR k)
   ·exact h5
   have:=nc po.jY h5 U;rw[hc,hk] at this;exact absurd this (jR k)
  rintro⟨hx,hne⟩;obtain⟨a,U,rfl⟩:=(Bb hlen).1 hx;refine⟨a,by unfold eZ;rw[length_zip];omega,fun e'=>hne ?_,ES hlen U⟩;subst e';exact hk
 show x∈er (gL t h k) h t.root↔x∈er t h t.root∧_;rw[wA,wA];have ajP:cH (gL t h k) h t.root=cH t h t.root:=s3 h (Nat.le_refl _);rw[ajP,e,flatMap_append,flatMap_cons,flatMap_append,flatMap_cons,fe eV ajO,fe rN ahu,ed];simp only[mem_append,O];constructor
 ·rintro(hx|hx|hx)
  ·refine⟨.inl hx,fun hc=>?_⟩;obtain⟨l,l7,hx⟩:=mem_flatMap.1 hx;have:=h1 l l7 x hx;rw[hc] at this;exact jR k this
  ·exact⟨.inr (.inl hx.1),hx.2⟩
  refine⟨.inr (.inr hx),fun hc=>?_⟩;obtain⟨l,l7,hx⟩:=mem_flatMap.1 hx;have:=h2 l l7 x hx;rw[hc] at this;exact jR k this
 rintro⟨hx|hx|hx,hne⟩
 ·exact .inl hx
 ·exact .inr (.inl ⟨hx,hne⟩)
 exact .inr (.inr hx)

end Go.Proofs.YtdgichenhdikgaaGreatDoor.Tr
namespace Go.Proofs.YtdgichenhdikgaaGreatDoor.Tr
open List
open Go.Proofs.Tryz
open Go.Lib (compareBytes)
def sP(lv:List (List Int))(n:Nat):List (List Int):=lv++replicate (n-lv.length) []
def kL(lv:List (List Int))(level:Nat)(i:Int):List (List Int):=(sP lv (level+1)).set level ((sP lv (level+1)).getD level []++[i])
abbrev jC:=List Int×List (List Int)
def lP(go:Int→K→K→jC→Option (Nat×jC))(low:K)(p:de):List Int→Nat→Option Nat→jC→Option (Nat×jC)
 | [],_,deep,s=>deep.map fun d=>(d,s)
 | c::cs,k,deep,s=>match go c (iz low p k) (gZ p k) s with
  | none=>none
  | some (d,s')=>if deep=none∨deep=some d then lP go low p cs (k+1) (some d) s' else none
def jv(t:aF):Nat→Int→K→K→Nat→jC→Option (Nat×jC)
 | 0,_,_,_,_,_=>none
 | f+1,i,low,high,level,s =>
  if i∈s.1 then none
  else if (t.pg i).high≠high∨(∃k,(t.pg i).keys.head?=some k∧bF k low) then none
  else if (t.pg i).leaf=true then some (level,(s.1++[i],kL s.2 level i))
  else lP (fun c lo hi s=>jv t f c lo hi (level+1) s) low (t.pg i) (t.pg i).kids 0 none (s.1++[i],kL s.2 level i)
def uX(t:aF):Prop:=∀p∈t.ag,eH p t.ag.length
open Classical in
noncomputable def gG(t:aF):Int :=
 if t.ag.length<1∨t.ag.length>4000∨t.root<0∨t.root≥t.ag.length then 11
 else if ¬uX t then 11
 else match jv t (t.ag.length+1) t.root [] [] 0 ([],[]) with
  | none=>11
  | some (_,s)=>if s.1.length≠t.ag.length then 11 else if ∀l∈s.2,fa t l (-1) then 0 else 11
theorem Rm(lv:List (List Int))(n:Nat):(sP lv n).length=max lv.length n:=by unfold sP;rw[length_append,length_replicate];omega
theorem JQ(lv:List (List Int))(n m:Nat):(sP lv n).getD m []=lv.getD m []:=by
 unfold sP;rw[getD_eq_getElem?_getD,getD_eq_getElem?_getD];rcases Nat.lt_or_ge m lv.length with h|h
 ·rw[getElem?_append_left h]
 rw[getElem?_append_right h,getElem?_eq_none h,getElem?_replicate];split<;>rfl
theorem Ja(lv:List (List Int))(level:Nat)(i:Int):(kL lv level i).length=max lv.length (level+1):=by unfold kL;rw[length_set,Rm]
theorem Fj(lv:List (List Int))(level:Nat)(i:Int)(m:Nat):(kL lv level i).getD m []=lv.getD m []++(if m=level then [i] else []):=by
 unfold kL;rw[getD_eq_getElem?_getD];by_cases e:m=level
 ·subst e;rw[getElem?_set_self (by rw[Rm];omega),JQ,if_pos rfl];rfl
 rw[getElem?_set_ne (fun h=>e h.symm),if_neg e,append_nil,←getD_eq_getElem?_getD,JQ]
def wX(t:aF)(h level:Nat)(i:Int)(m:Nat):List Int:=if level≤m∧m≤level+h then cH t (m-level) i else []
variable {t:aF}
theorem Rn {h level:Nat} {low:K} {p:de} (go:Int→K→K→jC→Option (Nat×jC))
  (O:∀(c:Int) (lo hi:K) (s:jC),dZ t h c lo hi→(∀x∈ids t h c,x∉s.1)→(ids t h c).Nodup→∃lv,go c lo hi s=some (level+1+h,(s.1++ids t h c,lv))∧lv.length=max s.2.length (level+1+h+1)∧∀m,lv.getD m []=s.2.getD m []++wX t h (level+1) c m) :
  ∀(cs:List Int) (k:Nat) (deep:Option Nat) (s:jC),(∀j (hj:j<cs.length),dZ t h cs[j] (iz low p (k+j)) (gZ p (k+j)))→(cs.flatMap (ids t h)).Nodup→(∀x∈cs.flatMap (ids t h),x∉s.1)→(deep=none∨deep=some (level+1+h))→(cs≠[]∨deep≠none) →
   ∃lv,lP go low p cs k deep s=some (level+1+h,(s.1++cs.flatMap (ids t h),lv))∧lv.length=(if cs=[] then s.2.length else max s.2.length (level+1+h+1))∧∀m,lv.getD m []=s.2.getD m []++(if level+1≤m∧m≤level+1+h then cs.flatMap (cH t (m-(level+1))) else [])
 | [],k,deep,s,_,_,_,hd,hne=>by
  rcases hd with rfl|rfl
  ·rcases hne with h|h<;>exact absurd rfl h
  exact⟨s.2,by simp[lP],by simp,fun m=>by split<;>simp⟩
 | c::cs,k,deep,s,aR,hnd,E,hd,_=>by
  rw[flatMap_cons] at hnd E;rw[nodup_append] at hnd;obtain⟨n1,n2,n3⟩:=hnd;obtain⟨I,e1,l1,m1⟩:=O c (iz low p k) (gZ p k) s (aR 0 bq) (fun x hx=>E x (mem_append_left _ hx)) n1;obtain⟨U,e2,l2,m2⟩:=Rn go O cs (k+1) (some (level+1+h)) (s.1++ids t h c,I) (fun j hj=>by
   have:=aR (j+1) (by simpa using hj);simp only[getElem_cons_succ] at this;rw[show k+1+j=k+(j+1) by omega];exact this) n2 (fun x hx hm=>by
    rcases mem_append.1 hm with hm|hm
    ·exact E x (mem_append_right _ hx) hm
    exact n3 x hm x hx rfl) (.inr rfl) (.inr bq)
  refine⟨U,?_,?_,fun m=>?_⟩
  ·rw[lP,e1];show(if deep=none∨deep=some (level+1+h) then _ else _)=_;rw[if_pos hd,e2,flatMap_cons,append_assoc]
  ·rw[l2];show(if cs=[] then I.length else max I.length _)=_;rw[l1,if_neg (cons_ne_nil c cs)];split<;>omega
  rw[m2,m1];unfold wX;split
  ·rw[flatMap_cons,append_assoc]
  simp
theorem Ur(hp:∀p∈t.ag,eH p t.ag.length):∀{h f:Nat} {i:Int} {low high:K} {level:Nat} {s:jC},h<f→dZ t h i low high→(∀x∈ids t h i,x∉s.1)→(ids t h i).Nodup →
  ∃lv,jv t f i low high level s=some (level+h,(s.1++ids t h i,lv))∧lv.length=max s.2.length (level+h+1)∧∀m,lv.getD m []=s.2.getD m []++wX t h level i m
 | h,0,_,_,_,_,_,hf,_,_,_=>by omega
 | 0,f+1,i,low,high,level,s,hf,ok,E,hnd=>by
  obtain⟨q1,q2,O,U⟩:=ok;refine⟨kL s.2 level i,?_,Ja _ _ _,fun m=>?_⟩
  ·rw[jv,if_neg (E i (tr 0 i)),if_neg,if_pos q2];rfl;rintro(h|⟨k,hk,aa⟩)
   ·exact h O
   exact U k (mem_of_mem_head? hk) aa
  rw[Fj];unfold wX;congr 1;by_cases e:m=level
  ·subst e;rw[if_pos rfl,if_pos ⟨Nat.le_refl _,Nat.le_refl _⟩,Nat.sub_self];rfl
  rw[if_neg e,if_neg w4]
 | h+1,f+1,i,low,high,level,s,hf,ok,E,hnd=>by
  obtain⟨q1,q2,O,U,Z⟩:=ok;have po:=hp _ (jE q1);have I:(t.pg i).kids≠[]:=fun e=>by have:=(po.node q2).1;rw[e] at this;simp at this
  rw[ids,nodup_cons] at hnd;rw[ids] at E;obtain⟨lv,e,l,mm⟩:=Rn (t:=t) (h:=h) (level:=level) (low:=low) (p:=t.pg i) (fun c lo hi s=>jv t f c lo hi (level+1) s)
   (fun c lo hi s ok hd hn=>Ur hp (h:=h) (f:=f) (level:=level+1) w4 ok hd hn) (t.pg i).kids 0 none (s.1++[i],kL s.2 level i) (fun j hj=>by rw[Nat.zero_add];exact Z j hj) hnd.2 (fun x hx hm=>by
    rcases mem_append.1 hm with hm|hm
    ·exact E x (mem_cons_of_mem _ hx) hm
    rw[mem_singleton] at hm;subst hm;exact hnd.1 hx) (.inl rfl) (.inl I)
  refine⟨lv,?_,?_,fun m=>?_⟩
  ·rw[jv,if_neg (E i mem_cons_self),if_neg,if_neg (by rw[q2];decide),e,ids]
   ·simp;omega
   rintro(h|⟨k,hk,aa⟩)
   ·exact h O
   exact U k (mem_of_mem_head? hk) aa
  ·rw[l,if_neg I];show max (kL s.2 level i).length _=_;rw[Ja];omega
  rw[mm];show(kL s.2 level i).getD m []++_=_;rw[Fj];unfold wX;rw[append_assoc];congr 1;by_cases e1:m=level
  ·subst e1;rw[if_pos rfl,if_neg w4,if_pos ⟨Nat.le_refl _,by omega⟩,Nat.sub_self];rfl
  rw[if_neg e1,nil_append];by_cases e2:level+1≤m∧m≤level+1+h
  ·rw[if_pos e2,if_pos w4];obtain⟨d,rfl⟩:∃d,m=level+1+d:=⟨m-(level+1),by omega⟩
   rw[show level+1+d-(level+1)=d by omega,show level+1+d-level=d+1 by omega,cH]
  rw[if_neg e2,if_neg w4]
open Classical in
theorem Jb{h:Nat}(v:Valid t h):gG t=0:=by
 have hr:=v.range;have E:=v.pos;have hm:=v.nN;unfold gG;rw[if_neg w4,if_neg (by exact fun hn=>hn v.fD)];obtain⟨lv,e,l,I⟩:=Ur v.fD (f:=t.ag.length+1) (level:=0) (s:=([],[])) (by have:=v.high;omega) v.ok (fun x _ hx=>by cases hx) v.zQ;rw[e];show(if ([]++ids t h t.root).length≠t.ag.length then _ else if ∀l∈lv,fa t l (-1) then (0:Int) else 11)=0;rw[if_neg (by rw[nil_append,v.all];simp),if_pos];intro x hx;obtain⟨m,tg,rfl⟩:=mem_iff_getElem.1 hx;have:=I m;rw[getD_eq_getElem?_getD,getElem?_eq_getElem tg] at this;have e2:lv[m]=wX t h 0 t.root m:=(by simpa using this)
 rw[e2];unfold wX;rw[l] at tg;rw[if_pos (by simp at tg;omega),Nat.sub_zero];exact v.pB m (by simp at tg;omega)

end Go.Proofs.YtdgichenhdikgaaGreatDoor.Tr
