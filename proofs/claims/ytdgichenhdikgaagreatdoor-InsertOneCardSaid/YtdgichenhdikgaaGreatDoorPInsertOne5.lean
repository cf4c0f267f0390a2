/-
  What the proof of InsertOne leans on, part 5 of 9: walks of the program's functions at the level of values, and plain facts of what they compute.
-/
import Derived.Test.YtdgichenhdikgaaGreatDoorPInsertOne4
set_option linter.unusedVariables false
set_option linter.unusedSimpArgs false
set_option maxRecDepth 100000
set_option maxHeartbeats 4000000
namespace Go.Proofs.YtdgichenhdikgaaGreatDoor.Nm
open List
open Go.Proofs.Tryz
open Go.RowKit V Pk Vl
variable {G:List (Nat×List Value)}
variable {ts:List Tw} {h:Int}
theorem Rv{r:Nat}{n:Int}{s:ByteArray}{i:Nat}(hi:i<ts.length):iy r ts[i]=gH r ts n s i:=by unfold gH;rw[getElem?_eq_getElem hi]
theorem Rw{r:Nat}{n:Int}{s:ByteArray}{i:Nat}(hi:ts.length≤i):mE n i s=gH r ts n s i:=by unfold gH;rw[getElem?_eq_none hi]
theorem wo(r:Nat)(k n:Int)(s:ByteArray)(ts:List Tw):iy (r+1) (.mk k n s ts)=if 1+dS k 11=1 then [sc n s] else if 1+dS k 11=2 then [wT n]
  else if 1+dS k 11=5∨1+dS k 11=11 then gH r ts n s 0++[qY (1+dS k 11)] else (gH r ts n s 0++gH r ts n s 1)++[qY (1+dS k 11)]:=rfl
theorem KS(r:Nat)(k n d:Int)(s:ByteArray)(ts:List Tw)(i b2 b3:Nat)(IH:∀t∈ts,VC Tryz.prog G 32 [.agg t.cs,ae (d+1)] [] (xG (iy r t)))(gv:-9223372036854775808≤n)(iU:n≤9223372036854775807)(hs:s.size≤maxLen)(hd1:0≤d)(hd:d≤2)(hi:i≤1):VC Tryz.prog G 52 [ae (i:Int),dL b2,dL b3] [⟨b3,3,1,[ae d]⟩,⟨b2,62,4,[ae k,ae n,bw s,.list 4 (ts.flatMap Tw.cs) ts.length]⟩] (fun x S=>∃S1,xG (gH r ts n s i) x S1∧S=S1++[⟨b3,3,1,[ae d]⟩,⟨b2,62,4,[ae k,ae n,bw s,.list 4 (ts.flatMap Tw.cs) ts.length]⟩]):=by
 refine VC.body func52 rfl ntmps52 aR fun X0 w0 aZ=>?_;refine aD 1 ?_;refine OD.wk (Wk.dV (n:=25) (l':=[(0,_),(1,_),(2,_)]) (S':=_) rfl rfl fk) ?_;refine OD.nil ?_;refine aD 5 ?_;refine OD.wk (Wk.dV (n:=25) (l':=[(0,_),(1,_),(2,_),(9,_)]) (S':=_) rfl rfl fk) ?_;refine OD.nil ?_;refine au ?_ ?_<;>intro aM bD
 ·have aa:i<ts.length:=(by omega)
  refine CD.seq ?_;refine CD.draw (aq _) aA (fun _ h=>h) ?_;refine az 0 rfl (dr 3) ?_;refine az 1 rfl (dK 1) ?_;refine az 2 rfl bp ?_;refine az 3 rfl (dF 4) ?_;refine az 4 rfl (cW (mk:=Op.load 62) rfl ot (by first|exact qq (k:=0) (ds:=[_,_,_,_]) rfl rfl isAgg62 sizeOf62 rfl rfl|exact qq (k:=1) (ds:=[_,_,_,_]) rfl rfl isAgg62 sizeOf62 rfl rfl|exact j5 Tw.FJ isAgg62 sizeOf62 w5|exact dR (k:=0) Tw.FJ rfl rfl rfl isAgg62 sizeOf62 w5|exact dR (k:=1) Tw.FJ rfl rfl rfl isAgg62 sizeOf62 w5|exact qx (ds:=[_,_,_,_]) isAgg62 sizeOf62 rfl rfl)) ?_;refine az 5 rfl (dK 0) ?_;refine az 6 rfl mT ?_;refine dD.later rfl ?_;refine AD.one (i:=7) aA ?_;refine bj.call rfl ap rfl rfl rfl call32 (IH _ (getElem_mem aa)) ⟨ot,ot,trivial⟩ (eO _) (fun _ h=>h) ?_;rintro _ O ⟨U,Z,rfl,E⟩;refine cA 8 rfl bp ?_;refine AD.wk (y:=⟨25,[(4,_)],((O++[_,_]))⟩) (Wk.dV rfl rfl fk) rfl ?_;refine AD.done aA ?_;refine aI _ ?_;first|exact⟨_,gm.cast (gm.mk E) (Rv aa),rfl⟩|exact⟨_,gm.cast (gm.mk I) (Rw w4),rfl⟩
 refine aD 6 ?_;refine OD.call ap rfl rfl rfl call32 (TI n (i:Int) 9 s (cf) rfl gv iU w4 w4 hs w7) ⟨ot,bI,trivial⟩ (eO _) ?_;rintro _ S24 ⟨ap9,aqa,rfl,I⟩;refine aE 1 ?_;refine OD.wk (Wk.dV (n:=25) (l':=[(4,_)]) (S':=_) rfl rfl fk) ?_;refine OD.nil ?_;refine aI _ ?_;first|exact⟨_,gm.cast (gm.mk E) (Rv aa),rfl⟩|exact⟨_,gm.cast (gm.mk I) (Rw w4),rfl⟩
theorem Ii:(Tryz.prog.info? 43).map (fun i=>(i.zero,i.size,i.bytes))=some (some (.agg #[.int .i64 0,.int .i64 0,.int .i64 0,.string ⟨#[]⟩,.string ⟨#[]⟩]),5,56):=by kernel_rfl
theorem aeP(r:Nat)(hr:r≤2)(k n d:Int)(s:ByteArray)(ts:List Tw)(IH:∀t∈ts,VC Tryz.prog G 32 [.agg t.cs,ae (d+1)] [] (xG (iy r t)))(dP:-9223372036854775808≤k)(fB:k≤9223372036854775807)(gv:-9223372036854775808≤n)(iU:n≤9223372036854775807)(hs:s.size≤maxLen)(hd1:0≤d)(hd:d≤2):VC Tryz.prog G 32 [.agg [ae k,ae n,bw s,.list 4 (ts.flatMap Tw.cs) ts.length],ae d] [] (xG (iy (r+1) (.mk k n s ts))):=by
 refine VC.body func32 rfl ntmps32 aR fun X0 w0 aZ=>?_;have hpk:=iW k (by decide:(1:Int)≤11);have hpn:=iW n (by decide:(1:Int)≤40);have hpc:=iW n (by decide:(1:Int)≤4);obtain⟨j,hj⟩:=Int.eq_ofNat_of_zero_le hpc.1;have hj4:j<4:=(by omega)
 have I:=jP G n 4 gv iU w7;rw[hj] at I;have fS:(⟨n,dS n 40-20,s⟩:Vl).Ok:=⟨gv,iU,by show _≤dS n 40-20;omega,by show dS n 40-20≤_;omega,hs⟩
 have X7:=Pu ⟨n,dS n 40-20,s⟩;have hml:100≤maxLen:=(by decide)
 obtain⟨kk,lG⟩:∃kk:Int,1+dS k 11=kk:=⟨_,rfl⟩
 have mR:=TG r ts n s 0;have j7:=TG r ts n s 1;have h2p:2 ^ (r+1)≤8:=Nat.pow_le_pow_right w7 (show r+1≤3 by omega);refine bY ?_;refine OD.box (ds:=[_,_,_,_]) ap rfl rfl ot rfl rfl (fun b2=>?_);refine OD.box (ds:=[_]) ap rfl rfl ot rfl rfl (fun b3=>?_);refine an 69 [2,3] ?_;refine cZ [2,3,5] ?_;refine dh (jP G k 11 dP fB w7) ?_;refine aS 0 ?_ (h:=by exact(dj (r:=.int .i64 kk) rfl bI ot (kr (by rw[lG];exact wrap_i64 w4 w4))));refine bG ?_;refine aD 3 ?_;refine bV 14 (fun E Z=>?_) (fun E Z=>?_)
 ·exact absurd E (by simp at E;omega)
 refine bg [2,3,5,17] ?_;refine fM ?_;refine cZ [2,5,6] ?_;refine aS 0 ?_ (h:=by exact(pA (ds:=[_,_]) rfl ⟨ot,ot,trivial⟩));refine bG ?_;refine af [2,5,6,19] ?_;refine af [2,5,6,19,20] ?_;refine au ?_ ?_<;>intro aY cy
 ·refine CD.seq ?_;refine uu 11 10 [5,7,31] ?_;refine dh (jP G n 40 gv iU w7) ?_;refine dh (QZ ⟨n,dS n 40-20,s⟩ fS) ?_;refine rJ ?_;refine jW ?_;refine⟨rfl,fun b7=>?_⟩;refine aP 0 [_,_,_] sizeOf41 ?_;refine an 69 [5,7] ?_;refine aD 2 ?_;refine dQ call16 (BK (pF ⟨n,dS n 40-20,s⟩).s 4 w4) ?_;refine aE 1 ?_;refine aP 0 [_,_,_] sizeOf9 ?_;refine an 69 [5,7] ?_;refine aD 3 ?_;refine ei (bW 0 [_]) [.int .i64 0,.int .i64 0,.int .i64 0,.string ⟨#[]⟩,.string ⟨#[]⟩] [_,_,_,_,_] zeroValue43 runUnderlying30 sizeOf43 (fun C3=>?_);exact Xx
 refine af [2,5,6,19,40] ?_;refine au ?_ ?_<;>intro bZ cN
 ·refine aD 1 ?_;refine ei (bW 0 [_,_,_,_]) [.string ⟨#[]⟩,.string ⟨#[]⟩,.string ⟨#[]⟩,.string ⟨#[]⟩] [_,_,_,_] zeroValue9 runUnderlying29 sizeOf9 (fun YH=>?_);refine fw 0 43 1 4 ?_;refine aE 2 ?_;refine dQ call21 (I) ?_;refine aE 1 ?_;refine bN (cW (mk:=Op.load 9) rfl ot (Cq isAgg9 (TH hj4))) ?_;refine aE 1 ?_;refine ei (bW 0 [_]) [.int .i64 0,.int .i64 0,.int .i64 0,.string ⟨#[]⟩,.string ⟨#[]⟩] [_,_,_,_,_] zeroValue43 runUnderlying30 sizeOf43 (fun AO=>?_);exact Xx
 refine af [5,6,19,51] ?_;refine au ?_ ?_<;>intro cX en
 ·refine eI ?_;exact z31
 refine cm [5,6,51] ?_;refine au ?_ ?_<;>intro er fq
 ·exact z31
 refine aD 1 ?_;refine OD.kv (f:=52) (args:=[_]) (all:=[_,_,_]) (Sf:=[_,_]) (R:=[]) ap rfl rfl ot call52 (KS r k n d s ts 0 b2 b3 IH gv iU hs hd1 hd w7) rfl ⟨bI,trivial⟩ (Perm.refl _) ?_;rintro _ _ ⟨YI,⟨aqb,aqc,rfl,ajU⟩,rfl⟩;refine OD.perm (QW (A:=[_,_])) ?_;refine aE 1 ?_;refine OD.kv (f:=52) (args:=[_]) (all:=[_,_,_]) (Sf:=[_,_]) (R:=YI) ap rfl rfl ot call52 (KS r k n d s ts 1 b2 b3 IH gv iU hs hd1 hd w7) rfl ⟨bI,trivial⟩ (Perm.refl _) ?_;rintro _ _ ⟨Dt,⟨Wo,xF,rfl,Cw⟩,rfl⟩;refine OD.perm (acA (A:=[_,_])) ?_;refine OD.gN (t:=63) (Sq:=Dt) lk Cw (cr nf _) (yL (A:=[_,_])) ?_;refine OD.ek (ls:=(gH r ts n s 0)) (new:=(gH r ts n s 1)) (Sq:=YI) nf Kr ap rfl rfl underlying30 Ii rfl w7 ot ajU (de (A:=[_,_])) ot w4 Ad Ad (fun DB O ajV ajW=>?_);refine OD.perm (dZ (S1:=[⟨DB,43,O*5,flatMap cO ((gH r ts n s 0)++(gH r ts n s 1))⟩]) (A:=[_,_])) ?_;refine aE 2 ?_;refine ei (bW 0 [_]) [.int .i64 0,.int .i64 0,.int .i64 0,.string ⟨#[]⟩,.string ⟨#[]⟩] [_,_,_,_,_] zeroValue43 runUnderlying30 sizeOf43 (fun qJ=>?_);refine fw 0 67 5 1 ?_
 refine OD.ek (ls:=((gH r ts n s 0)++(gH r ts n s 1))) (new:=[(⟨kk,bJ,⟨#[]⟩⟩:aX)]) (Sq:=[⟨DB,43,O*5,flatMap cO ((gH r ts n s 0)++(gH r ts n s 1))⟩]) nf Kr ap rfl rfl underlying30 Ii rfl w7 ot (bE ajV ajW) (de (A:=[_,_])) ot bf Ad Ad (fun YJ U ajX ajY=>?_);refine OD.perm (dZ (S1:=[⟨YJ,43,U*5,flatMap cO (((gH r ts n s 0)++(gH r ts n s 1))++[(⟨kk,bJ,⟨#[]⟩⟩:aX)])⟩]) (A:=[_,_])) ?_;refine an 69 [4] ?_;refine aI [⟨YJ,43,U*5,flatMap cO (((gH r ts n s 0)++(gH r ts n s 1))++[(⟨kk,bJ,⟨#[]⟩⟩:aX)])⟩] ?_;exact gm.cast (gm.mk (bE ajX ajY)) (by rw[wo,lG,if_neg w4,if_neg w4,if_neg w4];rfl)
theorem UP:∀(r:Nat),r≤3→∀(t:Tw),t.Ok→VC Tryz.prog G 32 [.agg t.cs,ae (3-(r:Int))] [] (xG (iy r t))
 | 0,_,.mk k n s ts,h=>TI k n 3 s (.list 4 (Tw.mA ts) ts.length) rfl h.1.1 h.1.2 h.2.1.1 h.2.1.2 h.2.2.1 w7
 | r+1,hr,.mk k n s ts,h=>by
  have:=aeP (G:=G) r w4 k n (3-((r+1:Nat):Int)) s ts (fun t ht=>by
   have h1:=UP r w4 t (Tw.TE h.2.2.2.2 t ht);rw[show(3-((r+1:Nat):Int)+1)=3-(r:Int) by omega];exact h1) h.1.1 h.1.2 h.2.1.1 h.2.1.2 h.2.2.1 w4 w4
  rw[←Tw.KC] at this;exact this
theorem agl(t:Tw)(h:t.Ok):VC Tryz.prog G 19 [.agg t.cs] [] (xG (iy 3 t)):=by
 refine VC.body func19 rfl ntmps19 aR fun X0 w0 aZ=>?_;obtain⟨k,n,s,ts⟩:=t;have E:=UP (G:=G) 3 (Nat.le_refl _) (.mk k n s ts) h;unfold Tw.cs at E ⊢;refine bY ?_;refine OD.box (ds:=[_,_,_,_]) ap rfl rfl ot rfl rfl (fun b1=>?_);refine an 5 [1] ?_;refine aD 1 ?_;refine OD.call ap rfl rfl rfl call32 (E) ⟨ot,bI,trivial⟩ (eO _) ?_;rintro _ O ⟨U,Z,rfl,I⟩;refine OD.perm dZ ?_;refine an 5 [2] ?_;refine aI O ?_;exact gm.mk I
theorem UQ(t:Tw)(h:t.Ok):VP Tryz.prog G 19 [.agg t.cs] (.list 5 ((iy 3 t).flatMap cO) (iy 3 t).length):=(agl t h).wX nf

def runs:Int→List aX→Option Int
 | h,[]=>some h
 | h,o::r=>if fg h o=0 then runs (h+(1-bP o.k)) r else none
theorem yE:∀(a b:List aX) (h:Int),runs h (a++b)=(runs h a).bind fun h'=>runs h' b
 | [],b,h=>rfl
 | o::r,b,h=>by
  rw[cons_append,runs,runs];split
  ·exact yE r b _
  rfl
theorem Pv:∀{a:List aX} {h h':Int} (b:List aX),runs h a=some h'→fJ h (a++b)=fJ h' b
 | [],h,h',b,e=>by cases e;rfl
 | o::r,h,h',b,e=>by
  rw[runs] at e;split at e
  ·rename_i h0;rw[cons_append,fJ,if_pos h0];exact Pv b e
  cases e
theorem aeQ:((⟨#[]⟩:ByteArray).toList==(⟨#[]⟩:ByteArray).toList)=true:=by simp
theorem P8:zeroV bJ=true:=by unfold zeroV bJ;simp
theorem Rx:iS bJ=0:=by decide
theorem acV(n:Int)(s:ByteArray):iS (ua n s)=0:=by
 have h1:=iW n (by decide:(1:Int)≤40);have h2:=iW (dS n 40-20) (by decide:(1:Int)≤2);have hc:(lT (lT s 10) 4).size≤4:=(by rw[EF];omega)
 have he:lT (⟨#[]⟩:ByteArray) 4=ByteArray.empty:=Fg (by rw[PZ];rfl);unfold iS ua pF;split
 ·simp[cn,he];omega
 split
 ·simp[cn,he];omega
 split
 ·simp[cn];omega
 unfold bJ;simp[cn,he]
theorem TJ(h0:0≤h)(n:Int)(s:ByteArray):fg h (sc n s)=0:=by
 unfold fg sc;rw[acV];simp[bP];omega
theorem acW(j:Int):cY (sg j)=0:=by
 unfold sg;split
 ·exact tr (l:=[105,100]) w7 w7 w7
 split
 ·exact tr (l:=[110]) w7 w7 w7
 split
 ·exact tr (l:=[115]) w7 w7 w7
 exact tr (l:=[98]) w7 w7 w7
theorem TK(h0:0≤h)(n:Int):fg h (wT n)=0:=by
 unfold fg wT;rw[Rx,P8,acW];simp[bP];omega
theorem Ry{k:Int}(h1:3≤k)(h2:k≤11)(E:bP k≤h):fg h (qY k)=0:=by
 unfold fg qY;simp only[Rx,P8,aeQ];rw[if_neg w4,if_neg bf,if_neg bf,if_neg w4,if_neg w4]
theorem P9(h0:0≤h)(k n:Int)(s:ByteArray):runs h (mE k n s)=some (h+1):=by
 unfold mE;split
 ·rw[runs,if_pos (TK h0 n),runs];rfl
 rw[runs,if_pos (TJ h0 n s),runs];rfl
theorem Rz:∀(r:Nat) (t:Tw) (h:Int),0≤h→runs h (iy r t)=some (h+1)
 | 0,.mk k n s ts,h,h0=>P9 h0 k n s
 | r+1,.mk k n s ts,h,h0=>by
  have E:∀(i:Nat) (h:Int),0≤h→runs h (gH r ts n s i)=some (h+1):=fun i h h0=>by
   unfold gH;split
   ·exact Rz r _ h h0
   exact P9 h0 _ _ _
  have hk:=iW k (by decide:(1:Int)≤11);rw[wo];split
  ·rw[runs,if_pos (TJ h0 n s),runs];rfl
  split
  ·rw[runs,if_pos (TK h0 n),runs];rfl
  split
  ·rename_i h3;rw[yE,E 0 h h0,Option.bind_some,runs,if_pos (Ry w4 w4 (by unfold bP;rw[if_neg w4,if_pos h3];omega)),runs];unfold qY bP;rw[if_neg (by simp only[];omega),if_pos h3];simp
  rename_i h3;rw[yE,yE,E 0 h h0,Option.bind_some,E 1 (h+1) w4,Option.bind_some,runs,if_pos (Ry w4 w4 (by unfold bP;rw[if_neg w4,if_neg h3];omega)),runs];unfold qY bP;rw[if_neg (by simp only[];omega),if_neg h3];congr 1;omega
theorem Qa(t:Tw):1≤(iy 3 t).length∧(iy 3 t).length≤15:=by
 have:=JX 3 t;omega
theorem Qb(t:Tw):iR (iy 3 t)=0:=by
 unfold iR;rw[if_neg (by have:=Qa t;omega)];have:=Pv [] (Rz 3 t 0 (Int.le_refl _));rw[append_nil] at this;rw[this];rfl
theorem acX(t:Tw):∀o∈iy 3 t,o.nm.size≤2:=by
 have hn:∀j:Int,(sg j).size≤2:=fun j=>by
  unfold sg;split
  ·decide
  split
  ·decide
  split<;>decide
 have E:∀k n s,∀o∈mE k n s,o.nm.size≤2:=fun k n s o ho=>by
  unfold mE at ho;split at ho<;>(simp only[mem_singleton] at ho;subst ho)
  ·exact hn _
  exact Nat.zero_le _
 have key:∀(r:Nat) (t:Tw),∀o∈iy r t,o.nm.size≤2:=by
  intro r;induction r with
  | zero=>intro t;obtain⟨k,n,s,ts⟩:=t;exact E k n s
  | succ r ih =>
   intro t o ho;obtain⟨k,n,s,ts⟩:=t;have I:∀i:Nat,∀o∈gH r ts n s i,o.nm.size≤2:=fun i o ho=>by
    unfold gH at ho;split at ho
    ·exact ih _ o ho
    exact E _ _ _ o ho
   have hb:∀k,(qY k).nm.size≤2:=fun k=>Nat.zero_le _;rw[wo] at ho;split at ho
   ·simp only[mem_singleton] at ho;subst ho;exact Nat.zero_le _
   split at ho
   ·simp only[mem_singleton] at ho;subst ho;exact hn _
   split at ho
   ·rcases mem_append.1 ho with ho|ho
    ·exact I 0 o ho
    simp only[mem_singleton] at ho;subst ho;exact hb _
   rcases mem_append.1 ho with ho|ho
   ·rcases mem_append.1 ho with ho|ho
    ·exact I 0 o ho
    exact I 1 o ho
   simp only[mem_singleton] at ho;subst ho;exact hb _
 exact key 3 t
theorem acY{l:List aX}(h:∀o∈l,o.nm.size≤2):∀o∈l,o.nm.size≤maxLen:=fun o ho=>Nat.le_trans (h o ho) w7
theorem RA{H:Type}{enc:TypeId×Value→H}{w:World}{base:Nat}{sp:Nat→Bool}{held:Bool}:∀n,mu n enc Tryz.prog w base sp held 62 Tw.cs Tw.Ok:=by
 intro n;induction n using Nat.strongRecOn with
 | _ n ih =>
  intro cs x h;obtain⟨⟨k,m,s,ts⟩,h1,h2,h3,h4,h5⟩:=aac (fuel:=n) (n0:=1) (n1:=1) (n2:=1) (n3:=1) underlying62 aA rfl rfl rfl rfl aA aA aA aA
   (fun q _=>(uY underlying3).at q) (fun q _=>(uY underlying3).at q) (fun q _=>(PT underlying9).at q) (fun q hq=>PX (sz:=4) underlying60 aA w7 (fun z hz=>ih z w4) Tw.FJ) cs x h
  refine⟨.mk k m s ts,?_,h2,h3,h4,h5.2,Tw.TF h5.1⟩;unfold Tw.cs;rw[Tw.KC];exact h1

end Go.Proofs.YtdgichenhdikgaaGreatDoor.Nm
namespace Go.Proofs.YtdgichenhdikgaaGreatDoor.Ex
open List
open Go.Proofs.Tryz
open Go.RowKit V Pk Vl Go.Proofs.YtdgichenhdikgaaGreatDoor.Nm Pc
variable {α:Type} {l:List aX} {i:Nat} {h:Int}
theorem wF(p:α→Bool)(ls:List α):-1≤dU p ls∧dU p ls<ls.length:=by
 unfold dU;cases h:ls.findIdx? p with
 | none=>simp;omega
 | some i=>have:=(findIdx?_eq_some_iff_findIdx_eq.1 h).1;simp;omega
def bM(l:List cz)(nm:ByteArray):Int:=dU (fun c=>c.n.toList==nm.toList) l
def rM(a b:Int):Bool:=a==b||a==0
def okF(k a b:Int):Bool :=
 if k=3∨k=4 then rM a 1&&rM b 1 else if k=5 then rM a 1 else if k=6∨k=7 then rM a b||b==0 else if k=8∨k=9∨k=10 then rM a 2&&rM b 2 else true
def xw(k:Int):Int:=if k=8∨k=9∨k=10 then 2 else 1
def uZ(l:List cz)(nm:ByteArray):Int×Int:=if bM l nm<0 then (0,8) else ((l.getD (bM l nm).toNat ⟨⟨#[]⟩,0⟩).k,0)
def jd(l:List cz)(o:aX)(a b:Int):Int×Int :=
 if o.k=1 then (o.v.k,0) else if o.k=2 then uZ l o.nm else if okF o.k a b=true then (xw o.k,0) else (0,4)
def fj(z:α)(k:Int)(st:List α):α:=if 0<bP k then st.getD (st.length-(bP k).toNat) z else z
def eW(z:α)(k:Int)(st:List α):α:=if 1<bP k then st.getD (st.length-(bP k).toNat+1) z else z
def jH{α:Type}(z:α)(f:aX→α→α→α × Int):List aX→List α→α × Int
 | [],st=>(st.getD 0 z,0)
 | o::r,st =>
  if (f o (fj z o.k st) (eW z o.k st)).2≠0 then (z,(f o (fj z o.k st) (eW z o.k st)).2)
  else jH z f r (st.take (st.length-(bP o.k).toNat)++[(f o (fj z o.k st) (eW z o.k st)).1])
theorem SP{z:α}{f:aX→α→α→α × Int}{st:List α}(hi:i<l.length)(h:(f l[i] (fj z l[i].k st) (eW z l[i].k st)).2≠0) :
  jH z f (l.drop i) st=(z,(f l[i] (fj z l[i].k st) (eW z l[i].k st)).2):=by rw[drop_eq_getElem_cons hi,jH,if_pos h]
theorem SL{z:α}{f:aX→α→α→α × Int}{st:List α}(hi:i<l.length)(h:(f l[i] (fj z l[i].k st) (eW z l[i].k st)).2=0) :
  jH z f (l.drop i) st=jH z f (l.drop (i+1)) (st.take (st.length-(bP l[i].k).toNat)++[(f l[i] (fj z l[i].k st) (eW z l[i].k st)).1]):=by
 rw[drop_eq_getElem_cons hi,jH,if_neg (by rw[h];simp)]
theorem RB{z:α}{f:aX→α→α→α × Int}{st:List α}(hi:¬i<l.length):jH z f (l.drop i) st=(st.getD 0 z,0):=by
 rw[drop_of_length_le w4];rfl
theorem Qc(hi:i<l.length)(h0:fJ h (l.drop i)=0):fg h l[i]=0∧fJ (h+(1-bP l[i].k)) (l.drop (i+1))=0:=by
 rw[drop_eq_getElem_cons hi,fJ] at h0;by_cases he:fg h l[i]=0
 ·rw[if_pos he] at h0;exact⟨he,h0⟩
 rw[if_neg he] at h0;exact absurd h0 he
theorem RC(hi:¬i<l.length)(h0:fJ h (l.drop i)=0):h=1:=by
 rw[drop_of_length_le w4,fJ] at h0;split at h0
 ·assumption
 cases h0
theorem wA{o:aX}(he:fg h o=0):bP o.k≤h∧(1≤o.k∧o.k≤11)∧iS o.v=0∧(o.k=2→cY o.nm=0):=by
 unfold fg at he;split at he
 ·cases he
 split at he
 ·rename_i h2;exact absurd he h2
 split at he
 ·cases he
 split at he
 ·rename_i h4;exact absurd he h4.2
 split at he
 ·cases he
 rename_i q1 q2 q3 q4 E;refine⟨by omega,by omega,by simpa using q2,fun hk=>?_⟩;by_cases hn:cY o.nm=0
 ·exact hn
 exact absurd ⟨hk,hn⟩ q4
def tX(l:List cz)(ops:List aX):Int×Int:=jH 0 (jd l) ops []
def ew(l:List cz)(ops:List aX):Int×Int:=if fI l≠0 then (0,fI l) else if iR ops≠0 then (0,iR ops) else tX l ops
def pT(r:Int×Int):D:=.dI [ae r.1,ae r.2]
def cI(n:Int):List D:=[ae n]
theorem eC(n:Int):(cI n).length=1:=rfl
theorem nF(n:Int):(cI n).all V.one=true:=rfl
theorem wG{ops:List aX}(h:iR ops=0):ops.length≤40∧fJ 0 ops=0:=by
 unfold iR at h;split at h
 ·cases h
 exact⟨by omega,h⟩
variable {G:List (Nat×List Value)}
theorem E1(k:Int):VP Tryz.prog G 60 [ae k] (ae (bP k)):=by
 refine VC.body func60 rfl ntmps60 aR fun X0 w0 aZ=>?_;exact Xp
theorem abd(c:cz)(nm:ByteArray)(b:Nat):VC Tryz.prog G 107 [.agg (cC c),dL b] [⟨b,9,1,[bw nm]⟩] (fun r S=>r=cj (c.n.toList==nm.toList)∧S=[⟨b,9,1,[bw nm]⟩]):=by
 refine VC.body func107 rfl ntmps107 aR fun X0 w0 aZ=>?_;exact XO
theorem qt(l:List cz)(hl:l.length≤6)(nm:ByteArray):VP Tryz.prog G 63 [av 2 cC l,bw nm] (ae (bM l nm)):=by
 refine VC.body func63 rfl ntmps63 aR fun X0 w0 aZ=>?_;refine bY ?_;refine OD.box (ds:=[_]) ap rfl rfl ot rfl rfl (fun b3=>?_);refine an 8 [0,3] ?_;refine aD 1 ?_;refine bN (pA (ds:=[_]) rfl ⟨ot,trivial⟩) ?_;refine OD.call ap rfl rfl rfl call106 (Jc l 107 [dL b3] _ (fun c=>c.n.toList==nm.toList) call107 (fun h _=>abd h nm b3) w4) ⟨ot,ot,trivial⟩ (ko (k:=0) rfl) ?_;rintro _ S2 ⟨rfl,iE⟩;rw[iE];clear iE;refine an 8 [4] ?_;exact nT
theorem zk(a b:Int):VP Tryz.prog G 134 [ae a,ae b] (cj (rM a b)):=by
 refine VC.body func134 rfl ntmps134 aR fun X0 w0 aZ=>?_;refine af [0,1] ?_;refine aD 4 ?_;refine bV 8 (fun I E=>?_) (fun I E=>?_)
 ·refine bg [4] ?_;refine eN ?_;refine⟨vb ?_,rfl⟩;unfold rM;simp_all
 refine bg [4] ?_;refine eN ?_;refine⟨vb ?_,rfl⟩;unfold rM;simp_all
theorem aeR(l:List cz)(hl:l.length≤6)(o:aX)(a b:Int):VP Tryz.prog G 99 [.agg (cO o),av 2 cC l,ae a,ae b] (pT (jd l o a b)):=by
 refine VC.body func99 rfl ntmps99 aR fun X0 w0 aZ=>?_;unfold cO pT;have I:=wF (fun c:cz=>c.n.toList==o.nm.toList) l;have E:bM l o.nm=dU (fun c:cz=>c.n.toList==o.nm.toList) l:=rfl;rw[←E] at I;clear E;refine bY ?_;refine OD.box (ds:=[_,_,_,_,_]) ap rfl rfl ot rfl rfl (fun b4=>?_);refine an 76 [1,2,3,4] ?_;refine af [1,2,3,4,10] ?_;refine af [1,2,3,4,10,11,12] ?_;refine af [1,2,3,4,10,11,12,15] ?_;refine af [1,2,3,4,10,11,12,15,16] ?_;refine au ?_ ?_<;>intro aM bD
 ·exact z22
 refine af [1,2,3,4,10,11,12,15,21] ?_;refine au ?_ ?_<;>intro aY cy
 ·refine cJ [1,13] (qt l hl o.nm) ?_;refine af [1,13,28] ?_;refine au ?_ ?_<;>intro bZ cN
  ·have dG:uZ l o.nm=(0,8):=(by unfold uZ;rw[if_pos w4])
   exact z22
  have O:(bM l o.nm).toNat<l.length:=(by omega)
  have dG:uZ l o.nm=(l[(bM l o.nm).toNat].k,0):=(by unfold uZ;rw[if_neg w4,getD_eq_getElem?_getD,getElem?_eq_getElem O];rfl)
  exact z22
 refine af [2,3,10,11,12,15,34] ?_;refine au ?_ ?_<;>intro cX en
 ·refine eI ?_;exact z119
 refine cm [2,3,10,11,12,15,34] ?_;refine au ?_ ?_<;>intro er fq
 ·exact z119
 refine af [2,3,10,11,12,15,45] ?_;refine au ?_ ?_<;>intro fx gG
 ·refine dM 2 ?_;refine OD.kv (f:=134) (args:=[_,_]) (all:=[_,_]) (Sf:=[]) ap rfl rfl ot call134 (zk a 1) rfl ⟨ot,bI,trivial⟩ (eO _) ?_;rintro _ _ ⟨rfl,rfl⟩;exact z21
 refine af [2,3,10,11,12,15,50] ?_;refine au ?_ ?_<;>intro gU kU
 ·refine eI ?_;exact V5
 refine cm [2,3,10,11,12,15,50] ?_;refine au ?_ ?_<;>intro gq lA
 ·exact V5
 refine af [2,3,10,11,12,15,61] ?_;refine au ?_ ?_<;>intro pZ U
 ·refine eI ?_;exact Ly
 refine af [2,3,10,11,12,15,61] ?_;refine au ?_ ?_<;>intro Dx Z
 ·refine eI ?_;exact Ly
 refine cm [2,3,10,11,12,61] ?_;refine au ?_ ?_<;>intro Gn BS
 ·exact Ly
 refine af [12,74] ?_;refine fM ?_;refine af [8,9] ?_;refine aI [] ?_;refine⟨?_,rfl⟩;unfold jd okF xw;simp_all
theorem PN(l:List cz)(hl:l.length≤6)(o:aX)(a b a' I:Int)(ha:a=a')(hb:b=I)(b2:Nat):VC Tryz.prog G 98 [.agg (cO o),ae a',ae I,dL b2] [⟨b2,27,1,[av 2 cC l]⟩] (fun r S=>r=pT (jd l o a b)∧S=[⟨b2,27,1,[av 2 cC l]⟩]):=by
 refine VC.body func98 rfl ntmps98 aR fun X0 w0 aZ=>?_;subst ha hb;have E:=aeR (G:=G) l hl o a b;unfold cO at E ⊢;unfold pT at E ⊢;refine bY ?_;refine OD.box (ds:=[_,_,_,_,_]) ap rfl rfl ot rfl rfl (fun b4=>?_);refine an 16 [1,2,3,4] ?_;refine cJ [7,8] (E) ?_;refine aI [⟨b2,27,1,[av 2 cC l]⟩] ?_;exact⟨rfl,rfl⟩
theorem aaQ:(Tryz.prog.info? 3).map (fun i=>(i.zero,i.size,i.bytes))=some (some (.int .i64 0),1,8):=by kernel_rfl
theorem acZ(l:List cz)(hl:l.length≤6)(ops:List aX)(qe:ops.length≤40)(hx:fJ 0 ops=0)(b2:Nat):VC Tryz.prog G 97 [av 5 cO ops,.ez (.func 98) [dL b2]] [⟨b2,27,1,[av 2 cC l]⟩] (fun r S=>r=pT (tX l ops)∧S=[⟨b2,27,1,[av 2 cC l]⟩]):=by
 refine VC.body func97 rfl ntmps97 aR fun X0 w0 aZ=>?_;unfold pT;refine af [0,1] ?_;refine af [0,1,6] ?_;refine bY ?_;refine bg [0,1,6,7] ?_;refine af [1,6,7,16,17,18] ?_;refine CD.block ?_;refine mV (fun (E:Nat×List Int×Option Addr×Nat×List ah) aH=>match E with|(i,st,I,ke,Z)=>(i≤ops.length)∧(st.length≤i)∧(fJ ((st.length:Nat):Int) (ops.drop i)=0)∧(tX l ops=jH 0 (jd l) (ops.drop i) st)∧(bn 3 1 ((st).flatMap cI) (st).length I ke Z)∧aH=(⟨64,[(1,.ez (.func 98) [dL b2]),(6,ae 0),(7,aN I (st).length ke),(16,av 5 cO ops),(17,ae (ops.length:Nat)),(18,ae (i:Nat))],(⟨b2,27,1,[av 2 cC l]⟩::Z)⟩:St)) (fun (E:Nat×List Int×Option Addr×Nat×List ah)=>match E with|(i,st,I,ke,Z)=>ops.length-i) (0,[],none,0,[]) ⟨(Nat.zero_le _),(Nat.zero_le _),hx,rfl,(bn.cast iv j6),rfl⟩ (aK (h:=by repeat (first|exact trivial|refine⟨GY,?_⟩))) ?_;rintro⟨i,st,I,ke,Z⟩ _ ⟨hi,fG,hex,hinv,nR,rfl⟩;refine af [1,6,7,16,17,18,19] ?_;refine au ?_ ?_<;>intro aM bD
 ·have aa:i<ops.length:=(by omega)
  obtain⟨he,yj⟩:=Qc aa hex;obtain⟨rI,Wp,yl,oE⟩:=wA he;have Ds:=tI ops[i].k;have sW:(st.take (st.length-(bP ops[i].k).toNat)++[(jd l ops[i] (fj 0 ops[i].k st) (eW 0 ops[i].k st)).1]).length=st.length+1-(bP ops[i].k).toNat:=(by rw[length_append,length_take,length_singleton];omega)
  have nS:fJ (((st.take (st.length-(bP ops[i].k).toNat)++[(jd l ops[i] (fj 0 ops[i].k st) (eW 0 ops[i].k st)).1]).length:Nat):Int) (ops.drop (i+1))=0:=(by rw[sW,show(((st.length+1-(bP ops[i].k).toNat:Nat)):Int)=(st.length:Int)+(1-bP ops[i].k) by omega];exact yj)
  refine aD 2 ?_;refine OD.alloc (ds:=[_,_,_,_,_]) ap rfl rfl zeroValue43 rfl (fun b9=>?_);refine aP 0 [_,_,_,_,_] sizeOf43 ?_;refine an 64 [1,6,7,9,16,17,18] ?_;refine af [1,6,7,9,10,11,16,17,18] ?_;refine cJ [1,6,7,9,10,11,12,16,17,18] (E1 ops[i].k) ?_;refine af [1,6,7,9,10,11,12,13,16,17,18] ?_;refine af [1,6,7,9,10,11,12,13,16,17,18,30] ?_;refine au ?_ ?_<;>intro aY cy
  ·obtain⟨bh,rfl,xp,wR,rfl⟩:=nR.pos w4;have uE:(st.length-(bP ops[i].k).toNat)<st.length:=(by omega)
   have ha:fj 0 ops[i].k st=st[(st.length-(bP ops[i].k).toNat)]:=(by unfold fj;rw[if_pos w4,getD_eq_getElem?_getD,getElem?_eq_getElem uE];rfl)
   refine ie [1,6,7,9,10,11,12,13,16,17,18] ?_;refine aS 2 ?_ (h:=by exact(dF 1 (h:=by first|exact .l (j:=(st.length-(bP ops[i].k).toNat)) w4 w4|exact .r (j:=(st.length-(bP ops[i].k).toNat)) w4 w4)));refine aS 0 ?_ (h:=by exact(cW (mk:=Op.load 3) rfl ot (iY (k:=2) eC rfl rfl rfl isAgg3 uE rfl)));refine bG ?_;refine af [1,6,7,9,10,11,13,16,17,18,36] ?_;refine au ?_ ?_<;>intro bZ cN
   ·have O:(st.length-(bP ops[i].k).toNat)+1<st.length:=(by omega)
    have hb:eW 0 ops[i].k st=st[(st.length-(bP ops[i].k).toNat)+1]:=(by unfold eW;rw[if_pos w4,getD_eq_getElem?_getD,getElem?_eq_getElem O];rfl)
    refine ie [1,6,7,9,10,11,13,16,17,18] ?_;refine aS 3 ?_ (h:=by exact(dF 1 (h:=by first|exact .l (j:=(st.length-(bP ops[i].k).toNat)+1) w4 w4|exact .r (j:=(st.length-(bP ops[i].k).toNat)+1) w4 w4)));refine aS 0 ?_ (h:=by exact(cW (mk:=Op.load 3) rfl ot (iY (k:=2) eC rfl rfl rfl isAgg3 O rfl)));refine bG ?_;exact V2
   have hb:eW 0 ops[i].k st=0:=(by unfold eW;rw[if_neg w4])
   exact V2
  have ha:fj 0 ops[i].k st=0:=(by unfold fj;rw[if_neg w4])
  refine af [1,6,7,9,10,11,13,16,17,18,36] ?_;refine au ?_ ?_<;>intro bZ cN
  ·exact absurd bZ (by simp at *;omega)
  have hb:eW 0 ops[i].k st=0:=(by unfold eW;rw[if_neg w4])
  refine aD 4 ?_;refine OD.kv (f:=98) (args:=[_,_,_]) (all:=[_,_,_,_]) (Sf:=[⟨b2,27,1,[av 2 cC l]⟩]) ap rfl rfl ot call98 (PN l hl ops[i] _ _ _ _ ha hb b2) rfl ⟨ot,ot,ot,trivial⟩ (ko (k:=1) rfl) ?_;rintro _ _ ⟨rfl,rfl⟩;refine an 64 [1,6,7,13,14,15,16,17,18] ?_;refine af [1,6,7,13,14,15,16,17,18,51] ?_;refine au ?_ ?_<;>intro cX en
  ·exact XB
  have hz:(jd l ops[i] (fj 0 ops[i].k st) (eW 0 ops[i].k st)).2=0:=(by simpa using cX)
  refine CD.skip ?_;refine CD.vm (k:=(st.length-(bP ops[i].k).toNat)) (ls:=(st)) (Sq:=Z) eC w4 nR (de (A:=[_,_])) (fun Ch BR=>?_);exact z12
 have h1:=RC w4 hex;have U:0<st.length:=(by omega)
 obtain⟨bh,rfl,xp,wR,rfl⟩:=nR.pos w4;have aW:=hinv.trans (RB w4);have j9:st.getD 0 0=st[0]:=(by rw[getD_eq_getElem?_getD,getElem?_eq_getElem U];rfl)
 rw[j9] at aW;refine cZ [4,5] ?_;refine aS 1 ?_ (h:=by exact(oM (mk:=Op.indexAddr 67) rfl ot bI (by first|exact pD (j:=0) runUnderlying67 sizeOf3 rfl An|exact pH (j:=0) runUnderlying67 sizeOf3 rfl An)));refine aS 0 ?_ (h:=by exact(cW (mk:=Op.load 3) rfl ot (iY (k:=1) eC rfl rfl rfl isAgg3 U rfl)));refine bG ?_;refine aI [⟨b2,27,1,[av 2 cC l]⟩] ?_;rw[aW];exact⟨rfl,rfl⟩
theorem abe(l:List cz)(hl:l.length≤6)(ops:List aX)(hx:iR ops=0):VP Tryz.prog G 57 [av 2 cC l,av 5 cO ops] (pT (tX l ops)):=by
 refine VC.body func57 rfl ntmps57 aR fun X0 w0 aZ=>?_;obtain⟨E,gC⟩:=wG hx;have fO:=fun b2=>acZ (G:=G) l hl ops E gC b2;unfold pT at fO ⊢;refine bY ?_;refine OD.box (ds:=[_]) ap rfl rfl ot rfl rfl (fun b2=>?_);refine an 11 [1,2] ?_;refine aD 1 ?_;refine bN (pA (ds:=[_]) rfl ⟨ot,trivial⟩) ?_;refine OD.call ap rfl rfl rfl call97 (fO b2) ⟨ot,ot,trivial⟩ (ko (k:=0) rfl) ?_;rintro _ _ ⟨rfl,rfl⟩;refine an 11 [4,5] ?_;exact nT
theorem agm(hm:(3,marksC)∈G)(hw:(1,wordsC)∈G)(ht:(0,typesC)∈G)(l:List cz)(hl:l.length≤6)(aQ:∀c∈l,c.n.size≤maxLen)(ops:List aX)(ho:∀o∈ops,o.nm.size≤maxLen):VP Tryz.prog G 56 [av 2 cC l,av 5 cO ops] (ae (if fI l≠0 then fI l else iR ops)):=by
 refine VC.body func56 rfl ntmps56 aR fun X0 w0 aZ=>?_;have dm:=ec;refine af [0,1] ?_;refine cJ [1,5] (Fq hm hw ht l w4 aQ) ?_;refine af [1,5,9] ?_;refine au ?_ ?_<;>intro aM bD
 ·refine af [4] ?_;refine aI [] ?_;refine⟨vi ?_,rfl⟩;simp_all
 refine cJ [4] (JR hm hw ops ho) ?_;refine aI [] ?_;refine⟨vi ?_,rfl⟩;simp_all
theorem JY(hm:(3,marksC)∈G)(hw:(1,wordsC)∈G)(ht:(0,typesC)∈G)(l:List cz)(hl:l.length≤6)(aQ:∀c∈l,c.n.size≤maxLen)(ops:List aX)(ho:∀o∈ops,o.nm.size≤maxLen):VP Tryz.prog G 34 [av 2 cC l,av 5 cO ops] (pT (ew l ops)):=by
 refine VC.body func34 rfl ntmps34 aR fun X0 w0 aZ=>?_;have fb:=agm hm hw ht l hl aQ ops ho;have E:=fun hx=>abe (G:=G) l hl ops hx;unfold pT at E ⊢;refine af [0,1] ?_;refine cJ [0,1,6] (fb) ?_;refine af [0,1,6,11] ?_;refine au ?_ ?_<;>intro aM bD
 ·have aW:ew l ops=(0,if fI l≠0 then fI l else iR ops):=(by unfold ew;split<;>simp_all)
  refine af [4,5] ?_;exact oC
 have h0:fI l=0∧iR ops=0:=(by split at aM<;>simp_all)
 have aW:ew l ops=tX l ops:=(by unfold ew;simp[h0])
 refine cJ [4,5] (E h0.2) ?_;exact ur

end Go.Proofs.YtdgichenhdikgaaGreatDoor.Ex
namespace Go.Proofs.YtdgichenhdikgaaGreatDoor.Ex
open List
open Go.Proofs.Tryz
open Go.RowKit V Pk Vl Cd
variable {i:Nat} {a b:Vl} {p:Vl→Prop}
def wr(n:Int):Int:=IntKind.i64.wrap n
theorem ahH(n:Int):-9223372036854775808≤wr n∧wr n≤9223372036854775807:=by unfold wr;rw[IntKind.wrap_i64];omega
def qv(b:Bool):Vl:=if b=true then ⟨1,1,⟨#[]⟩⟩ else ⟨1,0,⟨#[]⟩⟩
def iN(a b:Vl)(i:Nat):Vl:=if i=0 then a else b
theorem Iy(a b:Vl)(h:i<2):(([ae a.k,ae a.n,bw a.s,ae b.k,ae b.n,bw b.s]:List D).drop (i*3)).take 3=[ae (iN a b i).k,ae (iN a b i).n,bw (iN a b i).s]:=by
 match i,h with
 | 0,_|1,_=>rfl
def lq(a b:Vl)(d:Int):Vl×Int :=
 if (a.k≠1∧a.k≠0)∨(b.k≠1∧b.k≠0) then (bJ,4) else if a.k=1∧a.n=d then (a,0) else if b.k=1∧b.n=d then (b,0) else if a.k=0∨b.k=0 then (bJ,0) else (a,0)
theorem JE(h:∀j,j<i→p (iN a b j))(hi:2≤i):p a∧p b:=⟨h 0 w4,h 1 w4⟩
theorem EP(h:∀j,j<i→p (iN a b j))(h1:p (iN a b i)):∀j,j<i+1→p (iN a b j):=fun j hj=>by
 by_cases e:j=i
 ·subst e;exact h1
 exact h j w4
theorem abf{d:Int}(hi:i<2)(h1:(iN a b i).k≠1)(h2:(iN a b i).k≠0):lq a b d=(bJ,4):=by
 unfold lq;match i,hi with
 | 0,_=>rw[if_pos (.inl ⟨h1,h2⟩)]
 | 1,_=>rw[if_pos (.inr ⟨h1,h2⟩)]
theorem abg{d:Int}(hi:i<2)(hg:¬((a.k≠1∧a.k≠0)∨(b.k≠1∧b.k≠0)))(h0:∀j,j<i→¬((iN a b j).k=1∧(iN a b j).n=d))(h1:(iN a b i).k=1)(h2:(iN a b i).n=d):lq a b d=(iN a b i,0):=by
 unfold lq;rw[if_neg hg];match i,hi with
 | 0,_=>rw[if_pos ⟨h1,h2⟩];rfl
 | 1,_=>rw[if_neg (show ¬(a.k=1∧a.n=d) from h0 0 w4),if_pos (show b.k=1∧b.n=d from⟨h1,h2⟩)];rfl
def pE(k a b:Int):Int×Bool :=
 if k=8 then (wr (a+b),decide (wr (a+b)<a)==decide (b<0)) else if k=9 then (wr (a-b),decide (wr (a-b)>a)==decide (b<0))
 else (wr (a*b),a==0||(wr ((wr (a*b)).tdiv a)==b && !(a == -1&&b == -9223372036854775808)))
def rf(a b:Vl):Bool:=a.k==0||b.k==0
def iz(k:Int)(a b:Vl):Vl×Int :=
 if mJ a b≠0 then (bJ,mJ a b) else if k=3 then lq a b 0 else if k=4 then lq a b 1
 else if k=6∨k=7 then (if rf a b=true then (bJ,0) else if a.k≠b.k then (bJ,4) else (qv ((fu a b==0&&k==6)||(decide (fu a b<0)&&k==7)),0))
 else if k=8∨k=9∨k=10 then (if (a.k≠2∧a.k≠0)∨(b.k≠2∧b.k≠0) then (bJ,4) else if rf a b=true then (bJ,0) else if (pE k a.n b.n).2=true then (⟨2,(pE k a.n b.n).1,⟨#[]⟩⟩,0) else (bJ,5))
 else (bJ,2)
def uc(k:Int)(a:Vl):Vl×Int :=
 if cn a≠0 then (bJ,cn a) else if k=11 then (qv (a.k==0),0)
 else if k=5 then (if a.k=0 then (a,0) else if a.k=1 then (qv (a.n==0),0) else (bJ,4)) else (bJ,2)
def mX(r:Vl×Int):D:=.dI [.agg (cV r.1),ae r.2]
variable {G:List (Nat×List Value)}
theorem qU(b:Bool):VP Tryz.prog G 100 [cj b] (.agg (cV (qv b))):=by
 refine VC.body func100 rfl ntmps100 aR fun X0 w0 aZ=>?_;refine bY ?_;refine OD.alloc (ds:=[_,_,_]) ap rfl rfl zeroValue41 rfl (fun b2=>?_);refine an 6 [0,2] ?_;refine af [2,3] ?_;refine au ?_ ?_<;>intro aM bD
 ·refine aD 1 ?_;refine aP 0 [_,_,_] sizeOf41 ?_;refine an 6 [2] ?_;refine aI [] ?_;refine⟨?_,rfl⟩;unfold qv;simp_all[cV]
 refine aD 1 ?_;refine aP 0 [_,_,_] sizeOf41 ?_;refine an 6 [2] ?_;refine aI [] ?_;refine⟨?_,rfl⟩;unfold qv;simp_all[cV]
theorem TL(a b:Vl):VP Tryz.prog G 103 [.agg (cV a),.agg (cV b)] (cj (rf a b)):=by
 refine VC.body func103 rfl ntmps103 aR fun X0 w0 aZ=>?_;unfold cV;refine bY ?_;refine OD.box (ds:=[_,_,_]) ap rfl rfl ot rfl rfl (fun b2=>?_);refine OD.box (ds:=[_,_,_]) ap rfl rfl ot rfl rfl (fun b3=>?_);refine an 13 [2,3] ?_;refine aD 4 ?_;refine bV 8 (fun I E=>?_) (fun I E=>?_)
 ·refine bg [4] ?_;refine eN ?_;refine⟨vb ?_,rfl⟩;unfold rf;simp_all
 refine bg [4] ?_;refine eN ?_;refine⟨vb ?_,rfl⟩;unfold rf;simp_all
theorem RD(a b:Vl)(d:Int):VP Tryz.prog G 102 [.agg (cV a),.agg (cV b),ae d] (mX (lq a b d)):=by
 refine VC.body func102 rfl ntmps102 aR fun X0 w0 aZ=>?_;unfold mX cV;have nu:=TL (G:=G) a b;unfold cV at nu;refine bY ?_;refine OD.box (ds:=[_,_,_]) ap rfl rfl ot rfl rfl (fun b3=>?_);refine OD.box (ds:=[_,_,_]) ap rfl rfl ot rfl rfl (fun b4=>?_);refine OD.alloc (ds:=[_,_,_]) ap rfl rfl zeroValue41 rfl (fun b6=>?_);refine an 50 [2,3,4,6] ?_;refine cZ [2,3,4,6,14,15] ?_;refine aS 2 ?_ (h:=by exact(Eo (pl:=[(0,_),(1,_)]) (ds:=[_,_,_,_,_,_]) rfl zeroValue173 runUnderlying173 sizeOf41 ⟨rfl,ot,rfl,ot,trivial⟩ rfl rfl));refine bG ?_;refine eA [2,3,4,6,14] (fun aU _ (i:Nat) aH=>(i≤2)∧(∀j,j<i→¬((iN a b j).k≠1∧(iN a b j).k≠0))∧aH=(⟨50,(15,ae (i:Nat))::aU,[⟨b6,41,3,[ae 0,ae 0,gb]⟩,⟨b4,41,3,[ae b.k,ae b.n,bw b.s]⟩,⟨b3,41,3,[ae a.k,ae a.n,bw a.s]⟩]⟩:St)) (fun (i:Nat)=>2-i) 0 ⟨(Nat.zero_le _),(fun j hj=>absurd hj (Nat.not_lt_zero _)),rfl⟩ ?_;rintro i _ ⟨hi,fh,rfl⟩;refine af [2,3,4,6,14,15,16] ?_;refine au ?_ ?_<;>intro aM bD
 ·have aa:i<2:=(by omega)
  refine bY ?_;refine bN (H9 (j:=i) rfl ot ot runUnderlying173 sizeOf41 isAgg41 rfl aa (Iy a b aa)) ?_;refine OD.alloc (ds:=[_,_,_]) ap rfl rfl zeroValue41 rfl (fun b9=>?_);refine aP 0 [_,_,_] sizeOf41 ?_;refine an 50 [2,3,4,6,9,14,15] ?_;refine aD 4 ?_;refine bV 21 (fun qE I=>?_) (fun qE I=>?_)
  ·refine bg [2,3,4,6,14,15,25] ?_;refine au ?_ ?_<;>intro aY cy
   ·have aW:lq a b d=(bJ,4):=abf aa (by simp_all) (by simp_all);refine aD 1 ?_;refine aP 1 [_,_,_] sizeOf41 ?_;refine an 50 [6,7] ?_;exact oC
   exact z85
  refine bg [2,3,4,6,14,15,25] ?_;refine fM ?_;exact z85
 have CX:=JE (p:=fun v=>¬(v.k≠1∧v.k≠0)) fh w4;have hg:¬((a.k≠1∧a.k≠0)∨(b.k≠1∧b.k≠0)):=fun h=>h.elim CX.1 CX.2;clear fh hi;refine cZ [2,3,4,6,30,31] ?_;refine aS 2 ?_ (h:=by exact(Eo (pl:=[(0,_),(1,_)]) (ds:=[_,_,_,_,_,_]) rfl zeroValue173 runUnderlying173 sizeOf41 ⟨rfl,ot,rfl,ot,trivial⟩ rfl rfl));refine bG ?_;refine eA [2,3,4,6,30] (fun aU _ (i:Nat) aH=>(i≤2)∧(∀j,j<i→¬((iN a b j).k=1∧(iN a b j).n=d))∧aH=(⟨50,(31,ae (i:Nat))::aU,[⟨b6,41,3,[ae 0,ae 0,gb]⟩,⟨b4,41,3,[ae b.k,ae b.n,bw b.s]⟩,⟨b3,41,3,[ae a.k,ae a.n,bw a.s]⟩]⟩:St)) (fun (i:Nat)=>2-i) 0 ⟨(Nat.zero_le _),(fun j hj=>absurd hj (Nat.not_lt_zero _)),rfl⟩ ?_;rintro i _ ⟨Z,KV,rfl⟩;refine af [2,3,4,6,30,31,32] ?_;refine au ?_ ?_<;>intro bZ cN
 ·have aa:i<2:=(by omega)
  refine bY ?_;refine bN (H9 (j:=i) rfl ot ot runUnderlying173 sizeOf41 isAgg41 rfl aa (Iy a b aa)) ?_;refine OD.alloc (ds:=[_,_,_]) ap rfl rfl zeroValue41 rfl (fun jN=>?_);refine aP 0 [_,_,_] sizeOf41 ?_;refine an 50 [2,3,4,6,11,30,31] ?_;refine aD 4 ?_;refine bV 37 (fun U O=>?_) (fun U O=>?_)
  ·refine bg [2,3,4,6,11,30,31,42] ?_;refine au ?_ ?_<;>intro cX en
   ·have aW:lq a b d=(iN a b i,0):=abg aa hg KV (by simp_all) (by simp_all);refine aD 1 ?_;refine aP 1 [_,_,_] sizeOf41 ?_;refine an 50 [6,7] ?_;exact oC
   exact XQ
  refine bg [2,3,4,6,11,30,31,42] ?_;refine fM ?_;exact XQ
 have E:=JE (p:=fun v=>¬(v.k=1∧v.n=d)) KV w4;refine cJ [3,6,47] (nu) ?_;refine au ?_ ?_<;>intro er fq
 ·have aW:lq a b d=(bJ,0):=(by unfold lq;rw[if_neg hg,if_neg E.1,if_neg E.2,if_pos (by unfold rf at er;simpa using er)])
  refine aD 1 ?_;refine aP 0 [_,_,_] sizeOf41 ?_;refine an 50 [6,7] ?_;exact oC
 have aW:lq a b d=(a,0):=(by unfold lq;rw[if_neg hg,if_neg E.1,if_neg E.2,if_neg (by unfold rf at er;simpa using er)])
 refine aD 1 ?_;refine aP 0 [_,_,_] sizeOf41 ?_;refine an 50 [6,7] ?_;exact ur
theorem ac0(k a b:Int):VP Tryz.prog G 105 [ae k,ae a,ae b] (.dI [ae (pE k a b).1,cj (pE k a b).2]):=by
 refine VC.body func105 rfl ntmps105 aR fun X0 w0 aZ=>?_;refine af [0,1,2] ?_;refine af [1,2,11] ?_;refine af [1,2,11,12] ?_;refine au ?_ ?_<;>intro aM bD
 ·refine cZ [1,2,8] ?_;refine aS 2 ?_ (h:=by exact(dj (r:=.int .i64 (wr (a+b))) rfl ot ot (kr rfl)));exact z87
 refine af [1,2,24] ?_;refine au ?_ ?_<;>intro aY cy
 ·refine cZ [1,2,9] ?_;refine aS 2 ?_ (h:=by exact(dj (r:=.int .i64 (wr (a-b))) rfl ot ot (gj rfl)));exact z87
 refine cZ [1,2,10] ?_;refine aS 2 ?_ (h:=by exact(dj (r:=.int .i64 (wr (a*b))) rfl ot ot (JK rfl)));refine bG ?_;refine aD 4 ?_;refine bV 42 (fun rj E=>?_) (fun rj E=>?_)
 ·refine bg [6,7] ?_;refine Nh ?_;refine⟨?_,rfl⟩;unfold pE;simp_all
 refine aE 2 ?_;refine OD.still gW rfl (dj (r:=.int .i64 (wr ((wr (a*b)).tdiv a))) rfl ot ot (ael (by simpa using rj) rfl)) ?_;refine aE 3 ?_;refine bV 48 (fun U I=>?_) (fun U I=>?_)
 ·refine aE 3 ?_;refine bV 51 (fun Z O=>?_) (fun Z O=>?_)
  ·refine an 58 [6,7] ?_;refine aI [] ?_;refine⟨?_,rfl⟩;unfold pE;simp_all
  refine an 58 [6,7] ?_;refine aI [] ?_;refine⟨?_,rfl⟩;unfold pE;simp_all
 refine an 58 [6,7] ?_;refine aI [] ?_;refine⟨?_,rfl⟩;unfold pE;simp_all
theorem agn(k:Int)(a:Vl):VP Tryz.prog G 61 [ae k,.agg (cV a)] (mX (uc k a)):=by
 refine VC.body func61 rfl ntmps61 aR fun X0 w0 aZ=>?_;unfold mX;have fb:=Vl.pB (G:=G) a;unfold cV at fb;unfold cV;refine bY ?_;refine OD.box (ds:=[_,_,_]) ap rfl rfl ot rfl rfl (fun b3=>?_);refine OD.alloc (ds:=[_,_,_]) ap rfl rfl zeroValue41 rfl (fun b4=>?_);refine an 35 [0,3,4] ?_;refine cJ [0,3,4,6] (fb) ?_;refine af [0,3,4,6,10] ?_;refine au ?_ ?_<;>intro aM bD
 ·refine aD 2 ?_;exact C1
 refine af [3,4,13] ?_;refine af [3,4,13,14] ?_;refine au ?_ ?_<;>intro aY cy
 ·refine aD 3 ?_;refine dQ call100 (qU _) ?_;exact C1
 refine af [3,4,20] ?_;refine au ?_ ?_<;>intro bZ cN
 ·refine af [3,4,23] ?_;refine af [3,4,23,24] ?_;refine au ?_ ?_<;>intro cX en
  ·refine aD 1 ?_;exact C1
  refine af [3,4,27] ?_;refine au ?_ ?_<;>intro er fq
  ·refine aD 3 ?_;refine dQ call100 (qU _) ?_;exact C1
  refine aD 1 ?_;exact C1
 refine aD 1 ?_;refine aP 0 [_,_,_] sizeOf41 ?_;refine an 35 [4,5] ?_;refine aI [] ?_;refine⟨?_,rfl⟩;unfold uc;simp_all[bJ]
theorem aeg{k:Int}(h0:mJ a b=0)(hk:k=8∨k=9∨k=10)(hi:i<2)(h1:(iN a b i).k≠2)(h2:(iN a b i).k≠0):iz k a b=(bJ,4):=by
 unfold iz;rw[if_neg (by simp[h0]),if_neg w4,if_neg w4,if_neg w4,if_pos hk];match i,hi with
 | 0,_=>rw[if_pos (.inl ⟨h1,h2⟩)]
 | 1,_=>rw[if_pos (.inr ⟨h1,h2⟩)]
theorem PJ{k:Int}(h0:mJ a b=0)(hk:k=8∨k=9∨k=10)(hg:¬((a.k≠2∧a.k≠0)∨(b.k≠2∧b.k≠0))) :
  iz k a b=if rf a b=true then (bJ,0) else if (pE k a.n b.n).2=true then (⟨2,(pE k a.n b.n).1,⟨#[]⟩⟩,0) else (bJ,5):=by
 unfold iz;rw[if_neg (by simp[h0]),if_neg w4,if_neg w4,if_neg w4,if_pos hk,if_neg hg]
theorem ago(k:Int)(a b:Vl)(oa:a.Ok)(ob:b.Ok):VP Tryz.prog G 62 [ae k,.agg (cV a),.agg (cV b)] (mX (iz k a b)):=by
 refine VC.body func62 rfl ntmps62 aR fun X0 w0 aZ=>?_;unfold mX;have oB:=Cd.TA (G:=G) a b;have nu:=TL (G:=G) a b;have mR:=RD (G:=G) a b 0;have j7:=RD (G:=G) a b 1;have fb:=Cd.Pq (G:=G) a b oa ob;have xT:=ac0 (G:=G) k a.n b.n;unfold mX at mR j7;unfold cV at oB nu mR j7 fb;unfold cV;refine bY ?_;refine OD.box (ds:=[_,_,_]) ap rfl rfl ot rfl rfl (fun b4=>?_);refine OD.box (ds:=[_,_,_]) ap rfl rfl ot rfl rfl (fun b5=>?_);refine OD.alloc (ds:=[_,_,_]) ap rfl rfl zeroValue41 rfl (fun b6=>?_);refine an 106 [0,4,5,6] ?_;refine cJ [0,4,5,6,8] (oB) ?_;refine af [0,4,5,6,8,18] ?_;refine au ?_ ?_<;>intro aM bD
 ·have oA:mJ a b≠0:=(by simpa using aM)
  have aW:iz k a b=(bJ,mJ a b):=(by unfold iz;rw[if_pos oA])
  refine aD 2 ?_;exact z7
 have oA:mJ a b=0:=(by simpa using aM)
 refine af [0,4,5,6,21] ?_;refine af [0,4,5,6,21,22] ?_;refine au ?_ ?_<;>intro aY cy
 ·have aW:iz k a b=lq a b 0:=(by unfold iz;rw[if_neg (by simp[oA]),if_pos w4])
  refine aD 2 ?_;refine dQ call102 (mR) ?_;refine aE 2 ?_;exact z7
 refine af [0,4,5,6,21,29] ?_;refine au ?_ ?_<;>intro bZ cN
 ·have aW:iz k a b=lq a b 1:=(by unfold iz;rw[if_neg (by simp[oA]),if_neg w4,if_pos w4])
  refine aD 2 ?_;refine dQ call102 (j7) ?_;refine aE 2 ?_;exact z7
 refine af [0,4,5,6,21,36] ?_;refine au ?_ ?_<;>intro cX en
 ·refine eI ?_;exact z109
 refine cm [0,4,5,6,21,36] ?_;refine au ?_ ?_<;>intro er fq
 ·exact z109
 refine af [0,4,5,6,21,67] ?_;refine au ?_ ?_<;>intro gq lA
 ·refine eI ?_;exact z6
 refine af [0,4,5,6,21,67] ?_;refine au ?_ ?_<;>intro pZ E
 ·refine eI ?_;exact z6
 refine cm [0,4,5,6,67] ?_;refine au ?_ ?_<;>intro O I
 ·exact z6
 have aW:iz k a b=(bJ,2):=(by unfold iz;rw[if_neg (by simp[oA]),if_neg w4,if_neg w4,if_neg w4,if_neg w4])
 refine aD 1 ?_;refine aP 0 [_,_,_] sizeOf41 ?_;refine an 106 [6,7] ?_;refine aI [] ?_;rw[aW];first|exact⟨rfl,rfl⟩|(refine⟨?_,rfl⟩;clear aW fb xT mR j7 oB nu;generalize (fu a b==0)=z1 at *;generalize (decide (fu a b<0))=z2 at *;subst_vars;simp_all;done)

end Go.Proofs.YtdgichenhdikgaaGreatDoor.Ex
namespace Go.Proofs.YtdgichenhdikgaaGreatDoor.Ex
open List
open Go.Proofs.Tryz
open Go.RowKit V Pk Vl Go.Proofs.YtdgichenhdikgaaGreatDoor.Nm Pc
variable {a b:Vl} {l:List cz} {row:List Vl} {ops:List aX}
def fX(l:List cz)(row:List Vl)(o:aX)(a b:Vl):Vl×Int :=
 if bP o.k=1 then uc o.k a else if bP o.k=2 then iz o.k a b else if o.k=2 then (row.getD (bM l o.nm).toNat bJ,0) else (o.v,0)
def vc(l:List cz)(row:List Vl)(ops:List aX):Vl×Int:=jH bJ (fX l row) ops []
def fp(l:List cz)(row:List Vl)(ops:List aX):Vl×Int :=
 if dO l row≠0 then (bJ,dO l row) else if (ew l ops).2≠0 then (bJ,(ew l ops).2) else vc l row ops
theorem sy:bJ.Ok:=⟨by decide,by decide,by decide,by decide,Nat.zero_le _⟩
theorem RE(b:Bool):(qv b).Ok:=by unfold qv;split<;>exact⟨by decide,by decide,by decide,by decide,Nat.zero_le _⟩
theorem ok_int{n:Int}(h:-9223372036854775808≤n∧n≤9223372036854775807):(⟨2,n,⟨#[]⟩⟩:Vl).Ok:=⟨by show -9223372036854775808≤(2:Int);decide,by show(2:Int)≤_;decide,h.1,h.2,Nat.zero_le _⟩
theorem ac1{d:Int}(oa:a.Ok)(ob:b.Ok):(lq a b d).1.Ok:=by
 unfold lq;repeat' split
 all_goals first|exact sy|exact oa|exact ob
theorem ok_two{k:Int}(oa:a.Ok)(ob:b.Ok):(iz k a b).1.Ok:=by
 unfold iz;repeat' split
 all_goals first|exact sy|exact ac1 oa ob|exact RE _|skip
 unfold pE;repeat' split
 all_goals exact ok_int (ahH _)
theorem ok_one{k:Int}(oa:a.Ok):(uc k a).1.Ok:=by
 unfold uc;repeat' split
 all_goals first|exact sy|exact oa|exact RE _
theorem TM(hr:∀v∈row,v.Ok){o:aX}(ho:o.v.Ok)(oa:a.Ok)(ob:b.Ok):(fX l row o a b).1.Ok:=by
 unfold fX;split
 ·exact ok_one oa
 split
 ·exact ok_two oa ob
 split
 ·show(row.getD _ bJ).Ok;rw[getD_eq_getElem?_getD];cases h:row[(bM l o.nm).toNat]? with
  | none=>exact sy
  | some v=>exact hr v (mem_of_getElem? h)
 exact ho
theorem JZ{st:List Vl}(h:∀v∈st,v.Ok)(j:Nat):(st.getD j bJ).Ok:=by
 rw[getD_eq_getElem?_getD];cases hj:st[j]? with
 | none=>exact sy
 | some v=>exact h v (mem_of_getElem? hj)
theorem BD{st:List Vl}(h:∀v∈st,v.Ok)(k:Int):(fj bJ k st).Ok:=by unfold fj;split;exact JZ h _;exact sy
theorem BE{st:List Vl}(h:∀v∈st,v.Ok)(k:Int):(eW bJ k st).Ok:=by unfold eW;split;exact JZ h _;exact sy
theorem Qd{α:Type}{z:α}{f:aX→α→α→α × Int}:∀{l:List aX} {st:List α},(jH z f l st).2=0→∀o∈l,∃a b,(f o a b).2=0
 | [],_,_,o,ho=>by cases ho
 | x::r,st,h,o,ho=>by
  rw[jH] at h;split at h
  ·rename_i hne;exact absurd h hne
  rename_i he;rcases mem_cons.1 ho with rfl|ho
  ·exact⟨_,_,Classical.not_not.1 he⟩
  exact Qd h o ho
theorem Qe(h:(tX l ops).2=0):∀o∈ops,o.k=2→0≤bM l o.nm:=fun o ho hk=>by
 obtain⟨a,b,he⟩:=Qd h o ho;unfold jd at he;rw[if_neg w4,if_pos hk] at he;unfold uZ at he;split at he
 ·cases he
 omega
theorem JO(h:dO l row=0):row.length=l.length:=by
 unfold dO at h;split at h
 ·rename_i h1;exact absurd h h1
 split at h
 ·cases h
 omega
theorem Fs(h:(ew l ops).2=0):fI l=0∧iR ops=0∧ew l ops=tX l ops:=by
 unfold ew at h ⊢;split at h
 ·rename_i h1;exact absurd h h1
 rename_i h1;split at h
 ·rename_i h2;exact absurd h h2
 rename_i h2;exact⟨Classical.not_not.1 h1,Classical.not_not.1 h2,by rw[if_neg h1,if_neg h2]⟩
variable {G:List (Nat×List Value)}
theorem IJ(l:List cz)(hl:l.length≤6)(row:List Vl)(mY:row.length=l.length)(o:aX)(I:o.k=2→0≤bM l o.nm)(a b a' b':Vl)(ha:a=a')(hb:b=b')(oa:a.Ok)(ob:b.Ok)(br bc:Nat):VC Tryz.prog G 59 [.agg (cO o),.agg (cV a'),.agg (cV b'),dL br,dL bc] [⟨br,28,1,[av 3 cV row]⟩,⟨bc,27,1,[av 2 cC l]⟩] (fun r S=>r=mX (fX l row o a b)∧S=[⟨br,28,1,[av 3 cV row]⟩,⟨bc,27,1,[av 2 cC l]⟩]):=by
 refine VC.body func59 rfl ntmps59 aR fun X0 w0 aZ=>?_;subst ha hb;have mS:=agn (G:=G) o.k a;have E:=ago (G:=G) o.k a b oa ob;unfold mX at mS E ⊢;unfold cV at mS E;unfold cO cV;have U:=wF (fun c:cz=>c.n.toList==o.nm.toList) l;have O:bM l o.nm=dU (fun c:cz=>c.n.toList==o.nm.toList) l:=rfl;rw[←O] at U;clear O;refine bY ?_;refine OD.box (ds:=[_,_,_,_,_]) ap rfl rfl ot rfl rfl (fun b5=>?_);refine OD.box (ds:=[_,_,_]) ap rfl rfl ot rfl rfl (fun b6=>?_);refine OD.box (ds:=[_,_,_]) ap rfl rfl ot rfl rfl (fun b7=>?_);refine OD.alloc (ds:=[_,_,_]) ap rfl rfl zeroValue41 rfl (fun b8=>?_);refine an 42 [3,4,5,6,7,8] ?_;refine cJ [3,4,5,6,7,8,12] (E1 o.k) ?_;refine af [3,4,5,6,7,8,12,13] ?_;refine au ?_ ?_<;>intro aM bD
 ·have aW:fX l row o a b=uc o.k a:=(by unfold fX;rw[if_pos w4])
  refine aD 3 ?_;refine dQ call61 (mS) ?_;refine aE 2 ?_;exact z139
 refine af [3,4,5,6,7,8,21] ?_;refine au ?_ ?_<;>intro aY cy
 ·have aW:fX l row o a b=iz o.k a b:=(by unfold fX;rw[if_neg w4,if_pos w4])
  refine aD 4 ?_;refine dQ call62 (E) ?_;refine aE 2 ?_;exact z139
 refine af [3,4,5,8,32] ?_;refine au ?_ ?_<;>intro bZ cN
 ·have fB:o.k=2:=(by omega)
  have aM:=I fB;have Z:(bM l o.nm).toNat<row.length:=(by omega)
  have aW:fX l row o a b=(row[(bM l o.nm).toNat],0):=(by unfold fX;rw[if_neg w4,if_neg w4,if_pos fB,getD_eq_getElem?_getD,getElem?_eq_getElem Z];rfl)
  refine CD.seq ?_;refine lF 7 [8,39] ?_;refine dh (qt l hl o.nm) ?_;refine bG ?_;exact z139
 have aW:fX l row o a b=(o.v,0):=(by unfold fX;rw[if_neg w4,if_neg w4,if_neg w4])
 refine aD 2 ?_;refine aP 0 [_,_,_] sizeOf41 ?_;refine an 42 [8,9] ?_;exact VX
theorem Z1:(Tryz.prog.info? 41).map (fun i=>(i.zero,i.size,i.bytes))=some (some (.agg #[.int .i64 0,.int .i64 0,.string ⟨#[]⟩]),3,32):=by kernel_rfl
theorem ac2(l:List cz)(hl:l.length≤6)(row:List Vl)(mY:row.length=l.length)(zQ:∀v∈row,v.Ok)(ops:List aX)(fS:∀o∈ops,o.v.Ok)(E:∀o∈ops,o.k=2→0≤bM l o.nm)(qe:ops.length≤40)(hx:fJ 0 ops=0)(br bc:Nat):VC Tryz.prog G 58 [av 5 cO ops,.ez (.func 59) [dL br,dL bc]] [⟨br,28,1,[av 3 cV row]⟩,⟨bc,27,1,[av 2 cC l]⟩] (fun r S=>r=mX (vc l row ops)∧S=[⟨br,28,1,[av 3 cV row]⟩,⟨bc,27,1,[av 2 cC l]⟩]):=by
 refine VC.body func58 rfl ntmps58 aR fun X0 w0 aZ=>?_;unfold mX;refine bY ?_;refine OD.alloc (ds:=[_,_,_]) ap rfl rfl zeroValue41 rfl (fun b4=>?_);refine an 64 [0,1,4] ?_;refine bY ?_;refine OD.alloc (ds:=[_,_,_]) ap rfl rfl zeroValue41 rfl (fun b6=>?_);refine OD.perm (Bp (k:=2) (k':=2) rfl rfl) ?_;refine an 64 [0,1,4,6] ?_;refine bY ?_;refine bg [0,1,4,6,7] ?_;refine af [1,4,6,7,16,17,18] ?_;refine CD.block ?_;refine mV (fun (I:Nat×List Vl×Option Addr×Nat×List ah) aH=>match I with|(i,st,O,ke,Sh)=>(i≤ops.length)∧(st.length≤i)∧(fJ ((st.length:Nat):Int) (ops.drop i)=0)∧(vc l row ops=jH bJ (fX l row) (ops.drop i) st)∧(∀v∈st,v.Ok)∧(bn 41 3 ((st).flatMap cV) (st).length O ke Sh)∧aH=(⟨64,[(1,.ez (.func 59) [dL br,dL bc]),(4,dL b4),(6,dL b6),(7,aN O (st).length ke),(16,av 5 cO ops),(17,ae (ops.length:Nat)),(18,ae (i:Nat))],(⟨br,28,1,[av 3 cV row]⟩::⟨bc,27,1,[av 2 cC l]⟩::⟨b6,41,3,[ae 0,ae 0,gb]⟩::⟨b4,41,3,[ae 0,ae 0,gb]⟩::Sh)⟩:St)) (fun (I:Nat×List Vl×Option Addr×Nat×List ah)=>match I with|(i,st,O,ke,Sh)=>ops.length-i) (0,[],none,0,[]) ⟨(Nat.zero_le _),(Nat.zero_le _),hx,rfl,(fun v U=>by cases U),(bn.cast iv j6),rfl⟩ (aK (h:=by repeat (first|exact trivial|refine⟨GY,?_⟩))) ?_;rintro⟨i,st,O,ke,Sh⟩ _ ⟨hi,fG,hex,hinv,aQ,nR,rfl⟩;refine af [1,4,6,7,16,17,18,19] ?_;refine au ?_ ?_<;>intro aM bD
 ·have aa:i<ops.length:=(by omega)
  obtain⟨he,yj⟩:=Qc aa hex;obtain⟨rI,Wp,yl,oE⟩:=wA he;have Ds:=tI ops[i].k;have sW:(st.take (st.length-(bP ops[i].k).toNat)++[(fX l row ops[i] (fj bJ ops[i].k st) (eW bJ ops[i].k st)).1]).length=st.length+1-(bP ops[i].k).toNat:=(by rw[length_append,length_take,length_singleton];omega)
  have nS:fJ (((st.take (st.length-(bP ops[i].k).toNat)++[(fX l row ops[i] (fj bJ ops[i].k st) (eW bJ ops[i].k st)).1]).length:Nat):Int) (ops.drop (i+1))=0:=(by rw[sW,show(((st.length+1-(bP ops[i].k).toNat:Nat)):Int)=(st.length:Int)+(1-bP ops[i].k) by omega];exact yj)
  have aix:∀v∈st.take (st.length-(bP ops[i].k).toNat)++[(fX l row ops[i] (fj bJ ops[i].k st) (eW bJ ops[i].k st)).1],v.Ok:=fun v U=>by rcases mem_append.1 U with U|U;exact aQ v (mem_of_mem_take U);rw[mem_singleton] at U;rw[U];exact TM zQ (fS _ (getElem_mem aa)) (BD aQ _) (BE aQ _)
  refine aD 2 ?_;refine OD.alloc (ds:=[_,_,_,_,_]) ap rfl rfl zeroValue43 rfl (fun b9=>?_);refine aP 0 [_,_,_,_,_] sizeOf43 ?_;refine an 64 [1,4,6,7,9,16,17,18] ?_;refine bY ?_;refine OD.alloc (ds:=[_,_,_]) ap rfl rfl zeroValue41 rfl (fun k8=>?_);refine OD.alloc (ds:=[_,_,_]) ap rfl rfl zeroValue41 rfl (fun jN=>?_);refine an 64 [1,4,6,7,9,10,11,16,17,18] ?_;refine cJ [1,4,6,7,9,10,11,12,16,17,18] (E1 ops[i].k) ?_;refine af [1,4,6,7,9,10,11,12,13,16,17,18] ?_;refine af [1,4,6,7,9,10,11,12,13,16,17,18,30] ?_;refine au ?_ ?_<;>intro aY cy
  ·obtain⟨bh,rfl,xp,wR,rfl⟩:=nR.pos w4;have uE:(st.length-(bP ops[i].k).toNat)<st.length:=(by omega)
   have ha:fj bJ ops[i].k st=st[(st.length-(bP ops[i].k).toNat)]:=(by unfold fj;rw[if_pos w4,getD_eq_getElem?_getD,getElem?_eq_getElem uE];rfl)
   refine dM 2 ?_;refine bN (dF 3 (h:=by first|exact .l (j:=(st.length-(bP ops[i].k).toNat)) w4 w4|exact .r (j:=(st.length-(bP ops[i].k).toNat)) w4 w4)) ?_;refine bN (cW (mk:=Op.load 41) rfl ot (dR (k:=7) fi rfl rfl rfl isAgg41 sizeOf41 uE)) ?_;refine aP 1 [_,_,_] sizeOf41 ?_;refine an 64 [1,4,6,7,9,10,11,12,13,16,17,18] ?_;refine af [1,4,6,7,9,10,11,13,16,17,18,36] ?_;refine au ?_ ?_<;>intro bZ cN
   ·have Z:(st.length-(bP ops[i].k).toNat)+1<st.length:=(by omega)
    have hb:eW bJ ops[i].k st=st[(st.length-(bP ops[i].k).toNat)+1]:=(by unfold eW;rw[if_pos w4,getD_eq_getElem?_getD,getElem?_eq_getElem Z];rfl)
    refine dM 3 ?_;refine bN (dF 3 (h:=by first|exact .l (j:=(st.length-(bP ops[i].k).toNat)+1) w4 w4|exact .r (j:=(st.length-(bP ops[i].k).toNat)+1) w4 w4)) ?_;refine bN (cW (mk:=Op.load 41) rfl ot (dR (k:=7) fi rfl rfl rfl isAgg41 sizeOf41 Z)) ?_;refine aP 0 [_,_,_] sizeOf41 ?_;refine an 64 [1,4,6,7,9,10,11,13,16,17,18] ?_;refine aD 4 ?_;refine OD.kv (f:=59) (args:=[_,_,_]) (all:=[_,_,_,_,_]) (Sf:=[⟨br,28,1,[av 3 cV row]⟩,⟨bc,27,1,[av 2 cC l]⟩]) ap rfl rfl ot call59 (IJ l hl row mY ops[i] (E _ (getElem_mem aa)) _ _ (st[(st.length-(bP ops[i].k).toNat)]) (st[(st.length-(bP ops[i].k).toNat)+1]) ha hb (BD aQ _) (BE aQ _) br bc) rfl ⟨ot,ot,ot,trivial⟩ (Bp (k:=3) (k':=3) rfl rfl) ?_;exact z117
   have hb:eW bJ ops[i].k st=bJ:=(by unfold eW;rw[if_neg w4])
   refine aD 4 ?_;refine OD.kv (f:=59) (args:=[_,_,_]) (all:=[_,_,_,_,_]) (Sf:=[⟨br,28,1,[av 3 cV row]⟩,⟨bc,27,1,[av 2 cC l]⟩]) ap rfl rfl ot call59 (IJ l hl row mY ops[i] (E _ (getElem_mem aa)) _ _ (st[(st.length-(bP ops[i].k).toNat)]) (bJ) ha hb (BD aQ _) (BE aQ _) br bc) rfl ⟨ot,ot,ot,trivial⟩ (Bp (k:=3) (k':=3) rfl rfl) ?_;exact z117
  have ha:fj bJ ops[i].k st=bJ:=(by unfold fj;rw[if_neg w4])
  refine af [1,4,6,7,9,10,11,13,16,17,18,36] ?_;refine au ?_ ?_<;>intro bZ cN
  ·exact absurd bZ (by simp at *;omega)
  have hb:eW bJ ops[i].k st=bJ:=(by unfold eW;rw[if_neg w4])
  refine aD 4 ?_;refine OD.kv (f:=59) (args:=[_,_,_]) (all:=[_,_,_,_,_]) (Sf:=[⟨br,28,1,[av 3 cV row]⟩,⟨bc,27,1,[av 2 cC l]⟩]) ap rfl rfl ot call59 (IJ l hl row mY ops[i] (E _ (getElem_mem aa)) _ _ (bJ) (bJ) ha hb (BD aQ _) (BE aQ _) br bc) rfl ⟨ot,ot,ot,trivial⟩ (Bp (k:=3) (k':=3) rfl rfl) ?_;rintro _ _ ⟨rfl,rfl⟩;refine aE 3 ?_;refine OD.alloc (ds:=[_,_,_]) ap rfl rfl zeroValue41 rfl (fun Az=>?_);refine aP 0 [_,_,_] sizeOf41 ?_;refine an 64 [1,4,6,7,13,14,15,16,17,18] ?_;refine af [1,4,6,7,13,14,15,16,17,18,51] ?_;refine au ?_ ?_<;>intro cX en
  ·exact z49
  have hz:(fX l row ops[i] (fj bJ ops[i].k st) (eW bJ ops[i].k st)).2=0:=(by simpa using cX)
  refine CD.skip ?_;refine CD.vm (k:=(st.length-(bP ops[i].k).toNat)) (ls:=(st)) (Sq:=Sh) fi w4 nR (de (A:=[_,_,_,_,_,_,_,_])) (fun Ch BR=>?_);exact z5
 have h1:=RC w4 hex;have Wv:0<st.length:=(by omega)
 obtain⟨bh,rfl,xp,wR,rfl⟩:=nR.pos w4;have aW:=hinv.trans (RB w4);have j9:st.getD 0 bJ=st[0]:=(by rw[getD_eq_getElem?_getD,getElem?_eq_getElem Wv];rfl)
 rw[j9] at aW;refine aD 1 ?_;refine bN (oM (mk:=Op.indexAddr 28) rfl ot bI (by first|exact pD (j:=0) runUnderlying28 sizeOf41 rfl An|exact pH (j:=0) runUnderlying28 sizeOf41 rfl An)) ?_;refine bN (cW (mk:=Op.load 41) rfl ot (dR (k:=4) fi rfl rfl rfl isAgg41 sizeOf41 Wv)) ?_;refine aP 3 [_,_,_] sizeOf41 ?_;refine an 64 [4,5] ?_;exact VX
theorem aeS(l:List cz)(hl:l.length≤6)(row:List Vl)(O:row.length=l.length)(E:∀v∈row,v.Ok)(ops:List aX)(fS:∀o∈ops,o.v.Ok)(I:∀o∈ops,o.k=2→0≤bM l o.nm)(hx:iR ops=0):VP Tryz.prog G 35 [av 2 cC l,av 3 cV row,av 5 cO ops] (mX (vc l row ops)):=by
 refine VC.body func35 rfl ntmps35 aR fun X0 w0 aZ=>?_;obtain⟨U,gC⟩:=wG hx;have fO:=fun br bc=>ac2 (G:=G) l hl row O E ops fS I U gC br bc;unfold mX at fO ⊢;generalize vc l row ops=q at fO ⊢;skip;refine bY ?_;refine OD.box (ds:=[_]) ap rfl rfl ot rfl rfl (fun b3=>?_);refine OD.box (ds:=[_]) ap rfl rfl ot rfl rfl (fun b4=>?_);refine OD.alloc (ds:=[_,_,_]) ap rfl rfl zeroValue41 rfl (fun b6=>?_);refine an 13 [2,3,4,6] ?_;refine aD 1 ?_;refine bN (pA (ds:=[_,_]) rfl ⟨ot,ot,trivial⟩) ?_;refine OD.call ap rfl rfl rfl call58 (fO b4 b3) ⟨ot,ot,trivial⟩ (Bp (k:=1) (k':=1) rfl rfl) ?_;rintro _ _ ⟨rfl,rfl⟩;refine aE 2 ?_;refine aP 2 [_,_,_] sizeOf41 ?_;refine an 13 [6,7] ?_;exact nT
theorem TN(hm:(3,marksC)∈G)(hw:(1,wordsC)∈G)(ht:(0,typesC)∈G)(l:List cz)(hl:l.length≤6)(aQ:∀c∈l,c.n.size≤maxLen)(row:List Vl)(Z:row.length≤1000)(E:∀v∈row,v.Ok)(ops:List aX)(ho:∀o∈ops,o.nm.size≤maxLen)(fS:∀o∈ops,o.v.Ok):VP Tryz.prog G 20 [av 2 cC l,av 3 cV row,av 5 cO ops] (mX (fp l row ops)):=by
 refine VC.body func20 rfl ntmps20 aR fun X0 w0 aZ=>?_;have dm:=ec;have U:=KB hm hw ht l w4 aQ row w4;have I:=JY hm hw ht l hl aQ ops ho;unfold pT at I;unfold mX;refine bY ?_;refine OD.alloc (ds:=[_,_,_]) ap rfl rfl zeroValue41 rfl (fun b6=>?_);refine an 34 [0,1,2,6] ?_;refine cJ [0,1,2,6,8] (U) ?_;refine af [0,1,2,6,8,15] ?_;refine au ?_ ?_<;>intro aM bD
 ·have h0:dO l row≠0:=(by simpa using aM)
  have aW:fp l row ops=(bJ,dO l row):=(by unfold fp;rw[if_pos h0])
  refine aD 2 ?_;refine aP 0 [_,_,_] sizeOf41 ?_;refine an 34 [6,7] ?_;exact oC
 have h0:dO l row=0:=(by simpa using aM)
 refine cJ [0,1,2,6,10] (I) ?_;refine af [0,1,2,6,10,25] ?_;refine au ?_ ?_<;>intro aY cy
 ·have h1:(ew l ops).2≠0:=(by simpa using aY)
  have aW:fp l row ops=(bJ,(ew l ops).2):=(by unfold fp;rw[if_neg (by simp[h0]),if_pos h1])
  refine aD 2 ?_;refine aP 0 [_,_,_] sizeOf41 ?_;refine an 34 [6,7] ?_;exact oC
 have h1:(ew l ops).2=0:=(by simpa using aY)
 obtain⟨k1,k2,k3⟩:=Fs h1;have aW:fp l row ops=vc l row ops:=(by unfold fp;rw[if_neg (by simp[h0]),if_neg (by simp[h1])])
 have O:=aeS (G:=G) l hl row (JO h0) E ops fS (Qe (by rw[←k3];exact h1)) k2;unfold mX at O;refine aD 3 ?_;refine dQ call35 (O) ?_;refine aE 2 ?_;refine aP 0 [_,_,_] sizeOf41 ?_;refine an 34 [6,7] ?_;exact ur

end Go.Proofs.YtdgichenhdikgaaGreatDoor.Ex
namespace Go.Proofs.YtdgichenhdikgaaGreatDoor.Pc
open List
open Go.Proofs.Tryz
open Go.RowKit V Pk Vl Go.Proofs.YtdgichenhdikgaaGreatDoor.Nm
variable {G:List (Nat×List Value)}
def c8:List cz:=[⟨⟨#[105,100]⟩,2⟩,⟨⟨#[110]⟩,2⟩,⟨⟨#[115]⟩,3⟩,⟨⟨#[98]⟩,1⟩]
def ku(n:Int):Vl:=if dS n 3=2 then bJ else ⟨1,dS n 3,⟨#[]⟩⟩
def vq(n:Int):Vl:=⟨2,n,⟨#[]⟩⟩
def ue(s:ByteArray):Vl:=⟨3,0,s⟩
theorem ahI:cY ⟨#[105,100]⟩=0:=tr (l:=[105,100]) w7 w7 w7
theorem ajZ:cY ⟨#[110]⟩=0:=tr (l:=[110]) w7 w7 w7
theorem aj0:cY ⟨#[115]⟩=0:=tr (l:=[115]) w7 w7 w7
theorem aj1:cY ⟨#[98]⟩=0:=tr (l:=[98]) w7 w7 w7
theorem Fb:fI c8=0:=by
 simp[fI,c8,q8,nl,ahI,ajZ,aj0,aj1,wv]
theorem aef:∀c∈c8,c.n.size≤maxLen:=fun c hc=>by
 have h:c.n.size≤2:=by
  simp only[c8,mem_cons,not_mem_nil,or_false] at hc;rcases hc with rfl|rfl|rfl|rfl
  ·exact Nat.le_refl 2
  ·exact Nat.le_succ 1
  ·exact Nat.le_succ 1
  exact Nat.le_succ 1
 exact Nat.le_trans h w7
theorem nH(a b c d:Vl):dO c8 [a,b,c,d]=nN 0 c8 [a,b,c,d]:=by unfold dO;rw[if_neg (by rw[Fb];simp),if_neg (by simp[c8])]
theorem BN(n:Int):cn (vq n)=0:=by
 unfold cn;rw[if_neg (show ¬(vq n).k=0 by show ¬(2:Int)=0;decide),if_neg (show ¬(vq n).k=1 by show ¬(2:Int)=1;decide),if_pos (show(vq n).k=2 from rfl),if_neg (fun h=>h rfl)]
theorem UR{s:ByteArray}(h:s.size≤20):cn (ue s)=0:=by
 unfold cn;rw[if_neg (show ¬(ue s).k=0 by show ¬(3:Int)=0;decide),if_neg (show ¬(ue s).k=1 by show ¬(3:Int)=1;decide),if_neg (show ¬(ue s).k=2 by show ¬(3:Int)=2;decide),if_pos (show(ue s).k=3 from rfl),if_neg (show ¬(ue s).n≠0 from fun h=>h rfl),if_neg (show ¬(ue s).s.size>20 by show ¬s.size>20;omega)]
theorem B0:cn bJ=0:=by decide
theorem RF(n:Int):cn (ku n)=0:=by
 have h:=iW n (show(1:Int)≤3 by decide);unfold ku;split
 ·exact B0
 unfold cn;rw[if_neg (show ¬(1:Int)=0 by decide),if_pos (show(1:Int)=1 from rfl),if_neg];rintro(q|q|q)
 ·have q:dS n 3<0:=q;omega
 ·have q:dS n 3>1:=q;omega
 exact q rfl
theorem TO(n:Int):(ku n).k=0∨(ku n).k=1:=by
 unfold ku;split
 ·exact .inl rfl
 exact .inr rfl
theorem FK{i:Nat}{c:cz}{v:Vl}(h:cn v=0)(hk:v.k=c.k∨(v.k=0∧i≠0)):jL i c v=0:=by
 unfold jL;rw[if_neg (by simp[h]),if_neg];rintro⟨h1,h2⟩;rcases hk with hk|hk
 ·exact h1 hk
 rcases h2 with h2|h2
 ·exact hk.2 h2
 exact h2 hk.1
theorem Iq(s:ByteArray):(sj s).size≤20:=by have:=Io s;omega
theorem Qf:VP Tryz.prog G 18 [] (av 2 cC c8):=by
 refine VC.body func18 rfl ntmps18 aR fun X0 w0 aZ=>?_;refine af [] ?_;refine aD 4 ?_;refine ei (bW 0 [_,_,_,_]) [.string ⟨#[]⟩,.int .i64 0,.string ⟨#[]⟩,.int .i64 0,.string ⟨#[]⟩,.int .i64 0,.string ⟨#[]⟩,.int .i64 0] [_,_,_,_,_,_,_,_] zeroValue69 runUnderlying27 sizeOf69 (fun b5=>?_);refine OD.perm (dZ (S1:=[⟨b5,69,4*2,flatMap cC ([⟨⟨#[105,100]⟩,2⟩,⟨⟨#[110]⟩,2⟩,⟨⟨#[115]⟩,3⟩,⟨⟨#[98]⟩,1⟩])⟩]) (A:=[])) ?_;refine an 6 [0] ?_;refine CD.gN (t:=0) (Sq:=[⟨b5,69,4*2,flatMap cC ([⟨⟨#[105,100]⟩,2⟩,⟨⟨#[110]⟩,2⟩,⟨⟨#[115]⟩,3⟩,⟨⟨#[98]⟩,1⟩])⟩]) lk (bE (g:=cC) (sz:=2) (e:=69) (ls:=[⟨⟨#[105,100]⟩,2⟩,⟨⟨#[110]⟩,2⟩,⟨⟨#[115]⟩,3⟩,⟨⟨#[98]⟩,1⟩]) (Nat.le_refl _) (show 4≤maxLen by decide)) (cr lM _) (de (A:=[])) ?_;exact nT
theorem qU(n:Int)(h1:-9223372036854775808≤n)(h2:n≤9223372036854775807):VP Tryz.prog G 28 [ae n] (.agg (cV (ku n))):=by
 refine VC.body func28 rfl ntmps28 aR fun X0 w0 aZ=>?_;refine bY ?_;refine OD.alloc (ds:=[_,_,_]) ap rfl rfl zeroValue41 rfl (fun b2=>?_);refine an 10 [0,2] ?_;refine cJ [0,2,5] (jP G n 3 h1 h2 w7) ?_;refine au ?_ ?_<;>intro aM bD
 ·refine aD 1 ?_;refine aP 0 [_,_,_] sizeOf41 ?_;refine an 10 [2] ?_;refine aI [] ?_;refine⟨?_,rfl⟩;unfold ku bJ;simp_all[cV]
 refine aD 1 ?_;refine dQ call21 (jP G n 3 h1 h2 w7) ?_;refine aE 1 ?_;refine aP 0 [_,_,_] sizeOf41 ?_;refine an 10 [2] ?_;refine aI [] ?_;refine⟨?_,rfl⟩;unfold ku bJ;simp_all[cV]

end Go.Proofs.YtdgichenhdikgaaGreatDoor.Pc
namespace Go.Proofs.YtdgichenhdikgaaGreatDoor.Ex
open List
open Go.Proofs.Tryz
open Go.RowKit V Pk Vl Go.Proofs.YtdgichenhdikgaaGreatDoor.Nm Pc
variable {k:Int} {a b:Vl} {l:List cz} {row:List Vl} {o:aX} {α:Type} {ks:List Int}
theorem If(b:Bool):cn (qv b)=0:=by cases b<;>decide
theorem abh(n:Int):cn ⟨2,n,⟨#[]⟩⟩=0:=BN n
theorem Ft(h:¬(k=8∨k=9∨k=10)):xw k=1:=if_neg h
theorem aeT(h:k=8∨k=9∨k=10):xw k=2:=if_pos h
theorem Je(b:Bool):(qv b).k=1:=by cases b<;>rfl
theorem EJ{v:Vl}(h:iS v=0):cn v=0:=by
 unfold iS at h;split at h
 ·cases h
 exact h
def jR(k:Int)(v:Vl):Prop:=cn v=0∧(v.k=k∨v.k=0)
theorem zb:jR 0 bJ:=⟨B0,.inl rfl⟩
structure zy (l:List cz) (o:aX):Prop where
 nm:o.nm.size≤maxLen
 ok:o.v.Ok
 ck:cn o.v=0
 k1:1≤o.k
 k2:o.k≤11
 YK:o.k=2→0≤bM l o.nm
def B3(l:List cz)(row:List Vl):Prop:=∀i:Nat,jR (l.getD i ⟨⟨#[]⟩,0⟩).k (row.getD i bJ)
theorem zz{a b:Int}(h:rM a b=true):a=b∨a=0:=by
 unfold rM at h;simpa using h
theorem aaj{d:Int}(ha:cn a=0)(hb:cn b=0)(h1:a.k=1∨a.k=0)(h2:b.k=1∨b.k=0):(lq a b d).2=0∧jR 1 (lq a b d).1:=by
 unfold lq;rw[if_neg w4];split
 ·exact⟨rfl,ha,h1⟩
 split
 ·exact⟨rfl,hb,h2⟩
 split
 ·exact⟨rfl,B0,.inr rfl⟩
 exact⟨rfl,ha,h1⟩
theorem aeU(ha:cn a=0)(hb:cn b=0):Cd.mJ a b=0:=by unfold Cd.mJ;rw[ha,hb];rfl
theorem abi(h:Cd.mJ a b=0)(hk:k=3∨k=4):∃d,iz k a b=lq a b d:=by
 unfold iz;rw[if_neg (by simp[h])];rcases hk with rfl|rfl
 ·exact⟨0,if_pos rfl⟩
 exact⟨1,by rw[if_neg w7,if_pos rfl]⟩
theorem ac3(h:Cd.mJ a b=0)(hk:k=6∨k=7):iz k a b=if rf a b=true then (bJ,0) else if a.k≠b.k then (bJ,4) else (qv ((Cd.fu a b==0&&k==6)||(decide (Cd.fu a b<0)&&k==7)),0):=by
 unfold iz;rw[if_neg (by simp[h]),if_neg w4,if_neg w4,if_pos hk]
theorem abj(hr:B3 l row)(ho:zy l o){a b:Int}{E vb:Vl}(ha:jR a E)(hb:jR b vb)(h:(jd l o a b).2=0) :
  (fX l row o E vb).2=5∨((fX l row o E vb).2=0∧jR (jd l o a b).1 (fX l row o E vb).1):=by
 have k1:=ho.k1;have k2:=ho.k2;obtain⟨ca,ka⟩:=ha;obtain⟨cb,kb⟩:=hb;have O:=aeU ca cb;unfold jd at h ⊢;by_cases e1:o.k=1
 ·rw[if_pos e1];have:fX l row o E vb=(o.v,0):=(by unfold fX bP;rw[if_neg w4,if_neg (by rw[if_pos (.inl e1)];omega),if_neg w4]<;>(try rw[if_pos (.inl e1)];omega))
  rw[this];exact .inr ⟨rfl,ho.ck,.inl rfl⟩
 rw[if_neg e1] at h ⊢;by_cases e2:o.k=2
 ·rw[if_pos e2] at h ⊢;have hp:bP o.k=0:=(by unfold bP;rw[if_pos (.inr e2)])
  have hc:=ho.YK e2;have:fX l row o E vb=(row.getD (bM l o.nm).toNat bJ,0):=(by unfold fX;rw[if_neg w4,if_neg w4,if_pos e2])
  rw[this];unfold uZ;rw[if_neg w4];exact .inr ⟨rfl,hr _⟩
 rw[if_neg e2] at h ⊢;have aQ:okF o.k a b=true:=by
  by_cases hk:okF o.k a b=true
  ·exact hk
  rw[if_neg hk] at h;cases h
 rw[if_pos aQ];unfold okF at aQ;by_cases I:o.k=5∨o.k=11
 ·have hp:bP o.k=1:=(by unfold bP;rw[if_neg w4,if_pos I])
  have he:fX l row o E vb=uc o.k E:=(by unfold fX;rw[if_pos hp])
  rw[he];unfold uc;rw[if_neg (by simp[ca])];rcases I with I|I
  ·have U:¬(o.k=3∨o.k=4):=(by omega)
   have Z:¬o.k=11:=(by omega)
   rw[if_neg U,if_pos I] at aQ;have hi:=zz aQ;rw[if_neg Z,if_pos I,Ft w4];by_cases z:E.k=0
   ·rw[if_pos z];exact .inr ⟨rfl,ca,.inr z⟩
   rw[if_neg z,if_pos w4];exact .inr ⟨rfl,If _,.inl (Je _)⟩
  rw[if_pos I,Ft w4];exact .inr ⟨rfl,If _,.inl (Je _)⟩
 have hp:bP o.k=2:=(by unfold bP;rw[if_neg w4,if_neg I])
 have he:fX l row o E vb=iz o.k E vb:=(by unfold fX;rw[if_neg w4,if_pos hp])
 rw[he];by_cases e3:o.k=3∨o.k=4
 ·rw[if_pos e3,Bool.and_eq_true] at aQ;have i1:=zz aQ.1;have i2:=zz aQ.2;obtain⟨d,hd⟩:=abi O e3;rw[hd,Ft w4];exact .inr (aaj ca cb w4 w4)
 have n5:¬o.k=5:=(by omega)
 rw[if_neg e3,if_neg n5] at aQ;by_cases e6:o.k=6∨o.k=7
 ·rw[if_pos e6,Bool.or_eq_true] at aQ;rw[ac3 O e6,Ft w4];by_cases hn:rf E vb=true
  ·rw[if_pos hn];exact .inr ⟨rfl,B0,.inr rfl⟩
  rw[if_neg hn];unfold rf at hn;simp only[Bool.or_eq_true,beq_iff_eq,not_or] at hn;have lG:E.k=vb.k:=by
   rcases aQ with aQ|aQ
   ·have:=zz aQ;omega
   have:b=0:=(by simpa using aQ)
   omega
  rw[if_neg (by simpa using lG)];exact .inr ⟨rfl,If _,.inl (Je _)⟩
 have e8:o.k=8∨o.k=9∨o.k=10:=(by omega)
 rw[if_neg e6,if_pos e8,Bool.and_eq_true] at aQ;have i1:=zz aQ.1;have i2:=zz aQ.2;rw[PJ O e8 w4,aeT e8];split
 ·exact .inr ⟨rfl,B0,.inr rfl⟩
 split
 ·exact .inr ⟨rfl,abh _,.inl rfl⟩
 exact .inl rfl
theorem J0{z:α}{f:aX→α→α→α × Int}{r:List aX}{st:List α}(h:(f o (fj z o.k st) (eW z o.k st)).2=0):jH z f (o::r) st=jH z f r (st.take (st.length-(bP o.k).toNat)++[(f o (fj z o.k st) (eW z o.k st)).1]):=by
 rw[jH,if_neg (by rw[h];simp)]
theorem Jf{z:α}{f:aX→α→α→α × Int}{r:List aX}{st:List α}(h:(f o (fj z o.k st) (eW z o.k st)).2≠0):jH z f (o::r) st=(z,(f o (fj z o.k st) (eW z o.k st)).2):=by
 rw[jH,if_pos h]
def Cy(ks:List Int)(vs:List Vl):Prop:=ks.length=vs.length∧∀i:Nat,jR (ks.getD i 0) (vs.getD i bJ)
theorem RG(z x:α)(l:List α)(n i:Nat)(hn:n≤l.length):(l.take n++[x]).getD i z=if i<n then l.getD i z else if i=n then x else z:=by
 have hl:(l.take n).length=n:=(by rw[length_take];omega)
 by_cases h1:i<n
 ·rw[if_pos h1,getD_eq_getElem?_getD,getD_eq_getElem?_getD,getElem?_append_left w4,getElem?_take,if_pos h1]
 rw[if_neg h1,getD_eq_getElem?_getD,getElem?_append_right w4,hl];by_cases h2:i=n
 ·rw[if_pos h2,h2,Nat.sub_self];rfl
 rw[if_neg h2,getElem?_eq_none (by rw[length_singleton];omega)];rfl
theorem aeV{vs:List Vl}(h:Cy ks vs){v:Vl}(hr:jR k v){n:Nat}(hn:n≤ks.length):Cy (ks.take n++[k]) (vs.take n++[v]):=by
 have hl:=h.1;refine⟨by simp only[length_append,length_take,length_singleton];omega,fun i=>?_⟩;rw[RG _ _ _ _ _ hn,RG _ _ _ _ _ w4];split
 ·exact h.2 i
 split
 ·exact hr
 exact zb
theorem aeW{vs:List Vl}(h:Cy ks vs)(k:Int):jR (fj 0 k ks) (fj bJ k vs)∧jR (eW 0 k ks) (eW bJ k vs):=by
 have hl:=h.1;unfold fj eW;rw[hl];refine⟨?_,?_⟩
 ·split
  ·exact h.2 _
  exact zb
 split
 ·exact h.2 _
 exact zb
theorem Qg{l:List cz}{row:List Vl}(hr:B3 l row):∀(ops:List aX),(∀o∈ops,zy l o)→∀(ks:List Int) (vs:List Vl),Cy ks vs→(jH 0 (jd l) ops ks).2=0 →
  (jH bJ (fX l row) ops vs).2=5∨((jH bJ (fX l row) ops vs).2=0∧jR (jH 0 (jd l) ops ks).1 (jH bJ (fX l row) ops vs).1)
 | [],_,ks,vs,h,_=>.inr ⟨rfl,h.2 0⟩
 | o::r,hg,ks,vs,h,h0=>by
  obtain⟨hA,hB⟩:=aeW h o.k;by_cases hm:(jd l o (fj 0 o.k ks) (eW 0 o.k ks)).2=0
  ·rw[J0 hm] at h0 ⊢;rcases abj hr (hg o mem_cons_self) hA hB hm with h5|⟨hz,E⟩
   ·rw[Jf (by rw[h5];decide)];exact .inl h5
   rw[J0 hz];have:=aeV h E (n:=ks.length-(bP o.k).toNat) (Nat.sub_le _ _);rw[show vs.length-(bP o.k).toNat=ks.length-(bP o.k).toNat by rw[h.1]];exact Qg hr r (fun x hx=>hg x (mem_cons_of_mem _ hx)) _ _ this h0
  rw[Jf hm] at h0;exact absurd h0 hm
theorem ac4(ho:zy l o)(a b:Int):(jd l o a b).2=0∨(jd l o a b).2=4:=by
 unfold jd;split
 ·exact .inl rfl
 split
 ·rename_i h2;have:=ho.YK h2;unfold uZ;rw[if_neg w4];exact .inl rfl
 split
 ·exact .inl rfl
 exact .inr rfl
theorem RH{l:List cz}:∀(ops:List aX),(∀o∈ops,zy l o)→∀ks,(jH 0 (jd l) ops ks).2=0∨(jH 0 (jd l) ops ks).2=4
 | [],_,ks=>.inl rfl
 | o::r,hg,ks=>by
  rw[jH];split
  ·rename_i hne;rcases ac4 (hg o mem_cons_self) (fj 0 o.k ks) (eW 0 o.k ks) with h|h
   ·exact absurd h hne
   exact .inr h
  exact RH r (fun x hx=>hg x (mem_cons_of_mem _ hx)) _
theorem aeX:Cy [] []:=⟨rfl,fun i=>by rw[getD_nil,getD_nil];exact zb⟩
theorem abk{ops:List aX}(hl:fI l=0)(hw:dO l row=0)(hr:B3 l row)(hg:∀o∈ops,zy l o)(hx:iR ops=0) :
  ew l ops=tX l ops∧((ew l ops).2=0∨(ew l ops).2=4)∧((ew l ops).2=4→fp l row ops=(bJ,4)) ∧
  ((ew l ops).2=0→fp l row ops=vc l row ops∧((fp l row ops).2=5∨((fp l row ops).2=0∧jR (ew l ops).1 (fp l row ops).1))):=by
 have hk:ew l ops=tX l ops:=(by unfold ew;rw[if_neg (by simp[hl]),if_neg (by simp[hx])])
 refine⟨hk,by rw[hk];exact RH ops hg [],fun h4=>?_,fun h0=>?_⟩
 ·unfold fp;rw[if_neg (by simp[hw]),if_pos xS,h4]
 have he:fp l row ops=vc l row ops:=(by unfold fp;rw[if_neg (by simp[hw]),if_neg (by simp[h0])])
 refine⟨he,?_⟩;rw[he,hk];exact Qg hr ops hg [] [] aeX (by rw[hk] at h0;exact h0)
def lC(a b:Int)(s:ByteArray)(c:Int):List Vl:=[vq (dS a 12),vq (dS b 9),ue (sj (lT s 2)),ku c]
theorem ac5(a b:Int)(s:ByteArray)(c:Int):dO c8 (lC a b s c)=0∧B3 c8 (lC a b s c):=by
 have f0:jL 0 ⟨⟨#[105,100]⟩,2⟩ (vq (dS a 12))=0:=FK (BN _) (.inl rfl);have f1:jL 1 ⟨⟨#[110]⟩,2⟩ (vq (dS b 9))=0:=FK (BN _) (.inl rfl);have f2:jL 2 ⟨⟨#[115]⟩,3⟩ (ue (sj (lT s 2)))=0:=FK (UR (Iq _)) (.inl rfl);have f3:jL 3 ⟨⟨#[98]⟩,1⟩ (ku c)=0:=FK (RF _) ((TO c).elim (fun h=>.inr ⟨h,by decide⟩) .inl);refine⟨by unfold lC;rw[nH];simp[nN,c8,f0,f1,f2,f3],fun i=>?_⟩;match i with
 | 0=>exact⟨BN _,.inl rfl⟩
 | 1=>exact⟨BN _,.inl rfl⟩
 | 2=>exact⟨UR (Iq _),.inl rfl⟩
 | 3=>exact⟨RF _,(TO c).elim .inr .inl⟩
 | j+4=>exact zb
theorem agp(a b:Int)(s:ByteArray)(c:Int):∀v∈lC a b s c,v.Ok:=fun v E=>by
 have h1:=iW a (by decide:(1:Int)≤12);have h2:=iW b (by decide:(1:Int)≤9);have h3:=iW c (by decide:(1:Int)≤3);simp only[lC,mem_cons,not_mem_nil,or_false] at E;rcases E with rfl|rfl|rfl|rfl
 ·exact ok_int w4
 ·exact ok_int w4
 ·exact⟨by show _≤(3:Int);decide,by show(3:Int)≤_;decide,by show _≤(0:Int);decide,by show(0:Int)≤_;decide,Nat.le_trans (Iq _) w7⟩
 unfold ku;split
 ·exact sy
 exact⟨by show _≤(1:Int);decide,by show(1:Int)≤_;decide,by show _≤dS c 3;omega,by show dS c 3≤_;omega,Nat.zero_le _⟩

end Go.Proofs.YtdgichenhdikgaaGreatDoor.Ex
namespace Go.Proofs.YtdgichenhdikgaaGreatDoor.Pc
open List
open Go.Proofs.Tryz
open Go.RowKit V Pk Vl Go.Proofs.YtdgichenhdikgaaGreatDoor.Nm
def typesB:List (List UInt8):=[[],[66,79,79,76],[73,78,84],[84,69,88,84]]
abbrev TypesTab(w:World):Prop:=Tab.mI w 0 typesC

end Go.Proofs.YtdgichenhdikgaaGreatDoor.Pc
namespace Go.Proofs.YtdgichenhdikgaaGreatDoor.Ex





open List
open Go.Proofs.Tryz
open Go.RowKit V Pk Vl Go.Proofs.YtdgichenhdikgaaGreatDoor.Nm Pc Cd
open Go.Lib (compareBytes)
variable {ops:List aX} {k:List UInt8}
def nC(ops:List aX)(i:Nat):Int:=(ops.getD i (qY 0)).k
def iT(ops:List aX):Nat→Int→Nat
 | 0,_=>0
 | i+1,need=>if need+(bP (nC ops i)-1)>0 then iT ops i (need+(bP (nC ops i)-1)) else i
theorem uW{i:Nat}(h:i<ops.length):nC ops i=ops[i].k:=by unfold nC;rw[getD_eq_getElem?_getD,getElem?_eq_getElem h];rfl
theorem US{h h':Int}{o:aX}(he:fg h o=0)(hp:bP o.k≤h'):fg h' o=0:=by
 unfold fg at he ⊢;split at he
 ·cases he
 rename_i q1;rw[if_neg q1];split at he
 ·rename_i h2;exact absurd he h2
 rename_i q2;rw[if_neg q2];split at he
 ·cases he
 rename_i q3;rw[if_neg q3];split at he
 ·rename_i h4;exact absurd he h4.2
 rename_i q4;rw[if_neg q4,if_neg w4]
theorem IK{n:Nat}{h:Int}(hn:n<ops.length)(e:runs 0 (ops.take (n+1))=some h):∃h',runs 0 (ops.take n)=some h'∧fg h' ops[n]=0∧h=h'+(1-bP ops[n].k):=by
 rw[take_succ_eq_append_getElem hn,yE] at e;cases hr:runs 0 (ops.take n) with
 | none=>rw[hr] at e;cases e
 | some h' =>
  rw[hr,Option.bind_some,runs] at e;split at e
  ·rename_i he;rw[runs] at e;cases e;exact⟨h',rfl,he,rfl⟩
  cases e
theorem RI{ops:List aX}:∀(n:Nat) (need h:Int),n≤ops.length→runs 0 (ops.take n)=some h→1≤need→need≤h →
  iT ops n need<n∧runs 0 (ops.take (iT ops n need))=some (h-need)∧∀k:Int,0≤k→runs k ((ops.take n).drop (iT ops n need))=some (k+need)
 | 0,need,h,_,e,h1,h2=>by rw[List.take_zero,runs] at e;cases e;omega
 | n+1,need,h,hn,e,h1,h2=>by
  have aa:n<ops.length:=(by omega)
  obtain⟨h',e1,e2,O⟩:=IK aa e;have I:=tI ops[n].k;have rI:=(wA e2).1;have E:∀m,m≤n→(ops.take (n+1)).drop m=(ops.take n).drop m++[ops[n]]:=fun m hm=>by
   rw[take_succ_eq_append_getElem aa,drop_append,show m-(ops.take n).length=0 by rw[length_take];omega,drop_zero]
  rw[iT,uW aa];by_cases hc:need+(bP ops[n].k-1)>0
  ·rw[if_pos hc];obtain⟨q1,q2,q3⟩:=RI n (need+(bP ops[n].k-1)) h' w4 e1 w4 w4;refine⟨by omega,by rw[q2];congr 1;omega,fun k hk=>?_⟩;rw[E _ w4,yE,q3 k hk,Option.bind_some,runs,if_pos (US e2 w4),runs];congr 1;omega
  rw[if_neg hc];refine⟨by omega,by rw[e1];congr 1;omega,fun k hk=>?_⟩;rw[E n (Nat.le_refl _),drop_of_length_le oW,nil_append,runs,if_pos (US e2 w4),runs];congr 1;omega
def mi(key:ByteArray)(o:aX):Bool:=o.k==2&&o.nm.toList==key.toList
def gL(o:aX):Bool:=o.k==1 && !(o.v.k==0)
abbrev lm:=List UInt8×List UInt8
variable {b:lm}
def ou(k:List UInt8)(b:lm):lm:=if compareBytes k b.1>0 then (k,b.2) else b
def sb(k:List UInt8)(b:lm):lm:=if b.2.length=0∨compareBytes k b.2<0 then (b.1,k) else b
def vk(kc:Int)(eq not:Bool)(k:List UInt8)(b:lm):lm :=
 bif eq||(kc==0)!=not then sb k (bif eq||(kc==0)==not then ou k b else b) else bif eq||(kc==0)==not then ou k b else b
def zR(ops:List aX):List UInt8:=(fY [(ops.getD (dU gL (ops.take 2)).toNat (qY 0)).v]).1
def nh(key:ByteArray)(ops:List aX)(not:Bool)(b:lm):lm :=
 if ops.length≠3∨(not=true∧nC ops (ops.length-1)≠7)∨(nC ops (ops.length-1)≠6∧nC ops (ops.length-1)≠7) then b
 else if dU (mi key) (ops.take 2)<0∨dU gL (ops.take 2)<0 then b
 else vk (dU (mi key) (ops.take 2)) (nC ops (ops.length-1)==6) not (zR ops) b
def gd(key:ByteArray):Nat→List aX→lm→lm
 | 0,_,b=>b
 | f+1,ops,b =>
  if nC ops (ops.length-1)=3 then gd key f ((ops.take (ops.length-1)).drop (iT ops (ops.length-1) 1)) (gd key f (ops.take (iT ops (ops.length-1) 1)) b)
  else if nC ops (ops.length-1)=5 then nh key (ops.take (ops.length-1)) true b
  else nh key ops false b
variable {G:List (Nat×List Value)} {m:Int}
theorem abl(ops:List aX)(qe:ops.length≤40)(n:Nat)(hn:n≤ops.length)(h:Int)(hr:runs 0 (ops.take n)=some h)(h1:1≤h):VP Tryz.prog G 159 [av 5 cO ops,ae (n:Nat)] (ae (iT ops n 1:Nat)):=by
 refine VC.body func159 rfl ntmps159 aR fun X0 w0 aZ=>?_;refine af [0,1] ?_;refine af [0,5] ?_;refine af [0,5,6] ?_;refine eA [0] (fun aU _ (E:Nat×Int) aH=>match E with|(i,need)=>(i≤n)∧(0≤need)∧(need≤1+2*((n:Int)-i))∧((need=0∧iT ops n 1=i)∨(1≤need∧iT ops n 1=iT ops i need∧∃h,runs 0 (ops.take i)=some h∧need≤h))∧aH=(⟨22,(5,ae (i:Nat))::(6,ae need)::aU,[]⟩:St)) (fun (E:Nat×Int)=>match E with|(i,need)=>i) (n,1) ⟨(Nat.le_refl _),w7,w4,(.inr ⟨by decide,rfl,h,hr,h1⟩),rfl⟩ ?_;rintro⟨i,need⟩ _ ⟨hi,gJ,Yw,hinv,rfl⟩;refine af [0,5,6,9] ?_;refine au ?_ ?_<;>intro aM bD
 ·obtain⟨hz,_⟩|⟨gv,I,h2,e1,e2⟩:=hinv
  ·omega
  have N8:0<i:=(by rcases Nat.eq_zero_or_pos i with rfl|h;rw[List.take_zero,runs] at e1;cases e1;omega;exact h)
  have O:-9223372036854775808≤((i-1:Nat):Int):=(by omega)
  have U:((i-1:Nat):Int)≤9223372036854775807:=(by omega)
  have kg:(i:Int)-1=((i-1:Nat):Int):=(by omega)
  have aa:i-1<ops.length:=(by omega)
  have Ds:=tI ops[i-1].k;obtain⟨h3,e3,e4,e5⟩:=IK aa (by rw[show i-1+1=i by omega];exact e1);have rI:=(wA e4).1;have Z:iT ops i need=if need+(bP ops[i-1].k-1)>0 then iT ops (i-1) (need+(bP ops[i-1].k-1)) else i-1:=by obtain⟨j,rfl⟩:∃j,i=j+1:=⟨i-1,by omega⟩;rw[iT,uW w4];rfl
  have nS:(need+(bP ops[i-1].k-1)=0∧iT ops n 1=i-1)∨(1≤need+(bP ops[i-1].k-1)∧iT ops n 1=iT ops (i-1) (need+(bP ops[i-1].k-1))∧∃h,runs 0 (ops.take (i-1))=some h∧need+(bP ops[i-1].k-1)≤h):=(by (by_cases hc:need+(bP ops[i-1].k-1)>0);exact .inr ⟨by omega,by rw[I,Z,if_pos hc],h3,e3,by omega⟩;exact .inl ⟨by omega,by rw[I,Z,if_neg hc]⟩)
  refine cZ [0,5,6] ?_;refine aS 1 ?_ (h:=by exact(dj rfl ot bI (gj (r:=((i-1:Nat):Int)) (by rw[kg];exact wrap_i64 O U))));refine bG ?_;refine ie [0,5,6] ?_;refine dh (E1 ops[i-1].k) ?_;refine bG ?_;refine⟨((i-1),(need+(bP ops[i-1].k-1))),_,cD,aK,w4,w4,w4,nS,rfl⟩
 have aW:iT ops n 1=i:=(by rcases hinv with ⟨_,h⟩|⟨h,_⟩;exact h;omega)
 refine af [4] ?_;exact ur
theorem Qh(ls:List aX)(g:Nat)(E:List D)(S:List ah)(p:aX→Bool)(fm:∀args w,(callFunc g args).run Tryz.prog w = .ok (.enter g args) w)(hp:∀x∈ls,VC Tryz.prog G g (.agg (cO x)::E) S (fun r S'=>r=cj (p x)∧S'=S))(hlen:ls.length≤1000000):VC Tryz.prog G 160 [av 5 cO ls,.ez (.func g) E] S (fun r S'=>r=ae (dU p ls)∧S'=S):=by
 refine VC.body func160 rfl ntmps160 aR fun X0 w0 aZ=>?_;unfold cO at hp;exact Xf
theorem abm(o:aX)(nm:ByteArray)(b:Nat):VC Tryz.prog G 161 [.agg (cO o),dL b] [⟨b,9,1,[bw nm]⟩] (fun r S=>r=cj (mi nm o)∧S=[⟨b,9,1,[bw nm]⟩]):=by
 refine VC.body func161 rfl ntmps161 aR fun X0 w0 aZ=>?_;unfold cO mi;refine bY ?_;refine OD.box (ds:=[_,_,_,_,_]) ap rfl rfl ot rfl rfl (fun b2=>?_);refine an 13 [1,2] ?_;refine aD 4 ?_;refine bV 7 (fun I E=>?_) (fun I E=>?_)
 ·refine bg [3] ?_;refine aI [⟨b,9,1,[bw nm]⟩] ?_;first|exact⟨rfl,rfl⟩|(refine⟨vb ?_,rfl⟩;simp_all)
 refine bg [3] ?_;refine aI [⟨b,9,1,[bw nm]⟩] ?_;first|exact⟨rfl,rfl⟩|(refine⟨vb ?_,rfl⟩;simp_all)
theorem abn(o:aX):VC Tryz.prog G 162 [.agg (cO o)] [] (fun r S=>r=cj (gL o)∧S=[]):=by
 refine VC.body func162 rfl ntmps162 aR fun X0 w0 aZ=>?_;unfold cO gL;refine bY ?_;refine OD.box (ds:=[_,_,_,_,_]) ap rfl rfl ot rfl rfl (fun b1=>?_);refine an 12 [1] ?_;refine aD 4 ?_;refine bV 6 (fun I E=>?_) (fun I E=>?_)
 ·refine bg [2] ?_;refine eN ?_;first|exact⟨rfl,rfl⟩|(refine⟨vb ?_,rfl⟩;simp_all;done)|(refine⟨vb ?_,rfl⟩;simp_all;rfl)
 refine bg [2] ?_;refine eN ?_;first|exact⟨rfl,rfl⟩|(refine⟨vb ?_,rfl⟩;simp_all;done)|(refine⟨vb ?_,rfl⟩;simp_all;rfl)
theorem SN(a b:List UInt8):VP Tryz.prog G 51 [av 1 cB a,av 1 cB b] (ae (compareBytes a b)):=by
 exact V8
theorem abo:(Tryz.prog.info? 5).map (fun i=>(i.zero,i.size,i.bytes))=some (some (.int .u8 0),1,1):=by kernel_rfl
theorem I3(a:List UInt8)(ha:a.length≤1000):VP Tryz.prog G 95 [av 1 cB a] (av 1 cB a):=by
 refine VC.body func95 rfl ntmps95 aR fun X0 w0 aZ=>?_;have dm:=ec;refine af [0] ?_;refine aD 1 ?_;refine OD.zm ap rfl rfl ot bI underlying88 (fun O xX=>?_);refine an 8 [0,4] ?_;refine au ?_ ?_<;>intro aM bD
 ·exact z91
 refine bY ?_;refine OD.zn ap rfl rfl runUnderlying88 sizeOf5 (fun b5=>?_);refine aE 1 ?_;refine OD.pz (ls:=([]:List UInt8)) (new:=a) (Sq:=[⟨b5,5,0*1,[]⟩]) pG wM ap rfl rfl underlying88 abo rfl w7 runUnderlying88 sizeOf5 ot (.inr ⟨b5,rfl,Nat.le_refl _,Nat.zero_le _,rfl⟩) (de (A:=[])) ot iq iq (fun E I S7 p8=>?_);exact Wb
theorem Fl(l:List Vl):(fY l).1.length≤100:=by
 unfold fY;split
 ·simp
 split
 ·simp
 split
 ·simp
 simpa using by omega
theorem aeY(hk:k.length≤100)(h1:b.1.length≤100)(h2:b.2.length≤100):(ou k b).1.length≤100∧(ou k b).2.length≤100:=by unfold ou;split<;>exact⟨by assumption,by assumption⟩
theorem RJ(hk:k.length≤100)(h1:b.1.length≤100)(h2:b.2.length≤100):(sb k b).1.length≤100∧(sb k b).2.length≤100:=by unfold sb;split<;>exact⟨by assumption,by assumption⟩
theorem aeZ{E:Int}{eq not:Bool}(hk:k.length≤100)(h1:b.1.length≤100)(h2:b.2.length≤100):(vk E eq not k b).1.length≤100∧(vk E eq not k b).2.length≤100:=by
 unfold vk;have q1:=aeY hk h1 h2;have q2:=RJ hk h1 h2;have q3:=RJ hk q1.1 q1.2;cases(eq||(E==0)!=not)<;>cases(eq||(E==0)==not)
 ·exact⟨h1,h2⟩
 ·exact q1
 ·exact q2
 exact q3
theorem yO{key:ByteArray}{not:Bool}(h1:b.1.length≤100)(h2:b.2.length≤100):(nh key ops not b).1.length≤100∧(nh key ops not b).2.length≤100:=by
 unfold nh;split
 ·exact⟨h1,h2⟩
 split
 ·exact⟨h1,h2⟩
 exact aeZ (Fl _) h1 h2
theorem J1(key:ByteArray):∀(f:Nat) (ops:List aX) (b:lm),b.1.length≤100→b.2.length≤100→(gd key f ops b).1.length≤100∧(gd key f ops b).2.length≤100
 | 0,_,b,h1,h2=>⟨h1,h2⟩
 | f+1,ops,b,h1,h2=>by
  rw[gd];split
  ·have q:=J1 key f (ops.take (iT ops (ops.length-1) 1)) b h1 h2;exact J1 key f _ _ q.1 q.2
  split
  ·exact yO h1 h2
  exact yO h1 h2
theorem E2(h:runs 0 ops=some 1):1≤ops.length:=by
 cases ops with
 | nil=>rw[runs] at h;cases h
 | cons=>simp
theorem RL(h:runs 0 ops=some 1):∃(hn:ops.length-1<ops.length),runs 0 (ops.take (ops.length-1))=some (bP ops[ops.length-1].k):=by
 have hp:=E2 h;have aa:ops.length-1<ops.length:=(by omega)
 refine⟨aa,?_⟩;obtain⟨h',e1,e2,E⟩:=IK aa (by rw[show ops.length-1+1=ops.length by omega,take_length];exact h);rw[e1];congr 1;omega
theorem ae0(h:runs 0 ops=some 1)(hk:nC ops (ops.length-1)=3):iT ops (ops.length-1) 1<ops.length-1∧runs 0 (ops.take (iT ops (ops.length-1) 1))=some 1∧runs 0 ((ops.take (ops.length-1)).drop (iT ops (ops.length-1) 1))=some 1∧runs 0 (ops.take (ops.length-1))=some 2:=by
 obtain⟨hn,e⟩:=RL h;rw[uW hn] at hk;rw[hk] at e;obtain⟨q1,q2,q3⟩:=RI (ops.length-1) 1 2 w4 e w7 w7;exact⟨q1,q2,q3 0 w7,e⟩
variable {key:ByteArray}
theorem agq{ls:List aX}{j:Nat}(h:j<ls.length):((ls.flatMap cO).drop (j*5+1)).take 3=cV ls[j].v:=by
 rw[←drop_drop,uQ nf,drop_eq_getElem_cons h,flatMap_cons];rfl
theorem ac6(hG:(2,[Value.int .i64 m])∈G)(key:ByteArray)(f:Nat)(hf:f≤40)(IH:∀(ops:List aX) (lo hi:List UInt8),ops.length≤f→runs 0 ops=some 1→(∀o∈ops,o.v.Ok)→lo.length≤100→hi.length≤100→∀b0,VC Tryz.prog G 151 [dL b0,bw key,av 5 cO ops] [⟨b0,225,2,[av 1 cB lo,av 1 cB hi]⟩] (fun r S=>r = .dI []∧S=[⟨b0,225,2,[.list 1 ((gd key f ops (lo,hi)).1.flatMap cB) (gd key f ops (lo,hi)).1.length,.list 1 ((gd key f ops (lo,hi)).2.flatMap cB) (gd key f ops (lo,hi)).2.length]⟩]))(ops:List aX)(lo hi:List UInt8)(hl:ops.length≤f+1)(qe:ops.length≤40)(hr:runs 0 ops=some 1)(aQ:∀o∈ops,o.v.Ok)(eS:lo.length≤100)(eB:hi.length≤100)(b0:Nat):VC Tryz.prog G 151 [dL b0,bw key,av 5 cO ops] [⟨b0,225,2,[av 1 cB lo,av 1 cB hi]⟩] (fun r S=>r = .dI []∧S=[⟨b0,225,2,[.list 1 ((gd key (f+1) ops (lo,hi)).1.flatMap cB) (gd key (f+1) ops (lo,hi)).1.length,.list 1 ((gd key (f+1) ops (lo,hi)).2.flatMap cB) (gd key (f+1) ops (lo,hi)).2.length]⟩]):=by
 refine VC.body func151 rfl ntmps151 aR fun X0 w0 aZ=>?_;have hp0:=E2 hr;obtain⟨gv,YL⟩:=RL hr;have I:=uW gv;have dm:=ec;have Ds:=tI ops[ops.length-1].k;refine bY ?_;refine OD.box (ds:=[_]) ap rfl rfl ot rfl rfl (fun b4=>?_);refine an 155 [0,2,4] ?_;refine cZ [0,2,4,6] ?_;refine aS 2 ?_ (h:=by exact(dj rfl ot bI (gj (r:=((ops.length-1:Nat):Int)) (by rw[show((ops.length:Nat):Int)-1=((ops.length-1:Nat):Int) by omega];exact wrap_i64 w4 w4))));refine bG ?_;refine af [0,2,4,6,22] ?_;refine au ?_ ?_<;>intro aM bD
 ·have l7:nC ops (ops.length-1)=3:=(by rw[I];omega)
  obtain⟨DC,X5,hm3,hm4⟩:=ae0 hr l7;have aW:(gd key (f+1) ops (lo,hi))=gd key f ((ops.take (ops.length-1)).drop (iT ops (ops.length-1) 1)) (gd key f (ops.take (iT ops (ops.length-1) 1)) (lo,hi)):=(by rw[gd,if_pos l7])
  have vT:=J1 key f (ops.take (iT ops (ops.length-1) 1)) (lo,hi) eS eB;refine cJ [0,2,4,6,7] (abl ops w4 (ops.length-1) w4 2 hm4 w7) ?_;refine CD.seq ?_;refine lF 5 [0,2,4,6,7,26,27,30] ?_;refine aS 4 ?_ (h:=by exact(ey (l:=0) rfl ot trivial ⟨_,ot⟩ G2));refine jW ?_;refine OD.call ap rfl rfl rfl call151 (IH (ops.take (iT ops (ops.length-1) 1)) (lo) (hi) (by simp only[length_drop,length_take];omega) X5 (fun o ho=>aQ o (mem_of_mem_take ho)) w4 w4 b0) ⟨ot,ot,ot,trivial⟩ (ko (k:=1) rfl) ?_;rintro _ _ ⟨rfl,rfl⟩;refine an 155 [0,2,4,6,7] ?_;refine CD.seq ?_;refine lF 6 [32,33,37] ?_;refine aS 5 ?_ (h:=by exact(ey (l:=(iT ops (ops.length-1) 1)) (h:=(ops.length-1)) rfl ot ⟨_,ot⟩ ⟨_,ot⟩ (af9 nf (fun h=>by cases h) (fun h=>by cases h) runUnderlying30 sizeOf43 w4 w4)));refine jW ?_;refine OD.call ap rfl rfl rfl call151 (IH ((ops.take (ops.length-1)).drop (iT ops (ops.length-1) 1)) ((gd key f (ops.take (iT ops (ops.length-1) 1)) (lo,hi)).1) ((gd key f (ops.take (iT ops (ops.length-1) 1)) (lo,hi)).2) (by simp only[length_drop,length_take];omega) hm3 (fun o ho=>aQ o (mem_of_mem_take (mem_of_mem_drop ho))) w4 w4 b0) ⟨ot,ot,ot,trivial⟩ (ko (k:=0) rfl) ?_;rintro _ _ ⟨rfl,rfl⟩;refine an 155 [] ?_;exact Xu
 have l7:¬nC ops (ops.length-1)=3:=(by rw[I];omega)
 refine af [0,2,4,6,8] ?_;refine CD.cut (fun aH=>∃(bu:List aX),∃(nt:Bool),((gd key (f+1) ops (lo,hi))=nh key bu nt (lo,hi))∧(1≤bu.length)∧(bu.length≤40)∧(∀o∈bu,o.v.Ok)∧(bu.length-1<bu.length)∧aH=(⟨155,[(0,dL b0),(2,av 5 cO bu),(4,dL b4),(6,ae ((bu.length-1):Nat)),(8,cj nt)],[⟨b4,9,1,[bw key]⟩,⟨b0,225,2,[av 1 cB lo,av 1 cB hi]⟩]⟩:St)) ?_ ?_
 ·refine af [0,2,4,6,8,45] ?_;refine au ?_ ?_<;>intro aY cy
  ·have U:nC ops (ops.length-1)=5:=(by rw[I];simpa using aY)
   have iO:2≤ops.length:=(by rw[←I,U] at YL;have:=E2 YL;rw[length_take] at this;omega)
   have AR:(gd key (f+1) ops (lo,hi))=nh key (ops.take (ops.length-1)) true (lo,hi):=(by rw[gd,if_neg l7,if_pos U])
   have oV:(ops.take (ops.length-1)).length=(ops.length-1):=(by rw[length_take];omega)
   refine cZ [0,2,4,6,8] ?_;refine aS 2 ?_ (h:=by exact(ey (l:=0) rfl ot trivial ⟨_,ot⟩ G2));refine bG ?_;refine ie [0,2,4,6,8] ?_;refine aS 1 ?_ (h:=by exact(dj rfl ot bI (gj (r:=((ops.length-1-1:Nat):Int)) (by rw[show((ops.length-1:Nat):Int)-1=((ops.length-1-1:Nat):Int) by omega];exact wrap_i64 w4 w4))));refine bG ?_;refine⟨_,(aK (h:=by repeat (first|exact trivial|refine⟨(by (repeat (first|exact fD|(apply fV;focus (first|rfl|(rw[oV];done)|(rw[aY];done)))|(apply fH;focus rfl)));done),?_⟩))),(ops.take (ops.length-1)),true,AR,w4,w4,(fun o ho=>aQ o (mem_of_mem_take ho)),w4,rfl⟩
  have U:¬nC ops (ops.length-1)=5:=(by rw[I];simpa using aY)
  have AR:(gd key (f+1) ops (lo,hi))=nh key ops false (lo,hi):=(by rw[gd,if_neg l7,if_neg U])
  refine CD.skip ?_;refine⟨_,(aK (h:=by repeat (first|exact trivial|refine⟨(by (repeat (first|exact fD|(apply fV;focus (first|rfl|(rw[oV];done)|(rw[aY];done)))|(apply fH;focus rfl)));done),?_⟩))),ops,false,AR,hp0,qe,aQ,gv,rfl⟩
 rintro _ ⟨bu,nt,aW,oD,aqd,jT,vl,rfl⟩;refine jB [0,2,4,6,8] (fun aU rN aH=>(¬(bu.length≠3∨(nt=true∧bu[bu.length-1].k≠7)∨(bu[bu.length-1].k≠6∧bu[bu.length-1].k≠7)))∧aH=(⟨155,aU,rN⟩:St)) ?_ ?_
 ·refine aD 3 ?_;refine bV 53 (fun LZ K2=>?_) (fun LZ K2=>?_)
  ·refine bg [0,2,4,6,8,79] ?_;refine eI ?_;exact z37
  refine aE 2 ?_;refine bV 55 (fun tZ ahJ=>?_) (fun tZ ahJ=>?_)
  ·refine aE 9 ?_;refine bV 64 (fun L9 K5=>?_) (fun L9 K5=>?_)
   ·refine bg [0,2,4,6,8,79] ?_;refine eI ?_;exact z37
   refine aE 7 ?_;exact Xo
  refine x4 6 ?_;refine aE 10 ?_;exact Xo
 rintro _ ⟨sC,rfl⟩;refine aD 1 ?_;refine bN (ey (l:=0) (h:=2) rfl ot trivial ⟨_,bI⟩ G2) ?_;refine bN (pA (ds:=[_]) rfl ⟨ot,trivial⟩) ?_;refine OD.call ap rfl rfl rfl call160 (Qh (bu.take 2) 161 [dL b4] _ (mi key) call161 (fun h _=>abm h key b4) oW) ⟨ot,ot,trivial⟩ (ko (k:=0) rfl) ?_;rintro _ SS2 ⟨rfl,E⟩;rw[E];clear E;refine an 155 [0,2,6,8,9] ?_;refine aD 1 ?_;refine bN (ey (l:=0) (h:=2) rfl ot trivial ⟨_,bI⟩ G2) ?_;refine OD.call ap rfl rfl rfl call160 (Qh (bu.take 2) 162 [] [] gL call162 (fun h _=>abn h) oW) ⟨ot,tv,trivial⟩ (eO _) ?_;rintro _ SS2 ⟨rfl,E⟩;rw[E];clear E;refine an 155 [0,2,6,8,9,10] ?_;refine aD 3 ?_;refine bV 89 (fun aj2 ahK=>?_) (fun aj2 ahK=>?_)
 ·refine bg [0,2,6,8,9,10,92] ?_;refine eI ?_;exact V7
 refine bg [0,2,6,8,9,10,92] ?_;refine au ?_ ?_<;>intro cX en
 ·exact V7
 have bZ:¬((dU (mi key) (bu.take 2))<0∨(dU gL (bu.take 2))<0):=(by first|omega|(simp_all;omega)|simp_all)
 have hLb:=wF gL (bu.take 2);have Ht:bu.length=3:=(by omega)
 rw[length_take] at hLb;have O:(dU gL (bu.take 2)).toNat<bu.length:=(by omega)
 have NK:zR bu=(fY [bu[(dU gL (bu.take 2)).toNat].v]).1:=(by unfold zR;rw[getD_eq_getElem?_getD,getElem?_eq_getElem O];rfl)
 have Vf:(gd key (f+1) ops (lo,hi))=vk (dU (mi key) (bu.take 2)) (bu[bu.length-1].k==6) nt (fY [bu[(dU gL (bu.take 2)).toNat].v]).1 (lo,hi):=(by rw[aW];unfold nh;rw[uW vl,if_neg sC,if_neg bZ,NK])
 have ym:=agc hG [bu[(dU gL (bu.take 2)).toNat].v] iq (fun v hv=>by rw[mem_singleton] at hv;rw[hv];exact jT _ (getElem_mem O));have ee:=Fl [bu[(dU gL (bu.take 2)).toNat].v];unfold LO BM at ym;refine cZ [0,2,6,8,9,11] ?_;refine aS 2 ?_ (h:=by exact(dF 5 (h:=by first|exact .l (j:=(dU gL (bu.take 2)).toNat) w4 O|exact .r (j:=(dU gL (bu.take 2)).toNat) w4 O)));refine aS 1 ?_ (h:=by exact(cW (mk:=Op.load 41) rfl ot (qx isAgg41 sizeOf41 rfl (agq O))));refine dh (ym) ?_;refine bG ?_;refine af [0,8,9,11,13] ?_;refine jB [0,8,9,11,13] (fun aU _ aH=>∃(b1:lm),(b1=(bif (bu[bu.length-1].k==6)||(((dU (mi key) (bu.take 2))==0)==nt) then ou (fY [bu[(dU gL (bu.take 2)).toNat].v]).1 (lo,hi) else (lo,hi)))∧(b1.1.length≤100)∧(b1.2.length≤100)∧aH=(⟨155,aU,[⟨b0,225,2,[av 1 cB b1.1,av 1 cB b1.2]⟩]⟩:St)) ?_ ?_
 ·refine aD 2 ?_;refine bV 110 (fun KR Z=>?_) (fun KR Z=>?_)
  ·refine bg [0,8,9,11,13,115] ?_;refine eI ?_;exact Xj
  refine aE 3 ?_;refine OD.still gW rfl (dj rfl ot ot (ES underlying4)) ?_;refine an 155 [0,8,9,11,13,115] ?_;refine au ?_ ?_<;>intro er fq
  ·exact Xj
  have CZ:(lo,hi)=(bif (bu[bu.length-1].k==6)||(((dU (mi key) (bu.take 2))==0)==nt) then ou (fY [bu[(dU gL (bu.take 2)).toNat].v]).1 (lo,hi) else (lo,hi)):=(by rw[KR,er];rfl)
  refine CD.skip ?_;refine⟨_,aK,(lo,hi),CZ,(by first|exact ee|exact eS),eB,rfl⟩
 rintro _ ⟨b1,jh,aqe,aqf,rfl⟩;refine aD 2 ?_;refine bV 129 (fun KQ agr=>?_) (fun KQ agr=>?_)
 ·refine bg [0,11,134] ?_;refine eI ?_;exact Xd
 refine aE 3 ?_;refine OD.still gW rfl (dj rfl ot ot (Q6 underlying4)) ?_;refine an 155 [0,11,134] ?_;refine au ?_ ?_<;>intro gU kU
 ·exact Xd
 have M6:((bu[bu.length-1].k==6) || !(((dU (mi key) (bu.take 2))==0)==nt))=false:=(by rw[KQ,gU];rfl)
 have sY:(gd key (f+1) ops (lo,hi))=b1:=(by rw[Vf];unfold vk;rw[show((bu[bu.length-1].k==6)||((dU (mi key) (bu.take 2))==0)!=nt)=false from M6,←jh];rfl)
 refine aI [⟨b0,_,_,_⟩] ?_;refine⟨rfl,?_⟩;first|rw[sY]|rw[aW]
theorem UT(hG:(2,[Value.int .i64 m])∈G)(key:ByteArray):∀(f:Nat),f≤40→∀(ops:List aX) (lo hi:List UInt8),ops.length≤f→runs 0 ops=some 1→(∀o∈ops,o.v.Ok)→lo.length≤100→hi.length≤100→∀b0,VC Tryz.prog G 151 [dL b0,bw key,av 5 cO ops] [⟨b0,225,2,[av 1 cB lo,av 1 cB hi]⟩] (fun r S=>r = .dI []∧S=[⟨b0,225,2,[.list 1 ((gd key f ops (lo,hi)).1.flatMap cB) (gd key f ops (lo,hi)).1.length,.list 1 ((gd key f ops (lo,hi)).2.flatMap cB) (gd key f ops (lo,hi)).2.length]⟩]):=by
 intro f;induction f with
 | zero =>
  intro _ ops lo hi hl hr;have:=E2 hr;omega
 | succ f IH =>
  intro hf ops lo hi hl hr aQ eS eB b0;exact ac6 hG key f w4 (IH w4) ops lo hi hl w4 hr aQ eS eB b0
def iP(l:List cz)(ops:List aX):lm×Int :=
 if fI l≠0 then (([],[]),fI l) else if ops.length=0 then (([],[]),0) else if (ew l ops).2≠0 then (([],[]),(ew l ops).2)
 else if (ew l ops).1≠1∧(ew l ops).1≠0 then (([],[]),4) else (gd (l.getD 0 ⟨⟨#[]⟩,0⟩).n ops.length ops ([],[]),0)
def N9(r:lm×Int):D:=.dI [BM r.1.1,BM r.1.2,ae r.2]
theorem ac7{l:List cz}(h:fI l=0):0<l.length:=by
 unfold fI at h;split at h
 ·cases h
 omega
theorem aak(h:iR ops=0):runs 0 ops=some 1:=by
  obtain⟨_,h0⟩:=wG h;have key:∀(l:List aX) (k:Int),fJ k l=0→runs k l=some 1:=by
    intro l;induction l with
    | nil => intro k h; rw[fJ] at h; split at h; · rename_i e; rw[runs, e]
             · cases h
    | cons o r ih =>
      intro k h;rw[fJ] at h;split at h
      · rename_i e;rw[runs,if_pos e];exact ih _ h
      rename_i e;exact absurd h e
  exact key ops 0 h0
theorem abp(hm:(3,marksC)∈G)(hw:(1,wordsC)∈G)(ht:(0,typesC)∈G)(hG:(2,[Value.int .i64 m])∈G)(l:List cz)(hl:l.length≤6)(I:∀c∈l,c.n.size≤maxLen)(ops:List aX)(ho:∀o∈ops,o.nm.size≤maxLen)(aQ:∀o∈ops,o.v.Ok):VP Tryz.prog G 128 [av 2 cC l,av 5 cO ops] (N9 (iP l ops)):=by
 refine VC.body func128 rfl ntmps128 aR fun X0 w0 aZ=>?_;have dm:=ec;have fb:=Fq hm hw ht l w4 I;have Z:=JY hm hw ht l hl I ops ho;unfold pT at Z;unfold N9 BM;refine af [0,1] ?_;refine cJ [0,1,7] (fb) ?_;refine af [0,1,7,13] ?_;refine au ?_ ?_<;>intro aM bD
 ·have h0:fI l≠0:=(by simpa using aM)
  have aW:iP l ops=(([],[]),fI l):=(by unfold iP;rw[if_pos h0])
  exact Gx
 have h0:¬fI l≠0:=(by simpa using aM)
 have E:=ac7 (Classical.not_not.1 h0);refine af [0,1,17] ?_;refine au ?_ ?_<;>intro aY cy
 ·have h1:ops.length=0:=(by simpa using aY)
  have aW:iP l ops=(([],[]),0):=(by unfold iP;rw[if_neg h0,if_pos h1])
  exact Gx
 have h1:¬ops.length=0:=(by simpa using aY)
 refine cJ [0,1,6,8] (Z) ?_;refine af [0,1,6,8,25] ?_;refine au ?_ ?_<;>intro bZ cN
 ·have h2:(ew l ops).2≠0:=(by simpa using bZ)
  have aW:iP l ops=(([],[]),(ew l ops).2):=(by unfold iP;rw[if_neg h0,if_neg h1,if_pos h2])
  exact Gx
 have h2:¬(ew l ops).2≠0:=(by simpa using bZ)
 obtain⟨k1,k2,k3⟩:=Fs (Classical.not_not.1 h2);have AR:=aak k2;obtain⟨qe,_⟩:=wG k2;refine aD 3 ?_;refine bV 29 (fun aj3 O=>?_) (fun aj3 O=>?_)
 ·refine bg [0,1,32] ?_;refine au ?_ ?_<;>intro cX en
  ·have h3:(ew l ops).1≠1∧(ew l ops).1≠0:=(by simp_all)
   have aW:iP l ops=(([],[]),4):=(by unfold iP;rw[if_neg h0,if_neg h1,if_neg h2,if_pos h3])
   exact Gx
  have h3:¬((ew l ops).1≠1∧(ew l ops).1≠0):=(by simp_all)
  have aW:iP l ops=(gd l[0].n ops.length ops ([],[]),0):=(by unfold iP;rw[if_neg h0,if_neg h1,if_neg h2,if_neg h3,getD_eq_getElem?_getD,getElem?_eq_getElem E];rfl)
  refine aD 1 ?_;refine OD.box (ds:=[_,_]) ap rfl rfl ot rfl rfl (fun U=>?_);refine OD.wk (Wk.Wn (k:=0) (sz:=1) (sz':=1) rfl) ?_;refine an 50 [0,1,9] ?_;refine aD 2 ?_;refine bN (oM (mk:=Op.indexAddr 27) rfl ot bI (by first|exact pD runUnderlying27 sizeOf69 (j:=0) rfl E|exact pH runUnderlying27 sizeOf69 (j:=0) rfl E)) ?_;refine aE 3 ?_;refine OD.call ap rfl rfl rfl call151 (UT hG l[0].n ops.length qe ops [] [] (Nat.le_refl _) AR aQ (Nat.zero_le _) (Nat.zero_le _) U) ⟨ot,ot,ot,trivial⟩ (ko (k:=0) rfl) ?_;rintro _ _ ⟨rfl,rfl⟩;refine an 50 [9] ?_;refine af [4,5,6] ?_;exact oC
 refine bg [0,1,32] ?_;refine fM ?_;have h3:¬((ew l ops).1≠1∧(ew l ops).1≠0):=(by simp_all)
 have aW:iP l ops=(gd l[0].n ops.length ops ([],[]),0):=(by unfold iP;rw[if_neg h0,if_neg h1,if_neg h2,if_neg h3,getD_eq_getElem?_getD,getElem?_eq_getElem E];rfl)
 refine aD 1 ?_;refine OD.box (ds:=[_,_]) ap rfl rfl ot rfl rfl (fun U=>?_);refine OD.wk (Wk.Wn (k:=0) (sz:=1) (sz':=1) rfl) ?_;refine an 50 [0,1,9] ?_;refine aD 2 ?_;refine bN (oM (mk:=Op.indexAddr 27) rfl ot bI (by first|exact pD runUnderlying27 sizeOf69 (j:=0) rfl E|exact pH runUnderlying27 sizeOf69 (j:=0) rfl E)) ?_;refine aE 3 ?_;refine OD.call ap rfl rfl rfl call151 (UT hG l[0].n ops.length qe ops [] [] (Nat.le_refl _) AR aQ (Nat.zero_le _) (Nat.zero_le _) U) ⟨ot,ot,ot,trivial⟩ (ko (k:=0) rfl) ?_;rintro _ _ ⟨rfl,rfl⟩;refine an 50 [9] ?_;refine af [4,5,6] ?_;exact ur

end Go.Proofs.YtdgichenhdikgaaGreatDoor.Ex
namespace Go.Proofs.YtdgichenhdikgaaGreatDoor.Tr
open List
open Go.Proofs.Tryz
open Go.Lib (compareBytes)
variable {i j:Nat}
abbrev K:=List UInt8
variable {a b c k low:K}
theorem HI(a b:UInt8)(x y:K):compareBytes (a::x) (b::y)=if a<b then -1 else if b<a then 1 else compareBytes x y:=by rw[compareBytes]
theorem u8{a b:UInt8}:a<b↔a.toNat<b.toNat:=UInt8.lt_iff_toNat_lt
theorem yn:∀(x y:K),(compareBytes x y = -1∧compareBytes y x=1)∨(compareBytes x y=0∧x=y)∨(compareBytes x y=1∧compareBytes y x = -1)
 | [],[]=>.inr (.inl ⟨rfl,rfl⟩)
 | [],_::_=>.inl ⟨rfl,rfl⟩
 | _::_,[]=>.inr (.inr ⟨rfl,rfl⟩)
 | a::x,b::y=>by
  rw[HI,HI];by_cases h1:a<b
  ·have h2:¬b<a:=(by rw[u8] at h1 ⊢;omega)
   rw[if_pos h1,if_neg h2,if_pos h1];exact .inl ⟨rfl,rfl⟩
  by_cases h2:b<a
  ·rw[if_neg h1,if_pos h2,if_pos h2];exact .inr (.inr ⟨rfl,rfl⟩)
  rw[if_neg h1,if_neg h2,if_neg h2,if_neg h1];have qP:a=b:=by
   apply UInt8.toNat_inj.1;rw[u8] at h1 h2;omega
  subst qP;rcases yn x y with h|⟨h,e⟩|h
  ·exact .inl h
  ·exact .inr (.inl ⟨h,by rw[e]⟩)
  exact .inr (.inr h)
theorem Vp:∀(x y z:K),compareBytes x y = -1→compareBytes y z = -1→compareBytes x z = -1
 | [],[],_,h,_=>by cases h
 | _::_,[],_,h,_=>by cases h
 | _,_::_,[],_,h=>by cases h
 | [],_::_,_::_,_,_=>rfl
 | a::x,b::y,c::z,h1,h2=>by
  rw[HI] at h1 h2 ⊢;by_cases p:a<b
  ·by_cases q:b<c
   ·rw[if_pos (by rw[u8] at p q ⊢;omega)]
   rw[if_neg q] at h2;by_cases r:c<b
   ·rw[if_pos r] at h2;cases h2
   rw[if_pos (by rw[u8] at p q r ⊢;omega)]
  rw[if_neg p] at h1;by_cases p':b<a
  ·rw[if_pos p'] at h1;cases h1
  rw[if_neg p'] at h1;by_cases q:b<c
  ·rw[if_pos (by rw[u8] at p p' q ⊢;omega)]
  rw[if_neg q] at h2;by_cases r:c<b
  ·rw[if_pos r] at h2;cases h2
  rw[if_neg r] at h2;rw[if_neg (by rw[u8] at p p' q r ⊢;omega),if_neg (by rw[u8] at p p' q r ⊢;omega)];exact Vp x y z h1 h2
def bB(a b:K):Prop:=compareBytes a b<0
instance (a b:K):Decidable (bB a b):=inferInstanceAs (Decidable (_<_))
theorem J2:bB a b↔compareBytes a b = -1:=by
 unfold bB;rcases yn a b with ⟨h,_⟩|⟨h,_⟩|⟨h,_⟩<;>rw[h]<;>decide
theorem Uz:0<compareBytes a b↔bB b a:=by
 unfold bB;rcases yn a b with ⟨h,h'⟩|⟨h,rfl⟩|⟨h,h'⟩
 ·rw[h,h'];decide
 ·rw[h]
 rw[h,h'];decide
theorem KD(a:K):¬bB a []:=by
 unfold bB;cases a with
 | nil=>decide
 | cons x y=>show ¬(1:Int)<0;decide
theorem iZ(a:K):¬bB a a:=fun h=>by
 rcases yn a a with ⟨h1,h2⟩|⟨h1,_⟩|⟨h1,h2⟩
 ·omega
 ·unfold bB at h;omega
 omega
theorem lP(h1:bB a b)(h2:bB b c):bB a c:=J2.2 (Vp a b c (J2.1 h1) (J2.1 h2))
theorem wN(h:bB a b):¬bB b a:=fun h'=>iZ a (lP h h')
theorem wO(a b:K):bB a b∨a=b∨bB b a:=by
 unfold bB;rcases yn a b with ⟨h,_⟩|⟨_,h⟩|⟨_,h⟩
 ·exact .inl w4
 ·exact .inr (.inl h)
 exact .inr (.inr w4)
theorem tW:compareBytes a b=0↔a=b:=⟨fun h=>by
 rcases yn a b with ⟨h1,_⟩|⟨_,h1⟩|⟨h1,_⟩
 ·omega
 ·exact h1
 ·omega,fun h=>by
 subst h;rcases yn a a with ⟨h1,h2⟩|⟨h1,_⟩|⟨h1,h2⟩
 ·omega
 ·exact h1
 omega⟩
theorem O9(h1:¬bB b a)(h2:bB b c):bB a c:=by
 rcases wO a b with h|rfl|h
 ·exact lP h h2
 ·exact h2
 exact absurd h h1
theorem ZX(h1:bB a b)(h2:¬bB c b):bB a c:=by
 rcases wO b c with h|rfl|h
 ·exact lP h1 h
 ·exact h1
 exact absurd h h2
theorem Vq(h1:¬bB b a)(h2:¬bB c b):¬bB c a:=fun h=>by
 rcases wO a b with h'|rfl|h'
 ·exact h2 (lP h h')
 ·exact h2 h
 exact h1 h'
theorem qW{α β:Type}{l:List α}{f g:α→List β}(h:∀a∈l,f a=g a):l.flatMap f=l.flatMap g:=by
 induction l with
 | nil=>rfl
 | cons a r ih=>rw[flatMap_cons,flatMap_cons,h a mem_cons_self,ih fun x hx=>h x (mem_cons_of_mem _ hx)]
structure da where
 leaf:Bool
 keys:List K
 kids:List Int
 high:K
 next:Int
variable {p:da}
def aj4:da:=⟨false,[],[],[],0⟩
structure aG where
 ag:List da
 root:Int
def aG.pg(t:aG)(i:Int):da:=t.ag.getD i.toNat aj4
def pU:aG:=⟨[⟨true,[],[],[],-1⟩],0⟩
structure eG (p:da) (many:Int):Prop where
 eJ:p.keys.length≤4
 hlen:p.high.length≤100
 xq:-1≤p.next
 wS:p.next<many
 xu:p.next<0↔p.high=[]
 leaf:p.leaf=true→p.kids.length=p.keys.length
 node:p.leaf=false→p.kids.length=p.keys.length+1∧p.keys≠[]
 lD:∀k∈p.keys,1≤k.length∧k.length≤100
 qA:p.high≠[]→∀k∈p.keys,bB k p.high
 jV:p.keys.Pairwise bB
 aC:∀n∈p.kids,0≤n
 vr:p.leaf=false→∀n∈p.kids,n<many
theorem eG.more{m E:Int}(h:eG p m)(hm:m≤E):eG p E :=
 ⟨h.eJ,h.hlen,h.xq,by have:=h.wS;omega,h.xu,h.leaf,h.node,h.lD,h.qA,h.jV,h.aC,fun hl n hn=>by have:=h.vr hl n hn;omega⟩
def iu(low:K)(p:da)(j:Nat):K:=if j=0 then low else p.keys.getD (j-1) []
def gY(p:da)(j:Nat):K:=p.keys.getD j p.high
def dY(t:aG):Nat→Int→K→K→Prop
 | 0,i,low,high=>(0≤i∧i<t.ag.length)∧(t.pg i).leaf=true∧(t.pg i).high=high∧∀k∈(t.pg i).keys,¬bB k low
 | h+1,i,low,high=>(0≤i∧i<t.ag.length)∧(t.pg i).leaf=false∧(t.pg i).high=high∧(∀k∈(t.pg i).keys,¬bB k low) ∧
  ∀j (hj:j<(t.pg i).kids.length),dY t h (t.pg i).kids[j] (iu low (t.pg i) j) (gY (t.pg i) j)
def ids(t:aG):Nat→Int→List Int
 | 0,i=>[i]
 | h+1,i=>i::(t.pg i).kids.flatMap (ids t h)
def cG(t:aG):Nat→Int→List Int
 | 0,i=>[i]
 | d+1,i=>(t.pg i).kids.flatMap (cG t d)
def eY(p:da):List (K×Int):=p.keys.zip p.kids
def eu(t:aG):Nat→Int→List (K×Int)
 | 0,i=>eY (t.pg i)
 | h+1,i=>(t.pg i).kids.flatMap (eu t h)
def ff(t:aG):List Int→Int→Prop
 | [],_=>True
 | [i],e=>(t.pg i).next=e
 | i::j::r,e=>(t.pg i).next=j∧ff t (j::r) e
structure Valid (t:aG) (h:Nat):Prop where
 pos:1≤t.ag.length
 nO:t.ag.length≤4000
 fF:∀p∈t.ag,eG p t.ag.length
 ok:dY t h t.root [] []
 zS:(ids t h t.root).Nodup
 all:(ids t h t.root).length=t.ag.length
 pp:∀d,d≤h→ff t (cG t d t.root) (-1)
theorem dY.idx{t:aG}:∀{h:Nat} {i:Int} {low high:K},dY t h i low high→0≤i∧i<t.ag.length
 | 0,_,_,_,h=>h.1
 | _+1,_,_,_,h=>h.1
theorem dY.high{t:aG}:∀{h:Nat} {i:Int} {low high:K},dY t h i low high→(t.pg i).high=high
 | 0,_,_,_,h=>h.2.2.1
 | _+1,_,_,_,h=>h.2.2.1
theorem ve{t:aG}{i:Int}(h:0≤i∧i<t.ag.length):t.pg i=t.ag[i.toNat]'w4:=by
 unfold aG.pg;rw[getD_eq_getElem?_getD,getElem?_eq_getElem w4];rfl
theorem jF{t:aG}{i:Int}(h:0≤i∧i<t.ag.length):t.pg i∈t.ag:=by rw[ve h];exact getElem_mem _
theorem tu{t:aG}(h:Nat)(i:Int):i∈ids t h i:=by cases h<;>simp[ids]
theorem frame{t u:aG}:∀(h:Nat) (i:Int),(∀j∈ids t h i,u.pg j=t.pg j)→ids u h i=ids t h i∧eu u h i=eu t h i∧∀d,d≤h→cG u d i=cG t d i
 | 0,i,hp=>by
  have h0:=hp i (tu 0 i);refine⟨rfl,by unfold eu;rw[h0],fun d hd=>?_⟩;obtain rfl:d=0:=(by omega)
  rfl
 | h+1,i,hp=>by
  have h0:=hp i (tu _ i);have hs:∀j∈(t.pg i).kids,ids u h j=ids t h j∧eu u h j=eu t h j∧∀d,d≤h→cG u d j=cG t d j:=fun j hj=>frame h j fun x hx=>hp x (by
   rw[ids];exact mem_cons_of_mem _ (mem_flatMap.2 ⟨j,hj,hx⟩))
  refine⟨?_,?_,fun d hd=>?_⟩
  ·rw[ids,ids,h0];congr 1;exact qW (fun j hj=>(hs j hj).1)
  ·rw[eu,eu,h0];exact qW (fun j hj=>(hs j hj).2.1)
  cases d with
  | zero=>rfl
  | succ d=>rw[cG,cG,h0];exact qW (fun j hj=>(hs j hj).2.2 d w4)
theorem dY.frame{t u:aG}(hl:t.ag.length≤u.ag.length):∀{h:Nat} {i:Int} {low high:K},dY t h i low high→(∀j∈ids t h i,u.pg j=t.pg j)→dY u h i low high
 | 0,i,low,high,⟨q1,q2,q3,q4⟩,hp=>by
  have h0:=hp i (tu 0 i);exact⟨⟨q1.1,by omega⟩,by rw[h0];exact q2,by rw[h0];exact q3,by rw[h0];exact q4⟩
 | h+1,i,low,high,⟨q1,q2,q3,q4,E⟩,hp=>by
  have h0:=hp i (tu _ i);refine⟨⟨q1.1,by omega⟩,by rw[h0];exact q2,by rw[h0];exact q3,by rw[h0];exact q4,?_⟩;rw[h0];exact fun j hj=>dY.frame hl (E j hj) fun x hx=>hp x (by rw[ids];exact mem_cons_of_mem _ (mem_flatMap.2 ⟨_,getElem_mem hj,hx⟩))
theorem dY.ids{t:aG}:∀{h:Nat} {i:Int} {low high:K},dY t h i low high→∀j∈Tr.ids t h i,0≤j∧j<t.ag.length
 | 0,i,low,high,q,j,hj=>by
  rw[Tr.ids,mem_singleton] at hj;subst hj;exact q.1
 | h+1,i,low,high,⟨q1,q2,q3,q4,E⟩,j,hj=>by
  rw[Tr.ids] at hj;rcases mem_cons.1 hj with rfl|hj
  ·exact q1
  obtain⟨x,hx,hj⟩:=mem_flatMap.1 hj;obtain⟨n,hn,rfl⟩:=mem_iff_getElem.1 hx;exact dY.ids (E n hn) j hj

theorem K6{α:Type}{p:α→Bool}:∀{l:List α} {i:Nat} (h:i<(l.takeWhile p).length),∃(h':i<l.length),p l[i]=true
 | a::r,i,h=>by
  rw[takeWhile_cons] at h;by_cases ha:p a=true
  ·rw[if_pos ha] at h;cases i with
   | zero=>exact⟨by simp,ha⟩
   | succ i =>
    obtain⟨h',q⟩:=K6 (l:=r) (i:=i) oY;exact⟨by simpa using h',by simpa using q⟩
  rw[if_neg ha] at h;simp at h
theorem KE{α:Type}{p:α→Bool}:∀{l:List α} (h:(l.takeWhile p).length<l.length),p l[(l.takeWhile p).length]=false
 | a::r,h=>by
  by_cases ha:p a=true
  ·have e:((a::r).takeWhile p).length=(r.takeWhile p).length+1:=(by rw[takeWhile_cons,if_pos ha];rfl)
   have h2:(r.takeWhile p).length<r.length:=(by rw[e] at h;simpa using h)
   have:=KE (l:=r) h2;simp only[e,getElem_cons_succ];exact this
  have e:((a::r).takeWhile p).length=0:=(by rw[takeWhile_cons,if_neg ha];rfl)
  simp only[e,getElem_cons_zero];simpa using ha
theorem Vr{α:Type}(p:α→Bool)(l:List α):(l.takeWhile p).length≤l.length:=(takeWhile_sublist p).length_le
def gA(keys:List K)(k:K):Nat:=(keys.takeWhile fun x=>decide (bB x k)).length
def mK(keys:List K)(k:K):Nat:=(keys.takeWhile fun x=>decide (¬bB k x)).length
def aL(p:da)(k:K):Nat:=if p.leaf=true then gA p.keys k else mK p.keys k
theorem Br{keys:List K}(h:i<gA keys k):∃(h':i<keys.length),bB keys[i] k:=by
 obtain⟨h',q⟩:=K6 h;exact⟨h',by simpa using q⟩
theorem Bh{keys:List K}(h:gA keys k<keys.length):¬bB keys[gA keys k] k:=by
 exact of_decide_eq_false (KE h)
theorem yP(keys:List K)(k:K):gA keys k≤keys.length:=Vr _ _
theorem Jg{keys:List K}(h:i<mK keys k):∃(h':i<keys.length),¬bB k keys[i]:=by
 obtain⟨h',q⟩:=K6 h;exact⟨h',by simpa using q⟩
theorem IL{keys:List K}(h:mK keys k<keys.length):bB k keys[mK keys k]:=by
 exact Classical.not_not.1 (of_decide_eq_false (KE h))
theorem Bs(keys:List K)(k:K):mK keys k≤keys.length:=Vr _ _
theorem nc{keys:List K}(h:keys.Pairwise bB)(E:i<j)(hj:j<keys.length):bB keys[i] keys[j]:=pairwise_iff_getElem.1 h i j w4 hj E
theorem FL(h:j<p.keys.length):gY p j=p.keys[j]:=by unfold gY;rw[getD_eq_getElem?_getD,getElem?_eq_getElem h];rfl
theorem J3(h:p.keys.length≤j):gY p j=p.high:=by unfold gY;rw[getD_eq_getElem?_getD,getElem?_eq_none h];rfl
theorem Fu(h:0<j)(h':j-1<p.keys.length):iu low p j=p.keys[j-1]:=by unfold iu;rw[if_neg w4,getD_eq_getElem?_getD,getElem?_eq_getElem h'];rfl
def lJ(low high k:K):Prop:=¬bB k low∧(high≠[]→bB k high)
theorem tO(k:K):lJ [] [] k:=⟨KD k,fun h=>absurd rfl h⟩
theorem down{n:Int}(hp:eG p n)(hl:p.leaf=false){high:K}(E:p.high=high)(hk:lJ low high k):aL p k<p.kids.length∧lJ (iu low p (aL p k)) (gY p (aL p k)) k:=by
 have e:aL p k=mK p.keys k:=(by unfold aL;rw[if_neg (by rw[hl];decide)])
 have I:=Bs p.keys k;rw[e];refine⟨by rw[(hp.node hl).1];omega,?_,?_⟩
 ·rcases Nat.eq_zero_or_pos (mK p.keys k) with h0|h0
  ·rw[h0];exact hk.1
  obtain⟨h',q⟩:=Jg (keys:=p.keys) (k:=k) (i:=mK p.keys k-1) w4;rw[Fu h0 h'];exact q
 intro hne;by_cases aa:mK p.keys k<p.keys.length
 ·rw[FL aa];exact IL aa
 rw[J3 w4] at hne ⊢;rw[E] at hne ⊢;exact hk.2 hne
def aJ(t:aG)(k:K):Nat→Int→Int
 | 0,i=>i
 | h+1,i=>aJ t k h ((t.pg i).kids.getD (aL (t.pg i) k) 0)
def je(t:aG)(k:K):Nat→Int→List Int
 | 0,i=>[i]
 | h+1,i=>i::je t k h ((t.pg i).kids.getD (aL (t.pg i) k) 0)
theorem Qi(t:aG)(k:K):∀(h:Nat) (i:Int),(je t k h i).getLast?=some (aJ t k h i)
 | 0,i=>rfl
 | h+1,i=>by
  have:=Qi t k h ((t.pg i).kids.getD (aL (t.pg i) k) 0);rw[je,aJ,getLast?_cons,this];rfl
theorem wB(t:aG):∀(h:Nat) (i:Int),eu t h i=(cG t h i).flatMap fun l=>eY (t.pg l)
 | 0,i=>by simp[eu,cG]
 | h+1,i=>by
  rw[eu,cG,flatMap_assoc];exact qW fun j _=>wB t h j
theorem zip_fst{α β:Type}:∀{a:List α} {b:List β},b.length=a.length→(a.zip b).map Prod.fst=a
 | [],_,_=>by simp
 | x::a,[],h=>by simp at h
 | x::a,y::b,h=>by simp[zip_fst (a:=a) (b:=b) oY]
theorem RM{x:K×Int}(h:x∈eY p):x.1∈p.keys:=(of_mem_zip h).1
theorem tG(h:j<p.kids.length):p.kids.getD j 0=p.kids[j]:=by rw[getD_eq_getElem?_getD,getElem?_eq_getElem h];rfl
variable {t:aG} {n:Int}
theorem aal(hp:eG p n)(hl:p.leaf=false){high:K}(I:p.high=high)(E:∀k∈p.keys,¬bB k low)(hj:j<p.kids.length)(hk:lJ (iu low p j) (gY p j) k):lJ low high k:=by
 have hn:=(hp.node hl).1;refine⟨?_,fun hne=>?_⟩
 ·rcases Nat.eq_zero_or_pos j with rfl|h0
  ·exact hk.1
  rw[Fu h0 w4] at hk;exact Vq (E _ (getElem_mem _)) hk.1
 by_cases aa:j<p.keys.length
 ·rw[FL aa] at hk;have hm:=getElem_mem aa;have h2:=hk.2 (by intro e;have:=(hp.lD _ hm).1;rw[e] at this;simp at this);exact lP h2 (by rw[←I];exact hp.qA (by rw[I];exact hne) _ hm)
 rw[J3 w4,I] at hk;exact hk.2 hne
theorem IM(hp:eG p n)(hl:p.leaf=false)(I:i<j)(hj:j<p.kids.length)(ha:lJ (iu low p i) (gY p i) a)(hb:lJ (iu low p j) (gY p j) b):bB a b:=by
 have hn:=(hp.node hl).1;have E:i<p.keys.length:=(by omega)
 rw[FL E] at ha;have h1:=ha.2 (by intro e;have:=(hp.lD _ (getElem_mem E)).1;rw[e] at this;simp at this);rw[Fu w4 w4] at hb;refine ZX h1 ?_;refine Vq ?_ hb.1;rcases Nat.lt_or_ge i (j-1) with h|h
 ·exact wN (nc hp.jV h w4)
 have:j-1=i:=(by omega)
 simp only[this];exact iZ _
theorem J4(hp:∀p∈t.ag,eG p n):∀{h:Nat} {i:Int} {low high:K},dY t h i low high→(eu t h i).Pairwise (fun x y=>bB x.1 y.1)∧∀x∈eu t h i,lJ low high x.1
 | 0,i,low,high,ok=>by
  obtain⟨q1,q2,q3,q4⟩:=ok;have po:=hp _ (jF q1);rw[eu];refine⟨?_,fun x hx=>⟨q4 _ (RM hx),fun hne=>by rw[←q3] at hne ⊢;exact po.qA hne _ (RM hx)⟩⟩;have h1:((eY (t.pg i)).map Prod.fst).Pairwise bB:=(by unfold eY;rw[zip_fst (po.leaf q2)];exact po.jV)
  exact pairwise_map.1 h1
 | h+1,i,low,high,ok=>by
  obtain⟨q1,q2,q3,q4,E⟩:=ok;have po:=hp _ (jF q1);rw[eu];have hk:∀j (hj:j<(t.pg i).kids.length),(eu t h (t.pg i).kids[j]).Pairwise (fun x y=>bB x.1 y.1)∧∀x∈eu t h (t.pg i).kids[j],lJ (iu low (t.pg i) j) (gY (t.pg i) j) x.1:=fun j hj=>J4 hp (E j hj);refine⟨pairwise_flatMap.2 ⟨fun a ha=>?_,?_⟩,fun x hx=>?_⟩
  ·obtain⟨j,hj,rfl⟩:=mem_iff_getElem.1 ha;exact(hk j hj).1
  ·refine pairwise_iff_getElem.2 fun a b ha hb qP x hx y hy=>?_;exact IM po q2 qP hb ((hk a ha).2 x hx) ((hk b hb).2 y hy)
  obtain⟨c,hc,hx⟩:=mem_flatMap.1 hx;obtain⟨j,hj,rfl⟩:=mem_iff_getElem.1 hc;exact aal po q2 q3 q4 hj ((hk j hj).2 x hx)
theorem Bt(hp:∀p∈t.ag,eG p n){k:K}:∀{h:Nat} {i:Int} {low high:K},dY t h i low high→lJ low high k →
  ∃pre post lo hi,cG t h i=pre++aJ t k h i::post∧(∀l∈pre,∀x∈eY (t.pg l),bB x.1 k)∧(∀l∈post,∀x∈eY (t.pg l),bB k x.1)∧dY t 0 (aJ t k h i) lo hi∧lJ lo hi k
 | 0,i,low,high,ok,hk=>⟨[],[],low,high,rfl,(fun _ h=>by cases h),(fun _ h=>by cases h),ok,hk⟩
 | h+1,i,low,high,ok,hk=>by
  obtain⟨q1,q2,q3,q4,E⟩:=ok;have po:=hp _ (jF q1);obtain⟨d1,d2⟩:=down po q2 q3 hk;obtain⟨pre,post,lo,hi,e,h1,h2,h3,h4⟩:=Bt hp (E _ d1) d2;have hm:∀j (hj:j<(t.pg i).kids.length),∀l∈cG t h (t.pg i).kids[j],∀x∈eY (t.pg l),lJ (iu low (t.pg i) j) (gY (t.pg i) j) x.1:=fun j hj l hl x hx =>
   (J4 hp (E j hj)).2 x (by rw[wB];exact mem_flatMap.2 ⟨l,hl,hx⟩)
  refine⟨((t.pg i).kids.take (aL (t.pg i) k)).flatMap (cG t h)++pre,post++((t.pg i).kids.drop (aL (t.pg i) k+1)).flatMap (cG t h),lo,hi,?_,?_,?_,?_,h4⟩
  ·rw[cG];conv=>lhs;rw[←take_append_drop (aL (t.pg i) k) (t.pg i).kids]
   rw[drop_eq_getElem_cons d1,flatMap_append,flatMap_cons,e,aJ,tG d1];simp
  ·intro l hl x hx;rcases mem_append.1 hl with hl|hl
   ·obtain⟨c,hc,hl⟩:=mem_flatMap.1 hl;obtain⟨j,hj,rfl⟩:=mem_iff_getElem.1 hc;rw[length_take] at hj;rw[getElem_take] at hl;exact IM po q2 (show j<aL (t.pg i) k by omega) d1 (hm j w4 l hl x hx) d2
   exact h1 l hl x hx
  ·intro l hl x hx;rcases mem_append.1 hl with hl|hl
   ·exact h2 l hl x hx
   obtain⟨c,hc,hl⟩:=mem_flatMap.1 hl;obtain⟨j,hj,rfl⟩:=mem_iff_getElem.1 hc;rw[length_drop] at hj;rw[getElem_drop] at hl;exact IM po q2 (show aL (t.pg i) k<aL (t.pg i) k+1+j by omega) w4 d2 (hm _ w4 l hl x hx)
  rw[aJ,tG d1];exact h3
theorem abq(hp:∀p∈t.ag,eG p n){h:Nat}{i:Int}{high:K}(ok:dY t h i low high)(hk:lJ low high k) :
  ∃pre post,cG t h i=pre++aJ t k h i::post∧(eu t h i).filter (fun x=>decide (¬bB x.1 k))=(eY (t.pg (aJ t k h i))).drop (aL (t.pg (aJ t k h i)) k)++post.flatMap fun l=>eY (t.pg l):=by
 obtain⟨pre,post,lo,hi,e,h1,h2,h3,h4⟩:=Bt hp ok hk;refine⟨pre,post,e,?_⟩;have po:=hp _ (jF h3.1);rw[wB,e,flatMap_append,flatMap_cons,filter_append,filter_append];rw[filter_eq_nil_iff.2 (by
  intro x hx;obtain⟨l,hl,hx⟩:=mem_flatMap.1 hx;simpa using h1 l hl x hx),nil_append]
 congr 1
 ·have fL:=h3.2.1;rw[show aL (t.pg (aJ t k h i)) k=gA (t.pg (aJ t k h i)).keys k by unfold aL;rw[if_pos fL]];generalize I:t.pg (aJ t k h i)=p at *;have E:=take_append_drop (gA p.keys k) (eY p);conv=>lhs;rw[←E]
  have hlen:=po.leaf fL;rw[filter_append,filter_eq_nil_iff.2 (by
   intro x hx;obtain⟨j,hj,rfl⟩:=mem_iff_getElem.1 hx;rw[length_take] at hj;obtain⟨h',q⟩:=Br (keys:=p.keys) (k:=k) (i:=j) w4;rw[getElem_take];simpa[eY] using q),nil_append,filter_eq_self.2]
  intro x hx;obtain⟨j,hj,rfl⟩:=mem_iff_getElem.1 hx;rw[length_drop] at hj;have fN:(eY p).length=p.keys.length:=(by unfold eY;rw[length_zip,hlen,Nat.min_self])
  have hd:gA p.keys k<p.keys.length:=(by omega)
  have he:=Bh hd;rw[getElem_drop];have:¬bB p.keys[gA p.keys k+j] k:=by
   rcases Nat.eq_zero_or_pos j with rfl|h0
   ·exact he
   exact fun aa=>he (lP (nc po.jV w4 w4) aa)
  simpa[eY] using this
 rw[filter_eq_self.2];intro x hx;obtain⟨l,hl,hx⟩:=mem_flatMap.1 hx;simpa using wN (h2 l hl x hx)

end Go.Proofs.YtdgichenhdikgaaGreatDoor.Tr
namespace Go.Proofs.YtdgichenhdikgaaGreatDoor.Tr
open List
open Go.Proofs.Tryz
open Go.Lib (compareBytes)
variable {α:Type} {i n:Int} {p:da} {up low:K} {h:Nat}
def gP(l:List α)(i:Nat)(x:α):List α:=l.take i++x::l.drop i
def aG.set(t:aG)(i:Int)(p:da):aG:={t with ag:=t.ag.set i.toNat p}
variable {t:aG}
def bC(p:da)(up:K)(aC:Int):da :=
 {p with keys:=gP p.keys (aL p up) up,kids:=gP p.kids (if p.leaf=true then aL p up else aL p up+1) aC}
def jj(p:da):K:=p.keys.getD 2 []
def bq(p:da)(n:Int):da:={leaf:=p.leaf,keys:=p.keys.take 2,kids:=p.kids.take (if p.leaf=true then 2 else 3),high:=jj p,next:=n}
def bz(p:da):da:={leaf:=p.leaf,keys:=p.keys.drop (if p.leaf=true then 2 else 3),kids:=p.kids.drop (if p.leaf=true then 2 else 3),high:=p.high,next:=p.next}
def rq(t:aG)(i:Int)(up:K)(aC:Int):aG×Option (K×Int) :=
 if (bC (t.pg i) up aC).keys.length≤4 then (t.set i (bC (t.pg i) up aC),none)
 else (⟨(t.ag.set i.toNat (bq (bC (t.pg i) up aC) t.ag.length))++[bz (bC (t.pg i) up aC)],t.root⟩,some (jj (bC (t.pg i) up aC),t.ag.length))
def e9(t:aG)(k:K)(row:Int):Nat→Int→aG×Option (K×Int)
 | 0,i=>rq t i k row
 | h+1,i=>match e9 t k row h ((t.pg i).kids.getD (aL (t.pg i) k) 0) with
  | (t',none)=>(t',none)
  | (t',some (up,aC))=>rq t' i up aC
def ahL(r:aG×Option (K×Int)):aG:=match r with
 | (t,none)=>t
 | (t,some (up,aC))=>⟨t.ag++[⟨false,[up],[t.root,aC],[],-1⟩],t.ag.length⟩
theorem oc(t:aG)(i:Int)(p:da):(t.set i p).ag.length=t.ag.length:=by simp[aG.set]
theorem Bu(h:0≤i∧i<t.ag.length)(p:da):(t.set i p).pg i=p:=by
 unfold aG.pg aG.set;rw[getD_eq_getElem?_getD,getElem?_set_self w4];rfl
theorem wi{j:Int}(hi:0≤i)(hj:0≤j)(h:i≠j)(p:da):(t.set i p).pg j=t.pg j:=by
 unfold aG.pg aG.set;rw[getD_eq_getElem?_getD,getD_eq_getElem?_getD,getElem?_set_ne w4]
theorem yH(l:List α){i:Nat}(h:i≤l.length)(x:α):(gP l i x).length=l.length+1:=by unfold gP;simp;omega
theorem uK{l:List α}{i:Nat}{x y:α}:y∈gP l i x↔y=x∨y∈l:=by
 unfold gP;conv=>rhs;rw[←take_append_drop i l]
 simp only[mem_append,mem_cons];constructor
 ·rintro(h|h|h)
  ·exact .inr (.inl h)
  ·exact .inl h
  exact .inr (.inr h)
 rintro(h|h|h)
 ·exact .inr (.inl h)
 ·exact .inl h
 exact .inr (.inr h)
theorem abr{β:Type}{a:List α}{b:List β}(h:b.length=a.length){i:Nat}(hi:i≤a.length)(x:α)(y:β):(gP a i x).zip (gP b i y)=gP (a.zip b) i (x,y):=by
 unfold gP;rw[zip_append (by simp[h]),zip_cons_cons];have h1:(a.zip b).take i=(a.take i).zip (b.take i):=take_zipWith;have h2:(a.zip b).drop i=(a.drop i).zip (b.drop i):=drop_zipWith;rw[h1,h2]
theorem Jh(hp:eG p n)(hn:up∉p.keys):(∀j (hj:j<p.keys.length),j<aL p up→bB p.keys[j] up)∧(∀j (hj:j<p.keys.length),aL p up≤j→bB up p.keys[j])∧aL p up≤p.keys.length:=by
 unfold aL;split
 ·refine⟨fun j hj h=>(Br h).2,fun j hj h=>?_,yP _ _⟩;have aa:gA p.keys up<p.keys.length:=(by omega)
  have h1:=Bh aa;have h2:¬bB p.keys[j] up:=by
   rcases Nat.lt_or_ge (gA p.keys up) j with h'|h'
   ·exact fun E=>h1 (lP (nc hp.jV h' hj) E)
   have:gA p.keys up=j:=(by omega)
   subst this;exact h1
  rcases wO p.keys[j] up with h|h|h
  ·exact absurd h h2
  ·exact absurd (h ▸ getElem_mem hj) hn
  exact h
 refine⟨fun j hj h=>?_,fun j hj h=>?_,Bs _ _⟩
 ·have h2:=(Jg h).2;rcases wO p.keys[j] up with h|h|h
  ·exact h
  ·exact absurd (h ▸ getElem_mem hj) hn
  exact absurd h h2
 have aa:mK p.keys up<p.keys.length:=(by omega)
 have h1:=IL aa;rcases Nat.lt_or_ge (mK p.keys up) j with h'|h'
 ·exact lP h1 (nc hp.jV h' hj)
 have:mK p.keys up=j:=(by omega)
 subst this;exact h1
theorem ac8(hp:eG p n)(hn:up∉p.keys):(gP p.keys (aL p up) up).Pairwise bB:=by
 obtain⟨h1,h2,h3⟩:=Jh hp hn;unfold gP;have hr:=hp.jV;conv at hr=>rw[←take_append_drop (aL p up) p.keys]
 rw[pairwise_append] at hr;rw[pairwise_append,pairwise_cons];refine⟨hr.1,⟨fun y hy=>?_,hr.2.1⟩,fun x hx y hy=>?_⟩
 ·obtain⟨j,hj,rfl⟩:=mem_iff_getElem.1 hy;rw[length_drop] at hj;rw[getElem_drop];exact h2 _ w4 w4
 rcases mem_cons.1 hy with rfl|hy
 ·obtain⟨j,hj,rfl⟩:=mem_iff_getElem.1 hx;rw[length_take] at hj;rw[getElem_take];exact h1 _ w4 w4
 exact hr.2.2 x hx y hy
structure wP (p:da) (many:Int):Prop where
 eJ:p.keys.length≤5
 hlen:p.high.length≤100
 xq:-1≤p.next
 wS:p.next<many
 xu:p.next<0↔p.high=[]
 leaf:p.leaf=true→p.kids.length=p.keys.length
 node:p.leaf=false→p.kids.length=p.keys.length+1∧p.keys≠[]
 lD:∀k∈p.keys,1≤k.length∧k.length≤100
 qA:p.high≠[]→∀k∈p.keys,bB k p.high
 jV:p.keys.Pairwise bB
 aC:∀n∈p.kids,0≤n
 vr:p.leaf=false→∀n∈p.kids,n<many
theorem wP.ok(h:wP p n)(hl:p.keys.length≤4):eG p n:=⟨hl,h.hlen,h.xq,h.wS,h.xu,h.leaf,h.node,h.lD,h.qA,h.jV,h.aC,h.vr⟩
theorem Ji(hp:eG p n){aC:Int}(hn:up∉p.keys)(U:1≤up.length∧up.length≤100)(Z:p.high≠[]→bB up p.high)(hk:0≤aC)(O:p.leaf=false→aC<n):wP (bC p up aC) n:=by
 obtain⟨_,_,h3⟩:=Jh hp hn;have hf:=hp.eJ;refine⟨?_,hp.hlen,hp.xq,hp.wS,hp.xu,fun hl=>?_,fun hl=>?_,fun k I=>?_,fun hne k I=>?_,ac8 hp hn,fun m hm=>?_,fun hl m hm=>?_⟩
 ·show(gP _ _ _).length≤5;rw[yH _ h3];omega
 ·have E:p.leaf=true:=hl;show(gP _ _ _).length=(gP _ _ _).length;rw[if_pos E,yH _ h3,yH _ (by rw[hp.leaf E];exact h3),hp.leaf E]
 ·have E:p.leaf=false:=hl;refine⟨?_,?_⟩
  ·show(gP _ _ _).length=(gP _ _ _).length+1;rw[if_neg (by rw[E];decide),yH _ h3,yH _ (by rw[(hp.node E).1];omega),(hp.node E).1]
  show gP _ _ _≠[];intro e;have:=congrArg length e;rw[yH _ h3] at this;simp at this
 ·rcases uK.1 I with rfl|h
  ·exact U
  exact hp.lD k h
 ·rcases uK.1 I with rfl|h
  ·exact Z hne
  exact hp.qA hne k h
 ·rcases uK.1 hm with rfl|h
  ·exact hk
  exact hp.aC m h
 rcases uK.1 hm with rfl|h
 ·exact O hl
 exact hp.vr hl m h
theorem zc(h:p.keys.length=5):jj p=p.keys[2]:=by unfold jj;rw[getD_eq_getElem?_getD,getElem?_eq_getElem w4];rfl
theorem UU(hp:wP p n)(h5:p.keys.length=5)(h0:0≤n):eG (bq p n) (n+1):=by
 have U:=zc h5;have I:jj p∈p.keys:=(by rw[U];exact getElem_mem _)
 refine⟨?_,(hp.lD _ I).2,by show -1≤n;omega,by show n<n+1;omega,?_,fun hl=>?_,fun hl=>?_,fun k hk=>hp.lD k (mem_of_mem_take hk),fun _ k hk=>?_,hp.jV.sublist (take_sublist _ _),fun x hx=>hp.aC x (mem_of_mem_take hx),fun hl x hx=>?_⟩
 ·show(p.keys.take 2).length≤4;rw[length_take];omega
 ·show n<0↔jj p=[];have:=(hp.lD _ I).1;exact⟨fun h=>by omega,fun h=>by rw[h] at this;simp at this⟩
 ·have E:p.leaf=true:=hl;show(p.kids.take (if p.leaf=true then 2 else 3)).length=(p.keys.take 2).length;rw[if_pos E,length_take,length_take,hp.leaf E]
 ·have E:p.leaf=false:=hl;refine⟨?_,?_⟩
  ·show(p.kids.take (if p.leaf=true then 2 else 3)).length=(p.keys.take 2).length+1;rw[if_neg (by rw[E];decide),length_take,length_take,(hp.node E).1];omega
  show p.keys.take 2≠[];intro e;have:=congrArg length e;rw[length_take,h5] at this;cases this
 ·have O:k∈p.keys.take 2:=hk;obtain⟨j,hj,rfl⟩:=mem_iff_getElem.1 O;rw[length_take] at hj;show bB (p.keys.take 2)[j] (jj p);rw[getElem_take,U];exact nc hp.jV w4 w4
 have E:p.leaf=false:=hl;have:=hp.vr E x (mem_of_mem_take hx);omega
theorem TP{m:Int}(hp:wP p n)(h5:p.keys.length=5)(hm:n≤m):eG (bz p) m:=by
 refine⟨?_,hp.hlen,hp.xq,by have:=hp.wS;show p.next<m;omega,hp.xu,fun hl=>?_,fun hl=>?_,fun k hk=>hp.lD k (mem_of_mem_drop hk),fun hne k hk=>hp.qA hne k (mem_of_mem_drop hk),hp.jV.sublist (drop_sublist _ _),fun x hx=>hp.aC x (mem_of_mem_drop hx),fun hl x hx=>?_⟩
 ·show(p.keys.drop _).length≤4;rw[length_drop];split<;>omega
 ·have E:p.leaf=true:=hl;show(p.kids.drop _).length=(p.keys.drop _).length;rw[length_drop,length_drop,hp.leaf E]
 ·have E:p.leaf=false:=hl;refine⟨?_,?_⟩
  ·show(p.kids.drop _).length=(p.keys.drop _).length+1;rw[length_drop,length_drop,(hp.node E).1,if_neg (by rw[E];decide)];omega
  show p.keys.drop _≠[];intro e;have:=congrArg length e;rw[length_drop,if_neg (by rw[E];decide)] at this;simp at this;omega
 have E:p.leaf=false:=hl;have:=hp.vr E x (mem_of_mem_drop hx);omega

def jn(t:aG)(h:Nat):K→List Int→List K→K→Prop
 | low,c::cs,ks,high=>match cs,ks with
  | [],[]=>dY t h c low high
  | _::_,k::ks=>dY t h c low k∧jn t h k cs ks high
  | _,_=>False
 | _,[],_,_=>False
theorem Bv{high:K}{c:Int}:jn t h low [c] [] high↔dY t h c low high:=by rw[jn]
theorem qm{high k:K}{c d:Int}{cs:List Int}{ks:List K}:jn t h low (c::d::cs) (k::ks) high↔dY t h c low k∧jn t h k (d::cs) ks high:=by rw[jn]
theorem Jj{t:aG}{h:Nat}{high:K}:∀{kids:List Int} {keys:List K} {low:K},kids.length=keys.length+1 →
  ((∀j (hj:j<kids.length),dY t h kids[j] (if j=0 then low else keys.getD (j-1) []) (keys.getD j high))↔jn t h low kids keys high)
 | [],keys,low,e=>by simp at e
 | [c],[],low,e=>by
  rw[Bv];constructor
  ·intro q;exact q 0 bf
  intro q j hj;obtain rfl:j=0:=(by simpa using hj)
  exact q
 | [c],k::ks,low,e=>by simp at e
 | c::d::cs,[],low,e=>by simp at e
 | c::d::cs,k::ks,low,e=>by
  rw[qm,←Jj (kids:=d::cs) (keys:=ks) (low:=k) (by simpa using e)];constructor
  ·intro q;refine⟨q 0 bf,fun j hj=>?_⟩;have:=q (j+1) (by simpa using hj);rw[if_neg w4] at this;simp only[getElem_cons_succ,Nat.add_sub_cancel,getD_cons_succ] at this;cases j with
   | zero=>exact this
   | succ j=>exact this
  rintro⟨q0,q⟩ j hj;cases j with
  | zero=>exact q0
  | succ j =>
   have:=q j (by simpa using hj);rw[if_neg w4];simp only[getElem_cons_succ,Nat.add_sub_cancel,getD_cons_succ];cases j with
   | zero=>exact this
   | succ j=>exact this
theorem BF{high:K}(hp:eG (t.pg i) n):dY t (h+1) i low high↔(0≤i∧i<t.ag.length)∧(t.pg i).leaf=false∧(t.pg i).high=high∧(∀k∈(t.pg i).keys,¬bB k low)∧jn t h low (t.pg i).kids (t.pg i).keys high:=by
 constructor
 ·rintro⟨q1,q2,q3,q4,E⟩;refine⟨q1,q2,q3,q4,?_⟩;rw[←Jj (hp.node q2).1];intro j hj;have:=E j hj;unfold iu gY at this;rw[q3] at this;exact this
 rintro⟨q1,q2,q3,q4,E⟩;refine⟨q1,q2,q3,q4,?_⟩;rw[←Jj (hp.node q2).1] at E;intro j hj;have:=E j hj;unfold iu gY;rw[q3];exact this
theorem RN{t u:aG}{h:Nat}{high:K}:∀{kids:List Int} {keys:List K} {low:K},jn t h low kids keys high→(∀c∈kids,∀lo hi,dY t h c lo hi→dY u h c lo hi)→jn u h low kids keys high
 | [],keys,low,q,_=>by simp[jn] at q
 | [c],[],low,q,f=>by rw[Bv] at q ⊢;exact f c bf _ _ q
 | [c],k::ks,low,q,f=>by simp[jn] at q
 | c::d::cs,[],low,q,f=>by simp[jn] at q
 | c::d::cs,k::ks,low,q,f=>by
  rw[qm] at q ⊢;exact⟨f c bf _ _ q.1,RN q.2 fun x hx=>f x (by simp at hx ⊢;exact .inr hx)⟩
theorem RO{t u:aG}{h:Nat}{high up:K}{aC:Int}:∀(j:Nat) {kids:List Int} {keys:List K} {low:K} (hj:j<kids.length),jn t h low kids keys high →
  (∀c∈kids.eraseIdx j,∀lo hi,dY t h c lo hi→dY u h c lo hi) →
  (dY u h kids[j] (if j=0 then low else keys.getD (j-1) []) up)→dY u h aC up (keys.getD j high)→jn u h low (gP kids (j+1) aC) (gP keys j up) high
 | 0,[],keys,low,hj,q,f,q1,q2=>by simp at hj
 | 0,[c],[],low,hj,q,f,q1,q2=>by
  show jn u h low [c,aC] [up] high;rw[qm,Bv];exact⟨q1,q2⟩
 | 0,[c],k::ks,low,hj,q,f,q1,q2=>by simp[jn] at q
 | 0,c::d::cs,[],low,hj,q,f,q1,q2=>by simp[jn] at q
 | 0,c::d::cs,k::ks,low,hj,q,f,q1,q2=>by
  show jn u h low (c::aC::d::cs) (up::k::ks) high;rw[qm,qm];rw[qm] at q;exact⟨q1,q2,RN q.2 fun x hx=>f x (by simpa using hx)⟩
 | j+1,[],keys,low,hj,q,f,q1,q2=>by simp at hj
 | j+1,[c],keys,low,hj,q,f,q1,q2=>by simp at hj
 | j+1,c::d::cs,[],low,hj,q,f,q1,q2=>by simp[jn] at q
 | j+1,c::d::cs,k::ks,low,hj,q,f,q1,q2=>by
  rw[qm] at q;have e1:gP (c::d::cs) (j+1+1) aC=c::gP (d::cs) (j+1) aC:=rfl;have e2:gP (k::ks) (j+1) up=k::gP ks j up:=rfl;rw[e1,e2];have E:=RO (t:=t) (u:=u) (up:=up) (aC:=aC) j (kids:=d::cs) (keys:=ks) (low:=k) (by simpa using hj) q.2 (fun x hx=>f x (by rw[eraseIdx_cons_succ];exact mem_cons_of_mem _ hx)) (by
   have:=q1;rw[if_neg w4] at this;simp only[getElem_cons_succ,Nat.add_sub_cancel] at this;cases j with
   | zero=>exact this
   | succ j=>exact this) (by simpa using q2)
  have I:gP (d::cs) (j+1) aC=d::gP cs j aC:=rfl;rw[I] at E ⊢;rw[qm];exact⟨f c (by rw[eraseIdx_cons_succ];simp) _ _ q.1,E⟩
theorem Pw{t:aG}{h:Nat}{high:K}:∀(m:Nat) {kids:List Int} {keys:List K} {low:K} (hm:m<keys.length),jn t h low kids keys high→jn t h low (kids.take (m+1)) (keys.take m) keys[m]∧jn t h keys[m] (kids.drop (m+1)) (keys.drop (m+1)) high
 | 0,c::d::cs,k::ks,low,hm,q=>by
  rw[qm] at q;exact⟨Bv.2 q.1,q.2⟩
 | m+1,c::d::cs,k::ks,low,hm,q=>by
  rw[qm] at q;obtain⟨q1,q2⟩:=Pw m (kids:=d::cs) (keys:=ks) (by simpa using hm) q.2;refine⟨?_,q2⟩;have e:(c::d::cs).take (m+1+1)=c::d::cs.take m:=rfl;rw[e];show jn t h low (c::d::cs.take m) (k::ks.take m) _;rw[qm];exact⟨q.1,q1⟩
 | _,_,[],_,hm,_=>by simp at hm
 | _,[],_::_,_,_,q=>by simp[jn] at q
 | _,[c],_::_,_,_,q=>by simp[jn] at q
theorem BG{t:aG}{e:Int}:∀{a b:List Int},ff t (a++b) e↔ff t a (b.headD e)∧ff t b e
 | [],b=>by simp[ff]
 | [i],[]=>by simp[ff]
 | [i],j::b=>by simp[ff]
 | i::j::a,b=>by
  have:=BG (t:=t) (e:=e) (a:=j::a) (b:=b);show(t.pg i).next=j∧ff t (j::a++b) e↔((t.pg i).next=j∧ff t (j::a) (b.headD e))∧ff t b e;rw[this,and_assoc]
theorem yI{t u:aG}:∀{a:List Int} {e:Int},(∀j∈a,(u.pg j).next=(t.pg j).next)→ff t a e→ff u a e
 | [],e,_,_=>trivial
 | [i],e,f,h=>by show(u.pg i).next=e;rw[f i bf];exact h
 | i::j::a,e,f,h=>⟨by rw[f i bf];exact h.1,yI (fun x hx=>f x (mem_cons_of_mem _ hx)) h.2⟩
theorem FM{t:aG}{n:Int}(hp:∀p∈t.ag,eG p n):∀{h:Nat} {i:Int} {low high:K},dY t h i low high→∀d,d≤h→cG t d i≠[]
 | 0,i,low,high,ok,d,hd=>by
  obtain rfl:d=0:=(by omega)
  simp[cG]
 | h+1,i,low,high,ok,d,hd=>by
  cases d with
  | zero=>simp[cG]
  | succ d =>
   obtain⟨q1,q2,q3,q4,E⟩:=ok;have po:=hp _ (jF q1);have hl:=(po.node q2).1;have h0:0<(t.pg i).kids.length:=(by omega)
   have:=FM hp (E 0 h0) d w4;rw[cG];intro e;rw[flatMap_eq_nil_iff] at e;exact this (e _ (getElem_mem h0))
theorem rZ{t:aG}:∀(h:Nat) (i:Int) (d:Nat),d≤h→∀x∈cG t d i,x∈ids t h i
 | 0,i,d,hd,x,hx=>by
  obtain rfl:d=0:=(by omega)
  exact hx
 | h+1,i,0,hd,x,hx=>by
  have:x=i:=(by simpa[cG] using hx)
  subst this;exact tu _ _
 | h+1,i,d+1,hd,x,hx=>by
  rw[cG] at hx;obtain⟨c,hc,hx⟩:=mem_flatMap.1 hx;rw[ids];exact mem_cons_of_mem _ (mem_flatMap.2 ⟨c,hc,rZ h c d w4 x hx⟩)
theorem EK{a b:List α}(h:a≠[])(e:α):(a++b).headD e=a.headD e:=by
 cases a with
 | nil=>exact absurd rfl h
 | cons x r=>rfl

def nP(t:aG)(h:Nat)(i:Int):Option (K×Int)→List Int
 | none=>ids t h i
 | some (_,aC)=>ids t h i++ids t h aC
def Gb(t:aG)(h:Nat)(i:Int):Option (K×Int)→List (K×Int)
 | none=>eu t h i
 | some (_,aC)=>eu t h i++eu t h aC
def sJ(t:aG)(d:Nat)(i:Int):Option (K×Int)→List Int
 | none=>cG t d i
 | some (_,aC)=>cG t d i++cG t d aC
def nV(t:aG)(h:Nat)(i:Int)(low high:K):Option (K×Int)→Prop
 | none=>dY t h i low high
 | some (up,aC)=>(1≤up.length∧up.length≤100)∧bB low up∧(high≠[]→bB up high)∧dY t h i low up∧dY t h aC up high
structure oH (t u:aG) (h:Nat) (i:Int) (low high:K) (k:K) (row:Int) (r:Option (K×Int)):Prop where
 le:t.ag.length≤u.ag.length
 more:u.ag.length≤t.ag.length+(h+1)
 root:u.root=t.root
 fF:∀p∈u.ag,eG p u.ag.length
 out:∀j:Int,0≤j→j<t.ag.length→j∉ids t h i→u.pg j=t.pg j
 ok:nV u h i low high r
 sub:∀x∈nP u h i r,x∈ids t h i∨(t.ag.length:Int)≤x
 nodup:(nP u h i r).Nodup
 YM:(nP u h i r).length+t.ag.length=(ids t h i).length+u.ag.length
 eu:∀x,x∈Gb u h i r↔x=(k,row)∨x∈eu t h i
 pp:∀d,d≤h→∀e,ff t (cG t d i) e→ff u (sJ u d i r) e∧(sJ u d i r).headD e=(cG t d i).headD e
def jo(t:aG)(i:Int)(a b:da):aG:=⟨(t.ag.set i.toNat a)++[b],t.root⟩
theorem pC(t:aG)(i:Int)(a b:da):(jo t i a b).ag.length=t.ag.length+1:=by simp[jo]
theorem Qj(h:0≤i∧i<t.ag.length)(a b:da):(jo t i a b).pg i=a:=by
 unfold aG.pg jo;rw[getD_eq_getElem?_getD,getElem?_append_left vE,getElem?_set_self w4];rfl
theorem RP(t:aG)(i:Int)(a b:da):(jo t i a b).pg t.ag.length=b:=by
 unfold aG.pg jo;rw[getD_eq_getElem?_getD,getElem?_append_right vE,length_set];simp
theorem Px{j:Int}(hi:0≤i)(hj:0≤j∧j<t.ag.length)(h:i≠j)(a b:da):(jo t i a b).pg j=t.pg j:=by
 unfold aG.pg jo;rw[getD_eq_getElem?_getD,getD_eq_getElem?_getD,getElem?_append_left vE,getElem?_set_ne w4]
theorem IN{q:da}(hp:∀p∈t.ag,eG p n)(hq:eG q n):∀p∈(t.set i q).ag,eG p n:=fun p h=>by
 rcases mem_or_eq_of_mem_set h with h|rfl
 ·exact hp p h
 exact hq
theorem Py{a b:da}{m:Int}(hp:∀p∈t.ag,eG p n)(hm:n≤m)(ha:eG a m)(hb:eG b m):∀p∈(jo t i a b).ag,eG p m:=fun p h=>by
 unfold jo at h;rcases mem_append.1 h with h|h
 ·rcases mem_or_eq_of_mem_set h with h|rfl
  ·exact(hp p h).more hm
  exact ha
 rw[mem_singleton] at h;subst h;exact hb
theorem Jk{aC:Int}(h:(bC (t.pg i) up aC).keys.length≤4):rq t i up aC=(t.set i (bC (t.pg i) up aC),none):=by unfold rq;rw[if_pos h]
theorem IP{aC:Int}(h:¬(bC (t.pg i) up aC).keys.length≤4):rq t i up aC=(jo t i (bq (bC (t.pg i) up aC) t.ag.length) (bz (bC (t.pg i) up aC)),some (jj (bC (t.pg i) up aC),(t.ag.length:Int))):=by unfold rq;rw[if_neg h];rfl
theorem TQ{q:da}(hr:q.keys.Pairwise bB)(h5:q.keys.length=5)(hl:∀k∈q.keys,¬bB k low):bB low (jj q)∧(∀k∈q.keys.drop 2,¬bB k (jj q)):=by
 rw[zc h5];refine⟨O9 (hl _ (getElem_mem (by omega:0<q.keys.length))) (nc hr w4 w4),fun k hk=>?_⟩;obtain⟨j,hj,rfl⟩:=mem_iff_getElem.1 hk;rw[length_drop] at hj;rw[getElem_drop];rcases Nat.eq_zero_or_pos j with rfl|h0
 ·exact iZ _
 exact wN (nc hr w4 w4)
theorem ac9(hp:∀p∈t.ag,eG p t.ag.length){high:K}(ok:dY t 0 i low high){k:K}{row:Int}(hk:lJ low high k)(hn:∀x∈eu t 0 i,x.1≠k)(hl:1≤k.length∧k.length≤100)(hr:0≤row):oH t (rq t i k row).1 0 i low high k row (rq t i k row).2:=by
 obtain⟨q1,q2,q3,q4⟩:=ok;have po:=hp _ (jF q1);have O:k∉(t.pg i).keys:=fun hm=>by
  obtain⟨j,hj,e⟩:=mem_iff_getElem.1 hm;have hlen:=po.leaf q2;refine hn ((t.pg i).keys[j],(t.pg i).kids[j]'w4) ?_ e;show _∈eY (t.pg i);unfold eY;exact mem_iff_getElem.2 ⟨j,by rw[length_zip];omega,by rw[getElem_zip]⟩
 have hf:wP (bC (t.pg i) k row) t.ag.length:=Ji po O hl (fun hne=>hk.2 (by rw[←q3];exact hne) |> fun h=>by rw[q3];exact h) hr (fun h=>by rw[q2] at h;cases h);have fN:=(Jh po O).2.2;have hE:eY (bC (t.pg i) k row)=gP (eY (t.pg i)) (aL (t.pg i) k) (k,row):=by
  show(gP _ _ _).zip (gP _ _ _)=_;rw[if_pos q2];exact abr (po.leaf q2) fN k row
 have E:∀x∈(bC (t.pg i) k row).keys,¬bB x low:=fun x hx=>by
  rcases uK.1 hx with rfl|h
  ·exact hk.1
  exact q4 x h
 by_cases h4:(bC (t.pg i) k row).keys.length≤4
 ·rw[Jk h4];have U:=Bu q1 (bC (t.pg i) k row);refine⟨by rw[oc];omega,by rw[oc];omega,rfl,by rw[oc];exact IN hp (hf.ok h4),fun j h0 hj hne=>?_,?_,fun x hx=>.inl hx,?_,by rw[oc];rfl,fun x=>?_,fun d hd e hs=>?_⟩
  ·exact wi q1.1 h0 (by intro e;subst e;simp[ids] at hne) _
  ·exact⟨by rw[oc];exact q1,by rw[U];exact q2,by rw[U];exact q3,by rw[U];exact E⟩
  ·show[i].Nodup;simp
  ·show x∈eY ((t.set i _).pg i)↔_;rw[U,hE,uK];rfl
  obtain rfl:d=0:=(by omega)
  refine⟨?_,rfl⟩;show((t.set i _).pg i).next=e;rw[U];exact hs
 have h5:(bC (t.pg i) k row).keys.length=5:=(by have:=hf.eJ;omega)
 rw[IP h4];have I:(bC (t.pg i) k row).leaf=true:=q2;have Z:=Qj q1 (bq (bC (t.pg i) k row) t.ag.length) (bz (bC (t.pg i) k row));have eb:=RP t i (bq (bC (t.pg i) k row) t.ag.length) (bz (bC (t.pg i) k row));obtain⟨u1,u2⟩:=TQ hf.jV h5 E;have DD:jj (bC (t.pg i) k row)∈(bC (t.pg i) k row).keys:=(by rw[zc h5];exact getElem_mem _)
 have gS:eY (bq (bC (t.pg i) k row) t.ag.length)++eY (bz (bC (t.pg i) k row))=eY (bC (t.pg i) k row):=by
  show((bC (t.pg i) k row).keys.take 2).zip ((bC (t.pg i) k row).kids.take (if (bC (t.pg i) k row).leaf=true then 2 else 3))++((bC (t.pg i) k row).keys.drop (if (bC (t.pg i) k row).leaf=true then 2 else 3)).zip ((bC (t.pg i) k row).kids.drop (if (bC (t.pg i) k row).leaf=true then 2 else 3))=_;rw[if_pos I,←zip_append (by rw[length_take,length_take,hf.leaf I]),take_append_drop,take_append_drop];rfl
 refine⟨by rw[pC];omega,by rw[pC];omega,rfl,?_,fun j h0 hj hne=>?_,⟨hf.lD _ DD,u1,fun hne=>hf.qA (by show(t.pg i).high≠[];rw[q3];exact hne) _ DD |> fun h=>by rw[←q3];exact h,?_,?_⟩,fun x hx=>?_,?_,by rw[pC];show[i,(t.ag.length:Int)].length+_=[i].length+_;simp;omega,fun x=>?_,fun d hd e hs=>?_⟩
 ·rw[pC];exact Py hp w4 (UU hf h5 w4) (TP hf h5 w4)
 ·exact Px q1.1 ⟨h0,hj⟩ (by intro e;subst e;simp[ids] at hne) _ _
 ·exact⟨by rw[pC];omega,by rw[Z];exact I,by rw[Z];rfl,by rw[Z];exact fun x hx=>E x (mem_of_mem_take hx)⟩
 ·refine⟨by rw[pC];omega,by rw[eb];exact I,by rw[eb];exact q3,?_⟩;rw[eb];show ∀x∈(bC (t.pg i) k row).keys.drop (if (bC (t.pg i) k row).leaf=true then 2 else 3),_;rw[if_pos I];exact u2
 ·have oZ:x∈[i,(t.ag.length:Int)]:=hx;simp only[mem_cons,not_mem_nil,or_false] at oZ;rcases oZ with rfl|rfl
  ·exact .inl (by simp[ids])
  exact .inr (Int.le_refl _)
 ·show[i,(t.ag.length:Int)].Nodup;simp;omega
 ·show x∈eY ((jo t i _ _).pg i)++eY ((jo t i _ _).pg _)↔_;rw[Z,eb,gS,hE,uK];rfl
 obtain rfl:d=0:=(by omega)
 refine⟨?_,rfl⟩;show((jo t i _ _).pg i).next=_∧((jo t i _ _).pg _).next=e;rw[Z,eb];exact⟨rfl,hs⟩

end Go.Proofs.YtdgichenhdikgaaGreatDoor.Tr

namespace Go.Proofs.YtdgichenhdikgaaGreatDoor.Tr
open List
open Go.Proofs.Tryz
open Go.Lib (compareBytes)
variable {α:Type} {A B:List Int} {v:aG}
theorem J5{keys:List K}(hr:keys.Pairwise bB){up:K}{j:Nat}(hj:j≤keys.length)(h1:∀(h:0<j),¬bB up (keys[j-1]'w4))(h2:∀(h:j<keys.length),bB up keys[j]):mK keys up=j:=by
 have E:=Bs keys up;rcases Nat.lt_trichotomy (mK keys up) j with h|h|h
 ·exfalso;have aa:mK keys up<keys.length:=(by omega)
  have h3:=IL aa;have h4:=h1 w4;rcases Nat.lt_or_ge (mK keys up) (j-1) with h5|h5
  ·exact h4 (lP h3 (nc hr h5 w4))
  have:mK keys up=j-1:=(by omega)
  simp only[this] at h3;exact h4 h3
 ·exact h
 exact absurd (h2 w4) (Jg h).2
theorem Pb{l:List α}{j:Nat}(hj:j<l.length)(x:α):gP l (j+1) x=l.take j++l[j]::x::l.drop (j+1):=by
 unfold gP;rw[take_succ_eq_append_getElem hj,append_assoc];rfl
theorem uO{l:List α}{j:Nat}(hj:j<l.length):l=l.take j++l[j]::l.drop (j+1):=by
 conv=>lhs;rw[←take_append_drop j l,drop_eq_getElem_cons hj]
theorem ZY{l:List α}{j:Nat}{x:α}(h:x∈l.eraseIdx j):x∈l.take j∨x∈l.drop (j+1):=by
 rw[eraseIdx_eq_take_drop_succ] at h;exact mem_append.1 h
variable {t:aG}
theorem wj{h:Nat}{i:Int}{j:Nat}(hj:j<(t.pg i).kids.length)(hn:(ids t (h+1) i).Nodup):(ids t h (t.pg i).kids[j]).Nodup∧i∉ids t h (t.pg i).kids[j]∧(∀x∈(t.pg i).kids.take j++(t.pg i).kids.drop (j+1),(∀y∈ids t h x,y∉ids t h (t.pg i).kids[j])∧i∉ids t h x) ∧
  (((t.pg i).kids.take j).flatMap (ids t h)++((t.pg i).kids.drop (j+1)).flatMap (ids t h)).Nodup∧i∉((t.pg i).kids.take j).flatMap (ids t h)++((t.pg i).kids.drop (j+1)).flatMap (ids t h):=by
 rw[ids,nodup_cons] at hn;obtain⟨h0,hn⟩:=hn;have hs:=uO hj;rw[hs,flatMap_append,flatMap_cons] at hn h0;simp only[mem_append,not_or] at h0;rw[nodup_append] at hn;obtain⟨n1,n2,n3⟩:=hn;rw[nodup_append] at n2;obtain⟨n4,n5,n6⟩:=n2;refine⟨n4,h0.2.1,fun x hx=>?_,?_,?_⟩
 ·rcases mem_append.1 hx with hx|hx
  ·exact⟨fun y hy hc=>n3 y (mem_flatMap.2 ⟨x,hx,hy⟩) y (mem_append_left _ hc) rfl,fun hi=>h0.1 (mem_flatMap.2 ⟨x,hx,hi⟩)⟩
  exact⟨fun y hy hc=>n6 y hc y (mem_flatMap.2 ⟨x,hx,hy⟩) rfl,fun hi=>h0.2.2 (mem_flatMap.2 ⟨x,hx,hi⟩)⟩
 ·rw[nodup_append];exact⟨n1,n5,fun a ha b hb=>n3 a ha b (mem_append_right _ hb)⟩
 simp only[mem_append,not_or];exact⟨h0.1,h0.2.2⟩
theorem IQ{f g:Int→List α}{c aC:Int}(hA:∀x∈A,f x=g x)(E:∀x∈B,f x=g x):(A++c::aC::B).flatMap f=A.flatMap g++(f c++f aC)++B.flatMap g:=by
 rw[flatMap_append,flatMap_cons,flatMap_cons,qW hA,qW E];simp
theorem Jl{f g:Int→List α}{c:Int}(hA:∀x∈A,f x=g x)(E:∀x∈B,f x=g x):(A++c::B).flatMap f=A.flatMap g++f c++B.flatMap g:=by
 rw[flatMap_append,flatMap_cons,qW hA,qW E];simp

structure jC (t u:aG) (h:Nat) (i:Int) (low high:K) (j:Nat) (k:K) (row:Int) (r:Option (K×Int)):Prop where
 hp:∀p∈t.ag,eG p t.ag.length
 ok:dY t (h+1) i low high
 nd:(ids t (h+1) i).Nodup
 hj:j<(t.pg i).kids.length
 hk:lJ (iu low (t.pg i) j) (gY (t.pg i) j) k
 ins:oH t u h ((t.pg i).kids.getD j 0) (iu low (t.pg i) j) (gY (t.pg i) j) k row r
section
variable {u:aG} {h:Nat} {i:Int} {low high:K} {j:Nat} {k:K} {row:Int} {r:Option (K×Int)}
theorem jC.aC(m:jC t u h i low high j k row r):(t.pg i).kids.getD j 0=(t.pg i).kids[j]'m.hj:=tG m.hj
theorem jC.same(m:jC t u h i low high j k row r):u.pg i=t.pg i:=by
 have:=(wj m.hj m.nd).2.1;exact m.ins.out i m.ok.idx.1 m.ok.idx.2 (by rw[m.aC];exact this)
structure og (u v:aG) (i:Int):Prop where
 le:u.ag.length≤v.ag.length
 pg:∀x:Int,0≤x→x<u.ag.length→x≠i→v.pg x=u.pg x
theorem jC.others(m:jC t u h i low high j k row r)(ha:og u v i):∀x∈(t.pg i).kids.take j++(t.pg i).kids.drop (j+1),∀y∈ids t h x,v.pg y=t.pg y:=fun x hx y hy=>by
 obtain⟨h1,h2⟩:=(wj m.hj m.nd).2.2.1 x hx;have I:y≠i:=fun e=>h2 (e ▸ hy);have E:0≤y∧y<t.ag.length:=by
  have hm:y∈ids t (h+1) i:=by
   rw[ids];refine mem_cons_of_mem _ (mem_flatMap.2 ⟨x,?_,hy⟩);rcases mem_append.1 hx with hx|hx
   ·exact mem_of_mem_take hx
   exact mem_of_mem_drop hx
  exact m.ok.ids y hm
 have O:=m.ins.le;rw[ha.pg y E.1 w4 I,m.ins.out y E.1 E.2 (by rw[m.aC];exact h1 y hy)]
theorem jC.below(m:jC t u h i low high j k row r)(ha:og u v i):∀y∈nP u h ((t.pg i).kids[j]'m.hj) r,0≤y→y<u.ag.length→v.pg y=u.pg y:=fun y hy h0 hl=>by
 refine ha.pg y h0 hl fun e=>?_;have hs:=m.ins.sub y (by rw[m.aC];exact hy);rw[m.aC] at hs;rcases hs with hs|hs
 ·exact(wj m.hj m.nd).2.1 (e ▸ hs)
 have:=m.ok.idx;omega
theorem jC.qw(m:jC t u h i low high j k row r)(ha:og u v i){x:Int}(hx:x∈(t.pg i).kids.take j++(t.pg i).kids.drop (j+1)):ids v h x=ids t h x∧eu v h x=eu t h x∧∀d,d≤h→cG v d x=cG t d x:=frame h x (m.others ha x hx)
theorem jC.TR(m:jC t u h i low high j k row r)(ha:og u v i){x:Int}(hx:x∈(t.pg i).kids.take j++(t.pg i).kids.drop (j+1)){lo hi:K}(aQ:dY t h x lo hi):dY v h x lo hi:=by
 have:=m.ins.le;have:=ha.le;exact aQ.frame w4 (m.others ha x hx)
theorem jC.RQ(m:jC t u h i low high j k row r):(((t.pg i).kids.take j).flatMap (ids t h)++nP u h ((t.pg i).kids[j]'m.hj) r++((t.pg i).kids.drop (j+1)).flatMap (ids t h)).Nodup∧i∉((t.pg i).kids.take j).flatMap (ids t h)++nP u h ((t.pg i).kids[j]'m.hj) r++((t.pg i).kids.drop (j+1)).flatMap (ids t h):=by
 obtain⟨a1,a2,a3,a4,a5⟩:=wj m.hj m.nd;have hnd:=m.ins.nodup;have E:=m.ins.sub;rw[m.aC] at hnd E;have aa:∀x∈(t.pg i).kids.take j++(t.pg i).kids.drop (j+1),∀y∈ids t h x,y<t.ag.length:=fun x hx y hy=>by
  refine(m.ok.ids y ?_).2;rw[ids];refine mem_cons_of_mem _ (mem_flatMap.2 ⟨x,?_,hy⟩);rcases mem_append.1 hx with hx|hx
  ·exact mem_of_mem_take hx
  exact mem_of_mem_drop hx
 have I:∀x∈(t.pg i).kids.take j++(t.pg i).kids.drop (j+1),∀y∈ids t h x,y∉nP u h ((t.pg i).kids[j]'m.hj) r:=fun x hx y hy hm=>by
  rcases E y hm with hs|hs
  ·exact(a3 x hx).1 y hy hs
  have:=aa x hx y hy;omega
 have O:i∉nP u h ((t.pg i).kids[j]'m.hj) r:=fun hm=>by
  rcases E i hm with hs|hs
  ·exact a2 hs
  have:=m.ok.idx;omega
 rw[nodup_append] at a4;obtain⟨b1,b2,b3⟩:=a4;refine⟨?_,?_⟩
 ·rw[nodup_append,nodup_append];refine⟨⟨b1,hnd,fun a ha b hb e=>?_⟩,b2,fun a ha b hb e=>?_⟩
  ·obtain⟨x,hx,ha⟩:=mem_flatMap.1 ha;subst e;exact I x (mem_append_left _ hx) a ha hb
  obtain⟨x,hx,jx⟩:=mem_flatMap.1 hb;subst e;rcases mem_append.1 ha with ha|ha
  ·exact b3 a ha a hb rfl
  exact I x (mem_append_right _ hx) a jx ha
 simp only[mem_append,not_or] at a5 ⊢;exact⟨⟨a5.1,O⟩,a5.2⟩
theorem jC.UW(m:jC t u h i low high j k row r):(((t.pg i).kids.take j).flatMap (ids t h)++nP u h ((t.pg i).kids[j]'m.hj) r++((t.pg i).kids.drop (j+1)).flatMap (ids t h)).length+1+t.ag.length=(ids t (h+1) i).length+u.ag.length:=by
 have hc:=m.ins.YM;rw[m.aC] at hc;have e:(ids t (h+1) i).length=1+((((t.pg i).kids.take j).flatMap (ids t h)).length+((ids t h ((t.pg i).kids[j]'m.hj)).length+(((t.pg i).kids.drop (j+1)).flatMap (ids t h)).length)):=by
  rw[ids];conv=>lhs;rw[uO m.hj]
  rw[length_cons,flatMap_append,flatMap_cons,length_append,length_append];omega
 rw[e,length_append,length_append];omega
theorem jC.UB(m:jC t u h i low high j k row r):∀x∈((t.pg i).kids.take j).flatMap (ids t h)++nP u h ((t.pg i).kids[j]'m.hj) r++((t.pg i).kids.drop (j+1)).flatMap (ids t h),x∈ids t (h+1) i∨(t.ag.length:Int)≤x:=fun x hx=>by
 have E:=m.ins.sub;rw[m.aC] at E;have up:∀c∈(t.pg i).kids,∀y∈ids t h c,y∈ids t (h+1) i:=fun c hc y hy=>by rw[ids];exact mem_cons_of_mem _ (mem_flatMap.2 ⟨c,hc,hy⟩)
 rcases mem_append.1 hx with hx|hx
 ·rcases mem_append.1 hx with hx|hx
  ·obtain⟨c,hc,hx⟩:=mem_flatMap.1 hx;exact .inl (up c (mem_of_mem_take hc) x hx)
  rcases E x hx with hs|hs
  ·exact .inl (up _ (getElem_mem _) x hs)
  exact .inr hs
 obtain⟨c,hc,hx⟩:=mem_flatMap.1 hx;exact .inl (up c (mem_of_mem_drop hc) x hx)
theorem jC.J6(m:jC t u h i low high j k row r)(x:K×Int):x∈((t.pg i).kids.take j).flatMap (eu t h)++Gb u h ((t.pg i).kids[j]'m.hj) r++((t.pg i).kids.drop (j+1)).flatMap (eu t h)↔x=(k,row)∨x∈eu t (h+1) i:=by
 have he:=m.ins.eu x;rw[m.aC] at he;have e:eu t (h+1) i=((t.pg i).kids.take j).flatMap (eu t h)++(eu t h ((t.pg i).kids[j]'m.hj)++((t.pg i).kids.drop (j+1)).flatMap (eu t h)):=by
  rw[eu];conv=>lhs;rw[uO m.hj]
  rw[flatMap_append,flatMap_cons]
 rw[e];simp only[mem_append,he];constructor
 ·rintro((h|h|h)|h)
  ·exact .inr (.inl h)
  ·exact .inl h
  ·exact .inr (.inr (.inl h))
  exact .inr (.inr (.inr h))
 rintro(h|h|h|h)
 ·exact .inl (.inr (.inl h))
 ·exact .inl (.inl h)
 ·exact .inl (.inr (.inr h))
 exact .inr h
theorem jC.KF(m:jC t u h i low high j k row r)(ha:og u v i){d:Nat}(hd:d≤h){e:Int}(hs:ff t (cG t (d+1) i) e) :
  ff v (((t.pg i).kids.take j).flatMap (cG t d)++sJ u d ((t.pg i).kids[j]'m.hj) r++((t.pg i).kids.drop (j+1)).flatMap (cG t d)) e∧(((t.pg i).kids.take j).flatMap (cG t d)++sJ u d ((t.pg i).kids[j]'m.hj) r++((t.pg i).kids.drop (j+1)).flatMap (cG t d)).headD e=(cG t (d+1) i).headD e:=by
 have hl:cG t (d+1) i=((t.pg i).kids.take j).flatMap (cG t d)++(cG t d ((t.pg i).kids[j]'m.hj)++((t.pg i).kids.drop (j+1)).flatMap (cG t d)):=by
  rw[cG];conv=>lhs;rw[uO m.hj]
  rw[flatMap_append,flatMap_cons]
 rw[hl] at hs ⊢;rw[BG,BG] at hs;obtain⟨s1,s2,s3⟩:=hs;obtain⟨g1,g2⟩:=m.ins.pp d hd _ (by rw[m.aC];exact s2);rw[m.aC] at g1 g2;obtain⟨_,_,_,_,O⟩:=m.ok;have hne:cG t d ((t.pg i).kids[j]'m.hj)≠[]:=FM m.hp (O j m.hj) d hd;have fr:∀x∈(t.pg i).kids.take j++(t.pg i).kids.drop (j+1),∀y∈cG t d x,(v.pg y).next=(t.pg y).next:=fun x hx y hy=>by rw[m.others ha x hx y (rZ h x d hd y hy)]
 have U:∀y∈sJ u d ((t.pg i).kids[j]'m.hj) r,(v.pg y).next=(u.pg y).next:=fun y hy=>by
  have aQ:=m.ins.ok;rw[m.aC] at aQ;cases r with
  | none =>
   have hi:=rZ h _ d hd y hy;have hb:=dY.ids aQ y hi;rw[m.below ha y hi hb.1 hb.2]
  | some q =>
   obtain⟨up,aC⟩:=q;obtain⟨_,_,_,o1,o2⟩:=aQ;rcases mem_append.1 hy with hy|hy
   ·have hi:=rZ h _ d hd y hy;have hb:=o1.ids y hi;rw[m.below ha y (mem_append_left _ hi) hb.1 hb.2]
   have hi:=rZ h _ d hd y hy;have hb:=o2.ids y hi;rw[m.below ha y (mem_append_right _ hi) hb.1 hb.2]
 have E:sJ u d ((t.pg i).kids[j]'m.hj) r≠[]:=fun e0=>by
  have aQ:=m.ins.ok;rw[m.aC] at aQ;cases r with
  | none=>exact FM m.ins.fF aQ d hd e0
  | some q =>
   obtain⟨up,aC⟩:=q;exact FM m.ins.fF aQ.2.2.2.1 d hd (append_eq_nil_iff.1 e0).1
 have I:=yI (u:=v) (fun y hy=>by obtain⟨x,hx,hy⟩:=mem_flatMap.1 hy;exact fr x (mem_append_left _ hx) y hy) s1;have Z:=yI (u:=v) (fun y hy=>by obtain⟨x,hx,hy⟩:=mem_flatMap.1 hy;exact fr x (mem_append_right _ hx) y hy) s3;have g1':=yI (u:=v) U g1;have hh:∀e':Int,(sJ u d ((t.pg i).kids[j]'m.hj) r).headD e'=(cG t d ((t.pg i).kids[j]'m.hj)).headD e':=fun e'=>by
  cases h1:sJ u d ((t.pg i).kids[j]'m.hj) r with
  | nil=>exact absurd h1 E
  | cons a b =>
   cases h2:cG t d ((t.pg i).kids[j]'m.hj) with
   | nil=>exact absurd h2 hne
   | cons a' b'=>rw[h1,h2] at g2;exact g2
 rw[append_assoc];refine⟨?_,?_⟩
 ·rw[BG,BG];refine⟨?_,g1',Z⟩;rw[EK E,hh];rw[EK hne] at I;exact I
 cases hA:((t.pg i).kids.take j).flatMap (cG t d) with
 | cons a b=>rfl
 | nil=>rw[nil_append,nil_append,EK E,EK hne,hh]
end
end Go.Proofs.YtdgichenhdikgaaGreatDoor.Tr

namespace Go.Proofs.YtdgichenhdikgaaGreatDoor.Tr
open List
open Go.Proofs.Tryz
open Go.Lib (compareBytes)
variable {t u:aG} {h:Nat} {i:Int} {low high:K} {j:Nat} {k:K} {row:Int}
theorem abt{α:Type}{l:List α}{j E:Nat}(I:E<l.length)(hne:E≠j):l[E]∈l.take j++l.drop (j+1):=by
 rcases Nat.lt_or_ge E j with h|h
 ·exact mem_append_left _ (mem_iff_getElem.2 ⟨E,by rw[length_take];omega,by rw[getElem_take]⟩)
 refine mem_append_right _ (mem_iff_getElem.2 ⟨E-(j+1),by rw[length_drop];omega,?_⟩);rw[getElem_drop];congr 1;omega
theorem Jm(m:jC t u h i low high j k row none):oH t u (h+1) i low high k row none:=by
 have E:og u u i:=⟨Nat.le_refl _,fun _ _ _ _=>rfl⟩
 have I:=m.same;have AS:=m.ok.idx;obtain⟨q1,q2,q3,q4,q5⟩:=m.ok;have aQ:dY u h ((t.pg i).kids[j]'m.hj) (iu low (t.pg i) j) (gY (t.pg i) j):=(by have:=m.ins.ok;rw[m.aC] at this;exact this)
 have pR:ids u (h+1) i=i::(((t.pg i).kids.take j).flatMap (ids t h)++nP u h ((t.pg i).kids[j]'m.hj) none++((t.pg i).kids.drop (j+1)).flatMap (ids t h)):=by
  rw[ids,I];conv=>lhs;rw[uO m.hj]
  rw[Jl (fun x hx=>(m.qw E (mem_append_left _ hx)).1) (fun x hx=>(m.qw E (mem_append_right _ hx)).1)];rfl
 have O:eu u (h+1) i=((t.pg i).kids.take j).flatMap (eu t h)++Gb u h ((t.pg i).kids[j]'m.hj) none++((t.pg i).kids.drop (j+1)).flatMap (eu t h):=by
  rw[eu,I];conv=>lhs;rw[uO m.hj]
  rw[Jl (fun x hx=>(m.qw E (mem_append_left _ hx)).2.1) (fun x hx=>(m.qw E (mem_append_right _ hx)).2.1)];rfl
 have U:∀d,d≤h→cG u (d+1) i=((t.pg i).kids.take j).flatMap (cG t d)++sJ u d ((t.pg i).kids[j]'m.hj) none++((t.pg i).kids.drop (j+1)).flatMap (cG t d):=fun d hd=>by
  rw[cG,I];conv=>lhs;rw[uO m.hj]
  rw[Jl (fun x hx=>(m.qw E (mem_append_left _ hx)).2.2 d hd) (fun x hx=>(m.qw E (mem_append_right _ hx)).2.2 d hd)];rfl
 have hle:=m.ins.le;have Vs:=m.ins.more;have Z:=m.RQ;refine⟨hle,by omega,m.ins.root,m.ins.fF,fun x h0 hx hne=>?_,?_,?_,?_,?_,?_,?_⟩
 ·refine m.ins.out x h0 hx fun hm=>hne ?_;rw[m.aC] at hm;rw[ids];exact mem_cons_of_mem _ (mem_flatMap.2 ⟨_,getElem_mem _,hm⟩)
 ·refine⟨⟨AS.1,by omega⟩,by rw[I];exact q2,by rw[I];exact q3,by rw[I];exact q4,?_⟩;rw[I];intro j' jy;by_cases e:j'=j
  ·subst e;exact aQ
  exact m.TR E (abt jy e) (q5 j' jy)
 ·intro x hx;have oZ:x∈ids u (h+1) i:=hx;exact VW
 ·show(ids u (h+1) i).Nodup;rw[pR,nodup_cons];exact⟨Z.2,Z.1⟩
 ·show(ids u (h+1) i).length+_=_;rw[pR,length_cons];exact m.UW
 ·intro x;show x∈eu u (h+1) i↔_;rw[O];exact m.J6 x
 intro d hd e hs;cases d with
 | zero=>exact⟨by show(u.pg i).next=e;rw[I];exact hs,rfl⟩
 | succ d =>
  show ff u (cG u (d+1) i) e∧(cG u (d+1) i).headD e=_;rw[U d w4];exact m.KF E w4 hs
theorem jC.place{up:K}{aC:Int}(m:jC t u h i low high j k row (some (up,aC))):aL (t.pg i) up=j∧up∉(t.pg i).keys∧lJ low high up∧bB low up:=by
 obtain⟨q1,q2,q3,q4,O⟩:=m.ok;have po:=m.hp _ (jF q1);have hn:=(po.node q2).1;have aQ:=m.ins.ok;rw[m.aC] at aQ;obtain⟨o1,o2,o3,U,Z⟩:=aQ;have I:=m.hj;have eS:∀(h0:0<j),bB ((t.pg i).keys[j-1]'w4) up:=fun h0=>by rw[Fu h0 w4] at o2;exact o2
 have eB:∀(hl:j<(t.pg i).keys.length),bB up (t.pg i).keys[j]:=fun hl=>by
  rw[FL hl] at o3;exact o3 (by intro e;have:=(po.lD _ (getElem_mem hl)).1;rw[e] at this;simp at this)
 have fN:aL (t.pg i) up=j:=by
  unfold aL;rw[if_neg (by rw[q2];decide)];exact J5 po.jV w4 (fun h0=>wN (eS h0)) eB
 have E:bB low up:=by
  rcases Nat.eq_zero_or_pos j with h0|h0
  ·rw[h0] at o2;exact o2
  exact O9 (q4 _ (getElem_mem (by omega:j-1<_))) (eS h0)
 refine⟨fN,fun hm=>?_,⟨wN E,fun hne=>?_⟩,E⟩
 ·obtain⟨a,ha,e⟩:=mem_iff_getElem.1 hm;rcases Nat.lt_or_ge a j with h1|h1
  ·have h2:=eS w4;rcases Nat.lt_or_ge a (j-1) with h3|h3
   ·have:=lP (nc po.jV h3 w4) h2;rw[e] at this;exact iZ _ this
   have:a=j-1:=(by omega)
   subst this;rw[e] at h2;exact iZ _ h2
  have h2:=eB w4;rcases Nat.lt_or_ge j a with h3|h3
  ·have:=lP h2 (nc po.jV h3 ha);rw[e] at this;exact iZ _ this
  have:a=j:=(by omega)
  subst this;rw[e] at h2;exact iZ _ h2
 by_cases hl:j<(t.pg i).keys.length
 ·exact lP (eB hl) (by rw[←q3];exact po.qA (by rw[q3];exact hne) _ (getElem_mem hl))
 rw[J3 w4,q3] at o3;exact o3 hne
theorem ada{up:K}{aC:Int}(m:jC t u h i low high j k row (some (up,aC))):oH t (rq u i up aC).1 (h+1) i low high k row (rq u i up aC).2:=by
 obtain⟨p1,p2,p3,p4⟩:=m.place;have es:=m.same;have AS:=m.ok.idx;have aQ:=m.ins.ok;rw[m.aC] at aQ;obtain⟨o1,o2,o3,o4,o5⟩:=aQ;obtain⟨q1,q2,q3,q4,q5⟩:=m.ok;have hle:=m.ins.le;have Vs:=m.ins.more;have U:0≤i∧i<u.ag.length:=⟨AS.1,by omega⟩
 have YN:=m.hp _ (jF q1);have po:eG (t.pg i) u.ag.length:=YN.more w4;have hn:=(po.node q2).1;have l9:=m.hj;have hf:wP (bC (t.pg i) up aC) u.ag.length:=Ji po p2 o1 (by rw[q3];exact p3.2) o5.idx.1 (fun _=>o5.idx.2);have I:(bC (t.pg i) up aC).kids=(t.pg i).kids.take j++((t.pg i).kids[j]'m.hj)::aC::(t.pg i).kids.drop (j+1):=by
  show gP _ (if (t.pg i).leaf=true then _ else _) aC=_;rw[if_neg (by rw[q2];decide),p1];exact Pb m.hj aC
 have ahM:(bC (t.pg i) up aC).keys=gP (t.pg i).keys j up:=by
  show gP _ _ _=_;rw[p1]
 have Z:∀x∈(bC (t.pg i) up aC).keys,¬bB x low:=fun x hx=>by
  rcases uK.1 hx with rfl|h
  ·exact p3.1
  exact q4 x h
 have hKT:jn t h low (t.pg i).kids (t.pg i).keys high:=(BF YN).1 m.ok |>.2.2.2.2
 -- what is below,in any tree aqg aoT
 have below:∀{v:aG},og u v i→(∀x,x∈ids u h ((t.pg i).kids[j]'m.hj)++ids u h aC→v.pg x=u.pg x):=fun E x hx=>by
  refine m.below E x hx ?_ ?_
  ·rcases mem_append.1 hx with hx|hx
   ·exact(o4.ids x hx).1
   exact(o5.ids x hx).1
  rcases mem_append.1 hx with hx|hx
  ·exact(o4.ids x hx).2
  exact(o5.ids x hx).2
 have Oa:∀{v:aG},og u v i→_:=fun {v} E=>frame (t:=u) (u:=v) h ((t.pg i).kids[j]'m.hj) (fun x hx=>below E x (mem_append_left _ hx));have Ob:∀{v:aG},og u v i→_:=fun {v} E=>frame (t:=u) (u:=v) h aC (fun x hx=>below E x (mem_append_right _ hx));have YO:∀{v:aG},og u v i→jn v h low (bC (t.pg i) up aC).kids (bC (t.pg i) up aC).keys high:=fun {v} E=>by
  have e1:(bC (t.pg i) up aC).kids=gP (t.pg i).kids (j+1) aC:=(by rw[I];exact(Pb m.hj aC).symm)
  rw[e1,ahM];refine RO j m.hj hKT (fun c hc lo hi aQ=>m.TR E ?_ aQ) ?_ ?_
  ·rcases ZY hc with hc|hc
   ·exact mem_append_left _ hc
   exact mem_append_right _ hc
  ·have:=o4.frame E.le (fun x hx=>below E x (mem_append_left _ hx));unfold iu at this;exact this
  have:=o5.frame E.le (fun x hx=>below E x (mem_append_right _ hx));unfold gY at this;rw[q3] at this;exact this
 have Ww:∀{v:aG},og u v i→(bC (t.pg i) up aC).kids.flatMap (ids v h)=((t.pg i).kids.take j).flatMap (ids t h)++nP u h ((t.pg i).kids[j]'m.hj) (some (up,aC))++((t.pg i).kids.drop (j+1)).flatMap (ids t h):=fun {v} E=>by
  rw[I,IQ (fun x hx=>(m.qw E (mem_append_left _ hx)).1) (fun x hx=>(m.qw E (mem_append_right _ hx)).1),(Oa E).1,(Ob E).1];rfl
 have Vt:∀{v:aG},og u v i→(bC (t.pg i) up aC).kids.flatMap (eu v h)=((t.pg i).kids.take j).flatMap (eu t h)++Gb u h ((t.pg i).kids[j]'m.hj) (some (up,aC))++((t.pg i).kids.drop (j+1)).flatMap (eu t h):=fun {v} E=>by
  rw[I,IQ (fun x hx=>(m.qw E (mem_append_left _ hx)).2.1) (fun x hx=>(m.qw E (mem_append_right _ hx)).2.1),(Oa E).2.1,(Ob E).2.1];rfl
 have Wx:∀{v:aG},og u v i→∀d,d≤h→(bC (t.pg i) up aC).kids.flatMap (cG v d)=((t.pg i).kids.take j).flatMap (cG t d)++sJ u d ((t.pg i).kids[j]'m.hj) (some (up,aC))++((t.pg i).kids.drop (j+1)).flatMap (cG t d):=fun {v} E d hd=>by
  rw[I,IQ (fun x hx=>(m.qw E (mem_append_left _ hx)).2.2 d hd) (fun x hx=>(m.qw E (mem_append_right _ hx)).2.2 d hd),(Oa E).2.2 d hd,(Ob E).2.2 d hd];rfl
 have vR:=m.RQ;have Cz:=m.UW;have Wy:∀x:Int,0≤x→x<t.ag.length→x∉ids t (h+1) i→u.pg x=t.pg x∧x≠i:=fun x h0 hx hne=>by
  refine⟨m.ins.out x h0 hx fun hm=>hne ?_,fun e=>hne (by rw[e];exact tu _ _)⟩;rw[m.aC] at hm;rw[ids];exact mem_cons_of_mem _ (mem_flatMap.2 ⟨_,getElem_mem _,hm⟩)
 by_cases h4:(bC (u.pg i) up aC).keys.length≤4
 ·rw[Jk h4];rw[es] at h4 ⊢;have ep:=Bu U (bC (t.pg i) up aC);have E:og u (u.set i (bC (t.pg i) up aC)) i:=⟨by rw[oc];omega,fun x h0 hx hne=>wi U.1 h0 (Ne.symm hne) _⟩
  have pR:ids (u.set i (bC (t.pg i) up aC)) (h+1) i=i::(((t.pg i).kids.take j).flatMap (ids t h)++nP u h ((t.pg i).kids[j]'m.hj) (some (up,aC))++((t.pg i).kids.drop (j+1)).flatMap (ids t h)):=(by rw[ids,ep,Ww E])
  refine⟨by rw[oc];omega,by rw[oc];omega,m.ins.root,by rw[oc];exact IN m.ins.fF (hf.ok h4),fun x h0 hx hne=>?_,?_,fun x hx=>?_,?_,?_,fun x=>?_,fun d hd e hs=>?_⟩
  ·obtain⟨e1,e2⟩:=Wy x h0 hx hne;rw[E.pg x h0 w4 e2,e1]
  ·show dY _ (h+1) i low high;refine(BF (n:=u.ag.length) (by rw[ep];exact hf.ok h4)).2 ?_;rw[ep];exact⟨by rw[oc];exact U,q2,q3,Z,YO E⟩
  ·have oZ:x∈ids (u.set i (bC (t.pg i) up aC)) (h+1) i:=hx;exact VW
  ·show(ids _ (h+1) i).Nodup;rw[pR,nodup_cons];exact⟨vR.2,vR.1⟩
  ·show(ids _ (h+1) i).length+_=_;rw[pR,length_cons,oc];exact Cz
  ·show x∈eu _ (h+1) i↔_;rw[eu,ep,Vt E];exact m.J6 x
  cases d with
  | zero=>exact⟨by show((u.set i _).pg i).next=e;rw[ep];exact hs,rfl⟩
  | succ d =>
   show ff _ (cG _ (d+1) i) e∧(cG _ (d+1) i).headD e=_;rw[cG,ep,Wx E d w4];exact m.KF E w4 hs
 have h5:(bC (t.pg i) up aC).keys.length=5:=(by rw[es] at h4;have:=hf.eJ;omega)
 rw[IP h4];rw[es] at h4 ⊢;have DE:(bC (t.pg i) up aC).leaf=false:=q2;have ea:=Qj U (bq (bC (t.pg i) up aC) u.ag.length) (bz (bC (t.pg i) up aC));have eb:=RP u i (bq (bC (t.pg i) up aC) u.ag.length) (bz (bC (t.pg i) up aC));have E:og u (jo u i (bq (bC (t.pg i) up aC) u.ag.length) (bz (bC (t.pg i) up aC))) i:=⟨by rw[pC];omega,fun x h0 hx hne=>Px U.1 ⟨h0,hx⟩ (Ne.symm hne) _ _⟩
 obtain⟨u1,u2⟩:=TQ hf.jV h5 Z;have DD:jj (bC (t.pg i) up aC)∈(bC (t.pg i) up aC).keys:=(by rw[zc h5];exact getElem_mem _)
 have eS:=UU hf h5 w4;have eB:=TP (m:=u.ag.length+1) hf h5 w4;have AJ:=Pw 2 w4 (YO E);rw[←zc h5] at AJ;have HJ:(bq (bC (t.pg i) up aC) u.ag.length).kids=(bC (t.pg i) up aC).kids.take 3:=by
  show(bC (t.pg i) up aC).kids.take (if _ then _ else _)=_;rw[if_neg (by rw[DE];decide)]
 have HK:(bz (bC (t.pg i) up aC)).kids=(bC (t.pg i) up aC).kids.drop 3:=by
  show(bC (t.pg i) up aC).kids.drop (if _ then _ else _)=_;rw[if_neg (by rw[DE];decide)]
 have ehy:(bz (bC (t.pg i) up aC)).keys=(bC (t.pg i) up aC).keys.drop 3:=by
  show(bC (t.pg i) up aC).keys.drop (if _ then _ else _)=_;rw[if_neg (by rw[DE];decide)]
 have O:∀{α:Type} (f:Int→List α),((bC (t.pg i) up aC).kids.take 3).flatMap f++((bC (t.pg i) up aC).kids.drop 3).flatMap f=(bC (t.pg i) up aC).kids.flatMap f:=fun f=>by rw[←flatMap_append,take_append_drop]
 have pR:nP (jo u i (bq (bC (t.pg i) up aC) u.ag.length) (bz (bC (t.pg i) up aC))) (h+1) i (some (jj (bC (t.pg i) up aC),(u.ag.length:Int)))=(i::((bC (t.pg i) up aC).kids.take 3).flatMap (ids (jo u i (bq (bC (t.pg i) up aC) u.ag.length) (bz (bC (t.pg i) up aC))) h))++((u.ag.length:Int)::((bC (t.pg i) up aC).kids.drop 3).flatMap (ids (jo u i (bq (bC (t.pg i) up aC) u.ag.length) (bz (bC (t.pg i) up aC))) h)):=by
  show ids _ (h+1) i++ids _ (h+1) _=_;rw[ids,ids,ea,eb,HJ,HK]
 have pid:=(O (ids (jo u i (bq (bC (t.pg i) up aC) u.ag.length) (bz (bC (t.pg i) up aC))) h)).trans (Ww E);have aj5:∀x∈((t.pg i).kids.take j).flatMap (ids t h)++nP u h ((t.pg i).kids[j]'m.hj) (some (up,aC))++((t.pg i).kids.drop (j+1)).flatMap (ids t h),x<u.ag.length:=fun x hx=>by
  rcases mem_append.1 hx with hx|hx
  ·rcases mem_append.1 hx with hx|hx
   ·obtain⟨c,hc,hx⟩:=mem_flatMap.1 hx;obtain⟨a,ha,rfl⟩:=mem_iff_getElem.1 (mem_of_mem_take hc);have:=(q5 a ha).ids x hx;omega
   rcases mem_append.1 hx with hx|hx
   ·exact(o4.ids x hx).2
   exact(o5.ids x hx).2
  obtain⟨c,hc,hx⟩:=mem_flatMap.1 hx;obtain⟨a,ha,rfl⟩:=mem_iff_getElem.1 (mem_of_mem_drop hc);have:=(q5 a ha).ids x hx;omega
 refine⟨by rw[pC];omega,by rw[pC];omega,m.ins.root,?_,fun x h0 hx hne=>?_,⟨hf.lD _ DD,u1,fun hne=>?_,?_,?_⟩,fun x hx=>?_,?_,?_,fun x=>?_,fun d hd e hs=>?_⟩
 ·rw[pC];exact Py m.ins.fF w4 eS eB
 ·obtain⟨e1,e2⟩:=Wy x h0 hx hne;rw[E.pg x h0 w4 e2,e1]
 ·have:=hf.qA (by show(t.pg i).high≠[];rw[q3];exact hne) _ DD;rw[←q3];exact this
 ·refine(BF (n:=(u.ag.length:Int)+1) (by rw[ea];exact eS)).2 ?_;rw[ea,HJ];exact⟨by rw[pC];omega,DE,rfl,fun x hx=>Z x (mem_of_mem_take hx),AJ.1⟩
 ·refine(BF (n:=(u.ag.length:Int)+1) (by rw[eb];exact eB)).2 ?_;rw[eb,HK,ehy];refine⟨by rw[pC];omega,DE,q3,fun x hx=>u2 x ?_,AJ.2⟩;rw[show 3=2+1 from rfl,←drop_drop] at hx;exact mem_of_mem_drop hx
 ·rw[pR] at hx;have fh:x=i∨x=(u.ag.length:Int)∨x∈((bC (t.pg i) up aC).kids.take 3).flatMap (ids (jo u i (bq (bC (t.pg i) up aC) u.ag.length) (bz (bC (t.pg i) up aC))) h)++((bC (t.pg i) up aC).kids.drop 3).flatMap (ids (jo u i (bq (bC (t.pg i) up aC) u.ag.length) (bz (bC (t.pg i) up aC))) h):=by
   rcases mem_append.1 hx with hx|hx
   ·rcases mem_cons.1 hx with h|h
    ·exact .inl h
    exact .inr (.inr (mem_append_left _ h))
   rcases mem_cons.1 hx with h|h
   ·exact .inr (.inl h)
   exact .inr (.inr (mem_append_right _ h))
  rw[pid] at fh;rcases fh with rfl|rfl|hx
  ·exact .inl (tu _ _)
  ·exact .inr w4
  exact m.UB x hx
 ·rw[pR];have hnd:=vR.1;rw[←pid,nodup_append] at hnd;have qa:=vR.2;rw[←pid] at qa;simp only[mem_append,not_or] at qa;have j8:∀x∈((bC (t.pg i) up aC).kids.take 3).flatMap (ids (jo u i (bq (bC (t.pg i) up aC) u.ag.length) (bz (bC (t.pg i) up aC))) h)++((bC (t.pg i) up aC).kids.drop 3).flatMap (ids (jo u i (bq (bC (t.pg i) up aC) u.ag.length) (bz (bC (t.pg i) up aC))) h),x<u.ag.length:=fun x hx=>aj5 x (by rw[←pid];exact hx);rw[nodup_append,nodup_cons,nodup_cons];refine⟨⟨qa.1,hnd.1⟩,⟨fun hm=>?_,hnd.2.1⟩,fun a ha b hb e=>?_⟩
  ·have:=j8 _ (mem_append_right _ hm);omega
  subst e;rcases mem_cons.1 ha with rfl|ha
  ·rcases mem_cons.1 hb with hb|hb
   ·omega
   exact qa.2 hb
  rcases mem_cons.1 hb with rfl|hb
  ·have:=j8 _ (mem_append_left _ ha);omega
  exact hnd.2.2 a ha a hb rfl
 ·rw[pR,pC];have:=congrArg length pid;rw[length_append] at this;rw[length_append,length_cons,length_cons];omega
 ·show x∈eu _ (h+1) i++eu _ (h+1) _↔_;rw[eu,eu,ea,eb,HJ,HK,O,Vt E];exact m.J6 x
 cases d with
 | zero =>
  refine⟨?_,rfl⟩;show((jo u i _ _).pg i).next=_∧((jo u i _ _).pg _).next=e;rw[ea,eb];exact⟨rfl,hs⟩
 | succ d =>
  show ff _ (cG _ (d+1) i++cG _ (d+1) _) e∧(cG _ (d+1) i++cG _ (d+1) _).headD e=_;rw[cG,cG,ea,eb,HJ,HK,O,Wx E d w4];exact m.KF E w4 hs
theorem FN:∀{h:Nat} {t:aG} (hp:∀p∈t.ag,eG p t.ag.length) {i:Int} {low high:K} (ok:dY t h i low high) (nd:(ids t h i).Nodup) {k:K} {row:Int} (hk:lJ low high k) (hn:∀x∈eu t h i,x.1≠k) (hl:1≤k.length∧k.length≤100) (hr:0≤row),oH t (e9 t k row h i).1 h i low high k row (e9 t k row h i).2
 | 0,t,hp,i,low,high,ok,nd,k,row,hk,hn,hl,hr=>ac9 hp ok hk hn hl hr
 | h+1,t,hp,i,low,high,ok,nd,k,row,hk,hn,hl,hr=>by
  obtain⟨q1,q2,q3,q4,O⟩:=id ok;have po:=hp _ (jF q1);obtain⟨d1,d2⟩:=down po q2 q3 hk;have E:=(wj d1 nd).1;have I:=FN (h:=h) hp (O _ d1) E d2 (fun x hx=>hn x MZ) hl hr;rw[←tG d1] at I;rw[e9];generalize e9 t k row h ((t.pg i).kids.getD (aL (t.pg i) k) 0)=R at I;obtain⟨u,r⟩:=R;have m:jC t u h i low high (aL (t.pg i) k) k row r:=⟨hp,ok,nd,d1,d2,I⟩
  cases r with
  | none=>exact Jm m
  | some q=>obtain⟨up,aC⟩:=q;exact ada m

end Go.Proofs.YtdgichenhdikgaaGreatDoor.Tr
namespace Go.Proofs.YtdgichenhdikgaaGreatDoor.Tr
open List
open Go.Proofs.Tryz
open Go.Lib (compareBytes)
variable {t:aG} {h:Nat} {k:K} {row:Int}
variable {p:da}
def kZ(t:aG)(h:Nat):List (K×Int):=eu t h t.root
def gp(t:aG)(h:Nat)(k:K)(row:Int):aG:=ahL (e9 t k row h t.root)
def ja(u:aG)(up:K)(aC:Int):aG:=⟨u.ag++[⟨false,[up],[u.root,aC],[],-1⟩],u.ag.length⟩
theorem tH(u:aG)(up:K)(aC:Int):(ja u up aC).ag.length=u.ag.length+1:=by simp[ja]
theorem adb(u:aG)(up:K)(aC:Int):(ja u up aC).pg u.ag.length=⟨false,[up],[u.root,aC],[],-1⟩:=by
 unfold aG.pg ja;rw[getD_eq_getElem?_getD,getElem?_append_right w4];simp
theorem ade{u:aG}{x:Int}(hx:0≤x∧x<u.ag.length)(up:K)(aC:Int):(ja u up aC).pg x=u.pg x:=by
 unfold aG.pg ja;rw[getD_eq_getElem?_getD,getD_eq_getElem?_getD,getElem?_append_left w4]
theorem Valid.range(v:Valid t h):0≤t.root∧t.root<t.ag.length:=v.ok.idx
theorem RS(hp:∀p∈t.ag,eG p t.ag.length):∀{h:Nat} {i:Int} {low high:K},dY t h i low high→h+1≤(ids t h i).length
 | 0,_,_,_,_=>by simp[ids]
 | h+1,i,low,high,⟨q1,q2,q3,q4,E⟩=>by
  have po:=hp _ (jF q1);have hn:=(po.node q2).1;have h0:0<(t.pg i).kids.length:=(by omega)
  have:=RS hp (E 0 h0);rw[ids,length_cons,uO h0,flatMap_append,flatMap_cons,length_append,length_append];omega
theorem Valid.high(v:Valid t h):h<t.ag.length:=by
 have:=RS v.fF v.ok;rw[v.all] at this;omega
theorem abu(v:Valid t h)(hn:∀x∈kZ t h,x.1≠k)(hl:1≤k.length∧k.length≤100)(hr:0≤row)(hm:t.ag.length+(h+2)≤4000) :
  ∃h',(h≤h'∧h'≤h+1)∧Valid (gp t h k row) h'∧(t.ag.length≤(gp t h k row).ag.length∧(gp t h k row).ag.length≤t.ag.length+(h+2))∧∀x,x∈kZ (gp t h k row) h'↔x=(k,row)∨x∈kZ t h:=by
 have I:=FN v.fF v.ok v.zS (tO k) hn hl hr;unfold gp;generalize e9 t k row h t.root=R at I;obtain⟨u,r⟩:=R;have hle:t.ag.length≤u.ag.length:=I.le;have Vs:u.ag.length≤t.ag.length+(h+1):=I.more;have O:(nP u h t.root r).length+t.ag.length=(ids t h t.root).length+u.ag.length:=I.YM;rw[v.all] at O;have aqh:=v.pos;have E:u.root=t.root:=I.root;cases r with
 | none =>
  refine⟨h,⟨Nat.le_refl _,by omega⟩,⟨by show 1≤u.ag.length;omega,by show u.ag.length≤4000;omega,I.fF,?_,?_,?_,fun d hd=>?_⟩,⟨hle,by show u.ag.length≤_;omega⟩,fun x=>?_⟩
  ·show dY u h u.root [] [];rw[E];exact I.ok
  ·show(ids u h u.root).Nodup;rw[E];exact I.nodup
  ·show(ids u h u.root).length=u.ag.length;rw[E];have:(ids u h t.root).length+t.ag.length=t.ag.length+u.ag.length:=O;omega
  ·show ff u (cG u d u.root) (-1);rw[E];exact(I.pp d hd (-1) (v.pp d hd)).1
  show x∈eu u h u.root↔_;rw[E];exact I.eu x
 | some q =>
  obtain⟨up,aC⟩:=q;obtain⟨o1,o2,o3,o4,o5⟩:(1≤up.length∧up.length≤100)∧bB [] up∧(([]:K)≠[]→bB up [])∧dY u h t.root [] up∧dY u h aC up []:=I.ok;have ho:∀x∈ids u h t.root++ids u h aC,(ja u up aC).pg x=u.pg x:=fun x hx=>by
   refine ade ?_ up aC;rcases mem_append.1 hx with hx|hx
   ·exact o4.ids x hx
   exact o5.ids x hx
  have f1:=frame (t:=u) (u:=ja u up aC) h t.root (fun x hx=>ho x (mem_append_left _ hx));have f2:=frame (t:=u) (u:=ja u up aC) h aC (fun x hx=>ho x (mem_append_right _ hx));have g1:dY (ja u up aC) h t.root [] up:=o4.frame (by rw[tH];omega) (fun x hx=>ho x (mem_append_left _ hx));have g2:dY (ja u up aC) h aC up []:=o5.frame (by rw[tH];omega) (fun x hx=>ho x (mem_append_right _ hx));have U:=adb u up aC;rw[E] at U;have hnd:=I.nodup;have pR:ids (ja u up aC) (h+1) u.ag.length=(u.ag.length:Int)::(ids u h t.root++ids u h aC):=by
   rw[ids,U];show _::([t.root,aC].flatMap (ids (ja u up aC) h))=_;rw[flatMap_cons,flatMap_cons,flatMap_nil,append_nil,f1.1,f2.1]
  have Z:eG (⟨false,[up],[t.root,aC],[],-1⟩:da) (u.ag.length+1:Nat):=by
   have i1:=o4.idx;have i2:=o5.idx;refine⟨by simp,by simp,by simp,by simp;omega,by simp,(fun h=>by cases h),fun _=>⟨rfl,by simp⟩,fun x hx=>?_,fun h=>absurd rfl h,by simp,fun x hx=>?_,fun _ x hx=>?_⟩
   ·have:x=up:=(by simpa using hx)
    subst this;exact o1
   ·have:x=t.root∨x=aC:=(by simpa using hx)
    rcases this with rfl|rfl
    ·exact i1.1
    exact i2.1
   have:x=t.root∨x=aC:=(by simpa using hx)
   rcases this with rfl|rfl<;>omega
  refine⟨h+1,⟨by omega,by omega⟩,⟨?_,?_,?_,?_,?_,?_,fun d hd=>?_⟩,⟨?_,?_⟩,fun x=>?_⟩
  ·show 1≤(ja u up aC).ag.length;rw[tH];omega
  ·show(ja u up aC).ag.length≤4000;rw[tH];omega
  ·show ∀p∈(ja u up aC).ag,eG p (ja u up aC).ag.length;rw[tH];intro p hp;rcases mem_append.1 hp with hp|hp
   ·have Av:eG p u.ag.length:=I.fF p hp;exact Av.more w4
   rw[mem_singleton] at hp;subst hp;rw[E];exact Z
  ·show dY (ja u up aC) (h+1) u.ag.length [] [];refine(BF (n:=(u.ag.length+1:Nat)) (by rw[U];exact Z)).2 ?_;rw[U];refine⟨by rw[tH];omega,rfl,rfl,fun x _=>KD x,?_⟩;rw[qm,Bv];exact⟨g1,g2⟩
  ·show(ids (ja u up aC) (h+1) u.ag.length).Nodup;rw[pR,nodup_cons];refine⟨fun hm=>?_,hnd⟩;rcases mem_append.1 hm with hm|hm
   ·have:=o4.ids _ hm;omega
   have:=o5.ids _ hm;omega
  ·show(ids (ja u up aC) (h+1) u.ag.length).length=(ja u up aC).ag.length;rw[pR,tH,length_cons];have:(ids u h t.root++ids u h aC).length+t.ag.length=t.ag.length+u.ag.length:=O;omega
  ·show ff (ja u up aC) (cG (ja u up aC) d u.ag.length) (-1);cases d with
   | zero=>show((ja u up aC).pg u.ag.length).next = -1;rw[U]
   | succ d =>
    rw[cG,U];show ff _ ([t.root,aC].flatMap (cG (ja u up aC) d)) (-1);rw[flatMap_cons,flatMap_cons,flatMap_nil,append_nil,f1.2.2 d w4,f2.2.2 d w4];refine yI (fun x hx=>?_) (I.pp d w4 (-1) (v.pp d w4)).1;have oZ:x∈cG u d t.root++cG u d aC:=hx;rw[ho x ?_];rcases mem_append.1 oZ with oZ|oZ
    ·exact mem_append_left _ (rZ h _ d w4 x oZ)
    exact mem_append_right _ (rZ h _ d w4 x oZ)
  ·show t.ag.length≤(ja u up aC).ag.length;rw[tH];omega
  ·show(ja u up aC).ag.length≤_;rw[tH];omega
  show x∈eu (ja u up aC) (h+1) u.ag.length↔_;rw[eu,U];show x∈[t.root,aC].flatMap (eu (ja u up aC) h)↔_;rw[flatMap_cons,flatMap_cons,flatMap_nil,append_nil,f1.2.1,f2.2.1];exact I.eu x
theorem Qk:Valid pU 0:=by
 refine⟨by decide,by decide,fun p hp=>?_,⟨by decide,rfl,rfl,fun k hk=>by cases hk⟩,by simp[ids],rfl,fun d hd=>?_⟩
 ·have:p=⟨true,[],[],[],-1⟩:=(by simpa[pU] using hp)
  subst this;exact⟨by simp,by simp,by simp,by simp[pU],by simp,fun _=>rfl,(fun h=>by cases h),(fun k hk=>by cases hk),(fun h=>absurd rfl h),by simp,(fun n hn=>by cases hn),(fun h=>by cases h)⟩
 obtain rfl:d=0:=(by omega)
 rfl
theorem adf:kZ pU 0=[]:=rfl
theorem E3(hl:p.kids.length=p.keys.length){a:Nat}(ha:a<p.keys.length):(eY p)[a]'(by unfold eY;rw[length_zip];omega)=(p.keys[a],p.kids[a]'w4):=by unfold eY;rw[getElem_zip]
theorem Bi(hl:p.kids.length=p.keys.length){x:K×Int}:x∈eY p↔∃a,∃(ha:a<p.keys.length),x=(p.keys[a],p.kids[a]'w4):=by
 constructor
 ·intro h;obtain⟨a,ha,e⟩:=mem_iff_getElem.1 h;have E:a<p.keys.length:=(by unfold eY at ha;rw[length_zip] at ha;omega)
  exact⟨a,E,by rw[←e,E3 hl E]⟩
 rintro⟨a,ha,rfl⟩;exact mem_iff_getElem.2 ⟨a,by unfold eY;rw[length_zip];omega,E3 hl ha⟩
def BO(t:aG)(k:K)(h:Nat):Prop:=∃(ha:aL (t.pg (aJ t k h t.root)) k<(t.pg (aJ t k h t.root)).keys.length),(t.pg (aJ t k h t.root)).keys[aL (t.pg (aJ t k h t.root)) k]=k
theorem Valid.leaf(v:Valid t h)(k:K):(0≤aJ t k h t.root∧aJ t k h t.root<t.ag.length)∧(t.pg (aJ t k h t.root)).leaf=true:=by
 obtain⟨_,_,_,_,_,_,_,h3,_⟩:=Bt v.fF v.ok (tO k);exact⟨h3.1,h3.2.1⟩
theorem found(v:Valid t h)(k:K)(row:Int):(k,row)∈kZ t h↔∃(ha:aL (t.pg (aJ t k h t.root)) k<(t.pg (aJ t k h t.root)).keys.length),(t.pg (aJ t k h t.root)).keys[aL (t.pg (aJ t k h t.root)) k]=k∧(t.pg (aJ t k h t.root)).kids.getD (aL (t.pg (aJ t k h t.root)) k) 0=row:=by
 obtain⟨pre,post,lo,hi,e,h1,h2,h3,h4⟩:=Bt v.fF v.ok (tO k);have po:=v.fF _ (jF h3.1);have fL:=h3.2.1;have hlen:=po.leaf fL;unfold kZ;rw[wB,e,flatMap_append,flatMap_cons];generalize I:t.pg (aJ t k h t.root)=p at *;have fN:aL p k=gA p.keys k:=(by unfold aL;rw[if_pos fL])
 rw[fN];simp only[mem_append];constructor
 ·rintro(hx|hx|hx)
  ·obtain⟨l,hl,hx⟩:=mem_flatMap.1 hx;exact absurd (h1 l hl _ hx) (iZ k)
  ·obtain⟨a,ha,e2⟩:=(Bi hlen).1 hx;injection e2 with E O
   have:gA p.keys k=a:=by
    rcases Nat.lt_trichotomy (gA p.keys k) a with h5|h5|h5
    ·exfalso;have:=Bh (keys:=p.keys) (k:=k) w4;have h6:=nc po.jV h5 ha;rw[←E] at h6;exact this h6
    ·exact h5
    have:=(Br h5).2;rw[←E] at this;exact absurd this (iZ k)
   subst this;exact⟨ha,E.symm,by rw[getD_eq_getElem?_getD,getElem?_eq_getElem w4];exact O.symm⟩
  obtain⟨l,hl,hx⟩:=mem_flatMap.1 hx;exact absurd (h2 l hl _ hx) (iZ k)
 rintro⟨ha,e1,e2⟩;refine .inr (.inl ((Bi hlen).2 ⟨_,ha,?_⟩));rw[getD_eq_getElem?_getD,getElem?_eq_getElem w4] at e2;rw[e1];congr 1;exact e2.symm
theorem Bj(v:Valid t h)(k:K):BO t k h↔∃row,(k,row)∈kZ t h:=by
 constructor
 ·rintro⟨ha,e⟩;exact⟨_,(found v k _).2 ⟨ha,e,rfl⟩⟩
 rintro⟨row,hr⟩;obtain⟨ha,e,_⟩:=(found v k row).1 hr;exact⟨ha,e⟩
def kG(p:da)(a:Nat):da:={p with keys:=p.keys.eraseIdx a,kids:=p.kids.eraseIdx a}
def gI(t:aG)(h:Nat)(k:K):aG:=t.set (aJ t k h t.root) (kG (t.pg (aJ t k h t.root)) (aL (t.pg (aJ t k h t.root)) k))
theorem ags{n:Int}(hp:eG p n)(hl:p.leaf=true){a:Nat}(ha:a<p.keys.length):eG (kG p a) n:=by
 have hlen:=hp.leaf hl;refine⟨?_,hp.hlen,hp.xq,hp.wS,hp.xu,fun _=>?_,fun h=>?_,fun k hk=>hp.lD k ((eraseIdx_sublist _ _).subset hk),fun hne k hk=>hp.qA hne k ((eraseIdx_sublist _ _).subset hk),hp.jV.sublist (eraseIdx_sublist _ _),fun x hx=>hp.aC x ((eraseIdx_sublist _ _).subset hx),fun h=>?_⟩
 ·show(p.keys.eraseIdx a).length≤4;rw[length_eraseIdx_of_lt ha];have:=hp.eJ;omega
 ·show(p.kids.eraseIdx a).length=(p.keys.eraseIdx a).length;rw[length_eraseIdx_of_lt ha,length_eraseIdx_of_lt w4,hlen]
 ·have:p.leaf=false:=h;rw[hl] at this;cases this
 have:p.leaf=false:=h;rw[hl] at this;cases this
theorem Ql{α β:Type}:∀{a:List α} {b:List β} {n:Nat},(a.eraseIdx n).zip (b.eraseIdx n)=(a.zip b).eraseIdx n
 | [],_,n=>by simp
 | _::_,[],n=>by cases n<;>simp
 | x::a,y::b,0=>by simp
 | x::a,y::b,n+1=>by simp[Ql (a:=a) (b:=b) (n:=n)]
theorem RT{q:da}{l:Int}(hq:q.leaf=true)(U:q.high=(t.pg l).high)(hx:q.next=(t.pg l).next)(hl:0≤l∧l<t.ag.length)(fL:(t.pg l).leaf=true)(E:∀k∈q.keys,k∈(t.pg l).keys):∀{h:Nat} {i:Int} {low high:K},dY t h i low high →
  dY (t.set l q) h i low high∧ids (t.set l q) h i=ids t h i∧∀d,d≤h→cG (t.set l q) d i=cG t d i
 | 0,i,low,high,⟨q1,q2,q3,q4⟩=>by
  refine⟨?_,rfl,fun d hd=>by cases Nat.le_zero.1 hd;rfl⟩;by_cases e:l=i
  ·subst e;rw[dY,Bu hl,oc];exact⟨q1,hq,by rw[U];exact q3,fun k hk=>q4 k (E k hk)⟩
  rw[dY,wi hl.1 q1.1 e,oc];exact⟨q1,q2,q3,q4⟩
 | h+1,i,low,high,⟨q1,q2,q3,q4,Z⟩=>by
  have e:l≠i:=fun e=>by rw[e,q2] at fL;cases fL
  have I:=wi (t:=t) hl.1 q1.1 e q;have O:=fun j (hj:j<(t.pg i).kids.length)=>RT hq U hx hl fL E (Z j hj);refine⟨?_,?_,fun d hd=>?_⟩
  ·rw[dY,I,oc];exact⟨q1,q2,q3,q4,fun j hj=>(O j hj).1⟩
  ·rw[ids,ids,I];congr 1;refine qW fun c hc=>?_;obtain⟨j,hj,rfl⟩:=mem_iff_getElem.1 hc;exact(O j hj).2.1
  cases d with
  | zero=>rfl
  | succ d =>
   rw[cG,cG,I];refine qW fun c hc=>?_;obtain⟨j,hj,rfl⟩:=mem_iff_getElem.1 hc;exact(O j hj).2.2 d w4
theorem abv(v:Valid t h)(ht:BO t k h):Valid (gI t h k) h∧(gI t h k).ag.length=t.ag.length∧∀x,x∈kZ (gI t h k) h↔x∈kZ t h∧x.1≠k:=by
 obtain⟨ha,hk⟩:=ht;obtain⟨hl,fL⟩:=v.leaf k;have po:=v.fF _ (jF hl);have hq:=ags po fL ha;have hlen:=po.leaf fL;have S:=fun {i:Int} {low high:K} (ok:dY t h i low high)=>RT (t:=t) (q:=kG (t.pg (aJ t k h t.root)) (aL (t.pg (aJ t k h t.root)) k)) (l:=aJ t k h t.root) fL rfl rfl hl fL (fun k hk=>(eraseIdx_sublist _ _).subset hk) ok;obtain⟨s1,s2,s3⟩:=S v.ok;have E:(gI t h k).ag.length=t.ag.length:=oc _ _ _;refine⟨⟨by rw[E];exact v.pos,by rw[E];exact v.nO,?_,s1,?_,?_,fun d hd=>?_⟩,E,fun x=>?_⟩
 ·rw[E];exact IN v.fF hq
 ·show(ids (gI t h k) h t.root).Nodup;unfold gI;rw[s2];exact v.zS
 ·show(ids (gI t h k) h t.root).length=_;rw[E];unfold gI;rw[s2];exact v.all
 ·show ff (gI t h k) (cG (gI t h k) d t.root) (-1);unfold gI;rw[s3 d hd];refine yI (fun y hy=>?_) (v.pp d hd);have I:=v.ok.ids y (rZ h _ d hd y hy);by_cases e:aJ t k h t.root=y
  ·rw[←e,Bu hl];rfl
  rw[wi hl.1 I.1 e]
 obtain⟨pre,post,lo,hi,e,h1,h2,h3,h4⟩:=Bt v.fF v.ok (tO k);have hlv:(cG t h t.root).Nodup→aJ t k h t.root∉pre∧aJ t k h t.root∉post:=fun hn=>by
  rw[e,nodup_append,nodup_cons] at hn;exact⟨fun hm=>hn.2.2 _ hm _ (mem_cons_self) rfl,hn.2.1.1⟩
 have eS:∀y∈pre,eY ((gI t h k).pg y)=eY (t.pg y)∨y=aJ t k h t.root:=fun y hy=>by
  by_cases e':aJ t k h t.root=y
  ·exact .inr e'.symm
  left;have I:=v.ok.ids y (rZ h _ h (Nat.le_refl _) y (by rw[e];exact mem_append_left _ hy));unfold gI;rw[wi hl.1 I.1 e']
 have rI:∀y∈post,eY ((gI t h k).pg y)=eY (t.pg y)∨y=aJ t k h t.root:=fun y hy=>by
  by_cases e':aJ t k h t.root=y
  ·exact .inr e'.symm
  left;have I:=v.ok.ids y (rZ h _ h (Nat.le_refl _) y (by rw[e];exact mem_append_right _ (mem_cons_of_mem _ hy)));unfold gI;rw[wi hl.1 I.1 e']
 have Z:(k,(t.pg (aJ t k h t.root)).kids.getD (aL (t.pg (aJ t k h t.root)) k) 0)∈eY (t.pg (aJ t k h t.root)):=(Bi hlen).2 ⟨_,ha,by rw[hk,getD_eq_getElem?_getD,getElem?_eq_getElem w4];rfl⟩;have aj6:aJ t k h t.root∉pre:=fun hm=>absurd (h1 _ hm _ Z) (iZ k);have ahN:aJ t k h t.root∉post:=fun hm=>absurd (h2 _ hm _ Z) (iZ k);have ed:eY ((gI t h k).pg (aJ t k h t.root))=(eY (t.pg (aJ t k h t.root))).eraseIdx (aL (t.pg (aJ t k h t.root)) k):=by
  unfold gI;rw[Bu hl];exact Ql
 have fe:∀{A:List Int},(∀y∈A,eY ((gI t h k).pg y)=eY (t.pg y)∨y=aJ t k h t.root)→aJ t k h t.root∉A→A.flatMap (fun l=>eY ((gI t h k).pg l))=A.flatMap (fun l=>eY (t.pg l)):=fun {A} hA hn=>qW fun y hy=>(hA y hy).resolve_right fun e'=>hn (e' ▸ hy);have O:∀x:K×Int,x∈(eY (t.pg (aJ t k h t.root))).eraseIdx (aL (t.pg (aJ t k h t.root)) k)↔x∈eY (t.pg (aJ t k h t.root))∧x.1≠k:=fun x=>by
  rw[mem_eraseIdx_iff_getElem];constructor
  ·rintro⟨a,YP,hne,rfl⟩;refine⟨getElem_mem _,fun hc=>hne ?_⟩;have U:a<(t.pg (aJ t k h t.root)).keys.length:=(by unfold eY at YP;rw[length_zip] at YP;omega)
   rw[E3 hlen U] at hc;have hc:(t.pg (aJ t k h t.root)).keys[a]=k:=hc;rcases Nat.lt_trichotomy a (aL (t.pg (aJ t k h t.root)) k) with h5|h5|h5
   ·have:=nc po.jV h5 ha;rw[hc,hk] at this;exact absurd this (iZ k)
   ·exact h5
   have:=nc po.jV h5 U;rw[hc,hk] at this;exact absurd this (iZ k)
  rintro⟨hx,hne⟩;obtain⟨a,U,rfl⟩:=(Bi hlen).1 hx;refine⟨a,by unfold eY;rw[length_zip];omega,fun e'=>hne ?_,E3 hlen U⟩;subst e';exact hk
 show x∈eu (gI t h k) h t.root↔x∈eu t h t.root∧_;rw[wB,wB];have aj7:cG (gI t h k) h t.root=cG t h t.root:=s3 h (Nat.le_refl _);rw[aj7,e,flatMap_append,flatMap_cons,flatMap_append,flatMap_cons,fe eS aj6,fe rI ahN,ed];simp only[mem_append,O];constructor
 ·rintro(hx|hx|hx)
  ·refine⟨.inl hx,fun hc=>?_⟩;obtain⟨l,mc,hx⟩:=mem_flatMap.1 hx;have:=h1 l mc x hx;rw[hc] at this;exact iZ k this
  ·exact⟨.inr (.inl hx.1),hx.2⟩
  refine⟨.inr (.inr hx),fun hc=>?_⟩;obtain⟨l,mc,hx⟩:=mem_flatMap.1 hx;have:=h2 l mc x hx;rw[hc] at this;exact iZ k this
 rintro⟨hx|hx|hx,hne⟩
 ·exact .inl hx
 ·exact .inr (.inl ⟨hx,hne⟩)
 exact .inr (.inr hx)

end Go.Proofs.YtdgichenhdikgaaGreatDoor.Tr
namespace Go.Proofs.YtdgichenhdikgaaGreatDoor.Tr
open List
open Go.Proofs.Tryz
open Go.Lib (compareBytes)
def sK(lv:List (List Int))(n:Nat):List (List Int):=lv++replicate (n-lv.length) []
def kK(lv:List (List Int))(level:Nat)(i:Int):List (List Int):=(sK lv (level+1)).set level ((sK lv (level+1)).getD level []++[i])
abbrev jD:=List Int×List (List Int)
def lR(go:Int→K→K→jD→Option (Nat×jD))(low:K)(p:da):List Int→Nat→Option Nat→jD→Option (Nat×jD)
 | [],_,deep,s=>deep.map fun d=>(d,s)
 | c::cs,k,deep,s=>match go c (iu low p k) (gY p k) s with
  | none=>none
  | some (d,s')=>if deep=none∨deep=some d then lR go low p cs (k+1) (some d) s' else none
def jq(t:aG):Nat→Int→K→K→Nat→jD→Option (Nat×jD)
 | 0,_,_,_,_,_=>none
 | f+1,i,low,high,level,s =>
  if i∈s.1 then none
  else if (t.pg i).high≠high∨(∃k,(t.pg i).keys.head?=some k∧bB k low) then none
  else if (t.pg i).leaf=true then some (level,(s.1++[i],kK s.2 level i))
  else lR (fun c lo hi s=>jq t f c lo hi (level+1) s) low (t.pg i) (t.pg i).kids 0 none (s.1++[i],kK s.2 level i)
def uS(t:aG):Prop:=∀p∈t.ag,eG p t.ag.length
open Classical in
noncomputable def gD(t:aG):Int :=
 if t.ag.length<1∨t.ag.length>4000∨t.root<0∨t.root≥t.ag.length then 11
 else if ¬uS t then 11
 else match jq t (t.ag.length+1) t.root [] [] 0 ([],[]) with
  | none=>11
  | some (_,s)=>if s.1.length≠t.ag.length then 11 else if ∀l∈s.2,ff t l (-1) then 0 else 11
theorem RU(lv:List (List Int))(n:Nat):(sK lv n).length=max lv.length n:=by unfold sK;rw[length_append,length_replicate];omega
theorem J7(lv:List (List Int))(n m:Nat):(sK lv n).getD m []=lv.getD m []:=by
 unfold sK;rw[getD_eq_getElem?_getD,getD_eq_getElem?_getD];rcases Nat.lt_or_ge m lv.length with h|h
 ·rw[getElem?_append_left h]
 rw[getElem?_append_right h,getElem?_eq_none h,getElem?_replicate];split<;>rfl
theorem Jn(lv:List (List Int))(level:Nat)(i:Int):(kK lv level i).length=max lv.length (level+1):=by unfold kK;rw[length_set,RU]
theorem Fv(lv:List (List Int))(level:Nat)(i:Int)(m:Nat):(kK lv level i).getD m []=lv.getD m []++(if m=level then [i] else []):=by
 unfold kK;rw[getD_eq_getElem?_getD];by_cases e:m=level
 ·subst e;rw[getElem?_set_self (by rw[RU];omega),J7,if_pos rfl];rfl
 rw[getElem?_set_ne (fun h=>e h.symm),if_neg e,append_nil,←getD_eq_getElem?_getD,J7]
def xk(t:aG)(h level:Nat)(i:Int)(m:Nat):List Int:=if level≤m∧m≤level+h then cG t (m-level) i else []
variable {t:aG}
theorem RV {h level:Nat} {low:K} {p:da} (go:Int→K→K→jD→Option (Nat×jD))
  (O:∀(c:Int) (lo hi:K) (s:jD),dY t h c lo hi→(∀x∈ids t h c,x∉s.1)→(ids t h c).Nodup→∃lv,go c lo hi s=some (level+1+h,(s.1++ids t h c,lv))∧lv.length=max s.2.length (level+1+h+1)∧∀m,lv.getD m []=s.2.getD m []++xk t h (level+1) c m) :
  ∀(cs:List Int) (k:Nat) (deep:Option Nat) (s:jD),(∀j (hj:j<cs.length),dY t h cs[j] (iu low p (k+j)) (gY p (k+j)))→(cs.flatMap (ids t h)).Nodup→(∀x∈cs.flatMap (ids t h),x∉s.1)→(deep=none∨deep=some (level+1+h))→(cs≠[]∨deep≠none) →
   ∃lv,lR go low p cs k deep s=some (level+1+h,(s.1++cs.flatMap (ids t h),lv))∧lv.length=(if cs=[] then s.2.length else max s.2.length (level+1+h+1))∧∀m,lv.getD m []=s.2.getD m []++(if level+1≤m∧m≤level+1+h then cs.flatMap (cG t (m-(level+1))) else [])
 | [],k,deep,s,_,_,_,hd,hne=>by
  rcases hd with rfl|rfl
  ·rcases hne with h|h<;>exact absurd rfl h
  exact⟨s.2,by simp[lR],by simp,fun m=>by split<;>simp⟩
 | c::cs,k,deep,s,aQ,hnd,E,hd,_=>by
  rw[flatMap_cons] at hnd E;rw[nodup_append] at hnd;obtain⟨n1,n2,n3⟩:=hnd;obtain⟨I,e1,l1,m1⟩:=O c (iu low p k) (gY p k) s (aQ 0 bf) (fun x hx=>E x (mem_append_left _ hx)) n1;obtain⟨U,e2,l2,m2⟩:=RV go O cs (k+1) (some (level+1+h)) (s.1++ids t h c,I) (fun j hj=>by
   have:=aQ (j+1) (by simpa using hj);simp only[getElem_cons_succ] at this;rw[show k+1+j=k+(j+1) by omega];exact this) n2 (fun x hx hm=>by
    rcases mem_append.1 hm with hm|hm
    ·exact E x (mem_append_right _ hx) hm
    exact n3 x hm x hx rfl) (.inr rfl) (.inr bf)
  refine⟨U,?_,?_,fun m=>?_⟩
  ·rw[lR,e1];show(if deep=none∨deep=some (level+1+h) then _ else _)=_;rw[if_pos hd,e2,flatMap_cons,append_assoc]
  ·rw[l2];show(if cs=[] then I.length else max I.length _)=_;rw[l1,if_neg (cons_ne_nil c cs)];split<;>omega
  rw[m2,m1];unfold xk;split
  ·rw[flatMap_cons,append_assoc]
  simp
theorem UX(hp:∀p∈t.ag,eG p t.ag.length):∀{h f:Nat} {i:Int} {low high:K} {level:Nat} {s:jD},h<f→dY t h i low high→(∀x∈ids t h i,x∉s.1)→(ids t h i).Nodup →
  ∃lv,jq t f i low high level s=some (level+h,(s.1++ids t h i,lv))∧lv.length=max s.2.length (level+h+1)∧∀m,lv.getD m []=s.2.getD m []++xk t h level i m
 | h,0,_,_,_,_,_,hf,_,_,_=>by omega
 | 0,f+1,i,low,high,level,s,hf,ok,E,hnd=>by
  obtain⟨q1,q2,q3,q4⟩:=ok;refine⟨kK s.2 level i,?_,Jn _ _ _,fun m=>?_⟩
  ·rw[jq,if_neg (E i (tu 0 i)),if_neg,if_pos q2];rfl;rintro(h|⟨k,hk,aa⟩)
   ·exact h q3
   exact q4 k (mem_of_mem_head? hk) aa
  rw[Fv];unfold xk;congr 1;by_cases e:m=level
  ·subst e;rw[if_pos rfl,if_pos ⟨Nat.le_refl _,Nat.le_refl _⟩,Nat.sub_self];rfl
  rw[if_neg e,if_neg w4]
 | h+1,f+1,i,low,high,level,s,hf,ok,E,hnd=>by
  obtain⟨q1,q2,q3,q4,O⟩:=ok;have po:=hp _ (jF q1);have I:(t.pg i).kids≠[]:=fun e=>by have:=(po.node q2).1;rw[e] at this;simp at this
  rw[ids,nodup_cons] at hnd;rw[ids] at E;obtain⟨lv,e,l,U⟩:=RV (t:=t) (h:=h) (level:=level) (low:=low) (p:=t.pg i) (fun c lo hi s=>jq t f c lo hi (level+1) s)
   (fun c lo hi s ok hd hn=>UX hp (h:=h) (f:=f) (level:=level+1) w4 ok hd hn) (t.pg i).kids 0 none (s.1++[i],kK s.2 level i) (fun j hj=>by rw[Nat.zero_add];exact O j hj) hnd.2 (fun x hx hm=>by
    rcases mem_append.1 hm with hm|hm
    ·exact E x (mem_cons_of_mem _ hx) hm
    rw[mem_singleton] at hm;subst hm;exact hnd.1 hx) (.inl rfl) (.inl I)
  refine⟨lv,?_,?_,fun m=>?_⟩
  ·rw[jq,if_neg (E i mem_cons_self),if_neg,if_neg (by rw[q2];decide),e,ids]
   ·simp;omega
   rintro(h|⟨k,hk,aa⟩)
   ·exact h q3
   exact q4 k (mem_of_mem_head? hk) aa
  ·rw[l,if_neg I];show max (kK s.2 level i).length _=_;rw[Jn];omega
  rw[U];show(kK s.2 level i).getD m []++_=_;rw[Fv];unfold xk;rw[append_assoc];congr 1;by_cases e1:m=level
  ·subst e1;rw[if_pos rfl,if_neg w4,if_pos ⟨Nat.le_refl _,by omega⟩,Nat.sub_self];rfl
  rw[if_neg e1,nil_append];by_cases e2:level+1≤m∧m≤level+1+h
  ·rw[if_pos e2,if_pos w4];obtain⟨d,rfl⟩:∃d,m=level+1+d:=⟨m-(level+1),by omega⟩
   rw[show level+1+d-(level+1)=d by omega,show level+1+d-level=d+1 by omega,cG]
  rw[if_neg e2,if_neg w4]
open Classical in
theorem Jo{h:Nat}(v:Valid t h):gD t=0:=by
 have hr:=v.range;have E:=v.pos;have hm:=v.nO;unfold gD;rw[if_neg w4,if_neg (by exact fun hn=>hn v.fF)];obtain⟨lv,e,l,I⟩:=UX v.fF (f:=t.ag.length+1) (level:=0) (s:=([],[])) (by have:=v.high;omega) v.ok (fun x _ hx=>by cases hx) v.zS;rw[e];show(if ([]++ids t h t.root).length≠t.ag.length then _ else if ∀l∈lv,ff t l (-1) then (0:Int) else 11)=0;rw[if_neg (by rw[nil_append,v.all];simp),if_pos];intro x hx;obtain⟨m,td,rfl⟩:=mem_iff_getElem.1 hx;have:=I m;rw[getD_eq_getElem?_getD,getElem?_eq_getElem td] at this;have e2:lv[m]=xk t h 0 t.root m:=(by simpa using this)
 rw[e2];unfold xk;rw[l] at td;rw[if_pos (by simp at td;omega),Nat.sub_zero];exact v.pp m (by simp at td;omega)

end Go.Proofs.YtdgichenhdikgaaGreatDoor.Tr
