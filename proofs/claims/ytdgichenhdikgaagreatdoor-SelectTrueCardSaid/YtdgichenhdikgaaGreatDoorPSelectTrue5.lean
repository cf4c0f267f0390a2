/-
  What the proof of SelectTrue leans on, part 5 of 9: walks of the program's functions at the level of values, and plain facts of what they compute.
-/
import Derived.Test.YtdgichenhdikgaaGreatDoorPSelectTrue4
set_option linter.unusedVariables false
set_option linter.unusedSimpArgs false
set_option maxRecDepth 100000
set_option maxHeartbeats 4000000
namespace Go.Proofs.YtdgichenhdikgaaGreatDoor.Nm
open List
open Go.Proofs.Tryz
open Go.RowKit V Pk Vl
variable {G:List (Nat×List Value)}
variable {ts:List Tw} {h:Int} {sp:Nat→Bool}
theorem Rh{r:Nat}{n:Int}{s:ByteArray}{i:Nat}(hi:i<ts.length):gQ r ts[i]=gi r ts n s i:=by unfold gi;rw[getElem?_eq_getElem hi]
theorem Ri{r:Nat}{n:Int}{s:ByteArray}{i:Nat}(hi:ts.length≤i):lM n i s=gi r ts n s i:=by unfold gi;rw[getElem?_eq_none hi]
theorem uX(r:Nat)(k n:Int)(s:ByteArray)(ts:List Tw):gQ (r+1) (.mk k n s ts)=if 1+dY k 11=1 then [rm n s] else if 1+dY k 11=2 then [vj n]
  else if 1+dY k 11=5∨1+dY k 11=11 then gi r ts n s 0++[oE (1+dY k 11)] else (gi r ts n s 0++gi r ts n s 1)++[oE (1+dY k 11)]:=rfl
theorem KO(r:Nat)(k n d:Int)(s:ByteArray)(ts:List Tw)(i b2 b3:Nat)(IH:∀t∈ts,VC Tryz.prog G 32 [.agg t.cs,ae (d+1)] [] (xD (gQ r t)))(gk:-9223372036854775808≤n)(iR:n≤9223372036854775807)(hs:s.size≤maxLen)(hd1:0≤d)(hd:d≤2)(hi:i≤1):VC Tryz.prog G 52 [ae (i:Int),cQ b2,cQ b3] [⟨b3,3,1,[ae d]⟩,⟨b2,62,4,[ae k,ae n,bj s,.list 4 (ts.flatMap Tw.cs) ts.length]⟩] (fun x S=>∃S1,xD (gi r ts n s i) x S1∧S=S1++[⟨b3,3,1,[ae d]⟩,⟨b2,62,4,[ae k,ae n,bj s,.list 4 (ts.flatMap Tw.cs) ts.length]⟩]):=by
 refine VC.body func52 rfl ntmps52 aO fun X0 w0 bg=>?_;refine aB 1 ?_;refine OD.wk (Wk.dG (n:=25) (l':=[(0,_),(1,_),(2,_)]) (S':=_) rfl rfl fa) ?_;refine OD.nil ?_;refine aB 5 ?_;refine OD.wk (Wk.dG (n:=25) (l':=[(0,_),(1,_),(2,_),(9,_)]) (S':=_) rfl rfl fa) ?_;refine OD.nil ?_;refine aq ?_ ?_<;>intro aP bC
 ·have aa:i<ts.length:=(by omega)
  refine CD.seq ?_;refine CD.draw (au _) az (fun _ h=>h) ?_;refine aC 0 rfl (dF 3) ?_;refine aC 1 rfl (dI 1) ?_;refine aC 2 rfl bF ?_;refine aC 3 rfl (dw 4) ?_;refine aC 4 rfl (cR (mk:=Op.load 62) rfl ot (by first|exact qy (k:=0) (ds:=[_,_,_,_]) rfl rfl isAgg62 sizeOf62 rfl rfl|exact qy (k:=1) (ds:=[_,_,_,_]) rfl rfl isAgg62 sizeOf62 rfl rfl|exact jZ Tw.Fw isAgg62 sizeOf62 w5|exact dA (k:=0) Tw.Fw rfl rfl rfl isAgg62 sizeOf62 w5|exact dA (k:=1) Tw.Fw rfl rfl rfl isAgg62 sizeOf62 w5|exact qE (ds:=[_,_,_,_]) isAgg62 sizeOf62 rfl rfl)) ?_;refine aC 5 rfl (dI 0) ?_;refine aC 6 rfl nj ?_;refine dH.later rfl ?_;refine AD.one (i:=7) az ?_;refine bz.call rfl ap rfl rfl rfl call32 (IH _ (getElem_mem aa)) ⟨ot,ot,trivial⟩ (eV _) (fun _ h=>h) ?_;rintro _ O ⟨U,Z,rfl,E⟩;refine cy 8 rfl bF ?_;refine AD.wk (y:=⟨25,[(4,_)],((O++[_,_]))⟩) (Wk.dG rfl rfl fa) rfl ?_;refine AD.done az ?_;refine aI _ ?_;first|exact⟨_,gh.cast (gh.mk E) (Rh aa),rfl⟩|exact⟨_,gh.cast (gh.mk I) (Ri w4),rfl⟩
 refine aB 6 ?_;refine OD.call ap rfl rfl rfl call32 (Tv n (i:Int) 9 s (bH) rfl gk iR w4 w4 hs w8) ⟨ot,bV,trivial⟩ (eV _) ?_;rintro _ S24 ⟨aqu,aqv,rfl,I⟩;refine aF 1 ?_;refine OD.wk (Wk.dG (n:=25) (l':=[(4,_)]) (S':=_) rfl rfl fa) ?_;refine OD.nil ?_;refine aI _ ?_;first|exact⟨_,gh.cast (gh.mk E) (Rh aa),rfl⟩|exact⟨_,gh.cast (gh.mk I) (Ri w4),rfl⟩
theorem H7:(Tryz.prog.info? 43).map (fun i=>(i.zero,i.size,i.bytes))=some (some (.agg #[.int .i64 0,.int .i64 0,.int .i64 0,.string ⟨#[]⟩,.string ⟨#[]⟩]),5,56):=by kernel_rfl
theorem aeS(r:Nat)(hr:r≤2)(k n d:Int)(s:ByteArray)(ts:List Tw)(IH:∀t∈ts,VC Tryz.prog G 32 [.agg t.cs,ae (d+1)] [] (xD (gQ r t)))(de:-9223372036854775808≤k)(fb:k≤9223372036854775807)(gk:-9223372036854775808≤n)(iR:n≤9223372036854775807)(hs:s.size≤maxLen)(hd1:0≤d)(hd:d≤2):VC Tryz.prog G 32 [.agg [ae k,ae n,bj s,.list 4 (ts.flatMap Tw.cs) ts.length],ae d] [] (xD (gQ (r+1) (.mk k n s ts))):=by
 refine VC.body func32 rfl ntmps32 aO fun X0 w0 bg=>?_;have hpk:=jD k (by decide:(1:Int)≤11);have hpn:=jD n (by decide:(1:Int)≤40);have hpc:=jD n (by decide:(1:Int)≤4);obtain⟨j,hj⟩:=Int.eq_ofNat_of_zero_le hpc.1;have hj4:j<4:=(by omega)
 have I:=lu G n 4 gk iR w8;rw[hj] at I;have fQ:(⟨n,dY n 40-20,s⟩:Vl).Ok:=⟨gk,iR,by show _≤dY n 40-20;omega,by show dY n 40-20≤_;omega,hs⟩
 have XW:=O7 ⟨n,dY n 40-20,s⟩;have hml:100≤maxLen:=(by decide)
 obtain⟨kk,lF⟩:∃kk:Int,1+dY k 11=kk:=⟨_,rfl⟩
 have nh:=Ts r ts n s 0;have j5:=Ts r ts n s 1;have h2p:2 ^ (r+1)≤8:=Nat.pow_le_pow_right w8 (show r+1≤3 by omega);refine bU ?_;refine OD.box (ds:=[_,_,_,_]) ap rfl rfl ot rfl rfl (fun b2=>?_);refine OD.box (ds:=[_]) ap rfl rfl ot rfl rfl (fun b3=>?_);refine an 69 [2,3] ?_;refine cL [2,3,5] ?_;refine cH (lu G k 11 de fb w8) ?_;refine aS 0 ?_ (h:=by exact(dz (r:=.int .i64 kk) rfl bV ot (kr (by rw[lF];exact wrap_i64 w4 w4))));refine bI ?_;refine aB 3 ?_;refine bP 14 (fun E Z=>?_) (fun E Z=>?_)
 ·exact absurd E (by simp at E;omega)
 refine bq [2,3,5,17] ?_;refine fJ ?_;refine cL [2,5,6] ?_;refine aS 0 ?_ (h:=by exact(pK (ds:=[_,_]) rfl ⟨ot,ot,trivial⟩));refine bI ?_;refine af [2,5,6,19] ?_;refine af [2,5,6,19,20] ?_;refine aq ?_ ?_<;>intro aZ cr
 ·refine CD.seq ?_;refine td 11 10 [5,7,31] ?_;refine cH (lu G n 40 gk iR w8) ?_;refine cH (QK ⟨n,dY n 40-20,s⟩ fQ) ?_;refine og ?_;refine jb ?_;refine⟨rfl,fun b7=>?_⟩;refine aR 0 [_,_,_] sizeOf41 ?_;refine an 69 [5,7] ?_;refine aB 2 ?_;refine dP call16 (Fq (oD ⟨n,dY n 40-20,s⟩).s 4 w4) ?_;refine aF 1 ?_;refine aR 0 [_,_,_] sizeOf9 ?_;refine an 69 [5,7] ?_;refine aB 3 ?_;refine en (cf 0 [_]) [.int .i64 0,.int .i64 0,.int .i64 0,.string ⟨#[]⟩,.string ⟨#[]⟩] [_,_,_,_,_] zeroValue43 runUnderlying30 sizeOf43 (fun CN=>?_);exact z53
 refine af [2,5,6,19,40] ?_;refine aq ?_ ?_<;>intro bX cA
 ·refine aB 1 ?_;refine en (cf 0 [_,_,_,_]) [.string ⟨#[]⟩,.string ⟨#[]⟩,.string ⟨#[]⟩,.string ⟨#[]⟩] [_,_,_,_] zeroValue9 runUnderlying29 sizeOf9 (fun Yz=>?_);refine fA 0 43 1 4 ?_;refine aF 2 ?_;refine dP call21 (I) ?_;refine aF 1 ?_;refine bN (cR (mk:=Op.load 9) rfl ot (B9 isAgg9 (Tu hj4))) ?_;refine aF 1 ?_;refine en (cf 0 [_]) [.int .i64 0,.int .i64 0,.int .i64 0,.string ⟨#[]⟩,.string ⟨#[]⟩] [_,_,_,_,_] zeroValue43 runUnderlying30 sizeOf43 (fun AB=>?_);exact z53
 refine af [5,6,19,51] ?_;refine aq ?_ ?_<;>intro cN dW
 ·refine eD ?_;exact Xf
 refine cc [5,6,51] ?_;refine aq ?_ ?_<;>intro ec fh
 ·exact Xf
 refine aB 1 ?_;refine OD.kx (f:=52) (args:=[_]) (all:=[_,_,_]) (Sf:=[_,_]) (R:=[]) ap rfl rfl ot call52 (KO r k n d s ts 0 b2 b3 IH gk iR hs hd1 hd w8) rfl ⟨bV,trivial⟩ (Perm.refl _) ?_;rintro _ _ ⟨YA,⟨aqw,aqx,rfl,aki⟩,rfl⟩;refine OD.perm (QH (A:=[_,_])) ?_;refine aF 1 ?_;refine OD.kx (f:=52) (args:=[_]) (all:=[_,_,_]) (Sf:=[_,_]) (R:=YA) ap rfl rfl ot call52 (KO r k n d s ts 1 b2 b3 IH gk iR hs hd1 hd w8) rfl ⟨bV,trivial⟩ (Perm.refl _) ?_;rintro _ _ ⟨Da,⟨Wi,xB,rfl,Cg⟩,rfl⟩;refine OD.perm (acC (A:=[_,_])) ?_;refine OD.gP (t:=63) (Sq:=Da) lk Cg (cn nw _) (yM (A:=[_,_])) ?_;refine OD.ey (ls:=(gi r ts n s 0)) (new:=(gi r ts n s 1)) (Sq:=YA) nw Kl ap rfl rfl underlying30 H7 rfl w8 ot aki (cZ (A:=[_,_])) ot w4 zZ zZ (fun Dl O akj akk=>?_);refine OD.perm (dV (S1:=[⟨Dl,43,O*5,flatMap cO ((gi r ts n s 0)++(gi r ts n s 1))⟩]) (A:=[_,_])) ?_;refine aF 2 ?_;refine en (cf 0 [_]) [.int .i64 0,.int .i64 0,.int .i64 0,.string ⟨#[]⟩,.string ⟨#[]⟩] [_,_,_,_,_] zeroValue43 runUnderlying30 sizeOf43 (fun qR=>?_);refine fA 0 67 5 1 ?_
 refine OD.ey (ls:=((gi r ts n s 0)++(gi r ts n s 1))) (new:=[(⟨kk,aV,⟨#[]⟩⟩:aJ)]) (Sq:=[⟨Dl,43,O*5,flatMap cO ((gi r ts n s 0)++(gi r ts n s 1))⟩]) nw Kl ap rfl rfl underlying30 H7 rfl w8 ot (bM akj akk) (cZ (A:=[_,_])) ot bn zZ zZ (fun YB U akl akm=>?_);refine OD.perm (dV (S1:=[⟨YB,43,U*5,flatMap cO (((gi r ts n s 0)++(gi r ts n s 1))++[(⟨kk,aV,⟨#[]⟩⟩:aJ)])⟩]) (A:=[_,_])) ?_;refine an 69 [4] ?_;refine aI [⟨YB,43,U*5,flatMap cO (((gi r ts n s 0)++(gi r ts n s 1))++[(⟨kk,aV,⟨#[]⟩⟩:aJ)])⟩] ?_;exact gh.cast (gh.mk (bM akl akm)) (by rw[uX,lF,if_neg w4,if_neg w4,if_neg w4];rfl)
theorem UD:∀(r:Nat),r≤3→∀(t:Tw),t.Ok→VC Tryz.prog G 32 [.agg t.cs,ae (3-(r:Int))] [] (xD (gQ r t))
 | 0,_,.mk k n s ts,h=>Tv k n 3 s (.list 4 (Tw.mi ts) ts.length) rfl h.1.1 h.1.2 h.2.1.1 h.2.1.2 h.2.2.1 w8
 | r+1,hr,.mk k n s ts,h=>by
  have:=aeS (G:=G) r w4 k n (3-((r+1:Nat):Int)) s ts (fun t ht=>by
   have h1:=UD r w4 t (Tw.Tp h.2.2.2.2 t ht);rw[show(3-((r+1:Nat):Int)+1)=3-(r:Int) by omega];exact h1) h.1.1 h.1.2 h.2.1.1 h.2.1.2 h.2.2.1 w4 w4
  rw[←Tw.Kw] at this;exact this
theorem agx(t:Tw)(h:t.Ok):VC Tryz.prog G 19 [.agg t.cs] [] (xD (gQ 3 t)):=by
 refine VC.body func19 rfl ntmps19 aO fun X0 w0 bg=>?_;obtain⟨k,n,s,ts⟩:=t;have E:=UD (G:=G) 3 (Nat.le_refl _) (.mk k n s ts) h;unfold Tw.cs at E ⊢;refine bU ?_;refine OD.box (ds:=[_,_,_,_]) ap rfl rfl ot rfl rfl (fun b1=>?_);refine an 5 [1] ?_;refine aB 1 ?_;refine OD.call ap rfl rfl rfl call32 (E) ⟨ot,bV,trivial⟩ (eV _) ?_;rintro _ O ⟨U,Z,rfl,I⟩;refine OD.perm dV ?_;refine an 5 [2] ?_;refine aI O ?_;exact gh.mk I
theorem Kx(t:Tw)(h:t.Ok):VP Tryz.prog G 19 [.agg t.cs] (.list 5 ((gQ 3 t).flatMap cO) (gQ 3 t).length):=(agx t h).wV nw

def runs:Int→List aJ→Option Int
 | h,[]=>some h
 | h,o::r=>if eX h o=0 then runs (h+(1-bw o.k)) r else none
theorem yF:∀(a b:List aJ) (h:Int),runs h (a++b)=(runs h a).bind fun h'=>runs h' b
 | [],b,h=>rfl
 | o::r,b,h=>by
  rw[cons_append,runs,runs];split
  ·exact yF r b _
  rfl
theorem O8:∀{a:List aJ} {h h':Int} (b:List aJ),runs h a=some h'→fF h (a++b)=fF h' b
 | [],h,h',b,e=>by cases e;rfl
 | o::r,h,h',b,e=>by
  rw[runs] at e;split at e
  ·rename_i h0;rw[cons_append,fF,if_pos h0];exact O8 b e
  cases e
theorem aeT:((⟨#[]⟩:ByteArray).toList==(⟨#[]⟩:ByteArray).toList)=true:=by simp
theorem PS:zeroV aV=true:=by unfold zeroV aV;simp
theorem Rj:iP aV=0:=by decide
theorem Rk(n:Int)(s:ByteArray):iP (rD n s)=0:=by
 have h1:=jD n (by decide:(1:Int)≤40);have h2:=jD (dY n 40-20) (by decide:(1:Int)≤2);have hc:(mT (mT s 10) 4).size≤4:=(by rw[Ek];omega)
 have he:mT (⟨#[]⟩:ByteArray) 4=ByteArray.empty:=Bm (by rw[PG];rfl);unfold iP rD oD;split
 ·simp[bW,he];omega
 split
 ·simp[bW,he];omega
 split
 ·simp[bW];omega
 unfold aV;simp[bW,he]
theorem Ty(h0:0≤h)(n:Int)(s:ByteArray):eX h (rm n s)=0:=by
 unfold eX rm;rw[Rk];simp[bw];omega
theorem acW(j:Int):cG (ph j)=0:=by
 unfold ph;split
 ·exact tF (l:=[105,100]) w8 w8 w8
 split
 ·exact tF (l:=[110]) w8 w8 w8
 split
 ·exact tF (l:=[115]) w8 w8 w8
 exact tF (l:=[98]) w8 w8 w8
theorem Tz(h0:0≤h)(n:Int):eX h (vj n)=0:=by
 unfold eX vj;rw[Rj,PS,acW];simp[bw];omega
theorem Rl{k:Int}(h1:3≤k)(h2:k≤11)(E:bw k≤h):eX h (oE k)=0:=by
 unfold eX oE;simp only[Rj,PS,aeT];rw[if_neg w4,if_neg bn,if_neg bn,if_neg w4,if_neg w4]
theorem PT(h0:0≤h)(k n:Int)(s:ByteArray):runs h (lM k n s)=some (h+1):=by
 unfold lM;split
 ·rw[runs,if_pos (Tz h0 n),runs];rfl
 rw[runs,if_pos (Ty h0 n s),runs];rfl
theorem Rm:∀(r:Nat) (t:Tw) (h:Int),0≤h→runs h (gQ r t)=some (h+1)
 | 0,.mk k n s ts,h,h0=>PT h0 k n s
 | r+1,.mk k n s ts,h,h0=>by
  have E:∀(i:Nat) (h:Int),0≤h→runs h (gi r ts n s i)=some (h+1):=fun i h h0=>by
   unfold gi;split
   ·exact Rm r _ h h0
   exact PT h0 _ _ _
  have hk:=jD k (by decide:(1:Int)≤11);rw[uX];split
  ·rw[runs,if_pos (Ty h0 n s),runs];rfl
  split
  ·rw[runs,if_pos (Tz h0 n),runs];rfl
  split
  ·rename_i h3;rw[yF,E 0 h h0,Option.bind_some,runs,if_pos (Rl w4 w4 (by unfold bw;rw[if_neg w4,if_pos h3];omega)),runs];unfold oE bw;rw[if_neg (by simp only[];omega),if_pos h3];simp
  rename_i h3;rw[yF,yF,E 0 h h0,Option.bind_some,E 1 (h+1) w4,Option.bind_some,runs,if_pos (Rl w4 w4 (by unfold bw;rw[if_neg w4,if_neg h3];omega)),runs];unfold oE bw;rw[if_neg (by simp only[];omega),if_neg h3];congr 1;omega
theorem Iy(t:Tw):1≤(gQ 3 t).length∧(gQ 3 t).length≤15:=by
 have:=JR 3 t;omega
theorem Iz(t:Tw):gz (gQ 3 t)=0:=by
 unfold gz;rw[if_neg (by have:=Iy t;omega)];have:=O8 [] (Rm 3 t 0 (Int.le_refl _));rw[append_nil] at this;rw[this];rfl
theorem acX(t:Tw):∀o∈gQ 3 t,o.nm.size≤2:=by
 have hn:∀j:Int,(ph j).size≤2:=fun j=>by
  unfold ph;split
  ·decide
  split
  ·decide
  split<;>decide
 have E:∀k n s,∀o∈lM k n s,o.nm.size≤2:=fun k n s o ho=>by
  unfold lM at ho;split at ho<;>(simp only[mem_singleton] at ho;subst ho)
  ·exact hn _
  exact Nat.zero_le _
 have key:∀(r:Nat) (t:Tw),∀o∈gQ r t,o.nm.size≤2:=by
  intro r;induction r with
  | zero=>intro t;obtain⟨k,n,s,ts⟩:=t;exact E k n s
  | succ r ih =>
   intro t o ho;obtain⟨k,n,s,ts⟩:=t;have I:∀i:Nat,∀o∈gi r ts n s i,o.nm.size≤2:=fun i o ho=>by
    unfold gi at ho;split at ho
    ·exact ih _ o ho
    exact E _ _ _ o ho
   have hb:∀k,(oE k).nm.size≤2:=fun k=>Nat.zero_le _;rw[uX] at ho;split at ho
   ·simp only[mem_singleton] at ho;subst ho;exact Nat.zero_le _
   split at ho
   ·simp only[mem_singleton] at ho;subst ho;exact hn _
   split at ho
   ·rcases mem_append.1 ho with ho|ho
    ·exact I 0 o ho
    simp only[mem_singleton] at ho;subst ho;exact hb _
   rcases mem_append.1 ho with ho|ho
   ·rcases mem_append.1 ho with ho|ho
    ·exact I 0 o ho
    exact I 1 o ho
   simp only[mem_singleton] at ho;subst ho;exact hb _
 exact key 3 t
theorem acY{l:List aJ}(h:∀o∈l,o.nm.size≤2):∀o∈l,o.nm.size≤maxLen:=fun o ho=>Nat.le_trans (h o ho) w8
theorem I7{H:Type}{enc:TypeId×Value→H}{w:World}{base:Nat}{held:Bool}:∀n,lY n enc Tryz.prog w base sp held 62 Tw.cs Tw.Ok:=by
 intro n;induction n using Nat.strongRecOn with
 | _ n ih =>
  intro cs x h;obtain⟨⟨k,m,s,ts⟩,h1,h2,h3,h4,h5⟩:=Z9 (fuel:=n) (n0:=1) (n1:=1) (n2:=1) (n3:=1) underlying62 az rfl rfl rfl rfl az az az az
   (fun q _=>(va underlying3).at q) (fun q _=>(va underlying3).at q) (fun q _=>(Py underlying9).at q) (fun q hq=>PC (sz:=4) underlying60 az w8 (fun z hz=>ih z w4) Tw.Fw) cs x h
  refine⟨.mk k m s ts,?_,h2,h3,h4,h5.2,Tw.Tq h5.1⟩;unfold Tw.cs;rw[Tw.Kw];exact h1
theorem rd_twig{H:Type}{enc:TypeId×Value→H}{w:World}{base E:Nat}{held:Bool}{v:Value}{d:DataW H}{p:List MemPlace}(hval:Value.okWide Tryz.prog w .any E 62 v)(h:DataW.Trod enc Tryz.prog w base sp held 62 v d p) :
  ∃t:Tw,cg w (fun _=>False) (.agg t.cs) v∧t.Ok∧True:=agk underlying62 I7 hval h

end Go.Proofs.YtdgichenhdikgaaGreatDoor.Nm
namespace Go.Proofs.YtdgichenhdikgaaGreatDoor.Ex
open List
open Go.Proofs.Tryz
open Go.RowKit V Pk Vl Go.Proofs.YtdgichenhdikgaaGreatDoor.Nm Pc
variable {α:Type} {l:List aJ} {i:Nat} {h:Int}
theorem wE(p:α→Bool)(ls:List α):-1≤cU p ls∧cU p ls<ls.length:=by
 unfold cU;cases h:ls.findIdx? p with
 | none=>simp;omega
 | some i=>have:=(findIdx?_eq_some_iff_findIdx_eq.1 h).1;simp;omega
def bD(l:List cj)(nm:ByteArray):Int:=cU (fun c=>c.n.toList==nm.toList) l
def rU(a b:Int):Bool:=a==b||a==0
def okF(k a b:Int):Bool :=
 if k=3∨k=4 then rU a 1&&rU b 1 else if k=5 then rU a 1 else if k=6∨k=7 then rU a b||b==0 else if k=8∨k=9∨k=10 then rU a 2&&rU b 2 else true
def xn(k:Int):Int:=if k=8∨k=9∨k=10 then 2 else 1
def vc(l:List cj)(nm:ByteArray):Int×Int:=if bD l nm<0 then (0,8) else ((l.getD (bD l nm).toNat ⟨⟨#[]⟩,0⟩).k,0)
def iW(l:List cj)(o:aJ)(a b:Int):Int×Int :=
 if o.k=1 then (o.v.k,0) else if o.k=2 then vc l o.nm else if okF o.k a b=true then (xn o.k,0) else (0,4)
def dS(z:α)(k:Int)(st:List α):α:=if 0<bw k then st.getD (st.length-(bw k).toNat) z else z
def dM(z:α)(k:Int)(st:List α):α:=if 1<bw k then st.getD (st.length-(bw k).toNat+1) z else z
def eW{α:Type}(z:α)(f:aJ→α→α→α × Int):List aJ→List α→α × Int
 | [],st=>(st.getD 0 z,0)
 | o::r,st =>
  if (f o (dS z o.k st) (dM z o.k st)).2≠0 then (z,(f o (dS z o.k st) (dM z o.k st)).2)
  else eW z f r (st.take (st.length-(bw o.k).toNat)++[(f o (dS z o.k st) (dM z o.k st)).1])
theorem SG{z:α}{f:aJ→α→α→α × Int}{st:List α}(hi:i<l.length)(h:(f l[i] (dS z l[i].k st) (dM z l[i].k st)).2≠0) :
  eW z f (l.drop i) st=(z,(f l[i] (dS z l[i].k st) (dM z l[i].k st)).2):=by rw[drop_eq_getElem_cons hi,eW,if_pos h]
theorem SC{z:α}{f:aJ→α→α→α × Int}{st:List α}(hi:i<l.length)(h:(f l[i] (dS z l[i].k st) (dM z l[i].k st)).2=0) :
  eW z f (l.drop i) st=eW z f (l.drop (i+1)) (st.take (st.length-(bw l[i].k).toNat)++[(f l[i] (dS z l[i].k st) (dM z l[i].k st)).1]):=by
 rw[drop_eq_getElem_cons hi,eW,if_neg (by rw[h];simp)]
theorem Rn{z:α}{f:aJ→α→α→α × Int}{st:List α}(hi:¬i<l.length):eW z f (l.drop i) st=(st.getD 0 z,0):=by
 rw[drop_of_length_le w4];rfl
theorem PU(hi:i<l.length)(h0:fF h (l.drop i)=0):eX h l[i]=0∧fF (h+(1-bw l[i].k)) (l.drop (i+1))=0:=by
 rw[drop_eq_getElem_cons hi,fF] at h0;by_cases he:eX h l[i]=0
 ·rw[if_pos he] at h0;exact⟨he,h0⟩
 rw[if_neg he] at h0;exact absurd h0 he
theorem Ro(hi:¬i<l.length)(h0:fF h (l.drop i)=0):h=1:=by
 rw[drop_of_length_le w4,fF] at h0;split at h0
 ·assumption
 cases h0
theorem tN{o:aJ}(he:eX h o=0):bw o.k≤h∧(1≤o.k∧o.k≤11)∧iP o.v=0∧(o.k=2→cG o.nm=0):=by
 unfold eX at he;split at he
 ·cases he
 split at he
 ·rename_i h2;exact absurd he h2
 split at he
 ·cases he
 split at he
 ·rename_i h4;exact absurd he h4.2
 split at he
 ·cases he
 rename_i q1 q2 I E O;refine⟨by omega,by omega,by simpa using q2,fun hk=>?_⟩;by_cases hn:cG o.nm=0
 ·exact hn
 exact absurd ⟨hk,hn⟩ E
def uk(l:List cj)(ops:List aJ):Int×Int:=eW 0 (iW l) ops []
def dr(l:List cj)(ops:List aJ):Int×Int:=if fD l≠0 then (0,fD l) else if gz ops≠0 then (0,gz ops) else uk l ops
def pZ(r:Int×Int):D:=.di [ae r.1,ae r.2]
def cI(n:Int):List D:=[ae n]
theorem ez(n:Int):(cI n).length=1:=rfl
theorem nR(n:Int):(cI n).all V.one=true:=rfl
theorem wF{ops:List aJ}(h:gz ops=0):ops.length≤40∧fF 0 ops=0:=by
 unfold gz at h;split at h
 ·cases h
 exact⟨by omega,h⟩
variable {G:List (Nat×List Value)}
theorem EL(k:Int):VP Tryz.prog G 60 [ae k] (ae (bw k)):=by
 refine VC.body func60 rfl ntmps60 aO fun X0 w0 bg=>?_;exact Xk
theorem abb(c:cj)(nm:ByteArray)(b:Nat):VC Tryz.prog G 107 [.agg (cC c),cQ b] [⟨b,9,1,[bj nm]⟩] (fun r S=>r=bJ (c.n.toList==nm.toList)∧S=[⟨b,9,1,[bj nm]⟩]):=by
 refine VC.body func107 rfl ntmps107 aO fun X0 w0 bg=>?_;exact XF
theorem qA(l:List cj)(hl:l.length≤6)(nm:ByteArray):VP Tryz.prog G 63 [av 2 cC l,bj nm] (ae (bD l nm)):=by
 refine VC.body func63 rfl ntmps63 aO fun X0 w0 bg=>?_;refine bU ?_;refine OD.box (ds:=[_]) ap rfl rfl ot rfl rfl (fun b3=>?_);refine an 8 [0,3] ?_;refine aB 1 ?_;refine bN (pK (ds:=[_]) rfl ⟨ot,trivial⟩) ?_;refine OD.call ap rfl rfl rfl call106 (I6 l 107 [cQ b3] _ (fun c=>c.n.toList==nm.toList) call107 (fun h _=>abb h nm b3) w4) ⟨ot,ot,trivial⟩ (mo (k:=0) rfl) ?_;rintro _ S2 ⟨rfl,iG⟩;rw[iG];clear iG;refine an 8 [4] ?_;exact z51
theorem zo(a b:Int):VP Tryz.prog G 134 [ae a,ae b] (bJ (rU a b)):=by
 refine VC.body func134 rfl ntmps134 aO fun X0 w0 bg=>?_;refine af [0,1] ?_;refine aB 4 ?_;refine bP 8 (fun I E=>?_) (fun I E=>?_)
 ·refine bq [4] ?_;refine eJ ?_;refine⟨vb ?_,rfl⟩;unfold rU;simp_all
 refine bq [4] ?_;refine eJ ?_;refine⟨vb ?_,rfl⟩;unfold rU;simp_all
theorem aeU(l:List cj)(hl:l.length≤6)(o:aJ)(a b:Int):VP Tryz.prog G 99 [.agg (cO o),av 2 cC l,ae a,ae b] (pZ (iW l o a b)):=by
 refine VC.body func99 rfl ntmps99 aO fun X0 w0 bg=>?_;unfold cO pZ;have I:=wE (fun c:cj=>c.n.toList==o.nm.toList) l;have E:bD l o.nm=cU (fun c:cj=>c.n.toList==o.nm.toList) l:=rfl;rw[←E] at I;clear E;refine bU ?_;refine OD.box (ds:=[_,_,_,_,_]) ap rfl rfl ot rfl rfl (fun b4=>?_);refine an 76 [1,2,3,4] ?_;refine af [1,2,3,4,10] ?_;refine af [1,2,3,4,10,11,12] ?_;refine af [1,2,3,4,10,11,12,15] ?_;refine af [1,2,3,4,10,11,12,15,16] ?_;refine aq ?_ ?_<;>intro aP bC
 ·exact z22
 refine af [1,2,3,4,10,11,12,15,21] ?_;refine aq ?_ ?_<;>intro aZ cr
 ·refine cz [1,13] (qA l hl o.nm) ?_;refine af [1,13,28] ?_;refine aq ?_ ?_<;>intro bX cA
  ·have dg:vc l o.nm=(0,8):=(by unfold vc;rw[if_pos w4])
   exact z22
  have O:(bD l o.nm).toNat<l.length:=(by omega)
  have dg:vc l o.nm=(l[(bD l o.nm).toNat].k,0):=(by unfold vc;rw[if_neg w4,getD_eq_getElem?_getD,getElem?_eq_getElem O];rfl)
  exact z22
 refine af [2,3,10,11,12,15,34] ?_;refine aq ?_ ?_<;>intro cN dW
 ·refine eD ?_;exact VX
 refine cc [2,3,10,11,12,15,34] ?_;refine aq ?_ ?_<;>intro ec fh
 ·exact VX
 refine af [2,3,10,11,12,15,45] ?_;refine aq ?_ ?_<;>intro fj gA
 ·refine dK 2 ?_;refine OD.kx (f:=134) (args:=[_,_]) (all:=[_,_]) (Sf:=[]) ap rfl rfl ot call134 (zo a 1) rfl ⟨ot,bV,trivial⟩ (eV _) ?_;rintro _ _ ⟨rfl,rfl⟩;exact z21
 refine af [2,3,10,11,12,15,50] ?_;refine aq ?_ ?_<;>intro gL kU
 ·refine eD ?_;exact VZ
 refine cc [2,3,10,11,12,15,50] ?_;refine aq ?_ ?_<;>intro gj lB
 ·exact VZ
 refine af [2,3,10,11,12,15,61] ?_;refine aq ?_ ?_<;>intro qd U
 ·refine eD ?_;exact Lp
 refine af [2,3,10,11,12,15,61] ?_;refine aq ?_ ?_<;>intro Dh Z
 ·refine eD ?_;exact Lp
 refine cc [2,3,10,11,12,61] ?_;refine aq ?_ ?_<;>intro F8 BH
 ·exact Lp
 refine af [12,74] ?_;refine fJ ?_;refine af [8,9] ?_;refine aI [] ?_;refine⟨?_,rfl⟩;unfold iW okF xn;simp_all
theorem Pt(l:List cj)(hl:l.length≤6)(o:aJ)(a b a' I:Int)(ha:a=a')(hb:b=I)(b2:Nat):VC Tryz.prog G 98 [.agg (cO o),ae a',ae I,cQ b2] [⟨b2,27,1,[av 2 cC l]⟩] (fun r S=>r=pZ (iW l o a b)∧S=[⟨b2,27,1,[av 2 cC l]⟩]):=by
 refine VC.body func98 rfl ntmps98 aO fun X0 w0 bg=>?_;subst ha hb;have E:=aeU (G:=G) l hl o a b;unfold cO at E ⊢;unfold pZ at E ⊢;refine bU ?_;refine OD.box (ds:=[_,_,_,_,_]) ap rfl rfl ot rfl rfl (fun b4=>?_);refine an 16 [1,2,3,4] ?_;refine cz [7,8] (E) ?_;refine aI [⟨b2,27,1,[av 2 cC l]⟩] ?_;exact⟨rfl,rfl⟩
theorem aaO:(Tryz.prog.info? 3).map (fun i=>(i.zero,i.size,i.bytes))=some (some (.int .i64 0),1,8):=by kernel_rfl
theorem acZ(l:List cj)(hl:l.length≤6)(ops:List aJ)(qk:ops.length≤40)(hx:fF 0 ops=0)(b2:Nat):VC Tryz.prog G 97 [av 5 cO ops,.ew (.func 98) [cQ b2]] [⟨b2,27,1,[av 2 cC l]⟩] (fun r S=>r=pZ (uk l ops)∧S=[⟨b2,27,1,[av 2 cC l]⟩]):=by
 refine VC.body func97 rfl ntmps97 aO fun X0 w0 bg=>?_;unfold pZ;refine af [0,1] ?_;refine af [0,1,6] ?_;refine bU ?_;refine bq [0,1,6,7] ?_;refine af [1,6,7,16,17,18] ?_;refine CD.block ?_;refine nl (fun (E:Nat×List Int×Option Addr×Nat×List ah) aG=>match E with|(i,st,I,kf,Z)=>(i≤ops.length)∧(st.length≤i)∧(fF ((st.length:Nat):Int) (ops.drop i)=0)∧(uk l ops=eW 0 (iW l) (ops.drop i) st)∧(bp 3 1 ((st).flatMap cI) (st).length I kf Z)∧aG=(⟨64,[(1,.ew (.func 98) [cQ b2]),(6,ae 0),(7,aN I (st).length kf),(16,av 5 cO ops),(17,ae (ops.length:Nat)),(18,ae (i:Nat))],(⟨b2,27,1,[av 2 cC l]⟩::Z)⟩:St)) (fun (E:Nat×List Int×Option Addr×Nat×List ah)=>match E with|(i,st,I,kf,Z)=>ops.length-i) (0,[],none,0,[]) ⟨(Nat.zero_le _),(Nat.zero_le _),hx,rfl,(bp.cast iy jS),rfl⟩ (aK (h:=by repeat (first|exact trivial|refine⟨GH,?_⟩))) ?_;rintro⟨i,st,I,kf,Z⟩ _ ⟨hi,fB,hex,hinv,oc,rfl⟩;refine af [1,6,7,16,17,18,19] ?_;refine aq ?_ ?_<;>intro aP bC
 ·have aa:i<ops.length:=(by omega)
  obtain⟨he,yn⟩:=PU aa hex;obtain⟨rQ,Wj,yo,qS⟩:=tN he;have C9:=qz ops[i].k;have s7:(st.take (st.length-(bw ops[i].k).toNat)++[(iW l ops[i] (dS 0 ops[i].k st) (dM 0 ops[i].k st)).1]).length=st.length+1-(bw ops[i].k).toNat:=(by rw[length_append,length_take,length_singleton];omega)
  have oe:fF (((st.take (st.length-(bw ops[i].k).toNat)++[(iW l ops[i] (dS 0 ops[i].k st) (dM 0 ops[i].k st)).1]).length:Nat):Int) (ops.drop (i+1))=0:=(by rw[s7,show(((st.length+1-(bw ops[i].k).toNat:Nat)):Int)=(st.length:Int)+(1-bw ops[i].k) by omega];exact yn)
  refine aB 2 ?_;refine OD.alloc (ds:=[_,_,_,_,_]) ap rfl rfl zeroValue43 rfl (fun b9=>?_);refine aR 0 [_,_,_,_,_] sizeOf43 ?_;refine an 64 [1,6,7,9,16,17,18] ?_;refine af [1,6,7,9,10,11,16,17,18] ?_;refine cz [1,6,7,9,10,11,12,16,17,18] (EL ops[i].k) ?_;refine af [1,6,7,9,10,11,12,13,16,17,18] ?_;refine af [1,6,7,9,10,11,12,13,16,17,18,30] ?_;refine aq ?_ ?_<;>intro aZ cr
  ·obtain⟨bh,rfl,xj,wP,rfl⟩:=oc.pos w4;have uP:(st.length-(bw ops[i].k).toNat)<st.length:=(by omega)
   have ha:dS 0 ops[i].k st=st[(st.length-(bw ops[i].k).toNat)]:=(by unfold dS;rw[if_pos w4,getD_eq_getElem?_getD,getElem?_eq_getElem uP];rfl)
   refine ik [1,6,7,9,10,11,12,13,16,17,18] ?_;refine aS 2 ?_ (h:=by exact(dw 1 (h:=by first|exact .l (j:=(st.length-(bw ops[i].k).toNat)) w4 w4|exact .r (j:=(st.length-(bw ops[i].k).toNat)) w4 w4)));refine aS 0 ?_ (h:=by exact(cR (mk:=Op.load 3) rfl ot (iT (k:=2) ez rfl rfl rfl isAgg3 uP rfl)));refine bI ?_;refine af [1,6,7,9,10,11,13,16,17,18,36] ?_;refine aq ?_ ?_<;>intro bX cA
   ·have O:(st.length-(bw ops[i].k).toNat)+1<st.length:=(by omega)
    have hb:dM 0 ops[i].k st=st[(st.length-(bw ops[i].k).toNat)+1]:=(by unfold dM;rw[if_pos w4,getD_eq_getElem?_getD,getElem?_eq_getElem O];rfl)
    refine ik [1,6,7,9,10,11,13,16,17,18] ?_;refine aS 3 ?_ (h:=by exact(dw 1 (h:=by first|exact .l (j:=(st.length-(bw ops[i].k).toNat)+1) w4 w4|exact .r (j:=(st.length-(bw ops[i].k).toNat)+1) w4 w4)));refine aS 0 ?_ (h:=by exact(cR (mk:=Op.load 3) rfl ot (iT (k:=2) ez rfl rfl rfl isAgg3 O rfl)));refine bI ?_;exact z117
   have hb:dM 0 ops[i].k st=0:=(by unfold dM;rw[if_neg w4])
   exact z117
  have ha:dS 0 ops[i].k st=0:=(by unfold dS;rw[if_neg w4])
  refine af [1,6,7,9,10,11,13,16,17,18,36] ?_;refine aq ?_ ?_<;>intro bX cA
  ·exact absurd bX (by simp at *;omega)
  have hb:dM 0 ops[i].k st=0:=(by unfold dM;rw[if_neg w4])
  refine aB 4 ?_;refine OD.kx (f:=98) (args:=[_,_,_]) (all:=[_,_,_,_]) (Sf:=[⟨b2,27,1,[av 2 cC l]⟩]) ap rfl rfl ot call98 (Pt l hl ops[i] _ _ _ _ ha hb b2) rfl ⟨ot,ot,ot,trivial⟩ (mo (k:=1) rfl) ?_;rintro _ _ ⟨rfl,rfl⟩;refine an 64 [1,6,7,13,14,15,16,17,18] ?_;refine af [1,6,7,13,14,15,16,17,18,51] ?_;refine aq ?_ ?_<;>intro cN dW
  ·exact Xv
  have hz:(iW l ops[i] (dS 0 ops[i].k st) (dM 0 ops[i].k st)).2=0:=(by simpa using cN)
  refine CD.skip ?_;refine CD.sJ (k:=(st.length-(bw ops[i].k).toNat)) (ls:=(st)) (Sq:=Z) ez w4 oc (cZ (A:=[_,_])) (fun B0 BG=>?_);exact z12
 have h1:=Ro w4 hex;have U:0<st.length:=(by omega)
 obtain⟨bh,rfl,xj,wP,rfl⟩:=oc.pos w4;have aW:=hinv.trans (Rn w4);have ke:st.getD 0 0=st[0]:=(by rw[getD_eq_getElem?_getD,getElem?_eq_getElem U];rfl)
 rw[ke] at aW;refine cL [4,5] ?_;refine aS 1 ?_ (h:=by exact(su (mk:=Op.indexAddr 67) rfl ot bV (by first|exact tX (j:=0) runUnderlying67 sizeOf3 rfl Ac|exact uf (j:=0) runUnderlying67 sizeOf3 rfl Ac)));refine aS 0 ?_ (h:=by exact(cR (mk:=Op.load 3) rfl ot (iT (k:=1) ez rfl rfl rfl isAgg3 U rfl)));refine bI ?_;refine aI [⟨b2,27,1,[av 2 cC l]⟩] ?_;rw[aW];exact⟨rfl,rfl⟩
theorem abc(l:List cj)(hl:l.length≤6)(ops:List aJ)(hx:gz ops=0):VP Tryz.prog G 57 [av 2 cC l,av 5 cO ops] (pZ (uk l ops)):=by
 refine VC.body func57 rfl ntmps57 aO fun X0 w0 bg=>?_;obtain⟨E,fq⟩:=wF hx;have fL:=fun b2=>acZ (G:=G) l hl ops E fq b2;unfold pZ at fL ⊢;refine bU ?_;refine OD.box (ds:=[_]) ap rfl rfl ot rfl rfl (fun b2=>?_);refine an 11 [1,2] ?_;refine aB 1 ?_;refine bN (pK (ds:=[_]) rfl ⟨ot,trivial⟩) ?_;refine OD.call ap rfl rfl rfl call97 (fL b2) ⟨ot,ot,trivial⟩ (mo (k:=0) rfl) ?_;rintro _ _ ⟨rfl,rfl⟩;refine an 11 [4,5] ?_;exact z51
theorem agy(hm:(3,marksC)∈G)(hw:(1,wordsC)∈G)(ht:(0,typesC)∈G)(l:List cj)(hl:l.length≤6)(aQ:∀c∈l,c.n.size≤maxLen)(ops:List aJ)(ho:∀o∈ops,o.nm.size≤maxLen):VP Tryz.prog G 56 [av 2 cC l,av 5 cO ops] (ae (if fD l≠0 then fD l else gz ops)):=by
 refine VC.body func56 rfl ntmps56 aO fun X0 w0 bg=>?_;have c8:=dR;refine af [0,1] ?_;refine cz [1,5] (E8 hm hw ht l w4 aQ) ?_;refine af [1,5,9] ?_;refine aq ?_ ?_<;>intro aP bC
 ·refine af [4] ?_;refine aI [] ?_;refine⟨vi ?_,rfl⟩;simp_all
 refine cz [4] (JJ hm hw ops ho) ?_;refine aI [] ?_;refine⟨vi ?_,rfl⟩;simp_all
theorem JS(hm:(3,marksC)∈G)(hw:(1,wordsC)∈G)(ht:(0,typesC)∈G)(l:List cj)(hl:l.length≤6)(aQ:∀c∈l,c.n.size≤maxLen)(ops:List aJ)(ho:∀o∈ops,o.nm.size≤maxLen):VP Tryz.prog G 34 [av 2 cC l,av 5 cO ops] (pZ (dr l ops)):=by
 refine VC.body func34 rfl ntmps34 aO fun X0 w0 bg=>?_;have eT:=agy hm hw ht l hl aQ ops ho;have E:=fun hx=>abc (G:=G) l hl ops hx;unfold pZ at E ⊢;refine af [0,1] ?_;refine cz [0,1,6] (eT) ?_;refine af [0,1,6,11] ?_;refine aq ?_ ?_<;>intro aP bC
 ·have aW:dr l ops=(0,if fD l≠0 then fD l else gz ops):=(by unfold dr;split<;>simp_all)
  refine af [4,5] ?_;exact oQ
 have h0:fD l=0∧gz ops=0:=(by split at aP<;>simp_all)
 have aW:dr l ops=uk l ops:=(by unfold dr;simp[h0])
 refine cz [4,5] (E h0.2) ?_;exact uE

end Go.Proofs.YtdgichenhdikgaaGreatDoor.Ex
namespace Go.Proofs.YtdgichenhdikgaaGreatDoor.Ex
open List
open Go.Proofs.Tryz
open Go.RowKit V Pk Vl Cd
variable {i:Nat} {a b:Vl} {p:Vl→Prop}
def wr(n:Int):Int:=IntKind.i64.wrap n
theorem ahZ(n:Int):-9223372036854775808≤wr n∧wr n≤9223372036854775807:=by unfold wr;rw[IntKind.wrap_i64];omega
def mK(b:Bool):Vl:=if b=true then ⟨1,1,⟨#[]⟩⟩ else ⟨1,0,⟨#[]⟩⟩
def iL(a b:Vl)(i:Nat):Vl:=if i=0 then a else b
theorem Il(a b:Vl)(h:i<2):(([ae a.k,ae a.n,bj a.s,ae b.k,ae b.n,bj b.s]:List D).drop (i*3)).take 3=[ae (iL a b i).k,ae (iL a b i).n,bj (iL a b i).s]:=by
 match i,h with
 | 0,_|1,_=>rfl
def kP(a b:Vl)(d:Int):Vl×Int :=
 if (a.k≠1∧a.k≠0)∨(b.k≠1∧b.k≠0) then (aV,4) else if a.k=1∧a.n=d then (a,0) else if b.k=1∧b.n=d then (b,0) else if a.k=0∨b.k=0 then (aV,0) else (a,0)
theorem Jv(h:∀j,j<i→p (iL a b j))(hi:2≤i):p a∧p b:=⟨h 0 w4,h 1 w4⟩
theorem Ez(h:∀j,j<i→p (iL a b j))(h1:p (iL a b i)):∀j,j<i+1→p (iL a b j):=fun j hj=>by
 by_cases e:j=i
 ·subst e;exact h1
 exact h j w4
theorem abd{d:Int}(hi:i<2)(h1:(iL a b i).k≠1)(h2:(iL a b i).k≠0):kP a b d=(aV,4):=by
 unfold kP;match i,hi with
 | 0,_=>rw[if_pos (.inl ⟨h1,h2⟩)]
 | 1,_=>rw[if_pos (.inr ⟨h1,h2⟩)]
theorem abe{d:Int}(hi:i<2)(hg:¬((a.k≠1∧a.k≠0)∨(b.k≠1∧b.k≠0)))(h0:∀j,j<i→¬((iL a b j).k=1∧(iL a b j).n=d))(h1:(iL a b i).k=1)(h2:(iL a b i).n=d):kP a b d=(iL a b i,0):=by
 unfold kP;rw[if_neg hg];match i,hi with
 | 0,_=>rw[if_pos ⟨h1,h2⟩];rfl
 | 1,_=>rw[if_neg (show ¬(a.k=1∧a.n=d) from h0 0 w4),if_pos (show b.k=1∧b.n=d from⟨h1,h2⟩)];rfl
def pN(k a b:Int):Int×Bool :=
 if k=8 then (wr (a+b),decide (wr (a+b)<a)==decide (b<0)) else if k=9 then (wr (a-b),decide (wr (a-b)>a)==decide (b<0))
 else (wr (a*b),a==0||(wr ((wr (a*b)).tdiv a)==b && !(a == -1&&b == -9223372036854775808)))
def pS(a b:Vl):Bool:=a.k==0||b.k==0
def fi(k:Int)(a b:Vl):Vl×Int :=
 if lS a b≠0 then (aV,lS a b) else if k=3 then kP a b 0 else if k=4 then kP a b 1
 else if k=6∨k=7 then (if pS a b=true then (aV,0) else if a.k≠b.k then (aV,4) else (mK ((dX a b==0&&k==6)||(decide (dX a b<0)&&k==7)),0))
 else if k=8∨k=9∨k=10 then (if (a.k≠2∧a.k≠0)∨(b.k≠2∧b.k≠0) then (aV,4) else if pS a b=true then (aV,0) else if (pN k a.n b.n).2=true then (⟨2,(pN k a.n b.n).1,⟨#[]⟩⟩,0) else (aV,5))
 else (aV,2)
def nC(k:Int)(a:Vl):Vl×Int :=
 if bW a≠0 then (aV,bW a) else if k=11 then (mK (a.k==0),0)
 else if k=5 then (if a.k=0 then (a,0) else if a.k=1 then (mK (a.n==0),0) else (aV,4)) else (aV,2)
def mE(r:Vl×Int):D:=.di [.agg (cV r.1),ae r.2]
variable {G:List (Nat×List Value)}
theorem tH(b:Bool):VP Tryz.prog G 100 [bJ b] (.agg (cV (mK b))):=by
 refine VC.body func100 rfl ntmps100 aO fun X0 w0 bg=>?_;refine bU ?_;refine OD.alloc (ds:=[_,_,_]) ap rfl rfl zeroValue41 rfl (fun b2=>?_);refine an 6 [0,2] ?_;refine af [2,3] ?_;refine aq ?_ ?_<;>intro aP bC
 ·refine aB 1 ?_;refine aR 0 [_,_,_] sizeOf41 ?_;refine an 6 [2] ?_;refine aI [] ?_;refine⟨?_,rfl⟩;unfold mK;simp_all[cV]
 refine aB 1 ?_;refine aR 0 [_,_,_] sizeOf41 ?_;refine an 6 [2] ?_;refine aI [] ?_;refine⟨?_,rfl⟩;unfold mK;simp_all[cV]
theorem TA(a b:Vl):VP Tryz.prog G 103 [.agg (cV a),.agg (cV b)] (bJ (pS a b)):=by
 refine VC.body func103 rfl ntmps103 aO fun X0 w0 bg=>?_;unfold cV;refine bU ?_;refine OD.box (ds:=[_,_,_]) ap rfl rfl ot rfl rfl (fun b2=>?_);refine OD.box (ds:=[_,_,_]) ap rfl rfl ot rfl rfl (fun b3=>?_);refine an 13 [2,3] ?_;refine aB 4 ?_;refine bP 8 (fun I E=>?_) (fun I E=>?_)
 ·refine bq [4] ?_;refine eJ ?_;refine⟨vb ?_,rfl⟩;unfold pS;simp_all
 refine bq [4] ?_;refine eJ ?_;refine⟨vb ?_,rfl⟩;unfold pS;simp_all
theorem Rp(a b:Vl)(d:Int):VP Tryz.prog G 102 [.agg (cV a),.agg (cV b),ae d] (mE (kP a b d)):=by
 refine VC.body func102 rfl ntmps102 aO fun X0 w0 bg=>?_;unfold mE cV;have nG:=TA (G:=G) a b;unfold cV at nG;refine bU ?_;refine OD.box (ds:=[_,_,_]) ap rfl rfl ot rfl rfl (fun b3=>?_);refine OD.box (ds:=[_,_,_]) ap rfl rfl ot rfl rfl (fun b4=>?_);refine OD.alloc (ds:=[_,_,_]) ap rfl rfl zeroValue41 rfl (fun b6=>?_);refine an 50 [2,3,4,6] ?_;refine cL [2,3,4,6,14,15] ?_;refine aS 2 ?_ (h:=by exact(D4 (pl:=[(0,_),(1,_)]) (ds:=[_,_,_,_,_,_]) rfl zeroValue173 runUnderlying173 sizeOf41 ⟨rfl,ot,rfl,ot,trivial⟩ rfl rfl));refine bI ?_;refine eA [2,3,4,6,14] (fun aX _ (i:Nat) aG=>(i≤2)∧(∀j,j<i→¬((iL a b j).k≠1∧(iL a b j).k≠0))∧aG=(⟨50,(15,ae (i:Nat))::aX,[⟨b6,41,3,[ae 0,ae 0,fk]⟩,⟨b4,41,3,[ae b.k,ae b.n,bj b.s]⟩,⟨b3,41,3,[ae a.k,ae a.n,bj a.s]⟩]⟩:St)) (fun (i:Nat)=>2-i) 0 ⟨(Nat.zero_le _),(fun j hj=>absurd hj (Nat.not_lt_zero _)),rfl⟩ ?_;rintro i _ ⟨hi,eY,rfl⟩;refine af [2,3,4,6,14,15,16] ?_;refine aq ?_ ?_<;>intro aP bC
 ·have aa:i<2:=(by omega)
  refine bU ?_;refine bN (HT (j:=i) rfl ot ot runUnderlying173 sizeOf41 isAgg41 rfl aa (Il a b aa)) ?_;refine OD.alloc (ds:=[_,_,_]) ap rfl rfl zeroValue41 rfl (fun b9=>?_);refine aR 0 [_,_,_] sizeOf41 ?_;refine an 50 [2,3,4,6,9,14,15] ?_;refine aB 4 ?_;refine bP 21 (fun qL I=>?_) (fun qL I=>?_)
  ·refine bq [2,3,4,6,14,15,25] ?_;refine aq ?_ ?_<;>intro aZ cr
   ·have aW:kP a b d=(aV,4):=abd aa (by simp_all) (by simp_all);refine aB 1 ?_;refine aR 1 [_,_,_] sizeOf41 ?_;refine an 50 [6,7] ?_;exact oQ
   exact z85
  refine bq [2,3,4,6,14,15,25] ?_;refine fJ ?_;exact z85
 have CJ:=Jv (p:=fun v=>¬(v.k≠1∧v.k≠0)) eY w4;have hg:¬((a.k≠1∧a.k≠0)∨(b.k≠1∧b.k≠0)):=fun h=>h.elim CJ.1 CJ.2;clear eY hi;refine cL [2,3,4,6,30,31] ?_;refine aS 2 ?_ (h:=by exact(D4 (pl:=[(0,_),(1,_)]) (ds:=[_,_,_,_,_,_]) rfl zeroValue173 runUnderlying173 sizeOf41 ⟨rfl,ot,rfl,ot,trivial⟩ rfl rfl));refine bI ?_;refine eA [2,3,4,6,30] (fun aX _ (i:Nat) aG=>(i≤2)∧(∀j,j<i→¬((iL a b j).k=1∧(iL a b j).n=d))∧aG=(⟨50,(31,ae (i:Nat))::aX,[⟨b6,41,3,[ae 0,ae 0,fk]⟩,⟨b4,41,3,[ae b.k,ae b.n,bj b.s]⟩,⟨b3,41,3,[ae a.k,ae a.n,bj a.s]⟩]⟩:St)) (fun (i:Nat)=>2-i) 0 ⟨(Nat.zero_le _),(fun j hj=>absurd hj (Nat.not_lt_zero _)),rfl⟩ ?_;rintro i _ ⟨Z,KR,rfl⟩;refine af [2,3,4,6,30,31,32] ?_;refine aq ?_ ?_<;>intro bX cA
 ·have aa:i<2:=(by omega)
  refine bU ?_;refine bN (HT (j:=i) rfl ot ot runUnderlying173 sizeOf41 isAgg41 rfl aa (Il a b aa)) ?_;refine OD.alloc (ds:=[_,_,_]) ap rfl rfl zeroValue41 rfl (fun lf=>?_);refine aR 0 [_,_,_] sizeOf41 ?_;refine an 50 [2,3,4,6,11,30,31] ?_;refine aB 4 ?_;refine bP 37 (fun U O=>?_) (fun U O=>?_)
  ·refine bq [2,3,4,6,11,30,31,42] ?_;refine aq ?_ ?_<;>intro cN dW
   ·have aW:kP a b d=(iL a b i,0):=abe aa hg KR (by simp_all) (by simp_all);refine aB 1 ?_;refine aR 1 [_,_,_] sizeOf41 ?_;refine an 50 [6,7] ?_;exact oQ
   exact XH
  refine bq [2,3,4,6,11,30,31,42] ?_;refine fJ ?_;exact XH
 have E:=Jv (p:=fun v=>¬(v.k=1∧v.n=d)) KR w4;refine cz [3,6,47] (nG) ?_;refine aq ?_ ?_<;>intro ec fh
 ·have aW:kP a b d=(aV,0):=(by unfold kP;rw[if_neg hg,if_neg E.1,if_neg E.2,if_pos (by unfold pS at ec;simpa using ec)])
  refine aB 1 ?_;refine aR 0 [_,_,_] sizeOf41 ?_;refine an 50 [6,7] ?_;exact oQ
 have aW:kP a b d=(a,0):=(by unfold kP;rw[if_neg hg,if_neg E.1,if_neg E.2,if_neg (by unfold pS at ec;simpa using ec)])
 refine aB 1 ?_;refine aR 0 [_,_,_] sizeOf41 ?_;refine an 50 [6,7] ?_;exact uE
theorem ac0(k a b:Int):VP Tryz.prog G 105 [ae k,ae a,ae b] (.di [ae (pN k a b).1,bJ (pN k a b).2]):=by
 refine VC.body func105 rfl ntmps105 aO fun X0 w0 bg=>?_;refine af [0,1,2] ?_;refine af [1,2,11] ?_;refine af [1,2,11,12] ?_;refine aq ?_ ?_<;>intro aP bC
 ·refine cL [1,2,8] ?_;refine aS 2 ?_ (h:=by exact(dz (r:=.int .i64 (wr (a+b))) rfl ot ot (kr rfl)));exact z87
 refine af [1,2,24] ?_;refine aq ?_ ?_<;>intro aZ cr
 ·refine cL [1,2,9] ?_;refine aS 2 ?_ (h:=by exact(dz (r:=.int .i64 (wr (a-b))) rfl ot ot (gY rfl)));exact z87
 refine cL [1,2,10] ?_;refine aS 2 ?_ (h:=by exact(dz (r:=.int .i64 (wr (a*b))) rfl ot ot (JC rfl)));refine bI ?_;refine aB 4 ?_;refine bP 42 (fun rC E=>?_) (fun rC E=>?_)
 ·refine bq [6,7] ?_;refine M3 ?_;refine⟨?_,rfl⟩;unfold pN;simp_all
 refine aF 2 ?_;refine OD.still iq rfl (dz (r:=.int .i64 (wr ((wr (a*b)).tdiv a))) rfl ot ot (aeo (by simpa using rC) rfl)) ?_;refine aF 3 ?_;refine bP 48 (fun U I=>?_) (fun U I=>?_)
 ·refine aF 3 ?_;refine bP 51 (fun Z O=>?_) (fun Z O=>?_)
  ·refine an 58 [6,7] ?_;refine aI [] ?_;refine⟨?_,rfl⟩;unfold pN;simp_all
  refine an 58 [6,7] ?_;refine aI [] ?_;refine⟨?_,rfl⟩;unfold pN;simp_all
 refine an 58 [6,7] ?_;refine aI [] ?_;refine⟨?_,rfl⟩;unfold pN;simp_all
theorem agz(k:Int)(a:Vl):VP Tryz.prog G 61 [ae k,.agg (cV a)] (mE (nC k a)):=by
 refine VC.body func61 rfl ntmps61 aO fun X0 w0 bg=>?_;unfold mE;have eT:=Vl.pL (G:=G) a;unfold cV at eT;unfold cV;refine bU ?_;refine OD.box (ds:=[_,_,_]) ap rfl rfl ot rfl rfl (fun b3=>?_);refine OD.alloc (ds:=[_,_,_]) ap rfl rfl zeroValue41 rfl (fun b4=>?_);refine an 35 [0,3,4] ?_;refine cz [0,3,4,6] (eT) ?_;refine af [0,3,4,6,10] ?_;refine aq ?_ ?_<;>intro aP bC
 ·refine aB 2 ?_;exact z59
 refine af [3,4,13] ?_;refine af [3,4,13,14] ?_;refine aq ?_ ?_<;>intro aZ cr
 ·refine aB 3 ?_;refine dP call100 (tH _) ?_;exact z59
 refine af [3,4,20] ?_;refine aq ?_ ?_<;>intro bX cA
 ·refine af [3,4,23] ?_;refine af [3,4,23,24] ?_;refine aq ?_ ?_<;>intro cN dW
  ·refine aB 1 ?_;exact z59
  refine af [3,4,27] ?_;refine aq ?_ ?_<;>intro ec fh
  ·refine aB 3 ?_;refine dP call100 (tH _) ?_;exact z59
  refine aB 1 ?_;exact z59
 refine aB 1 ?_;refine aR 0 [_,_,_] sizeOf41 ?_;refine an 35 [4,5] ?_;refine aI [] ?_;refine⟨?_,rfl⟩;unfold nC;simp_all[aV]
theorem aej{k:Int}(h0:lS a b=0)(hk:k=8∨k=9∨k=10)(hi:i<2)(h1:(iL a b i).k≠2)(h2:(iL a b i).k≠0):fi k a b=(aV,4):=by
 unfold fi;rw[if_neg (by simp[h0]),if_neg w4,if_neg w4,if_neg w4,if_pos hk];match i,hi with
 | 0,_=>rw[if_pos (.inl ⟨h1,h2⟩)]
 | 1,_=>rw[if_pos (.inr ⟨h1,h2⟩)]
theorem Pq{k:Int}(h0:lS a b=0)(hk:k=8∨k=9∨k=10)(hg:¬((a.k≠2∧a.k≠0)∨(b.k≠2∧b.k≠0))) :
  fi k a b=if pS a b=true then (aV,0) else if (pN k a.n b.n).2=true then (⟨2,(pN k a.n b.n).1,⟨#[]⟩⟩,0) else (aV,5):=by
 unfold fi;rw[if_neg (by simp[h0]),if_neg w4,if_neg w4,if_neg w4,if_pos hk,if_neg hg]
theorem agA(k:Int)(a b:Vl)(oa:a.Ok)(ob:b.Ok):VP Tryz.prog G 62 [ae k,.agg (cV a),.agg (cV b)] (mE (fi k a b)):=by
 refine VC.body func62 rfl ntmps62 aO fun X0 w0 bg=>?_;unfold mE;have oP:=Cd.Ti (G:=G) a b;have nG:=TA (G:=G) a b;have nh:=Rp (G:=G) a b 0;have j5:=Rp (G:=G) a b 1;have eT:=Cd.O3 (G:=G) a b oa ob;have xS:=ac0 (G:=G) k a.n b.n;unfold mE at nh j5;unfold cV at oP nG nh j5 eT;unfold cV;refine bU ?_;refine OD.box (ds:=[_,_,_]) ap rfl rfl ot rfl rfl (fun b4=>?_);refine OD.box (ds:=[_,_,_]) ap rfl rfl ot rfl rfl (fun b5=>?_);refine OD.alloc (ds:=[_,_,_]) ap rfl rfl zeroValue41 rfl (fun b6=>?_);refine an 106 [0,4,5,6] ?_;refine cz [0,4,5,6,8] (oP) ?_;refine af [0,4,5,6,8,18] ?_;refine aq ?_ ?_<;>intro aP bC
 ·have ng:lS a b≠0:=(by simpa using aP)
  have aW:fi k a b=(aV,lS a b):=(by unfold fi;rw[if_pos ng])
  refine aB 2 ?_;exact z7
 have ng:lS a b=0:=(by simpa using aP)
 refine af [0,4,5,6,21] ?_;refine af [0,4,5,6,21,22] ?_;refine aq ?_ ?_<;>intro aZ cr
 ·have aW:fi k a b=kP a b 0:=(by unfold fi;rw[if_neg (by simp[ng]),if_pos w4])
  refine aB 2 ?_;refine dP call102 (nh) ?_;refine aF 2 ?_;exact z7
 refine af [0,4,5,6,21,29] ?_;refine aq ?_ ?_<;>intro bX cA
 ·have aW:fi k a b=kP a b 1:=(by unfold fi;rw[if_neg (by simp[ng]),if_neg w4,if_pos w4])
  refine aB 2 ?_;refine dP call102 (j5) ?_;refine aF 2 ?_;exact z7
 refine af [0,4,5,6,21,36] ?_;refine aq ?_ ?_<;>intro cN dW
 ·refine eD ?_;exact VR
 refine cc [0,4,5,6,21,36] ?_;refine aq ?_ ?_<;>intro ec fh
 ·exact VR
 refine af [0,4,5,6,21,67] ?_;refine aq ?_ ?_<;>intro gj lB
 ·refine eD ?_;exact z6
 refine af [0,4,5,6,21,67] ?_;refine aq ?_ ?_<;>intro qd E
 ·refine eD ?_;exact z6
 refine cc [0,4,5,6,67] ?_;refine aq ?_ ?_<;>intro O I
 ·exact z6
 have aW:fi k a b=(aV,2):=(by unfold fi;rw[if_neg (by simp[ng]),if_neg w4,if_neg w4,if_neg w4,if_neg w4])
 refine aB 1 ?_;refine aR 0 [_,_,_] sizeOf41 ?_;refine an 106 [6,7] ?_;refine aI [] ?_;rw[aW];first|exact⟨rfl,rfl⟩|(refine⟨?_,rfl⟩;clear aW eT xS nh j5 oP nG;generalize (dX a b==0)=z1 at *;generalize (decide (dX a b<0))=z2 at *;subst_vars;simp_all;done)

end Go.Proofs.YtdgichenhdikgaaGreatDoor.Ex
namespace Go.Proofs.YtdgichenhdikgaaGreatDoor.Ex
open List
open Go.Proofs.Tryz
open Go.RowKit V Pk Vl Go.Proofs.YtdgichenhdikgaaGreatDoor.Nm Pc
variable {a b:Vl} {l:List cj} {row:List Vl} {ops:List aJ}
def cD(l:List cj)(row:List Vl)(o:aJ)(a b:Vl):Vl×Int :=
 if bw o.k=1 then nC o.k a else if bw o.k=2 then fi o.k a b else if o.k=2 then (row.getD (bD l o.nm).toNat aV,0) else (o.v,0)
def gS(l:List cj)(row:List Vl)(ops:List aJ):Vl×Int:=eW aV (cD l row) ops []
def dD(l:List cj)(row:List Vl)(ops:List aJ):Vl×Int :=
 if dB l row≠0 then (aV,dB l row) else if (dr l ops).2≠0 then (aV,(dr l ops).2) else gS l row ops
theorem rz:aV.Ok:=⟨by decide,by decide,by decide,by decide,Nat.zero_le _⟩
theorem Rq(b:Bool):(mK b).Ok:=by unfold mK;split<;>exact⟨by decide,by decide,by decide,by decide,Nat.zero_le _⟩
theorem ok_int{n:Int}(h:-9223372036854775808≤n∧n≤9223372036854775807):(⟨2,n,⟨#[]⟩⟩:Vl).Ok:=⟨by show -9223372036854775808≤(2:Int);decide,by show(2:Int)≤_;decide,h.1,h.2,Nat.zero_le _⟩
theorem ac1{d:Int}(oa:a.Ok)(ob:b.Ok):(kP a b d).1.Ok:=by
 unfold kP;repeat' split
 all_goals first|exact rz|exact oa|exact ob
theorem ok_two{k:Int}(oa:a.Ok)(ob:b.Ok):(fi k a b).1.Ok:=by
 unfold fi;repeat' split
 all_goals first|exact rz|exact ac1 oa ob|exact Rq _|skip
 unfold pN;repeat' split
 all_goals exact ok_int (ahZ _)
theorem ok_one{k:Int}(oa:a.Ok):(nC k a).1.Ok:=by
 unfold nC;repeat' split
 all_goals first|exact rz|exact oa|exact Rq _
theorem TB(hr:∀v∈row,v.Ok){o:aJ}(ho:o.v.Ok)(oa:a.Ok)(ob:b.Ok):(cD l row o a b).1.Ok:=by
 unfold cD;split
 ·exact ok_one oa
 split
 ·exact ok_two oa ob
 split
 ·show(row.getD _ aV).Ok;rw[getD_eq_getElem?_getD];cases h:row[(bD l o.nm).toNat]? with
  | none=>exact rz
  | some v=>exact hr v (mem_of_getElem? h)
 exact ho
theorem JT{st:List Vl}(h:∀v∈st,v.Ok)(j:Nat):(st.getD j aV).Ok:=by
 rw[getD_eq_getElem?_getD];cases hj:st[j]? with
 | none=>exact rz
 | some v=>exact h v (mem_of_getElem? hj)
theorem Bq{st:List Vl}(h:∀v∈st,v.Ok)(k:Int):(dS aV k st).Ok:=by unfold dS;split;exact JT h _;exact rz
theorem Br{st:List Vl}(h:∀v∈st,v.Ok)(k:Int):(dM aV k st).Ok:=by unfold dM;split;exact JT h _;exact rz
theorem PV{α:Type}{z:α}{f:aJ→α→α→α × Int}:∀{l:List aJ} {st:List α},(eW z f l st).2=0→∀o∈l,∃a b,(f o a b).2=0
 | [],_,_,o,ho=>by cases ho
 | x::r,st,h,o,ho=>by
  rw[eW] at h;split at h
  ·rename_i hne;exact absurd h hne
  rename_i he;rcases mem_cons.1 ho with rfl|ho
  ·exact⟨_,_,Classical.not_not.1 he⟩
  exact PV h o ho
theorem PW(h:(uk l ops).2=0):∀o∈ops,o.k=2→0≤bD l o.nm:=fun o ho hk=>by
 obtain⟨a,b,he⟩:=PV h o ho;unfold iW at he;rw[if_neg w4,if_pos hk] at he;unfold vc at he;split at he
 ·cases he
 omega
theorem JG(h:dB l row=0):row.length=l.length:=by
 unfold dB at h;split at h
 ·rename_i h1;exact absurd h h1
 split at h
 ·cases h
 omega
theorem E9(h:(dr l ops).2=0):fD l=0∧gz ops=0∧dr l ops=uk l ops:=by
 unfold dr at h ⊢;split at h
 ·rename_i h1;exact absurd h h1
 rename_i h1;split at h
 ·rename_i h2;exact absurd h h2
 rename_i h2;exact⟨Classical.not_not.1 h1,Classical.not_not.1 h2,by rw[if_neg h1,if_neg h2]⟩
variable {G:List (Nat×List Value)}
theorem IA(l:List cj)(hl:l.length≤6)(row:List Vl)(rV:row.length=l.length)(o:aJ)(I:o.k=2→0≤bD l o.nm)(a b a' b':Vl)(ha:a=a')(hb:b=b')(oa:a.Ok)(ob:b.Ok)(br bc:Nat):VC Tryz.prog G 59 [.agg (cO o),.agg (cV a'),.agg (cV b'),cQ br,cQ bc] [⟨br,28,1,[av 3 cV row]⟩,⟨bc,27,1,[av 2 cC l]⟩] (fun r S=>r=mE (cD l row o a b)∧S=[⟨br,28,1,[av 3 cV row]⟩,⟨bc,27,1,[av 2 cC l]⟩]):=by
 refine VC.body func59 rfl ntmps59 aO fun X0 w0 bg=>?_;subst ha hb;have ni:=agz (G:=G) o.k a;have E:=agA (G:=G) o.k a b oa ob;unfold mE at ni E ⊢;unfold cV at ni E;unfold cO cV;have U:=wE (fun c:cj=>c.n.toList==o.nm.toList) l;have O:bD l o.nm=cU (fun c:cj=>c.n.toList==o.nm.toList) l:=rfl;rw[←O] at U;clear O;refine bU ?_;refine OD.box (ds:=[_,_,_,_,_]) ap rfl rfl ot rfl rfl (fun b5=>?_);refine OD.box (ds:=[_,_,_]) ap rfl rfl ot rfl rfl (fun b6=>?_);refine OD.box (ds:=[_,_,_]) ap rfl rfl ot rfl rfl (fun b7=>?_);refine OD.alloc (ds:=[_,_,_]) ap rfl rfl zeroValue41 rfl (fun b8=>?_);refine an 42 [3,4,5,6,7,8] ?_;refine cz [3,4,5,6,7,8,12] (EL o.k) ?_;refine af [3,4,5,6,7,8,12,13] ?_;refine aq ?_ ?_<;>intro aP bC
 ·have aW:cD l row o a b=nC o.k a:=(by unfold cD;rw[if_pos w4])
  refine aB 3 ?_;refine dP call61 (ni) ?_;refine aF 2 ?_;exact Lu
 refine af [3,4,5,6,7,8,21] ?_;refine aq ?_ ?_<;>intro aZ cr
 ·have aW:cD l row o a b=fi o.k a b:=(by unfold cD;rw[if_neg w4,if_pos w4])
  refine aB 4 ?_;refine dP call62 (E) ?_;refine aF 2 ?_;exact Lu
 refine af [3,4,5,8,32] ?_;refine aq ?_ ?_<;>intro bX cA
 ·have fb:o.k=2:=(by omega)
  have aP:=I fb;have Z:(bD l o.nm).toNat<row.length:=(by omega)
  have aW:cD l row o a b=(row[(bD l o.nm).toNat],0):=(by unfold cD;rw[if_neg w4,if_neg w4,if_pos fb,getD_eq_getElem?_getD,getElem?_eq_getElem Z];rfl)
  refine CD.seq ?_;refine nH 7 [8,39] ?_;refine cH (qA l hl o.nm) ?_;refine bI ?_;exact Lu
 have aW:cD l row o a b=(o.v,0):=(by unfold cD;rw[if_neg w4,if_neg w4,if_neg w4])
 refine aB 2 ?_;refine aR 0 [_,_,_] sizeOf41 ?_;refine an 42 [8,9] ?_;exact z107
theorem ZX:(Tryz.prog.info? 41).map (fun i=>(i.zero,i.size,i.bytes))=some (some (.agg #[.int .i64 0,.int .i64 0,.string ⟨#[]⟩]),3,32):=by kernel_rfl
theorem ac2(l:List cj)(hl:l.length≤6)(row:List Vl)(rV:row.length=l.length)(L0:∀v∈row,v.Ok)(ops:List aJ)(fQ:∀o∈ops,o.v.Ok)(E:∀o∈ops,o.k=2→0≤bD l o.nm)(qk:ops.length≤40)(hx:fF 0 ops=0)(br bc:Nat):VC Tryz.prog G 58 [av 5 cO ops,.ew (.func 59) [cQ br,cQ bc]] [⟨br,28,1,[av 3 cV row]⟩,⟨bc,27,1,[av 2 cC l]⟩] (fun r S=>r=mE (gS l row ops)∧S=[⟨br,28,1,[av 3 cV row]⟩,⟨bc,27,1,[av 2 cC l]⟩]):=by
 refine VC.body func58 rfl ntmps58 aO fun X0 w0 bg=>?_;unfold mE;refine bU ?_;refine OD.alloc (ds:=[_,_,_]) ap rfl rfl zeroValue41 rfl (fun b4=>?_);refine an 64 [0,1,4] ?_;refine bU ?_;refine OD.alloc (ds:=[_,_,_]) ap rfl rfl zeroValue41 rfl (fun b6=>?_);refine OD.perm (Bb (k:=2) (k':=2) rfl rfl) ?_;refine an 64 [0,1,4,6] ?_;refine bU ?_;refine bq [0,1,4,6,7] ?_;refine af [1,4,6,7,16,17,18] ?_;refine CD.block ?_;refine nl (fun (I:Nat×List Vl×Option Addr×Nat×List ah) aG=>match I with|(i,st,O,kf,Sh)=>(i≤ops.length)∧(st.length≤i)∧(fF ((st.length:Nat):Int) (ops.drop i)=0)∧(gS l row ops=eW aV (cD l row) (ops.drop i) st)∧(∀v∈st,v.Ok)∧(bp 41 3 ((st).flatMap cV) (st).length O kf Sh)∧aG=(⟨64,[(1,.ew (.func 59) [cQ br,cQ bc]),(4,cQ b4),(6,cQ b6),(7,aN O (st).length kf),(16,av 5 cO ops),(17,ae (ops.length:Nat)),(18,ae (i:Nat))],(⟨br,28,1,[av 3 cV row]⟩::⟨bc,27,1,[av 2 cC l]⟩::⟨b6,41,3,[ae 0,ae 0,fk]⟩::⟨b4,41,3,[ae 0,ae 0,fk]⟩::Sh)⟩:St)) (fun (I:Nat×List Vl×Option Addr×Nat×List ah)=>match I with|(i,st,O,kf,Sh)=>ops.length-i) (0,[],none,0,[]) ⟨(Nat.zero_le _),(Nat.zero_le _),hx,rfl,(fun v U=>by cases U),(bp.cast iy jS),rfl⟩ (aK (h:=by repeat (first|exact trivial|refine⟨GH,?_⟩))) ?_;rintro⟨i,st,O,kf,Sh⟩ _ ⟨hi,fB,hex,hinv,aQ,oc,rfl⟩;refine af [1,4,6,7,16,17,18,19] ?_;refine aq ?_ ?_<;>intro aP bC
 ·have aa:i<ops.length:=(by omega)
  obtain⟨he,yn⟩:=PU aa hex;obtain⟨rQ,Wj,yo,qS⟩:=tN he;have C9:=qz ops[i].k;have s7:(st.take (st.length-(bw ops[i].k).toNat)++[(cD l row ops[i] (dS aV ops[i].k st) (dM aV ops[i].k st)).1]).length=st.length+1-(bw ops[i].k).toNat:=(by rw[length_append,length_take,length_singleton];omega)
  have oe:fF (((st.take (st.length-(bw ops[i].k).toNat)++[(cD l row ops[i] (dS aV ops[i].k st) (dM aV ops[i].k st)).1]).length:Nat):Int) (ops.drop (i+1))=0:=(by rw[s7,show(((st.length+1-(bw ops[i].k).toNat:Nat)):Int)=(st.length:Int)+(1-bw ops[i].k) by omega];exact yn)
  have aiW:∀v∈st.take (st.length-(bw ops[i].k).toNat)++[(cD l row ops[i] (dS aV ops[i].k st) (dM aV ops[i].k st)).1],v.Ok:=fun v U=>by rcases mem_append.1 U with U|U;exact aQ v (mem_of_mem_take U);rw[mem_singleton] at U;rw[U];exact TB L0 (fQ _ (getElem_mem aa)) (Bq aQ _) (Br aQ _)
  refine aB 2 ?_;refine OD.alloc (ds:=[_,_,_,_,_]) ap rfl rfl zeroValue43 rfl (fun b9=>?_);refine aR 0 [_,_,_,_,_] sizeOf43 ?_;refine an 64 [1,4,6,7,9,16,17,18] ?_;refine bU ?_;refine OD.alloc (ds:=[_,_,_]) ap rfl rfl zeroValue41 rfl (fun j8=>?_);refine OD.alloc (ds:=[_,_,_]) ap rfl rfl zeroValue41 rfl (fun lf=>?_);refine an 64 [1,4,6,7,9,10,11,16,17,18] ?_;refine cz [1,4,6,7,9,10,11,12,16,17,18] (EL ops[i].k) ?_;refine af [1,4,6,7,9,10,11,12,13,16,17,18] ?_;refine af [1,4,6,7,9,10,11,12,13,16,17,18,30] ?_;refine aq ?_ ?_<;>intro aZ cr
  ·obtain⟨bh,rfl,xj,wP,rfl⟩:=oc.pos w4;have uP:(st.length-(bw ops[i].k).toNat)<st.length:=(by omega)
   have ha:dS aV ops[i].k st=st[(st.length-(bw ops[i].k).toNat)]:=(by unfold dS;rw[if_pos w4,getD_eq_getElem?_getD,getElem?_eq_getElem uP];rfl)
   refine dK 2 ?_;refine bN (dw 3 (h:=by first|exact .l (j:=(st.length-(bw ops[i].k).toNat)) w4 w4|exact .r (j:=(st.length-(bw ops[i].k).toNat)) w4 w4)) ?_;refine bN (cR (mk:=Op.load 41) rfl ot (dA (k:=7) ff rfl rfl rfl isAgg41 sizeOf41 uP)) ?_;refine aR 1 [_,_,_] sizeOf41 ?_;refine an 64 [1,4,6,7,9,10,11,12,13,16,17,18] ?_;refine af [1,4,6,7,9,10,11,13,16,17,18,36] ?_;refine aq ?_ ?_<;>intro bX cA
   ·have Z:(st.length-(bw ops[i].k).toNat)+1<st.length:=(by omega)
    have hb:dM aV ops[i].k st=st[(st.length-(bw ops[i].k).toNat)+1]:=(by unfold dM;rw[if_pos w4,getD_eq_getElem?_getD,getElem?_eq_getElem Z];rfl)
    refine dK 3 ?_;refine bN (dw 3 (h:=by first|exact .l (j:=(st.length-(bw ops[i].k).toNat)+1) w4 w4|exact .r (j:=(st.length-(bw ops[i].k).toNat)+1) w4 w4)) ?_;refine bN (cR (mk:=Op.load 41) rfl ot (dA (k:=7) ff rfl rfl rfl isAgg41 sizeOf41 Z)) ?_;refine aR 0 [_,_,_] sizeOf41 ?_;refine an 64 [1,4,6,7,9,10,11,13,16,17,18] ?_;refine aB 4 ?_;refine OD.kx (f:=59) (args:=[_,_,_]) (all:=[_,_,_,_,_]) (Sf:=[⟨br,28,1,[av 3 cV row]⟩,⟨bc,27,1,[av 2 cC l]⟩]) ap rfl rfl ot call59 (IA l hl row rV ops[i] (E _ (getElem_mem aa)) _ _ (st[(st.length-(bw ops[i].k).toNat)]) (st[(st.length-(bw ops[i].k).toNat)+1]) ha hb (Bq aQ _) (Br aQ _) br bc) rfl ⟨ot,ot,ot,trivial⟩ (Bb (k:=3) (k':=3) rfl rfl) ?_;exact z119
   have hb:dM aV ops[i].k st=aV:=(by unfold dM;rw[if_neg w4])
   refine aB 4 ?_;refine OD.kx (f:=59) (args:=[_,_,_]) (all:=[_,_,_,_,_]) (Sf:=[⟨br,28,1,[av 3 cV row]⟩,⟨bc,27,1,[av 2 cC l]⟩]) ap rfl rfl ot call59 (IA l hl row rV ops[i] (E _ (getElem_mem aa)) _ _ (st[(st.length-(bw ops[i].k).toNat)]) (aV) ha hb (Bq aQ _) (Br aQ _) br bc) rfl ⟨ot,ot,ot,trivial⟩ (Bb (k:=3) (k':=3) rfl rfl) ?_;exact z119
  have ha:dS aV ops[i].k st=aV:=(by unfold dS;rw[if_neg w4])
  refine af [1,4,6,7,9,10,11,13,16,17,18,36] ?_;refine aq ?_ ?_<;>intro bX cA
  ·exact absurd bX (by simp at *;omega)
  have hb:dM aV ops[i].k st=aV:=(by unfold dM;rw[if_neg w4])
  refine aB 4 ?_;refine OD.kx (f:=59) (args:=[_,_,_]) (all:=[_,_,_,_,_]) (Sf:=[⟨br,28,1,[av 3 cV row]⟩,⟨bc,27,1,[av 2 cC l]⟩]) ap rfl rfl ot call59 (IA l hl row rV ops[i] (E _ (getElem_mem aa)) _ _ (aV) (aV) ha hb (Bq aQ _) (Br aQ _) br bc) rfl ⟨ot,ot,ot,trivial⟩ (Bb (k:=3) (k':=3) rfl rfl) ?_;rintro _ _ ⟨rfl,rfl⟩;refine aF 3 ?_;refine OD.alloc (ds:=[_,_,_]) ap rfl rfl zeroValue41 rfl (fun Ap=>?_);refine aR 0 [_,_,_] sizeOf41 ?_;refine an 64 [1,4,6,7,13,14,15,16,17,18] ?_;refine af [1,4,6,7,13,14,15,16,17,18,51] ?_;refine aq ?_ ?_<;>intro cN dW
  ·exact Xp
  have hz:(cD l row ops[i] (dS aV ops[i].k st) (dM aV ops[i].k st)).2=0:=(by simpa using cN)
  refine CD.skip ?_;refine CD.sJ (k:=(st.length-(bw ops[i].k).toNat)) (ls:=(st)) (Sq:=Sh) ff w4 oc (cZ (A:=[_,_,_,_,_,_,_,_])) (fun B0 BG=>?_);exact z5
 have h1:=Ro w4 hex;have Wq:0<st.length:=(by omega)
 obtain⟨bh,rfl,xj,wP,rfl⟩:=oc.pos w4;have aW:=hinv.trans (Rn w4);have ke:st.getD 0 aV=st[0]:=(by rw[getD_eq_getElem?_getD,getElem?_eq_getElem Wq];rfl)
 rw[ke] at aW;refine aB 1 ?_;refine bN (su (mk:=Op.indexAddr 28) rfl ot bV (by first|exact tX (j:=0) runUnderlying28 sizeOf41 rfl Ac|exact uf (j:=0) runUnderlying28 sizeOf41 rfl Ac)) ?_;refine bN (cR (mk:=Op.load 41) rfl ot (dA (k:=4) ff rfl rfl rfl isAgg41 sizeOf41 Wq)) ?_;refine aR 3 [_,_,_] sizeOf41 ?_;refine an 64 [4,5] ?_;exact z107
theorem aeV(l:List cj)(hl:l.length≤6)(row:List Vl)(O:row.length=l.length)(E:∀v∈row,v.Ok)(ops:List aJ)(fQ:∀o∈ops,o.v.Ok)(I:∀o∈ops,o.k=2→0≤bD l o.nm)(hx:gz ops=0):VP Tryz.prog G 35 [av 2 cC l,av 3 cV row,av 5 cO ops] (mE (gS l row ops)):=by
 refine VC.body func35 rfl ntmps35 aO fun X0 w0 bg=>?_;obtain⟨U,fq⟩:=wF hx;have fL:=fun br bc=>ac2 (G:=G) l hl row O E ops fQ I U fq br bc;unfold mE at fL ⊢;generalize gS l row ops=q at fL ⊢;skip;refine bU ?_;refine OD.box (ds:=[_]) ap rfl rfl ot rfl rfl (fun b3=>?_);refine OD.box (ds:=[_]) ap rfl rfl ot rfl rfl (fun b4=>?_);refine OD.alloc (ds:=[_,_,_]) ap rfl rfl zeroValue41 rfl (fun b6=>?_);refine an 13 [2,3,4,6] ?_;refine aB 1 ?_;refine bN (pK (ds:=[_,_]) rfl ⟨ot,ot,trivial⟩) ?_;refine OD.call ap rfl rfl rfl call58 (fL b4 b3) ⟨ot,ot,trivial⟩ (Bb (k:=1) (k':=1) rfl rfl) ?_;rintro _ _ ⟨rfl,rfl⟩;refine aF 2 ?_;refine aR 2 [_,_,_] sizeOf41 ?_;refine an 13 [6,7] ?_;exact z51
theorem JU(hm:(3,marksC)∈G)(hw:(1,wordsC)∈G)(ht:(0,typesC)∈G)(l:List cj)(hl:l.length≤6)(aQ:∀c∈l,c.n.size≤maxLen)(row:List Vl)(Z:row.length≤1000)(E:∀v∈row,v.Ok)(ops:List aJ)(ho:∀o∈ops,o.nm.size≤maxLen)(fQ:∀o∈ops,o.v.Ok):VP Tryz.prog G 20 [av 2 cC l,av 3 cV row,av 5 cO ops] (mE (dD l row ops)):=by
 refine VC.body func20 rfl ntmps20 aO fun X0 w0 bg=>?_;have c8:=dR;have U:=Kv hm hw ht l w4 aQ row w4;have I:=JS hm hw ht l hl aQ ops ho;unfold pZ at I;unfold mE;refine bU ?_;refine OD.alloc (ds:=[_,_,_]) ap rfl rfl zeroValue41 rfl (fun b6=>?_);refine an 34 [0,1,2,6] ?_;refine cz [0,1,2,6,8] (U) ?_;refine af [0,1,2,6,8,15] ?_;refine aq ?_ ?_<;>intro aP bC
 ·have h0:dB l row≠0:=(by simpa using aP)
  have aW:dD l row ops=(aV,dB l row):=(by unfold dD;rw[if_pos h0])
  refine aB 2 ?_;refine aR 0 [_,_,_] sizeOf41 ?_;refine an 34 [6,7] ?_;exact oQ
 have h0:dB l row=0:=(by simpa using aP)
 refine cz [0,1,2,6,10] (I) ?_;refine af [0,1,2,6,10,25] ?_;refine aq ?_ ?_<;>intro aZ cr
 ·have h1:(dr l ops).2≠0:=(by simpa using aZ)
  have aW:dD l row ops=(aV,(dr l ops).2):=(by unfold dD;rw[if_neg (by simp[h0]),if_pos h1])
  refine aB 2 ?_;refine aR 0 [_,_,_] sizeOf41 ?_;refine an 34 [6,7] ?_;exact oQ
 have h1:(dr l ops).2=0:=(by simpa using aZ)
 obtain⟨k1,k2,k3⟩:=E9 h1;have aW:dD l row ops=gS l row ops:=(by unfold dD;rw[if_neg (by simp[h0]),if_neg (by simp[h1])])
 have O:=aeV (G:=G) l hl row (JG h0) E ops fQ (PW (by rw[←k3];exact h1)) k2;unfold mE at O;refine aB 3 ?_;refine dP call35 (O) ?_;refine aF 2 ?_;refine aR 0 [_,_,_] sizeOf41 ?_;refine an 34 [6,7] ?_;exact uE

end Go.Proofs.YtdgichenhdikgaaGreatDoor.Ex
namespace Go.Proofs.YtdgichenhdikgaaGreatDoor.Pc
open List
open Go.Proofs.Tryz
open Go.RowKit V Pk Vl Go.Proofs.YtdgichenhdikgaaGreatDoor.Nm
variable {G:List (Nat×List Value)}
def bf:List cj:=[⟨⟨#[105,100]⟩,2⟩,⟨⟨#[110]⟩,2⟩,⟨⟨#[115]⟩,3⟩,⟨⟨#[98]⟩,1⟩]
def qC(n:Int):Vl:=if dY n 3=2 then aV else ⟨1,dY n 3,⟨#[]⟩⟩
def jP(n:Int):Vl:=⟨2,n,⟨#[]⟩⟩
theorem ah0:cG ⟨#[105,100]⟩=0:=tF (l:=[105,100]) w8 w8 w8
theorem akn:cG ⟨#[110]⟩=0:=tF (l:=[110]) w8 w8 w8
theorem ako:cG ⟨#[115]⟩=0:=tF (l:=[115]) w8 w8 w8
theorem akp:cG ⟨#[98]⟩=0:=tF (l:=[98]) w8 w8 w8
theorem Bj:fD bf=0:=by
 simp[fD,bf,ru,nD,ah0,akn,ako,akp,wv]
theorem SB:∀c∈bf,c.n.size≤maxLen:=fun c hc=>by
 have h:c.n.size≤2:=by
  simp only[bf,mem_cons,not_mem_nil,or_false] at hc;rcases hc with rfl|rfl|rfl|rfl
  ·exact Nat.le_refl 2
  ·exact Nat.le_succ 1
  ·exact Nat.le_succ 1
  exact Nat.le_succ 1
 exact Nat.le_trans h w8
theorem agB(n:Int):bW (jP n)=0:=by
 unfold bW;rw[if_neg (show ¬(jP n).k=0 by show ¬(2:Int)=0;decide),if_neg (show ¬(jP n).k=1 by show ¬(2:Int)=1;decide),if_pos (show(jP n).k=2 from rfl),if_neg (fun h=>h rfl)]
theorem zC:bW aV=0:=by decide
theorem IB:VP Tryz.prog G 18 [] (av 2 cC bf):=by
 refine VC.body func18 rfl ntmps18 aO fun X0 w0 bg=>?_;refine af [] ?_;refine aB 4 ?_;refine en (cf 0 [_,_,_,_]) [.string ⟨#[]⟩,.int .i64 0,.string ⟨#[]⟩,.int .i64 0,.string ⟨#[]⟩,.int .i64 0,.string ⟨#[]⟩,.int .i64 0] [_,_,_,_,_,_,_,_] zeroValue69 runUnderlying27 sizeOf69 (fun b5=>?_);refine OD.perm (dV (S1:=[⟨b5,69,4*2,flatMap cC ([⟨⟨#[105,100]⟩,2⟩,⟨⟨#[110]⟩,2⟩,⟨⟨#[115]⟩,3⟩,⟨⟨#[98]⟩,1⟩])⟩]) (A:=[])) ?_;refine an 6 [0] ?_;refine CD.gP (t:=0) (Sq:=[⟨b5,69,4*2,flatMap cC ([⟨⟨#[105,100]⟩,2⟩,⟨⟨#[110]⟩,2⟩,⟨⟨#[115]⟩,3⟩,⟨⟨#[98]⟩,1⟩])⟩]) lk (bM (g:=cC) (sz:=2) (e:=69) (ls:=[⟨⟨#[105,100]⟩,2⟩,⟨⟨#[110]⟩,2⟩,⟨⟨#[115]⟩,3⟩,⟨⟨#[98]⟩,1⟩]) (Nat.le_refl _) (show 4≤maxLen by decide)) (cn lN _) (cZ (A:=[])) ?_;exact z51

end Go.Proofs.YtdgichenhdikgaaGreatDoor.Pc
namespace Go.Proofs.YtdgichenhdikgaaGreatDoor.Ex
open List
open Go.Proofs.Tryz
open Go.RowKit V Pk Vl Go.Proofs.YtdgichenhdikgaaGreatDoor.Nm Pc
variable {k:Int} {a b:Vl} {l:List cj} {row:List Vl} {o:aJ} {α:Type} {ks:List Int}
theorem HY(b:Bool):bW (mK b)=0:=by cases b<;>decide
theorem abf(n:Int):bW ⟨2,n,⟨#[]⟩⟩=0:=agB n
theorem Fa(h:¬(k=8∨k=9∨k=10)):xn k=1:=if_neg h
theorem aeW(h:k=8∨k=9∨k=10):xn k=2:=if_pos h
theorem I8(b:Bool):(mK b).k=1:=by cases b<;>rfl
theorem AZ{v:Vl}(h:iP v=0):bW v=0:=by
 unfold iP at h;split at h
 ·cases h
 exact h
def jy(k:Int)(v:Vl):Prop:=bW v=0∧(v.k=k∨v.k=0)
theorem BD:jy 0 aV:=⟨zC,.inl rfl⟩
structure mN (l:List cj) (o:aJ):Prop where
 nm:o.nm.size≤maxLen
 ok:o.v.Ok
 ck:bW o.v=0
 k1:1≤o.k
 k2:o.k≤11
 YC:o.k=2→0≤bD l o.nm
def FY(l:List cj)(row:List Vl):Prop:=∀i:Nat,jy (l.getD i ⟨⟨#[]⟩,0⟩).k (row.getD i aV)
theorem zD{a b:Int}(h:rU a b=true):a=b∨a=0:=by
 unfold rU at h;simpa using h
theorem aag{d:Int}(ha:bW a=0)(hb:bW b=0)(h1:a.k=1∨a.k=0)(h2:b.k=1∨b.k=0):(kP a b d).2=0∧jy 1 (kP a b d).1:=by
 unfold kP;rw[if_neg w4];split
 ·exact⟨rfl,ha,h1⟩
 split
 ·exact⟨rfl,hb,h2⟩
 split
 ·exact⟨rfl,zC,.inr rfl⟩
 exact⟨rfl,ha,h1⟩
theorem aeX(ha:bW a=0)(hb:bW b=0):Cd.lS a b=0:=by unfold Cd.lS;rw[ha,hb];rfl
theorem abg(h:Cd.lS a b=0)(hk:k=3∨k=4):∃d,fi k a b=kP a b d:=by
 unfold fi;rw[if_neg (by simp[h])];rcases hk with rfl|rfl
 ·exact⟨0,if_pos rfl⟩
 exact⟨1,by rw[if_neg w8,if_pos rfl]⟩
theorem ac3(h:Cd.lS a b=0)(hk:k=6∨k=7):fi k a b=if pS a b=true then (aV,0) else if a.k≠b.k then (aV,4) else (mK ((Cd.dX a b==0&&k==6)||(decide (Cd.dX a b<0)&&k==7)),0):=by
 unfold fi;rw[if_neg (by simp[h]),if_neg w4,if_neg w4,if_pos hk]
theorem abh(hr:FY l row)(ho:mN l o){a b:Int}{E vb:Vl}(ha:jy a E)(hb:jy b vb)(h:(iW l o a b).2=0) :
  (cD l row o E vb).2=5∨((cD l row o E vb).2=0∧jy (iW l o a b).1 (cD l row o E vb).1):=by
 have k1:=ho.k1;have k2:=ho.k2;obtain⟨ca,ka⟩:=ha;obtain⟨cb,kb⟩:=hb;have O:=aeX ca cb;unfold iW at h ⊢;by_cases e1:o.k=1
 ·rw[if_pos e1];have:cD l row o E vb=(o.v,0):=(by unfold cD bw;rw[if_neg w4,if_neg (by rw[if_pos (.inl e1)];omega),if_neg w4]<;>(try rw[if_pos (.inl e1)];omega))
  rw[this];exact .inr ⟨rfl,ho.ck,.inl rfl⟩
 rw[if_neg e1] at h ⊢;by_cases e2:o.k=2
 ·rw[if_pos e2] at h ⊢;have hp:bw o.k=0:=(by unfold bw;rw[if_pos (.inr e2)])
  have hc:=ho.YC e2;have:cD l row o E vb=(row.getD (bD l o.nm).toNat aV,0):=(by unfold cD;rw[if_neg w4,if_neg w4,if_pos e2])
  rw[this];unfold vc;rw[if_neg w4];exact .inr ⟨rfl,hr _⟩
 rw[if_neg e2] at h ⊢;have aQ:okF o.k a b=true:=by
  by_cases hk:okF o.k a b=true
  ·exact hk
  rw[if_neg hk] at h;cases h
 rw[if_pos aQ];unfold okF at aQ;by_cases I:o.k=5∨o.k=11
 ·have hp:bw o.k=1:=(by unfold bw;rw[if_neg w4,if_pos I])
  have he:cD l row o E vb=nC o.k E:=(by unfold cD;rw[if_pos hp])
  rw[he];unfold nC;rw[if_neg (by simp[ca])];rcases I with I|I
  ·have U:¬(o.k=3∨o.k=4):=(by omega)
   have Z:¬o.k=11:=(by omega)
   rw[if_neg U,if_pos I] at aQ;have hi:=zD aQ;rw[if_neg Z,if_pos I,Fa w4];by_cases z:E.k=0
   ·rw[if_pos z];exact .inr ⟨rfl,ca,.inr z⟩
   rw[if_neg z,if_pos w4];exact .inr ⟨rfl,HY _,.inl (I8 _)⟩
  rw[if_pos I,Fa w4];exact .inr ⟨rfl,HY _,.inl (I8 _)⟩
 have hp:bw o.k=2:=(by unfold bw;rw[if_neg w4,if_neg I])
 have he:cD l row o E vb=fi o.k E vb:=(by unfold cD;rw[if_neg w4,if_pos hp])
 rw[he];by_cases e3:o.k=3∨o.k=4
 ·rw[if_pos e3,Bool.and_eq_true] at aQ;have i1:=zD aQ.1;have i2:=zD aQ.2;obtain⟨d,hd⟩:=abg O e3;rw[hd,Fa w4];exact .inr (aag ca cb w4 w4)
 have n5:¬o.k=5:=(by omega)
 rw[if_neg e3,if_neg n5] at aQ;by_cases e6:o.k=6∨o.k=7
 ·rw[if_pos e6,Bool.or_eq_true] at aQ;rw[ac3 O e6,Fa w4];by_cases hn:pS E vb=true
  ·rw[if_pos hn];exact .inr ⟨rfl,zC,.inr rfl⟩
  rw[if_neg hn];unfold pS at hn;simp only[Bool.or_eq_true,beq_iff_eq,not_or] at hn;have lF:E.k=vb.k:=by
   rcases aQ with aQ|aQ
   ·have:=zD aQ;omega
   have:b=0:=(by simpa using aQ)
   omega
  rw[if_neg (by simpa using lF)];exact .inr ⟨rfl,HY _,.inl (I8 _)⟩
 have e8:o.k=8∨o.k=9∨o.k=10:=(by omega)
 rw[if_neg e6,if_pos e8,Bool.and_eq_true] at aQ;have i1:=zD aQ.1;have i2:=zD aQ.2;rw[Pq O e8 w4,aeW e8];split
 ·exact .inr ⟨rfl,zC,.inr rfl⟩
 split
 ·exact .inr ⟨rfl,abf _,.inl rfl⟩
 exact .inl rfl
theorem wG{z:α}{f:aJ→α→α→α × Int}{r:List aJ}{st:List α}(h:(f o (dS z o.k st) (dM z o.k st)).2=0):eW z f (o::r) st=eW z f r (st.take (st.length-(bw o.k).toNat)++[(f o (dS z o.k st) (dM z o.k st)).1]):=by
 rw[eW,if_neg (by rw[h];simp)]
theorem yQ{z:α}{f:aJ→α→α→α × Int}{r:List aJ}{st:List α}(h:(f o (dS z o.k st) (dM z o.k st)).2≠0):eW z f (o::r) st=(z,(f o (dS z o.k st) (dM z o.k st)).2):=by
 rw[eW,if_pos h]
def Ci(ks:List Int)(vs:List Vl):Prop:=ks.length=vs.length∧∀i:Nat,jy (ks.getD i 0) (vs.getD i aV)
theorem Rr(z x:α)(l:List α)(n i:Nat)(hn:n≤l.length):(l.take n++[x]).getD i z=if i<n then l.getD i z else if i=n then x else z:=by
 have hl:(l.take n).length=n:=(by rw[length_take];omega)
 by_cases h1:i<n
 ·rw[if_pos h1,getD_eq_getElem?_getD,getD_eq_getElem?_getD,getElem?_append_left w4,getElem?_take,if_pos h1]
 rw[if_neg h1,getD_eq_getElem?_getD,getElem?_append_right w4,hl];by_cases h2:i=n
 ·rw[if_pos h2,h2,Nat.sub_self];rfl
 rw[if_neg h2,getElem?_eq_none (by rw[length_singleton];omega)];rfl
theorem aeY{vs:List Vl}(h:Ci ks vs){v:Vl}(hr:jy k v){n:Nat}(hn:n≤ks.length):Ci (ks.take n++[k]) (vs.take n++[v]):=by
 have hl:=h.1;refine⟨by simp only[length_append,length_take,length_singleton];omega,fun i=>?_⟩;rw[Rr _ _ _ _ _ hn,Rr _ _ _ _ _ w4];split
 ·exact h.2 i
 split
 ·exact hr
 exact BD
theorem aeZ{vs:List Vl}(h:Ci ks vs)(k:Int):jy (dS 0 k ks) (dS aV k vs)∧jy (dM 0 k ks) (dM aV k vs):=by
 have hl:=h.1;unfold dS dM;rw[hl];refine⟨?_,?_⟩
 ·split
  ·exact h.2 _
  exact BD
 split
 ·exact h.2 _
 exact BD
theorem PX{l:List cj}{row:List Vl}(hr:FY l row):∀(ops:List aJ),(∀o∈ops,mN l o)→∀(ks:List Int) (vs:List Vl),Ci ks vs→(eW 0 (iW l) ops ks).2=0 →
  (eW aV (cD l row) ops vs).2=5∨((eW aV (cD l row) ops vs).2=0∧jy (eW 0 (iW l) ops ks).1 (eW aV (cD l row) ops vs).1)
 | [],_,ks,vs,h,_=>.inr ⟨rfl,h.2 0⟩
 | o::r,hg,ks,vs,h,h0=>by
  obtain⟨hA,hB⟩:=aeZ h o.k;by_cases hm:(iW l o (dS 0 o.k ks) (dM 0 o.k ks)).2=0
  ·rw[wG hm] at h0 ⊢;rcases abh hr (hg o mem_cons_self) hA hB hm with h5|⟨hz,E⟩
   ·rw[yQ (by rw[h5];decide)];exact .inl h5
   rw[wG hz];have:=aeY h E (n:=ks.length-(bw o.k).toNat) (Nat.sub_le _ _);rw[show vs.length-(bw o.k).toNat=ks.length-(bw o.k).toNat by rw[h.1]];exact PX hr r (fun x hx=>hg x (mem_cons_of_mem _ hx)) _ _ this h0
  rw[yQ hm] at h0;exact absurd h0 hm
theorem ac4(ho:mN l o)(a b:Int):(iW l o a b).2=0∨(iW l o a b).2=4:=by
 unfold iW;split
 ·exact .inl rfl
 split
 ·rename_i h2;have:=ho.YC h2;unfold vc;rw[if_neg w4];exact .inl rfl
 split
 ·exact .inl rfl
 exact .inr rfl
theorem Rt{l:List cj}:∀(ops:List aJ),(∀o∈ops,mN l o)→∀ks,(eW 0 (iW l) ops ks).2=0∨(eW 0 (iW l) ops ks).2=4
 | [],_,ks=>.inl rfl
 | o::r,hg,ks=>by
  rw[eW];split
  ·rename_i hne;rcases ac4 (hg o mem_cons_self) (dS 0 o.k ks) (dM 0 o.k ks) with h|h
   ·exact absurd h hne
   exact .inr h
  exact Rt r (fun x hx=>hg x (mem_cons_of_mem _ hx)) _
theorem ae0:Ci [] []:=⟨rfl,fun i=>by rw[getD_nil,getD_nil];exact BD⟩
theorem PY{ops:List aJ}(hl:fD l=0)(hw:dB l row=0)(hr:FY l row)(hg:∀o∈ops,mN l o)(hx:gz ops=0) :
  dr l ops=uk l ops∧((dr l ops).2=0∨(dr l ops).2=4)∧((dr l ops).2=4→dD l row ops=(aV,4)) ∧
  ((dr l ops).2=0→dD l row ops=gS l row ops∧((dD l row ops).2=5∨((dD l row ops).2=0∧jy (dr l ops).1 (dD l row ops).1))):=by
 have hk:dr l ops=uk l ops:=(by unfold dr;rw[if_neg (by simp[hl]),if_neg (by simp[hx])])
 refine⟨hk,by rw[hk];exact Rt ops hg [],fun h4=>?_,fun h0=>?_⟩
 ·unfold dD;rw[if_neg (by simp[hw]),if_pos xQ,h4]
 have he:dD l row ops=gS l row ops:=(by unfold dD;rw[if_neg (by simp[hw]),if_neg (by simp[h0])])
 refine⟨he,?_⟩;rw[he,hk];exact PX hr ops hg [] [] ae0 (by rw[hk] at h0;exact h0)
theorem Vd:bD bf ⟨#[105,100]⟩=0:=by decide +kernel
theorem akq:bD bf ⟨#[110]⟩=1:=by decide +kernel
theorem akr:bD bf ⟨#[115]⟩=2:=by decide +kernel
theorem aks:bD bf ⟨#[98]⟩=3:=by decide +kernel
theorem ae1(j:Int):0≤bD bf (ph j):=by
 unfold ph;split
 ·rw[Vd];decide
 split
 ·rw[akq];decide
 split
 ·rw[akr];decide
 rw[aks];decide
theorem aah(j:Int):(ph j).size≤2:=by
 unfold ph;split
 ·decide
 split
 ·decide
 split<;>decide
theorem Fv(n:Int)(s:ByteArray):(rD n s).Ok:=by
 have h1:=jD n (by decide:(1:Int)≤40);have h2:=jD (dY n 40-20) (by decide:(1:Int)≤2);have hc:∀x:ByteArray,(mT x 4).size≤4:=fun x=>by rw[Ek];omega
 have hm:4≤maxLen:=(by decide)
 have E:∀v:Vl,(0≤v.k∧v.k≤3)→(-20≤v.n∧v.n≤20)→({v with s:=mT v.s 4}:Vl).Ok:=fun v hk hn=>⟨by show _≤v.k;omega,by show v.k≤_;omega,by show _≤v.n;omega,by show v.n≤_;omega,Nat.le_trans (hc _) hm⟩
 unfold rD;refine E _ ?_ ?_
 ·unfold oD aV;repeat' split
  all_goals (simp only[];omega)
 unfold oD aV;repeat' split
 all_goals (simp only[];omega)
theorem Ru(l:List cj)(n:Int)(s:ByteArray):mN l (rm n s):=⟨Nat.zero_le _,Fv n s,AZ (Rk n s),by show(1:Int)≤1;decide,by show(1:Int)≤11;decide,fun h=>absurd h (by show ¬(1:Int)=2;decide)⟩
theorem Rv(n:Int):mN bf (vj n):=⟨Nat.le_trans (aah _) w8,rz,zC,by show(1:Int)≤2;decide,by show(2:Int)≤11;decide,fun _=>ae1 _⟩
theorem PZ(l:List cj)(h1:3≤k)(h2:k≤11):mN l (oE k):=⟨Nat.zero_le _,rz,zC,by show 1≤k;omega,h2,fun h=>absurd h (by show ¬k=2;omega)⟩
theorem P0(k n:Int)(s:ByteArray):∀o∈lM k n s,mN bf o:=fun o ho=>by
 unfold lM at ho;split at ho<;>(rw[mem_singleton] at ho;subst ho)
 ·exact Rv n
 exact Ru _ n s
theorem Rw:∀(r:Nat) (t:Tw),∀o∈gQ r t,mN bf o
 | 0,.mk k n s ts=>P0 k n s
 | r+1,.mk k n s ts=>by
  have E:∀i:Nat,∀o∈gi r ts n s i,mN bf o:=fun i=>by
   unfold gi;split
   ·exact Rw r _
   exact P0 _ _ _
  have hk:=jD k (by decide:(1:Int)≤11);intro o ho;rw[uX] at ho;split at ho
  ·rw[mem_singleton] at ho;subst ho;exact Ru _ n s
  split at ho
  ·rw[mem_singleton] at ho;subst ho;exact Rv n
  split at ho
  ·rcases mem_append.1 ho with ho|ho
   ·exact E 0 o ho
   rw[mem_singleton] at ho;subst ho;exact PZ _ w4 w4
  rcases mem_append.1 ho with ho|ho
  ·rcases mem_append.1 ho with ho|ho
   ·exact E 0 o ho
   exact E 1 o ho
  rw[mem_singleton] at ho;subst ho;exact PZ _ w4 w4

end Go.Proofs.YtdgichenhdikgaaGreatDoor.Ex
namespace Go.Proofs.YtdgichenhdikgaaGreatDoor.Pc
open List
open Go.Proofs.Tryz
open Go.RowKit V Pk Vl Go.Proofs.YtdgichenhdikgaaGreatDoor.Nm
def typesB:List (List UInt8):=[[],[66,79,79,76],[73,78,84],[84,69,88,84]]
abbrev TypesTab(w:World):Prop:=Tab.mM w 0 typesC

end Go.Proofs.YtdgichenhdikgaaGreatDoor.Pc
namespace Go.Proofs.YtdgichenhdikgaaGreatDoor.Ex

end Go.Proofs.YtdgichenhdikgaaGreatDoor.Ex

namespace Go.Proofs.YtdgichenhdikgaaGreatDoor.Ex
open List
open Go.Proofs.Tryz
open Go.RowKit V Pk Vl Go.Proofs.YtdgichenhdikgaaGreatDoor.Nm Go.Proofs.YtdgichenhdikgaaGreatDoor.Pc
def iM{α:Type}(z:α)(f:aJ→α→α→α × Int):List aJ→List α→List α × Int
 | [],st=>(st,0)
 | o::r,st =>
  if (f o (dS z o.k st) (dM z o.k st)).2≠0 then ([],(f o (dS z o.k st) (dM z o.k st)).2)
  else iM z f r (st.take (st.length-(bw o.k).toNat)++[(f o (dS z o.k st) (dM z o.k st)).1])
section
variable {α:Type} {z:α} {f:aJ→α→α→α × Int}
theorem ug{o:aJ}{r:List aJ}{st:List α}(h:(f o (dS z o.k st) (dM z o.k st)).2=0):iM z f (o::r) st=iM z f r (st.take (st.length-(bw o.k).toNat)++[(f o (dS z o.k st) (dM z o.k st)).1]):=by
 rw[iM,if_neg (by rw[h];simp)]
theorem Bs{o:aJ}{r:List aJ}{st:List α}(h:(f o (dS z o.k st) (dM z o.k st)).2≠0):iM z f (o::r) st=([],(f o (dS z o.k st) (dM z o.k st)).2):=by
 rw[iM,if_pos h]
theorem wA:∀(ops:List aJ) (st:List α),eW z f ops st=if (iM z f ops st).2≠0 then (z,(iM z f ops st).2) else ((iM z f ops st).1.getD 0 z,0)
 | [],st=>rfl
 | o::r,st=>by
  by_cases h:(f o (dS z o.k st) (dM z o.k st)).2=0
  ·rw[wG h,ug h];exact wA r _
  rw[yQ h,Bs h,if_pos h]
theorem Ea:∀(a b:List aJ) (st:List α),(iM z f a st).2=0→iM z f (a++b) st=iM z f b (iM z f a st).1
 | [],b,st,_=>rfl
 | o::r,b,st,h=>by
  by_cases he:(f o (dS z o.k st) (dM z o.k st)).2=0
  ·rw[ug he] at h ⊢;rw[cons_append,ug he];exact Ea r b _ h
  rw[Bs he] at h;exact absurd h he
theorem P1(k:Int)(E st:List α)(h:bw k≤st.length):dS z k (E++st)=dS z k st∧dM z k (E++st)=dM z k st:=by
 have hp:=qz k;unfold dS dM;refine⟨?_,?_⟩
 ·exact XQ
 exact XQ
theorem O9(k:Int)(E st:List α)(h:bw k≤st.length):(E++st).take ((E++st).length-(bw k).toNat)=E++st.take (st.length-(bw k).toNat):=by
 have hp:=qz k;rw[length_append,show E.length+st.length-(bw k).toNat=E.length+(st.length-(bw k).toNat) by omega,take_length_add_append]
theorem Rx(k:Int)(st:List α)(x:α)(h:bw k≤st.length):(((st.take (st.length-(bw k).toNat)++[x]).length:Nat):Int)=st.length+(1-bw k):=by
 have hp:=qz k;rw[length_append,length_take,length_singleton];omega
theorem P2:∀(ops:List aJ) (E st:List α) (h':Int),runs st.length ops=some h'→(iM z f ops st).2=0→iM z f ops (E++st)=(E++(iM z f ops st).1,0)∧(((iM z f ops st).1.length:Nat):Int)=h'
 | [],E,st,h',hr,_=>by cases hr;exact⟨rfl,rfl⟩
 | o::r,E,st,h',hr,h0=>by
  rw[runs] at hr;split at hr
  ·rename_i he;have hp:=(tN he).1;obtain⟨a1,a2⟩:=P1 (z:=z) o.k E st hp;by_cases hz:(f o (dS z o.k st) (dM z o.k st)).2=0
   ·rw[ug hz] at h0 ⊢;rw[ug (by rw[a1,a2];exact hz),a1,a2,O9 o.k E st hp,append_assoc];exact P2 r E _ h' (by rw[Rx o.k st _ hp];exact hr) h0
   rw[Bs hz] at h0;exact absurd h0 hz
  cases hr
end
theorem TC{l:List cj}{row:List Vl}{x:List aJ}(hr:runs 0 x=some 1)(h:(gS l row x).2=0)(E:List Vl):iM aV (cD l row) x E=(E++[(gS l row x).1],0):=by
 unfold gS at h ⊢;rw[wA] at h ⊢;have h0:(iM aV (cD l row) x []).2=0:=by
  by_cases hz:(iM aV (cD l row) x []).2=0
  ·exact hz
  rw[if_pos hz] at h;exact absurd h hz
 obtain⟨q1,q2⟩:=P2 x E [] 1 hr h0;rw[append_nil] at q1;rw[q1,if_neg (by simpa using h0)];have hl:(iM aV (cD l row) x []).1.length=1:=(by omega)
 obtain⟨v,hv⟩:=length_eq_one_iff.1 hl;rw[hv];rfl
end Go.Proofs.YtdgichenhdikgaaGreatDoor.Ex

namespace Go.Proofs.YtdgichenhdikgaaGreatDoor.Ex

open List
open Go.Proofs.Tryz
open Go.RowKit V Pk Vl Go.Proofs.YtdgichenhdikgaaGreatDoor.Nm Pc Cd
open Go.Lib (compareBytes)
variable {ops:List aJ} {k:List UInt8}
def nr(ops:List aJ)(i:Nat):Int:=(ops.getD i (oE 0)).k
def ie(ops:List aJ):Nat→Int→Nat
 | 0,_=>0
 | i+1,need=>if need+(bw (nr ops i)-1)>0 then ie ops i (need+(bw (nr ops i)-1)) else i
theorem sA{i:Nat}(h:i<ops.length):nr ops i=ops[i].k:=by unfold nr;rw[getD_eq_getElem?_getD,getElem?_eq_getElem h];rfl
theorem UE{h h':Int}{o:aJ}(he:eX h o=0)(hp:bw o.k≤h'):eX h' o=0:=by
 unfold eX at he ⊢;split at he
 ·cases he
 rename_i q1;rw[if_neg q1];split at he
 ·rename_i h2;exact absurd he h2
 rename_i q2;rw[if_neg q2];split at he
 ·cases he
 rename_i E;rw[if_neg E];split at he
 ·rename_i h4;exact absurd he h4.2
 rename_i I;rw[if_neg I,if_neg w4]
theorem IC{n:Nat}{h:Int}(hn:n<ops.length)(e:runs 0 (ops.take (n+1))=some h):∃h',runs 0 (ops.take n)=some h'∧eX h' ops[n]=0∧h=h'+(1-bw ops[n].k):=by
 rw[take_succ_eq_append_getElem hn,yF] at e;cases hr:runs 0 (ops.take n) with
 | none=>rw[hr] at e;cases e
 | some h' =>
  rw[hr,Option.bind_some,runs] at e;split at e
  ·rename_i he;rw[runs] at e;cases e;exact⟨h',rfl,he,rfl⟩
  cases e
theorem Ry{ops:List aJ}:∀(n:Nat) (need h:Int),n≤ops.length→runs 0 (ops.take n)=some h→1≤need→need≤h →
  ie ops n need<n∧runs 0 (ops.take (ie ops n need))=some (h-need)∧∀k:Int,0≤k→runs k ((ops.take n).drop (ie ops n need))=some (k+need)
 | 0,need,h,_,e,h1,h2=>by rw[List.take_zero,runs] at e;cases e;omega
 | n+1,need,h,hn,e,h1,h2=>by
  have aa:n<ops.length:=(by omega)
  obtain⟨h',e1,e2,U⟩:=IC aa e;have I:=qz ops[n].k;have rQ:=(tN e2).1;have E:∀m,m≤n→(ops.take (n+1)).drop m=(ops.take n).drop m++[ops[n]]:=fun m hm=>by
   rw[take_succ_eq_append_getElem aa,drop_append,show m-(ops.take n).length=0 by rw[length_take];omega,drop_zero]
  rw[ie,sA aa];by_cases hc:need+(bw ops[n].k-1)>0
  ·rw[if_pos hc];obtain⟨q1,q2,O⟩:=Ry n (need+(bw ops[n].k-1)) h' w4 e1 w4 w4;refine⟨by omega,by rw[q2];congr 1;omega,fun k hk=>?_⟩;rw[E _ w4,yF,O k hk,Option.bind_some,runs,if_pos (UE e2 w4),runs];congr 1;omega
  rw[if_neg hc];refine⟨by omega,by rw[e1];congr 1;omega,fun k hk=>?_⟩;rw[E n (Nat.le_refl _),drop_of_length_le oO,nil_append,runs,if_pos (UE e2 w4),runs];congr 1;omega
def ku(key:ByteArray)(o:aJ):Bool:=o.k==2&&o.nm.toList==key.toList
def fU(o:aJ):Bool:=o.k==1 && !(o.v.k==0)
abbrev jd:=List UInt8×List UInt8
variable {b:jd}
def mQ(k:List UInt8)(b:jd):jd:=if compareBytes k b.1>0 then (k,b.2) else b
def pQ(k:List UInt8)(b:jd):jd:=if b.2.length=0∨compareBytes k b.2<0 then (b.1,k) else b
def sH(kc:Int)(eq not:Bool)(k:List UInt8)(b:jd):jd :=
 bif eq||(kc==0)!=not then pQ k (bif eq||(kc==0)==not then mQ k b else b) else bif eq||(kc==0)==not then mQ k b else b
def sP(ops:List aJ):List UInt8:=(fP [(ops.getD (cU fU (ops.take 2)).toNat (oE 0)).v]).1
def mr(key:ByteArray)(ops:List aJ)(not:Bool)(b:jd):jd :=
 if ops.length≠3∨(not=true∧nr ops (ops.length-1)≠7)∨(nr ops (ops.length-1)≠6∧nr ops (ops.length-1)≠7) then b
 else if cU (ku key) (ops.take 2)<0∨cU fU (ops.take 2)<0 then b
 else sH (cU (ku key) (ops.take 2)) (nr ops (ops.length-1)==6) not (sP ops) b
def fO(key:ByteArray):Nat→List aJ→jd→jd
 | 0,_,b=>b
 | f+1,ops,b =>
  if nr ops (ops.length-1)=3 then fO key f ((ops.take (ops.length-1)).drop (ie ops (ops.length-1) 1)) (fO key f (ops.take (ie ops (ops.length-1) 1)) b)
  else if nr ops (ops.length-1)=5 then mr key (ops.take (ops.length-1)) true b
  else mr key ops false b
variable {G:List (Nat×List Value)} {m:Int}
theorem abi(ops:List aJ)(qk:ops.length≤40)(n:Nat)(hn:n≤ops.length)(h:Int)(hr:runs 0 (ops.take n)=some h)(h1:1≤h):VP Tryz.prog G 159 [av 5 cO ops,ae (n:Nat)] (ae (ie ops n 1:Nat)):=by
 refine VC.body func159 rfl ntmps159 aO fun X0 w0 bg=>?_;refine af [0,1] ?_;refine af [0,5] ?_;refine af [0,5,6] ?_;refine eA [0] (fun aX _ (E:Nat×Int) aG=>match E with|(i,need)=>(i≤n)∧(0≤need)∧(need≤1+2*((n:Int)-i))∧((need=0∧ie ops n 1=i)∨(1≤need∧ie ops n 1=ie ops i need∧∃h,runs 0 (ops.take i)=some h∧need≤h))∧aG=(⟨22,(5,ae (i:Nat))::(6,ae need)::aX,[]⟩:St)) (fun (E:Nat×Int)=>match E with|(i,need)=>i) (n,1) ⟨(Nat.le_refl _),w8,w4,(.inr ⟨by decide,rfl,h,hr,h1⟩),rfl⟩ ?_;rintro⟨i,need⟩ _ ⟨hi,gE,Yn,hinv,rfl⟩;refine af [0,5,6,9] ?_;refine aq ?_ ?_<;>intro aP bC
 ·obtain⟨hz,_⟩|⟨gk,I,h2,e1,e2⟩:=hinv
  ·omega
  have NT:0<i:=(by rcases Nat.eq_zero_or_pos i with rfl|h;rw[List.take_zero,runs] at e1;cases e1;omega;exact h)
  have O:-9223372036854775808≤((i-1:Nat):Int):=(by omega)
  have U:((i-1:Nat):Int)≤9223372036854775807:=(by omega)
  have kj:(i:Int)-1=((i-1:Nat):Int):=(by omega)
  have aa:i-1<ops.length:=(by omega)
  have C9:=qz ops[i-1].k;obtain⟨h3,e3,e4,e5⟩:=IC aa (by rw[show i-1+1=i by omega];exact e1);have rQ:=(tN e4).1;have Z:ie ops i need=if need+(bw ops[i-1].k-1)>0 then ie ops (i-1) (need+(bw ops[i-1].k-1)) else i-1:=by obtain⟨j,rfl⟩:∃j,i=j+1:=⟨i-1,by omega⟩;rw[ie,sA w4];rfl
  have oe:(need+(bw ops[i-1].k-1)=0∧ie ops n 1=i-1)∨(1≤need+(bw ops[i-1].k-1)∧ie ops n 1=ie ops (i-1) (need+(bw ops[i-1].k-1))∧∃h,runs 0 (ops.take (i-1))=some h∧need+(bw ops[i-1].k-1)≤h):=(by (by_cases hc:need+(bw ops[i-1].k-1)>0);exact .inr ⟨by omega,by rw[I,Z,if_pos hc],h3,e3,by omega⟩;exact .inl ⟨by omega,by rw[I,Z,if_neg hc]⟩)
  refine cL [0,5,6] ?_;refine aS 1 ?_ (h:=by exact(dz rfl ot bV (gY (r:=((i-1:Nat):Int)) (by rw[kj];exact wrap_i64 O U))));refine bI ?_;refine ik [0,5,6] ?_;refine cH (EL ops[i-1].k) ?_;refine bI ?_;refine⟨((i-1),(need+(bw ops[i-1].k-1))),_,cq,aK,w4,w4,w4,oe,rfl⟩
 have aW:ie ops n 1=i:=(by rcases hinv with ⟨_,h⟩|⟨h,_⟩;exact h;omega)
 refine af [4] ?_;exact uE
theorem P3(ls:List aJ)(g:Nat)(E:List D)(S:List ah)(p:aJ→Bool)(fg:∀args w,(callFunc g args).run Tryz.prog w = .ok (.enter g args) w)(hp:∀x∈ls,VC Tryz.prog G g (.agg (cO x)::E) S (fun r S'=>r=bJ (p x)∧S'=S))(hlen:ls.length≤1000000):VC Tryz.prog G 160 [av 5 cO ls,.ew (.func g) E] S (fun r S'=>r=ae (cU p ls)∧S'=S):=by
 refine VC.body func160 rfl ntmps160 aO fun X0 w0 bg=>?_;unfold cO at hp;exact W9
theorem abj(o:aJ)(nm:ByteArray)(b:Nat):VC Tryz.prog G 161 [.agg (cO o),cQ b] [⟨b,9,1,[bj nm]⟩] (fun r S=>r=bJ (ku nm o)∧S=[⟨b,9,1,[bj nm]⟩]):=by
 refine VC.body func161 rfl ntmps161 aO fun X0 w0 bg=>?_;unfold cO ku;refine bU ?_;refine OD.box (ds:=[_,_,_,_,_]) ap rfl rfl ot rfl rfl (fun b2=>?_);refine an 13 [1,2] ?_;refine aB 4 ?_;refine bP 7 (fun I E=>?_) (fun I E=>?_)
 ·refine bq [3] ?_;refine aI [⟨b,9,1,[bj nm]⟩] ?_;first|exact⟨rfl,rfl⟩|(refine⟨vb ?_,rfl⟩;simp_all)
 refine bq [3] ?_;refine aI [⟨b,9,1,[bj nm]⟩] ?_;first|exact⟨rfl,rfl⟩|(refine⟨vb ?_,rfl⟩;simp_all)
theorem abk(o:aJ):VC Tryz.prog G 162 [.agg (cO o)] [] (fun r S=>r=bJ (fU o)∧S=[]):=by
 refine VC.body func162 rfl ntmps162 aO fun X0 w0 bg=>?_;unfold cO fU;refine bU ?_;refine OD.box (ds:=[_,_,_,_,_]) ap rfl rfl ot rfl rfl (fun b1=>?_);refine an 12 [1] ?_;refine aB 4 ?_;refine bP 6 (fun I E=>?_) (fun I E=>?_)
 ·refine bq [2] ?_;refine eJ ?_;first|exact⟨rfl,rfl⟩|(refine⟨vb ?_,rfl⟩;simp_all;done)|(refine⟨vb ?_,rfl⟩;simp_all;rfl)
 refine bq [2] ?_;refine eJ ?_;first|exact⟨rfl,rfl⟩|(refine⟨vb ?_,rfl⟩;simp_all;done)|(refine⟨vb ?_,rfl⟩;simp_all;rfl)
theorem SE(a b:List UInt8):VP Tryz.prog G 51 [av 1 cB a,av 1 cB b] (ae (compareBytes a b)):=by
 exact V4
theorem abl:(Tryz.prog.info? 5).map (fun i=>(i.zero,i.size,i.bytes))=some (some (.int .u8 0),1,1):=by kernel_rfl
theorem IU(a:List UInt8)(ha:a.length≤1000):VP Tryz.prog G 95 [av 1 cB a] (av 1 cB a):=by
 refine VC.body func95 rfl ntmps95 aO fun X0 w0 bg=>?_;have c8:=dR;refine af [0] ?_;refine aB 1 ?_;refine OD.zu ap rfl rfl ot bV underlying88 (fun O xY=>?_);refine an 8 [0,4] ?_;refine aq ?_ ?_<;>intro aP bC
 ·exact z91
 refine bU ?_;refine OD.zv ap rfl rfl runUnderlying88 sizeOf5 (fun b5=>?_);refine aF 1 ?_;refine OD.pJ (ls:=([]:List UInt8)) (new:=a) (Sq:=[⟨b5,5,0*1,[]⟩]) pO wM ap rfl rfl underlying88 abl rfl w8 runUnderlying88 sizeOf5 ot (.inr ⟨b5,rfl,Nat.le_refl _,Nat.zero_le _,rfl⟩) (cZ (A:=[])) ot ij ij (fun E I S7 qe=>?_);exact z139
theorem E5(l:List Vl):(fP l).1.length≤100:=by
 unfold fP;split
 ·simp
 split
 ·simp
 split
 ·simp
 simpa using by omega
theorem ae2(hk:k.length≤100)(h1:b.1.length≤100)(h2:b.2.length≤100):(mQ k b).1.length≤100∧(mQ k b).2.length≤100:=by unfold mQ;split<;>exact⟨by assumption,by assumption⟩
theorem Rz(hk:k.length≤100)(h1:b.1.length≤100)(h2:b.2.length≤100):(pQ k b).1.length≤100∧(pQ k b).2.length≤100:=by unfold pQ;split<;>exact⟨by assumption,by assumption⟩
theorem ae3{E:Int}{eq not:Bool}(hk:k.length≤100)(h1:b.1.length≤100)(h2:b.2.length≤100):(sH E eq not k b).1.length≤100∧(sH E eq not k b).2.length≤100:=by
 unfold sH;have q1:=ae2 hk h1 h2;have q2:=Rz hk h1 h2;have I:=Rz hk q1.1 q1.2;cases(eq||(E==0)!=not)<;>cases(eq||(E==0)==not)
 ·exact⟨h1,h2⟩
 ·exact q1
 ·exact q2
 exact I
theorem yP{key:ByteArray}{not:Bool}(h1:b.1.length≤100)(h2:b.2.length≤100):(mr key ops not b).1.length≤100∧(mr key ops not b).2.length≤100:=by
 unfold mr;split
 ·exact⟨h1,h2⟩
 split
 ·exact⟨h1,h2⟩
 exact ae3 (E5 _) h1 h2
theorem JV(key:ByteArray):∀(f:Nat) (ops:List aJ) (b:jd),b.1.length≤100→b.2.length≤100→(fO key f ops b).1.length≤100∧(fO key f ops b).2.length≤100
 | 0,_,b,h1,h2=>⟨h1,h2⟩
 | f+1,ops,b,h1,h2=>by
  rw[fO];split
  ·have q:=JV key f (ops.take (ie ops (ops.length-1) 1)) b h1 h2;exact JV key f _ _ q.1 q.2
  split
  ·exact yP h1 h2
  exact yP h1 h2
theorem uZ(h:runs 0 ops=some 1):1≤ops.length:=by
 cases ops with
 | nil=>rw[runs] at h;cases h
 | cons=>simp
theorem EM(h:runs 0 ops=some 1):∃(hn:ops.length-1<ops.length),runs 0 (ops.take (ops.length-1))=some (bw ops[ops.length-1].k):=by
 have hp:=uZ h;have aa:ops.length-1<ops.length:=(by omega)
 refine⟨aa,?_⟩;obtain⟨h',e1,e2,E⟩:=IC aa (by rw[show ops.length-1+1=ops.length by omega,take_length];exact h);rw[e1];congr 1;omega
theorem TD(h:runs 0 ops=some 1)(hk:nr ops (ops.length-1)=3):ie ops (ops.length-1) 1<ops.length-1∧runs 0 (ops.take (ie ops (ops.length-1) 1))=some 1∧runs 0 ((ops.take (ops.length-1)).drop (ie ops (ops.length-1) 1))=some 1∧runs 0 (ops.take (ops.length-1))=some 2:=by
 obtain⟨hn,e⟩:=EM h;rw[sA hn] at hk;rw[hk] at e;obtain⟨q1,q2,E⟩:=Ry (ops.length-1) 1 2 w4 e w8 w8;exact⟨q1,q2,E 0 w8,e⟩
variable {key:ByteArray}
theorem agC{ls:List aJ}{j:Nat}(h:j<ls.length):((ls.flatMap cO).drop (j*5+1)).take 3=cV ls[j].v:=by
 rw[←drop_drop,u4 nw,drop_eq_getElem_cons h,flatMap_cons];rfl
theorem ac5(hG:(2,[Value.int .i64 m])∈G)(key:ByteArray)(f:Nat)(hf:f≤40)(IH:∀(ops:List aJ) (lo hi:List UInt8),ops.length≤f→runs 0 ops=some 1→(∀o∈ops,o.v.Ok)→lo.length≤100→hi.length≤100→∀b0,VC Tryz.prog G 151 [cQ b0,bj key,av 5 cO ops] [⟨b0,225,2,[av 1 cB lo,av 1 cB hi]⟩] (fun r S=>r = .di []∧S=[⟨b0,225,2,[.list 1 ((fO key f ops (lo,hi)).1.flatMap cB) (fO key f ops (lo,hi)).1.length,.list 1 ((fO key f ops (lo,hi)).2.flatMap cB) (fO key f ops (lo,hi)).2.length]⟩]))(ops:List aJ)(lo hi:List UInt8)(hl:ops.length≤f+1)(qk:ops.length≤40)(hr:runs 0 ops=some 1)(aQ:∀o∈ops,o.v.Ok)(eK:lo.length≤100)(er:hi.length≤100)(b0:Nat):VC Tryz.prog G 151 [cQ b0,bj key,av 5 cO ops] [⟨b0,225,2,[av 1 cB lo,av 1 cB hi]⟩] (fun r S=>r = .di []∧S=[⟨b0,225,2,[.list 1 ((fO key (f+1) ops (lo,hi)).1.flatMap cB) (fO key (f+1) ops (lo,hi)).1.length,.list 1 ((fO key (f+1) ops (lo,hi)).2.flatMap cB) (fO key (f+1) ops (lo,hi)).2.length]⟩]):=by
 refine VC.body func151 rfl ntmps151 aO fun X0 w0 bg=>?_;have hp0:=uZ hr;obtain⟨gk,YD⟩:=EM hr;have I:=sA gk;have c8:=dR;have C9:=qz ops[ops.length-1].k;refine bU ?_;refine OD.box (ds:=[_]) ap rfl rfl ot rfl rfl (fun b4=>?_);refine an 155 [0,2,4] ?_;refine cL [0,2,4,6] ?_;refine aS 2 ?_ (h:=by exact(dz rfl ot bV (gY (r:=((ops.length-1:Nat):Int)) (by rw[show((ops.length:Nat):Int)-1=((ops.length-1:Nat):Int) by omega];exact wrap_i64 w4 w4))));refine bI ?_;refine af [0,2,4,6,22] ?_;refine aq ?_ ?_<;>intro aP bC
 ·have j9:nr ops (ops.length-1)=3:=(by rw[I];omega)
  obtain⟨Dm,XU,hm3,hm4⟩:=TD hr j9;have aW:(fO key (f+1) ops (lo,hi))=fO key f ((ops.take (ops.length-1)).drop (ie ops (ops.length-1) 1)) (fO key f (ops.take (ie ops (ops.length-1) 1)) (lo,hi)):=(by rw[fO,if_pos j9])
  have vU:=JV key f (ops.take (ie ops (ops.length-1) 1)) (lo,hi) eK er;refine cz [0,2,4,6,7] (abi ops w4 (ops.length-1) w4 2 hm4 w8) ?_;refine CD.seq ?_;refine nH 5 [0,2,4,6,7,26,27,30] ?_;refine aS 4 ?_ (h:=by exact(eB (l:=0) rfl ot trivial ⟨_,ot⟩ GM));refine jb ?_;refine OD.call ap rfl rfl rfl call151 (IH (ops.take (ie ops (ops.length-1) 1)) (lo) (hi) (by simp only[length_drop,length_take];omega) XU (fun o ho=>aQ o (mem_of_mem_take ho)) w4 w4 b0) ⟨ot,ot,ot,trivial⟩ (mo (k:=1) rfl) ?_;rintro _ _ ⟨rfl,rfl⟩;refine an 155 [0,2,4,6,7] ?_;refine CD.seq ?_;refine nH 6 [32,33,37] ?_;refine aS 5 ?_ (h:=by exact(eB (l:=(ie ops (ops.length-1) 1)) (h:=(ops.length-1)) rfl ot ⟨_,ot⟩ ⟨_,ot⟩ (agm nw (fun h=>by cases h) (fun h=>by cases h) runUnderlying30 sizeOf43 w4 w4)));refine jb ?_;refine OD.call ap rfl rfl rfl call151 (IH ((ops.take (ops.length-1)).drop (ie ops (ops.length-1) 1)) ((fO key f (ops.take (ie ops (ops.length-1) 1)) (lo,hi)).1) ((fO key f (ops.take (ie ops (ops.length-1) 1)) (lo,hi)).2) (by simp only[length_drop,length_take];omega) hm3 (fun o ho=>aQ o (mem_of_mem_take (mem_of_mem_drop ho))) w4 w4 b0) ⟨ot,ot,ot,trivial⟩ (mo (k:=0) rfl) ?_;rintro _ _ ⟨rfl,rfl⟩;refine an 155 [] ?_;exact Xm
 have j9:¬nr ops (ops.length-1)=3:=(by rw[I];omega)
 refine af [0,2,4,6,8] ?_;refine CD.cut (fun aG=>∃(bu:List aJ),∃(nt:Bool),((fO key (f+1) ops (lo,hi))=mr key bu nt (lo,hi))∧(1≤bu.length)∧(bu.length≤40)∧(∀o∈bu,o.v.Ok)∧(bu.length-1<bu.length)∧aG=(⟨155,[(0,cQ b0),(2,av 5 cO bu),(4,cQ b4),(6,ae ((bu.length-1):Nat)),(8,bJ nt)],[⟨b4,9,1,[bj key]⟩,⟨b0,225,2,[av 1 cB lo,av 1 cB hi]⟩]⟩:St)) ?_ ?_
 ·refine af [0,2,4,6,8,45] ?_;refine aq ?_ ?_<;>intro aZ cr
  ·have U:nr ops (ops.length-1)=5:=(by rw[I];simpa using aZ)
   have ir:2≤ops.length:=(by rw[←I,U] at YD;have:=uZ YD;rw[length_take] at this;omega)
   have AE:(fO key (f+1) ops (lo,hi))=mr key (ops.take (ops.length-1)) true (lo,hi):=(by rw[fO,if_neg j9,if_pos U])
   have uG:(ops.take (ops.length-1)).length=(ops.length-1):=(by rw[length_take];omega)
   refine cL [0,2,4,6,8] ?_;refine aS 2 ?_ (h:=by exact(eB (l:=0) rfl ot trivial ⟨_,ot⟩ GM));refine bI ?_;refine ik [0,2,4,6,8] ?_;refine aS 1 ?_ (h:=by exact(dz rfl ot bV (gY (r:=((ops.length-1-1:Nat):Int)) (by rw[show((ops.length-1:Nat):Int)-1=((ops.length-1-1:Nat):Int) by omega];exact wrap_i64 w4 w4))));refine bI ?_;refine⟨_,(aK (h:=by repeat (first|exact trivial|refine⟨(by (repeat (first|exact fu|(apply fT;focus (first|rfl|(rw[uG];done)|(rw[aZ];done)))|(apply fC;focus rfl)));done),?_⟩))),(ops.take (ops.length-1)),true,AE,w4,w4,(fun o ho=>aQ o (mem_of_mem_take ho)),w4,rfl⟩
  have U:¬nr ops (ops.length-1)=5:=(by rw[I];simpa using aZ)
  have AE:(fO key (f+1) ops (lo,hi))=mr key ops false (lo,hi):=(by rw[fO,if_neg j9,if_neg U])
  refine CD.skip ?_;refine⟨_,(aK (h:=by repeat (first|exact trivial|refine⟨(by (repeat (first|exact fu|(apply fT;focus (first|rfl|(rw[uG];done)|(rw[aZ];done)))|(apply fC;focus rfl)));done),?_⟩))),ops,false,AE,hp0,qk,aQ,gk,rfl⟩
 rintro _ ⟨bu,nt,aW,nI,aqy,jN,vu,rfl⟩;refine jV [0,2,4,6,8] (fun aX uQ aG=>(¬(bu.length≠3∨(nt=true∧bu[bu.length-1].k≠7)∨(bu[bu.length-1].k≠6∧bu[bu.length-1].k≠7)))∧aG=(⟨155,aX,uQ⟩:St)) ?_ ?_
 ·refine aB 3 ?_;refine bP 53 (fun LS KY=>?_) (fun LS KY=>?_)
  ·refine bq [0,2,4,6,8,79] ?_;refine eD ?_;exact Xj
  refine aF 2 ?_;refine bP 55 (fun uo ah1=>?_) (fun uo ah1=>?_)
  ·refine aF 9 ?_;refine bP 64 (fun L1 K1=>?_) (fun L1 K1=>?_)
   ·refine bq [0,2,4,6,8,79] ?_;refine eD ?_;exact Xj
   refine aF 7 ?_;exact z37
  refine x5 6 ?_;refine aF 10 ?_;exact z37
 rintro _ ⟨sI,rfl⟩;refine aB 1 ?_;refine bN (eB (l:=0) (h:=2) rfl ot trivial ⟨_,bV⟩ GM) ?_;refine bN (pK (ds:=[_]) rfl ⟨ot,trivial⟩) ?_;refine OD.call ap rfl rfl rfl call160 (P3 (bu.take 2) 161 [cQ b4] _ (ku key) call161 (fun h _=>abj h key b4) oO) ⟨ot,ot,trivial⟩ (mo (k:=0) rfl) ?_;rintro _ SS2 ⟨rfl,E⟩;rw[E];clear E;refine an 155 [0,2,6,8,9] ?_;refine aB 1 ?_;refine bN (eB (l:=0) (h:=2) rfl ot trivial ⟨_,bV⟩ GM) ?_;refine OD.call ap rfl rfl rfl call160 (P3 (bu.take 2) 162 [] [] fU call162 (fun h _=>abk h) oO) ⟨ot,tI,trivial⟩ (eV _) ?_;rintro _ SS2 ⟨rfl,E⟩;rw[E];clear E;refine an 155 [0,2,6,8,9,10] ?_;refine aB 3 ?_;refine bP 89 (fun akt ah2=>?_) (fun akt ah2=>?_)
 ·refine bq [0,2,6,8,9,10,92] ?_;refine eD ?_;exact z131
 refine bq [0,2,6,8,9,10,92] ?_;refine aq ?_ ?_<;>intro cN dW
 ·exact z131
 have bX:¬((cU (ku key) (bu.take 2))<0∨(cU fU (bu.take 2))<0):=(by first|omega|(simp_all;omega)|simp_all)
 have hLb:=wE fU (bu.take 2);have Hi:bu.length=3:=(by omega)
 rw[length_take] at hLb;have O:(cU fU (bu.take 2)).toNat<bu.length:=(by omega)
 have Nw:sP bu=(fP [bu[(cU fU (bu.take 2)).toNat].v]).1:=(by unfold sP;rw[getD_eq_getElem?_getD,getElem?_eq_getElem O];rfl)
 have U4:(fO key (f+1) ops (lo,hi))=sH (cU (ku key) (bu.take 2)) (bu[bu.length-1].k==6) nt (fP [bu[(cU fU (bu.take 2)).toNat].v]).1 (lo,hi):=(by rw[aW];unfold mr;rw[sA vu,if_neg sI,if_neg bX,Nw])
 have ql:=agp hG [bu[(cU fU (bu.take 2)).toNat].v] ij (fun v hv=>by rw[mem_singleton] at hv;rw[hv];exact jN _ (getElem_mem O));have dU:=E5 [bu[(cU fU (bu.take 2)).toNat].v];unfold LI BC at ql;refine cL [0,2,6,8,9,11] ?_;refine aS 2 ?_ (h:=by exact(dw 5 (h:=by first|exact .l (j:=(cU fU (bu.take 2)).toNat) w4 O|exact .r (j:=(cU fU (bu.take 2)).toNat) w4 O)));refine aS 1 ?_ (h:=by exact(cR (mk:=Op.load 41) rfl ot (qE isAgg41 sizeOf41 rfl (agC O))));refine cH (ql) ?_;refine bI ?_;refine af [0,8,9,11,13] ?_;refine jV [0,8,9,11,13] (fun aX _ aG=>∃(b1:jd),(b1=(bif (bu[bu.length-1].k==6)||(((cU (ku key) (bu.take 2))==0)==nt) then mQ (fP [bu[(cU fU (bu.take 2)).toNat].v]).1 (lo,hi) else (lo,hi)))∧(b1.1.length≤100)∧(b1.2.length≤100)∧aG=(⟨155,aX,[⟨b0,225,2,[av 1 cB b1.1,av 1 cB b1.2]⟩]⟩:St)) ?_ ?_
 ·refine aB 2 ?_;refine bP 110 (fun KN Z=>?_) (fun KN Z=>?_)
  ·refine bq [0,8,9,11,13,115] ?_;refine eD ?_;exact Xe
  refine aF 3 ?_;refine OD.still iq rfl (dz rfl ot ot (EC underlying4)) ?_;refine an 155 [0,8,9,11,13,115] ?_;refine aq ?_ ?_<;>intro ec fh
  ·exact Xe
  have CL:(lo,hi)=(bif (bu[bu.length-1].k==6)||(((cU (ku key) (bu.take 2))==0)==nt) then mQ (fP [bu[(cU fU (bu.take 2)).toNat].v]).1 (lo,hi) else (lo,hi)):=(by rw[KN,ec];rfl)
  refine CD.skip ?_;refine⟨_,aK,(lo,hi),CL,(by first|exact dU|exact eK),er,rfl⟩
 rintro _ ⟨b1,iZ,aqz,aqA,rfl⟩;refine aB 2 ?_;refine bP 129 (fun KL agD=>?_) (fun KL agD=>?_)
 ·refine bq [0,11,134] ?_;refine eD ?_;exact W7
 refine aF 3 ?_;refine OD.still iq rfl (dz rfl ot ot (QT underlying4)) ?_;refine an 155 [0,11,134] ?_;refine aq ?_ ?_<;>intro gL kU
 ·exact W7
 have MR:((bu[bu.length-1].k==6) || !(((cU (ku key) (bu.take 2))==0)==nt))=false:=(by rw[KL,gL];rfl)
 have s9:(fO key (f+1) ops (lo,hi))=b1:=(by rw[U4];unfold sH;rw[show((bu[bu.length-1].k==6)||((cU (ku key) (bu.take 2))==0)!=nt)=false from MR,←iZ];rfl)
 refine aI [⟨b0,_,_,_⟩] ?_;refine⟨rfl,?_⟩;first|rw[s9]|rw[aW]
theorem UF(hG:(2,[Value.int .i64 m])∈G)(key:ByteArray):∀(f:Nat),f≤40→∀(ops:List aJ) (lo hi:List UInt8),ops.length≤f→runs 0 ops=some 1→(∀o∈ops,o.v.Ok)→lo.length≤100→hi.length≤100→∀b0,VC Tryz.prog G 151 [cQ b0,bj key,av 5 cO ops] [⟨b0,225,2,[av 1 cB lo,av 1 cB hi]⟩] (fun r S=>r = .di []∧S=[⟨b0,225,2,[.list 1 ((fO key f ops (lo,hi)).1.flatMap cB) (fO key f ops (lo,hi)).1.length,.list 1 ((fO key f ops (lo,hi)).2.flatMap cB) (fO key f ops (lo,hi)).2.length]⟩]):=by
 intro f;induction f with
 | zero =>
  intro _ ops lo hi hl hr;have:=uZ hr;omega
 | succ f IH =>
  intro hf ops lo hi hl hr aQ eK er b0;exact ac5 hG key f w4 (IH w4) ops lo hi hl w4 hr aQ eK er b0
def fw(l:List cj)(ops:List aJ):jd×Int :=
 if fD l≠0 then (([],[]),fD l) else if ops.length=0 then (([],[]),0) else if (dr l ops).2≠0 then (([],[]),(dr l ops).2)
 else if (dr l ops).1≠1∧(dr l ops).1≠0 then (([],[]),4) else (fO (l.getD 0 ⟨⟨#[]⟩,0⟩).n ops.length ops ([],[]),0)
def NU(r:jd×Int):D:=.di [BC r.1.1,BC r.1.2,ae r.2]
theorem ac6{l:List cj}(h:fD l=0):0<l.length:=by
 unfold fD at h;split at h
 ·cases h
 omega
theorem Ie(h:gz ops=0):runs 0 ops=some 1:=by
  obtain⟨_,h0⟩:=wF h;have key:∀(l:List aJ) (k:Int),fF k l=0→runs k l=some 1:=by
    intro l;induction l with
    | nil => intro k h; rw[fF] at h; split at h; · rename_i e; rw[runs, e]
             · cases h
    | cons o r ih =>
      intro k h;rw[fF] at h;split at h
      · rename_i e;rw[runs,if_pos e];exact ih _ h
      rename_i e;exact absurd h e
  exact key ops 0 h0
theorem abm(hm:(3,marksC)∈G)(hw:(1,wordsC)∈G)(ht:(0,typesC)∈G)(hG:(2,[Value.int .i64 m])∈G)(l:List cj)(hl:l.length≤6)(I:∀c∈l,c.n.size≤maxLen)(ops:List aJ)(ho:∀o∈ops,o.nm.size≤maxLen)(aQ:∀o∈ops,o.v.Ok):VP Tryz.prog G 128 [av 2 cC l,av 5 cO ops] (NU (fw l ops)):=by
 refine VC.body func128 rfl ntmps128 aO fun X0 w0 bg=>?_;have c8:=dR;have eT:=E8 hm hw ht l w4 I;have Z:=JS hm hw ht l hl I ops ho;unfold pZ at Z;unfold NU BC;refine af [0,1] ?_;refine cz [0,1,7] (eT) ?_;refine af [0,1,7,13] ?_;refine aq ?_ ?_<;>intro aP bC
 ·have h0:fD l≠0:=(by simpa using aP)
  have aW:fw l ops=(([],[]),fD l):=(by unfold fw;rw[if_pos h0])
  exact z124
 have h0:¬fD l≠0:=(by simpa using aP)
 have E:=ac6 (Classical.not_not.1 h0);refine af [0,1,17] ?_;refine aq ?_ ?_<;>intro aZ cr
 ·have h1:ops.length=0:=(by simpa using aZ)
  have aW:fw l ops=(([],[]),0):=(by unfold fw;rw[if_neg h0,if_pos h1])
  exact z124
 have h1:¬ops.length=0:=(by simpa using aZ)
 refine cz [0,1,6,8] (Z) ?_;refine af [0,1,6,8,25] ?_;refine aq ?_ ?_<;>intro bX cA
 ·have h2:(dr l ops).2≠0:=(by simpa using bX)
  have aW:fw l ops=(([],[]),(dr l ops).2):=(by unfold fw;rw[if_neg h0,if_neg h1,if_pos h2])
  exact z124
 have h2:¬(dr l ops).2≠0:=(by simpa using bX)
 obtain⟨k1,k2,k3⟩:=E9 (Classical.not_not.1 h2);have AE:=Ie k2;obtain⟨qk,_⟩:=wF k2;refine aB 3 ?_;refine bP 29 (fun aku O=>?_) (fun aku O=>?_)
 ·refine bq [0,1,32] ?_;refine aq ?_ ?_<;>intro cN dW
  ·have h3:(dr l ops).1≠1∧(dr l ops).1≠0:=(by simp_all)
   have aW:fw l ops=(([],[]),4):=(by unfold fw;rw[if_neg h0,if_neg h1,if_neg h2,if_pos h3])
   exact z124
  have h3:¬((dr l ops).1≠1∧(dr l ops).1≠0):=(by simp_all)
  have aW:fw l ops=(fO l[0].n ops.length ops ([],[]),0):=(by unfold fw;rw[if_neg h0,if_neg h1,if_neg h2,if_neg h3,getD_eq_getElem?_getD,getElem?_eq_getElem E];rfl)
  refine aB 1 ?_;refine OD.box (ds:=[_,_]) ap rfl rfl ot rfl rfl (fun U=>?_);refine OD.wk (Wk.Wh (k:=0) (sz:=1) (sz':=1) rfl) ?_;refine an 50 [0,1,9] ?_;refine aB 2 ?_;refine bN (su (mk:=Op.indexAddr 27) rfl ot bV (by first|exact tX runUnderlying27 sizeOf69 (j:=0) rfl E|exact uf runUnderlying27 sizeOf69 (j:=0) rfl E)) ?_;refine aF 3 ?_;refine OD.call ap rfl rfl rfl call151 (UF hG l[0].n ops.length qk ops [] [] (Nat.le_refl _) AE aQ (Nat.zero_le _) (Nat.zero_le _) U) ⟨ot,ot,ot,trivial⟩ (mo (k:=0) rfl) ?_;rintro _ _ ⟨rfl,rfl⟩;refine an 50 [9] ?_;refine af [4,5,6] ?_;exact oQ
 refine bq [0,1,32] ?_;refine fJ ?_;have h3:¬((dr l ops).1≠1∧(dr l ops).1≠0):=(by simp_all)
 have aW:fw l ops=(fO l[0].n ops.length ops ([],[]),0):=(by unfold fw;rw[if_neg h0,if_neg h1,if_neg h2,if_neg h3,getD_eq_getElem?_getD,getElem?_eq_getElem E];rfl)
 refine aB 1 ?_;refine OD.box (ds:=[_,_]) ap rfl rfl ot rfl rfl (fun U=>?_);refine OD.wk (Wk.Wh (k:=0) (sz:=1) (sz':=1) rfl) ?_;refine an 50 [0,1,9] ?_;refine aB 2 ?_;refine bN (su (mk:=Op.indexAddr 27) rfl ot bV (by first|exact tX runUnderlying27 sizeOf69 (j:=0) rfl E|exact uf runUnderlying27 sizeOf69 (j:=0) rfl E)) ?_;refine aF 3 ?_;refine OD.call ap rfl rfl rfl call151 (UF hG l[0].n ops.length qk ops [] [] (Nat.le_refl _) AE aQ (Nat.zero_le _) (Nat.zero_le _) U) ⟨ot,ot,ot,trivial⟩ (mo (k:=0) rfl) ?_;rintro _ _ ⟨rfl,rfl⟩;refine an 50 [9] ?_;refine af [4,5,6] ?_;exact uE

end Go.Proofs.YtdgichenhdikgaaGreatDoor.Ex
namespace Go.Proofs.YtdgichenhdikgaaGreatDoor.Tr
open List
open Go.Proofs.Tryz
open Go.Lib (compareBytes)
variable {i j:Nat}
abbrev K:=List UInt8
variable {a b c k low:K}
theorem Hz(a b:UInt8)(x y:K):compareBytes (a::x) (b::y)=if a<b then -1 else if b<a then 1 else compareBytes x y:=by rw[compareBytes]
theorem u8{a b:UInt8}:a<b↔a.toNat<b.toNat:=UInt8.lt_iff_toNat_lt
theorem yp:∀(x y:K),(compareBytes x y = -1∧compareBytes y x=1)∨(compareBytes x y=0∧x=y)∨(compareBytes x y=1∧compareBytes y x = -1)
 | [],[]=>.inr (.inl ⟨rfl,rfl⟩)
 | [],_::_=>.inl ⟨rfl,rfl⟩
 | _::_,[]=>.inr (.inr ⟨rfl,rfl⟩)
 | a::x,b::y=>by
  rw[Hz,Hz];by_cases h1:a<b
  ·have h2:¬b<a:=(by rw[u8] at h1 ⊢;omega)
   rw[if_pos h1,if_neg h2,if_pos h1];exact .inl ⟨rfl,rfl⟩
  by_cases h2:b<a
  ·rw[if_neg h1,if_pos h2,if_pos h2];exact .inr (.inr ⟨rfl,rfl⟩)
  rw[if_neg h1,if_neg h2,if_neg h2,if_neg h1];have om:a=b:=by
   apply UInt8.toNat_inj.1;rw[u8] at h1 h2;omega
  subst om;rcases yp x y with h|⟨h,e⟩|h
  ·exact .inl h
  ·exact .inr (.inl ⟨h,by rw[e]⟩)
  exact .inr (.inr h)
theorem Ve:∀(x y z:K),compareBytes x y = -1→compareBytes y z = -1→compareBytes x z = -1
 | [],[],_,h,_=>by cases h
 | _::_,[],_,h,_=>by cases h
 | _,_::_,[],_,h=>by cases h
 | [],_::_,_::_,_,_=>rfl
 | a::x,b::y,c::z,h1,h2=>by
  rw[Hz] at h1 h2 ⊢;by_cases p:a<b
  ·by_cases q:b<c
   ·rw[if_pos (by rw[u8] at p q ⊢;omega)]
   rw[if_neg q] at h2;by_cases r:c<b
   ·rw[if_pos r] at h2;cases h2
   rw[if_pos (by rw[u8] at p q r ⊢;omega)]
  rw[if_neg p] at h1;by_cases p':b<a
  ·rw[if_pos p'] at h1;cases h1
  rw[if_neg p'] at h1;by_cases q:b<c
  ·rw[if_pos (by rw[u8] at p p' q ⊢;omega)]
  rw[if_neg q] at h2;by_cases r:c<b
  ·rw[if_pos r] at h2;cases h2
  rw[if_neg r] at h2;rw[if_neg (by rw[u8] at p p' q r ⊢;omega),if_neg (by rw[u8] at p p' q r ⊢;omega)];exact Ve x y z h1 h2
def bA(a b:K):Prop:=compareBytes a b<0
instance (a b:K):Decidable (bA a b):=inferInstanceAs (Decidable (_<_))
theorem JW:bA a b↔compareBytes a b = -1:=by
 unfold bA;rcases yp a b with ⟨h,_⟩|⟨h,_⟩|⟨h,_⟩<;>rw[h]<;>decide
theorem Uo:0<compareBytes a b↔bA b a:=by
 unfold bA;rcases yp a b with ⟨h,h'⟩|⟨h,rfl⟩|⟨h,h'⟩
 ·rw[h,h'];decide
 ·rw[h]
 rw[h,h'];decide
theorem Ky(a:K):¬bA a []:=by
 unfold bA;cases a with
 | nil=>decide
 | cons x y=>show ¬(1:Int)<0;decide
theorem jK(a:K):¬bA a a:=fun h=>by
 rcases yp a a with ⟨h1,h2⟩|⟨h1,_⟩|⟨h1,h2⟩
 ·omega
 ·unfold bA at h;omega
 omega
theorem lQ(h1:bA a b)(h2:bA b c):bA a c:=JW.2 (Ve a b c (JW.1 h1) (JW.1 h2))
theorem zf(h:bA a b):¬bA b a:=fun h'=>jK a (lQ h h')
theorem zg(a b:K):bA a b∨a=b∨bA b a:=by
 unfold bA;rcases yp a b with ⟨h,_⟩|⟨_,h⟩|⟨_,h⟩
 ·exact .inl w4
 ·exact .inr (.inl h)
 exact .inr (.inr w4)
theorem uj:compareBytes a b=0↔a=b:=⟨fun h=>by
 rcases yp a b with ⟨h1,_⟩|⟨_,h1⟩|⟨h1,_⟩
 ·omega
 ·exact h1
 ·omega,fun h=>by
 subst h;rcases yp a a with ⟨h1,h2⟩|⟨h1,_⟩|⟨h1,h2⟩
 ·omega
 ·exact h1
 omega⟩
theorem OR(h1:¬bA b a)(h2:bA b c):bA a c:=by
 rcases zg a b with h|rfl|h
 ·exact lQ h h2
 ·exact h2
 exact absurd h h1
theorem ZT(h1:bA a b)(h2:¬bA c b):bA a c:=by
 rcases zg b c with h|rfl|h
 ·exact lQ h1 h
 ·exact h1
 exact absurd h h2
theorem Vf(h1:¬bA b a)(h2:¬bA c b):¬bA c a:=fun h=>by
 rcases zg a b with h'|rfl|h'
 ·exact h2 (lQ h h')
 ·exact h2 h
 exact h1 h'
theorem rh{α β:Type}{l:List α}{f g:α→List β}(h:∀a∈l,f a=g a):l.flatMap f=l.flatMap g:=by
 induction l with
 | nil=>rfl
 | cons a r ih=>rw[flatMap_cons,flatMap_cons,h a mem_cons_self,ih fun x hx=>h x (mem_cons_of_mem _ hx)]
structure cW where
 leaf:Bool
 keys:List K
 kids:List Int
 high:K
 next:Int
variable {p:cW}
def akv:cW:=⟨false,[],[],[],0⟩
structure aD where
 ag:List cW
 root:Int
def aD.pg(t:aD)(i:Int):cW:=t.ag.getD i.toNat akv
def p8:aD:=⟨[⟨true,[],[],[],-1⟩],0⟩
structure eC (p:cW) (many:Int):Prop where
 eE:p.keys.length≤4
 hlen:p.high.length≤100
 xk:-1≤p.next
 wQ:p.next<many
 xm:p.next<0↔p.high=[]
 leaf:p.leaf=true→p.kids.length=p.keys.length
 node:p.leaf=false→p.kids.length=p.keys.length+1∧p.keys≠[]
 lC:∀k∈p.keys,1≤k.length∧k.length≤100
 qI:p.high≠[]→∀k∈p.keys,bA k p.high
 jQ:p.keys.Pairwise bA
 aA:∀n∈p.kids,0≤n
 vw:p.leaf=false→∀n∈p.kids,n<many
theorem eC.more{m E:Int}(h:eC p m)(hm:m≤E):eC p E :=
 ⟨h.eE,h.hlen,h.xk,by have:=h.wQ;omega,h.xm,h.leaf,h.node,h.lC,h.qI,h.jQ,h.aA,fun hl n hn=>by have:=h.vw hl n hn;omega⟩
def iv(low:K)(p:cW)(j:Nat):K:=if j=0 then low else p.keys.getD (j-1) []
def gM(p:cW)(j:Nat):K:=p.keys.getD j p.high
def dO(t:aD):Nat→Int→K→K→Prop
 | 0,i,low,high=>(0≤i∧i<t.ag.length)∧(t.pg i).leaf=true∧(t.pg i).high=high∧∀k∈(t.pg i).keys,¬bA k low
 | h+1,i,low,high=>(0≤i∧i<t.ag.length)∧(t.pg i).leaf=false∧(t.pg i).high=high∧(∀k∈(t.pg i).keys,¬bA k low) ∧
  ∀j (hj:j<(t.pg i).kids.length),dO t h (t.pg i).kids[j] (iv low (t.pg i) j) (gM (t.pg i) j)
def ids(t:aD):Nat→Int→List Int
 | 0,i=>[i]
 | h+1,i=>i::(t.pg i).kids.flatMap (ids t h)
def cu(t:aD):Nat→Int→List Int
 | 0,i=>[i]
 | d+1,i=>(t.pg i).kids.flatMap (cu t d)
def eR(p:cW):List (K×Int):=p.keys.zip p.kids
def ei(t:aD):Nat→Int→List (K×Int)
 | 0,i=>eR (t.pg i)
 | h+1,i=>(t.pg i).kids.flatMap (ei t h)
def eU(t:aD):List Int→Int→Prop
 | [],_=>True
 | [i],e=>(t.pg i).next=e
 | i::j::r,e=>(t.pg i).next=j∧eU t (j::r) e
structure Valid (t:aD) (h:Nat):Prop where
 pos:1≤t.ag.length
 nY:t.ag.length≤4000
 fy:∀p∈t.ag,eC p t.ag.length
 ok:dO t h t.root [] []
 zU:(ids t h t.root).Nodup
 all:(ids t h t.root).length=t.ag.length
 pF:∀d,d≤h→eU t (cu t d t.root) (-1)
theorem dO.idx{t:aD}:∀{h:Nat} {i:Int} {low high:K},dO t h i low high→0≤i∧i<t.ag.length
 | 0,_,_,_,h=>h.1
 | _+1,_,_,_,h=>h.1
theorem dO.high{t:aD}:∀{h:Nat} {i:Int} {low high:K},dO t h i low high→(t.pg i).high=high
 | 0,_,_,_,h=>h.2.2.1
 | _+1,_,_,_,h=>h.2.2.1
theorem vn{t:aD}{i:Int}(h:0≤i∧i<t.ag.length):t.pg i=t.ag[i.toNat]'w4:=by
 unfold aD.pg;rw[getD_eq_getElem?_getD,getElem?_eq_getElem w4];rfl
theorem jw{t:aD}{i:Int}(h:0≤i∧i<t.ag.length):t.pg i∈t.ag:=by rw[vn h];exact getElem_mem _
theorem tG{t:aD}(h:Nat)(i:Int):i∈ids t h i:=by cases h<;>simp[ids]
theorem frame{t u:aD}:∀(h:Nat) (i:Int),(∀j∈ids t h i,u.pg j=t.pg j)→ids u h i=ids t h i∧ei u h i=ei t h i∧∀d,d≤h→cu u d i=cu t d i
 | 0,i,hp=>by
  have h0:=hp i (tG 0 i);refine⟨rfl,by unfold ei;rw[h0],fun d hd=>?_⟩;obtain rfl:d=0:=(by omega)
  rfl
 | h+1,i,hp=>by
  have h0:=hp i (tG _ i);have hs:∀j∈(t.pg i).kids,ids u h j=ids t h j∧ei u h j=ei t h j∧∀d,d≤h→cu u d j=cu t d j:=fun j hj=>frame h j fun x hx=>hp x (by
   rw[ids];exact mem_cons_of_mem _ (mem_flatMap.2 ⟨j,hj,hx⟩))
  refine⟨?_,?_,fun d hd=>?_⟩
  ·rw[ids,ids,h0];congr 1;exact rh (fun j hj=>(hs j hj).1)
  ·rw[ei,ei,h0];exact rh (fun j hj=>(hs j hj).2.1)
  cases d with
  | zero=>rfl
  | succ d=>rw[cu,cu,h0];exact rh (fun j hj=>(hs j hj).2.2 d w4)
theorem dO.frame{t u:aD}(hl:t.ag.length≤u.ag.length):∀{h:Nat} {i:Int} {low high:K},dO t h i low high→(∀j∈ids t h i,u.pg j=t.pg j)→dO u h i low high
 | 0,i,low,high,⟨q1,q2,E,I⟩,hp=>by
  have h0:=hp i (tG 0 i);exact⟨⟨q1.1,by omega⟩,by rw[h0];exact q2,by rw[h0];exact E,by rw[h0];exact I⟩
 | h+1,i,low,high,⟨q1,q2,E,I,O⟩,hp=>by
  have h0:=hp i (tG _ i);refine⟨⟨q1.1,by omega⟩,by rw[h0];exact q2,by rw[h0];exact E,by rw[h0];exact I,?_⟩;rw[h0];exact fun j hj=>dO.frame hl (O j hj) fun x hx=>hp x (by rw[ids];exact mem_cons_of_mem _ (mem_flatMap.2 ⟨_,getElem_mem hj,hx⟩))
theorem dO.ids{t:aD}:∀{h:Nat} {i:Int} {low high:K},dO t h i low high→∀j∈Tr.ids t h i,0≤j∧j<t.ag.length
 | 0,i,low,high,q,j,hj=>by
  rw[Tr.ids,mem_singleton] at hj;subst hj;exact q.1
 | h+1,i,low,high,⟨q1,q2,I,O,E⟩,j,hj=>by
  rw[Tr.ids] at hj;rcases mem_cons.1 hj with rfl|hj
  ·exact q1
  obtain⟨x,hx,hj⟩:=mem_flatMap.1 hj;obtain⟨n,hn,rfl⟩:=mem_iff_getElem.1 hx;exact dO.ids (E n hn) j hj

theorem K2{α:Type}{p:α→Bool}:∀{l:List α} {i:Nat} (h:i<(l.takeWhile p).length),∃(h':i<l.length),p l[i]=true
 | a::r,i,h=>by
  rw[takeWhile_cons] at h;by_cases ha:p a=true
  ·rw[if_pos ha] at h;cases i with
   | zero=>exact⟨by simp,ha⟩
   | succ i =>
    obtain⟨h',q⟩:=K2 (l:=r) (i:=i) nf;exact⟨by simpa using h',by simpa using q⟩
  rw[if_neg ha] at h;simp at h
theorem Kz{α:Type}{p:α→Bool}:∀{l:List α} (h:(l.takeWhile p).length<l.length),p l[(l.takeWhile p).length]=false
 | a::r,h=>by
  by_cases ha:p a=true
  ·have e:((a::r).takeWhile p).length=(r.takeWhile p).length+1:=(by rw[takeWhile_cons,if_pos ha];rfl)
   have h2:(r.takeWhile p).length<r.length:=(by rw[e] at h;simpa using h)
   have:=Kz (l:=r) h2;simp only[e,getElem_cons_succ];exact this
  have e:((a::r).takeWhile p).length=0:=(by rw[takeWhile_cons,if_neg ha];rfl)
  simp only[e,getElem_cons_zero];simpa using ha
theorem Vg{α:Type}(p:α→Bool)(l:List α):(l.takeWhile p).length≤l.length:=(takeWhile_sublist p).length_le
def gm(keys:List K)(k:K):Nat:=(keys.takeWhile fun x=>decide (bA x k)).length
def mO(keys:List K)(k:K):Nat:=(keys.takeWhile fun x=>decide (¬bA k x)).length
def aL(p:cW)(k:K):Nat:=if p.leaf=true then gm p.keys k else mO p.keys k
theorem Be{keys:List K}(h:i<gm keys k):∃(h':i<keys.length),bA keys[i] k:=by
 obtain⟨h',q⟩:=K2 h;exact⟨h',by simpa using q⟩
theorem A3{keys:List K}(h:gm keys k<keys.length):¬bA keys[gm keys k] k:=by
 exact of_decide_eq_false (Kz h)
theorem yR(keys:List K)(k:K):gm keys k≤keys.length:=Vg _ _
theorem I9{keys:List K}(h:i<mO keys k):∃(h':i<keys.length),¬bA k keys[i]:=by
 obtain⟨h',q⟩:=K2 h;exact⟨h',by simpa using q⟩
theorem ID{keys:List K}(h:mO keys k<keys.length):bA k keys[mO keys k]:=by
 exact Classical.not_not.1 (of_decide_eq_false (Kz h))
theorem Bf(keys:List K)(k:K):mO keys k≤keys.length:=Vg _ _
theorem nv{keys:List K}(h:keys.Pairwise bA)(E:i<j)(hj:j<keys.length):bA keys[i] keys[j]:=pairwise_iff_getElem.1 h i j w4 hj E
theorem Fx(h:j<p.keys.length):gM p j=p.keys[j]:=by unfold gM;rw[getD_eq_getElem?_getD,getElem?_eq_getElem h];rfl
theorem JX(h:p.keys.length≤j):gM p j=p.high:=by unfold gM;rw[getD_eq_getElem?_getD,getElem?_eq_none h];rfl
theorem Fb(h:0<j)(h':j-1<p.keys.length):iv low p j=p.keys[j-1]:=by unfold iv;rw[if_neg w4,getD_eq_getElem?_getD,getElem?_eq_getElem h'];rfl
def lI(low high k:K):Prop:=¬bA k low∧(high≠[]→bA k high)
theorem tY(k:K):lI [] [] k:=⟨Ky k,fun h=>absurd rfl h⟩
theorem down{n:Int}(hp:eC p n)(hl:p.leaf=false){high:K}(E:p.high=high)(hk:lI low high k):aL p k<p.kids.length∧lI (iv low p (aL p k)) (gM p (aL p k)) k:=by
 have e:aL p k=mO p.keys k:=(by unfold aL;rw[if_neg (by rw[hl];decide)])
 have I:=Bf p.keys k;rw[e];refine⟨by rw[(hp.node hl).1];omega,?_,?_⟩
 ·rcases Nat.eq_zero_or_pos (mO p.keys k) with h0|h0
  ·rw[h0];exact hk.1
  obtain⟨h',q⟩:=I9 (keys:=p.keys) (k:=k) (i:=mO p.keys k-1) w4;rw[Fb h0 h'];exact q
 intro hne;by_cases aa:mO p.keys k<p.keys.length
 ·rw[Fx aa];exact ID aa
 rw[JX w4] at hne ⊢;rw[E] at hne ⊢;exact hk.2 hne
def aH(t:aD)(k:K):Nat→Int→Int
 | 0,i=>i
 | h+1,i=>aH t k h ((t.pg i).kids.getD (aL (t.pg i) k) 0)
def iX(t:aD)(k:K):Nat→Int→List Int
 | 0,i=>[i]
 | h+1,i=>i::iX t k h ((t.pg i).kids.getD (aL (t.pg i) k) 0)
theorem P4(t:aD)(k:K):∀(h:Nat) (i:Int),(iX t k h i).getLast?=some (aH t k h i)
 | 0,i=>rfl
 | h+1,i=>by
  have:=P4 t k h ((t.pg i).kids.getD (aL (t.pg i) k) 0);rw[iX,aH,getLast?_cons,this];rfl
theorem wB(t:aD):∀(h:Nat) (i:Int),ei t h i=(cu t h i).flatMap fun l=>eR (t.pg l)
 | 0,i=>by simp[ei,cu]
 | h+1,i=>by
  rw[ei,cu,flatMap_assoc];exact rh fun j _=>wB t h j
theorem zip_fst{α β:Type}:∀{a:List α} {b:List β},b.length=a.length→(a.zip b).map Prod.fst=a
 | [],_,_=>by simp
 | x::a,[],h=>by simp at h
 | x::a,y::b,h=>by simp[zip_fst (a:=a) (b:=b) nf]
theorem RA{x:K×Int}(h:x∈eR p):x.1∈p.keys:=(of_mem_zip h).1
theorem tO(h:j<p.kids.length):p.kids.getD j 0=p.kids[j]:=by rw[getD_eq_getElem?_getD,getElem?_eq_getElem h];rfl
variable {t:aD} {n:Int}
theorem aai(hp:eC p n)(hl:p.leaf=false){high:K}(I:p.high=high)(E:∀k∈p.keys,¬bA k low)(hj:j<p.kids.length)(hk:lI (iv low p j) (gM p j) k):lI low high k:=by
 have hn:=(hp.node hl).1;refine⟨?_,fun hne=>?_⟩
 ·rcases Nat.eq_zero_or_pos j with rfl|h0
  ·exact hk.1
  rw[Fb h0 w4] at hk;exact Vf (E _ (getElem_mem _)) hk.1
 by_cases aa:j<p.keys.length
 ·rw[Fx aa] at hk;have hm:=getElem_mem aa;have h2:=hk.2 (by intro e;have:=(hp.lC _ hm).1;rw[e] at this;simp at this);exact lQ h2 (by rw[←I];exact hp.qI (by rw[I];exact hne) _ hm)
 rw[JX w4,I] at hk;exact hk.2 hne
theorem IE(hp:eC p n)(hl:p.leaf=false)(I:i<j)(hj:j<p.kids.length)(ha:lI (iv low p i) (gM p i) a)(hb:lI (iv low p j) (gM p j) b):bA a b:=by
 have hn:=(hp.node hl).1;have E:i<p.keys.length:=(by omega)
 rw[Fx E] at ha;have h1:=ha.2 (by intro e;have:=(hp.lC _ (getElem_mem E)).1;rw[e] at this;simp at this);rw[Fb w4 w4] at hb;refine ZT h1 ?_;refine Vf ?_ hb.1;rcases Nat.lt_or_ge i (j-1) with h|h
 ·exact zf (nv hp.jQ h w4)
 have:j-1=i:=(by omega)
 simp only[this];exact jK _
theorem JY(hp:∀p∈t.ag,eC p n):∀{h:Nat} {i:Int} {low high:K},dO t h i low high→(ei t h i).Pairwise (fun x y=>bA x.1 y.1)∧∀x∈ei t h i,lI low high x.1
 | 0,i,low,high,ok=>by
  obtain⟨q1,q2,E,I⟩:=ok;have po:=hp _ (jw q1);rw[ei];refine⟨?_,fun x hx=>⟨I _ (RA hx),fun hne=>by rw[←E] at hne ⊢;exact po.qI hne _ (RA hx)⟩⟩;have h1:((eR (t.pg i)).map Prod.fst).Pairwise bA:=(by unfold eR;rw[zip_fst (po.leaf q2)];exact po.jQ)
  exact pairwise_map.1 h1
 | h+1,i,low,high,ok=>by
  obtain⟨q1,q2,E,I,O⟩:=ok;have po:=hp _ (jw q1);rw[ei];have hk:∀j (hj:j<(t.pg i).kids.length),(ei t h (t.pg i).kids[j]).Pairwise (fun x y=>bA x.1 y.1)∧∀x∈ei t h (t.pg i).kids[j],lI (iv low (t.pg i) j) (gM (t.pg i) j) x.1:=fun j hj=>JY hp (O j hj);refine⟨pairwise_flatMap.2 ⟨fun a ha=>?_,?_⟩,fun x hx=>?_⟩
  ·obtain⟨j,hj,rfl⟩:=mem_iff_getElem.1 ha;exact(hk j hj).1
  ·refine pairwise_iff_getElem.2 fun a b ha hb om x hx y hy=>?_;exact IE po q2 om hb ((hk a ha).2 x hx) ((hk b hb).2 y hy)
  obtain⟨c,hc,hx⟩:=mem_flatMap.1 hx;obtain⟨j,hj,rfl⟩:=mem_iff_getElem.1 hc;exact aai po q2 E I hj ((hk j hj).2 x hx)
theorem Bg(hp:∀p∈t.ag,eC p n){k:K}:∀{h:Nat} {i:Int} {low high:K},dO t h i low high→lI low high k →
  ∃pre post lo hi,cu t h i=pre++aH t k h i::post∧(∀l∈pre,∀x∈eR (t.pg l),bA x.1 k)∧(∀l∈post,∀x∈eR (t.pg l),bA k x.1)∧dO t 0 (aH t k h i) lo hi∧lI lo hi k
 | 0,i,low,high,ok,hk=>⟨[],[],low,high,rfl,(fun _ h=>by cases h),(fun _ h=>by cases h),ok,hk⟩
 | h+1,i,low,high,ok,hk=>by
  obtain⟨q1,q2,I,O,E⟩:=ok;have po:=hp _ (jw q1);obtain⟨d1,d2⟩:=down po q2 I hk;obtain⟨pre,post,lo,hi,e,h1,h2,h3,h4⟩:=Bg hp (E _ d1) d2;have hm:∀j (hj:j<(t.pg i).kids.length),∀l∈cu t h (t.pg i).kids[j],∀x∈eR (t.pg l),lI (iv low (t.pg i) j) (gM (t.pg i) j) x.1:=fun j hj l hl x hx =>
   (JY hp (E j hj)).2 x (by rw[wB];exact mem_flatMap.2 ⟨l,hl,hx⟩)
  refine⟨((t.pg i).kids.take (aL (t.pg i) k)).flatMap (cu t h)++pre,post++((t.pg i).kids.drop (aL (t.pg i) k+1)).flatMap (cu t h),lo,hi,?_,?_,?_,?_,h4⟩
  ·rw[cu];conv=>lhs;rw[←take_append_drop (aL (t.pg i) k) (t.pg i).kids]
   rw[drop_eq_getElem_cons d1,flatMap_append,flatMap_cons,e,aH,tO d1];simp
  ·intro l hl x hx;rcases mem_append.1 hl with hl|hl
   ·obtain⟨c,hc,hl⟩:=mem_flatMap.1 hl;obtain⟨j,hj,rfl⟩:=mem_iff_getElem.1 hc;rw[length_take] at hj;rw[getElem_take] at hl;exact IE po q2 (show j<aL (t.pg i) k by omega) d1 (hm j w4 l hl x hx) d2
   exact h1 l hl x hx
  ·intro l hl x hx;rcases mem_append.1 hl with hl|hl
   ·exact h2 l hl x hx
   obtain⟨c,hc,hl⟩:=mem_flatMap.1 hl;obtain⟨j,hj,rfl⟩:=mem_iff_getElem.1 hc;rw[length_drop] at hj;rw[getElem_drop] at hl;exact IE po q2 (show aL (t.pg i) k<aL (t.pg i) k+1+j by omega) w4 d2 (hm _ w4 l hl x hx)
  rw[aH,tO d1];exact h3
theorem abn(hp:∀p∈t.ag,eC p n){h:Nat}{i:Int}{high:K}(ok:dO t h i low high)(hk:lI low high k) :
  ∃pre post,cu t h i=pre++aH t k h i::post∧(ei t h i).filter (fun x=>decide (¬bA x.1 k))=(eR (t.pg (aH t k h i))).drop (aL (t.pg (aH t k h i)) k)++post.flatMap fun l=>eR (t.pg l):=by
 obtain⟨pre,post,lo,hi,e,h1,h2,h3,h4⟩:=Bg hp ok hk;refine⟨pre,post,e,?_⟩;have po:=hp _ (jw h3.1);rw[wB,e,flatMap_append,flatMap_cons,filter_append,filter_append];rw[filter_eq_nil_iff.2 (by
  intro x hx;obtain⟨l,hl,hx⟩:=mem_flatMap.1 hx;simpa using h1 l hl x hx),nil_append]
 congr 1
 ·have fI:=h3.2.1;rw[show aL (t.pg (aH t k h i)) k=gm (t.pg (aH t k h i)).keys k by unfold aL;rw[if_pos fI]];generalize I:t.pg (aH t k h i)=p at *;have E:=take_append_drop (gm p.keys k) (eR p);conv=>lhs;rw[←E]
  have hlen:=po.leaf fI;rw[filter_append,filter_eq_nil_iff.2 (by
   intro x hx;obtain⟨j,hj,rfl⟩:=mem_iff_getElem.1 hx;rw[length_take] at hj;obtain⟨h',q⟩:=Be (keys:=p.keys) (k:=k) (i:=j) w4;rw[getElem_take];simpa[eR] using q),nil_append,filter_eq_self.2]
  intro x hx;obtain⟨j,hj,rfl⟩:=mem_iff_getElem.1 hx;rw[length_drop] at hj;have fK:(eR p).length=p.keys.length:=(by unfold eR;rw[length_zip,hlen,Nat.min_self])
  have hd:gm p.keys k<p.keys.length:=(by omega)
  have he:=A3 hd;rw[getElem_drop];have:¬bA p.keys[gm p.keys k+j] k:=by
   rcases Nat.eq_zero_or_pos j with rfl|h0
   ·exact he
   exact fun aa=>he (lQ (nv po.jQ w4 w4) aa)
  simpa[eR] using this
 rw[filter_eq_self.2];intro x hx;obtain⟨l,hl,hx⟩:=mem_flatMap.1 hx;simpa using zf (h2 l hl x hx)

end Go.Proofs.YtdgichenhdikgaaGreatDoor.Tr
namespace Go.Proofs.YtdgichenhdikgaaGreatDoor.Tr
open List
open Go.Proofs.Tryz
open Go.Lib (compareBytes)
variable {α:Type} {i n:Int} {p:cW} {up low:K} {h:Nat}
def gH(l:List α)(i:Nat)(x:α):List α:=l.take i++x::l.drop i
def aD.set(t:aD)(i:Int)(p:cW):aD:={t with ag:=t.ag.set i.toNat p}
variable {t:aD}
def bB(p:cW)(up:K)(aA:Int):cW :=
 {p with keys:=gH p.keys (aL p up) up,kids:=gH p.kids (if p.leaf=true then aL p up else aL p up+1) aA}
def gG(p:cW):K:=p.keys.getD 2 []
def ek(p:cW)(n:Int):cW:={leaf:=p.leaf,keys:=p.keys.take 2,kids:=p.kids.take (if p.leaf=true then 2 else 3),high:=gG p,next:=n}
def cl(p:cW):cW:={leaf:=p.leaf,keys:=p.keys.drop (if p.leaf=true then 2 else 3),kids:=p.kids.drop (if p.leaf=true then 2 else 3),high:=p.high,next:=p.next}
def rH(t:aD)(i:Int)(up:K)(aA:Int):aD×Option (K×Int) :=
 if (bB (t.pg i) up aA).keys.length≤4 then (t.set i (bB (t.pg i) up aA),none)
 else (⟨(t.ag.set i.toNat (ek (bB (t.pg i) up aA) t.ag.length))++[cl (bB (t.pg i) up aA)],t.root⟩,some (gG (bB (t.pg i) up aA),t.ag.length))
def gq(t:aD)(k:K)(row:Int):Nat→Int→aD×Option (K×Int)
 | 0,i=>rH t i k row
 | h+1,i=>match gq t k row h ((t.pg i).kids.getD (aL (t.pg i) k) 0) with
  | (t',none)=>(t',none)
  | (t',some (up,aA))=>rH t' i up aA
def ah3(r:aD×Option (K×Int)):aD:=match r with
 | (t,none)=>t
 | (t,some (up,aA))=>⟨t.ag++[⟨false,[up],[t.root,aA],[],-1⟩],t.ag.length⟩
theorem oA(t:aD)(i:Int)(p:cW):(t.set i p).ag.length=t.ag.length:=by simp[aD.set]
theorem Bh(h:0≤i∧i<t.ag.length)(p:cW):(t.set i p).pg i=p:=by
 unfold aD.pg aD.set;rw[getD_eq_getElem?_getD,getElem?_set_self w4];rfl
theorem wi{j:Int}(hi:0≤i)(hj:0≤j)(h:i≠j)(p:cW):(t.set i p).pg j=t.pg j:=by
 unfold aD.pg aD.set;rw[getD_eq_getElem?_getD,getD_eq_getElem?_getD,getElem?_set_ne w4]
theorem yI(l:List α){i:Nat}(h:i≤l.length)(x:α):(gH l i x).length=l.length+1:=by unfold gH;simp;omega
theorem uW{l:List α}{i:Nat}{x y:α}:y∈gH l i x↔y=x∨y∈l:=by
 unfold gH;conv=>rhs;rw[←take_append_drop i l]
 simp only[mem_append,mem_cons];constructor
 ·rintro(h|h|h)
  ·exact .inr (.inl h)
  ·exact .inl h
  exact .inr (.inr h)
 rintro(h|h|h)
 ·exact .inr (.inl h)
 ·exact .inl h
 exact .inr (.inr h)
theorem abo{β:Type}{a:List α}{b:List β}(h:b.length=a.length){i:Nat}(hi:i≤a.length)(x:α)(y:β):(gH a i x).zip (gH b i y)=gH (a.zip b) i (x,y):=by
 unfold gH;rw[zip_append (by simp[h]),zip_cons_cons];have h1:(a.zip b).take i=(a.take i).zip (b.take i):=take_zipWith;have h2:(a.zip b).drop i=(a.drop i).zip (b.drop i):=drop_zipWith;rw[h1,h2]
theorem Ja(hp:eC p n)(hn:up∉p.keys):(∀j (hj:j<p.keys.length),j<aL p up→bA p.keys[j] up)∧(∀j (hj:j<p.keys.length),aL p up≤j→bA up p.keys[j])∧aL p up≤p.keys.length:=by
 unfold aL;split
 ·refine⟨fun j hj h=>(Be h).2,fun j hj h=>?_,yR _ _⟩;have aa:gm p.keys up<p.keys.length:=(by omega)
  have h1:=A3 aa;have h2:¬bA p.keys[j] up:=by
   rcases Nat.lt_or_ge (gm p.keys up) j with h'|h'
   ·exact fun E=>h1 (lQ (nv hp.jQ h' hj) E)
   have:gm p.keys up=j:=(by omega)
   subst this;exact h1
  rcases zg p.keys[j] up with h|h|h
  ·exact absurd h h2
  ·exact absurd (h ▸ getElem_mem hj) hn
  exact h
 refine⟨fun j hj h=>?_,fun j hj h=>?_,Bf _ _⟩
 ·have h2:=(I9 h).2;rcases zg p.keys[j] up with h|h|h
  ·exact h
  ·exact absurd (h ▸ getElem_mem hj) hn
  exact absurd h h2
 have aa:mO p.keys up<p.keys.length:=(by omega)
 have h1:=ID aa;rcases Nat.lt_or_ge (mO p.keys up) j with h'|h'
 ·exact lQ h1 (nv hp.jQ h' hj)
 have:mO p.keys up=j:=(by omega)
 subst this;exact h1
theorem ac7(hp:eC p n)(hn:up∉p.keys):(gH p.keys (aL p up) up).Pairwise bA:=by
 obtain⟨h1,h2,h3⟩:=Ja hp hn;unfold gH;have hr:=hp.jQ;conv at hr=>rw[←take_append_drop (aL p up) p.keys]
 rw[pairwise_append] at hr;rw[pairwise_append,pairwise_cons];refine⟨hr.1,⟨fun y hy=>?_,hr.2.1⟩,fun x hx y hy=>?_⟩
 ·obtain⟨j,hj,rfl⟩:=mem_iff_getElem.1 hy;rw[length_drop] at hj;rw[getElem_drop];exact h2 _ w4 w4
 rcases mem_cons.1 hy with rfl|hy
 ·obtain⟨j,hj,rfl⟩:=mem_iff_getElem.1 hx;rw[length_take] at hj;rw[getElem_take];exact h1 _ w4 w4
 exact hr.2.2 x hx y hy
structure wN (p:cW) (many:Int):Prop where
 eE:p.keys.length≤5
 hlen:p.high.length≤100
 xk:-1≤p.next
 wQ:p.next<many
 xm:p.next<0↔p.high=[]
 leaf:p.leaf=true→p.kids.length=p.keys.length
 node:p.leaf=false→p.kids.length=p.keys.length+1∧p.keys≠[]
 lC:∀k∈p.keys,1≤k.length∧k.length≤100
 qI:p.high≠[]→∀k∈p.keys,bA k p.high
 jQ:p.keys.Pairwise bA
 aA:∀n∈p.kids,0≤n
 vw:p.leaf=false→∀n∈p.kids,n<many
theorem wN.ok(h:wN p n)(hl:p.keys.length≤4):eC p n:=⟨hl,h.hlen,h.xk,h.wQ,h.xm,h.leaf,h.node,h.lC,h.qI,h.jQ,h.aA,h.vw⟩
theorem Jb(hp:eC p n){aA:Int}(hn:up∉p.keys)(U:1≤up.length∧up.length≤100)(Z:p.high≠[]→bA up p.high)(hk:0≤aA)(O:p.leaf=false→aA<n):wN (bB p up aA) n:=by
 obtain⟨_,_,h3⟩:=Ja hp hn;have hf:=hp.eE;refine⟨?_,hp.hlen,hp.xk,hp.wQ,hp.xm,fun hl=>?_,fun hl=>?_,fun k I=>?_,fun hne k I=>?_,ac7 hp hn,fun m hm=>?_,fun hl m hm=>?_⟩
 ·show(gH _ _ _).length≤5;rw[yI _ h3];omega
 ·have E:p.leaf=true:=hl;show(gH _ _ _).length=(gH _ _ _).length;rw[if_pos E,yI _ h3,yI _ (by rw[hp.leaf E];exact h3),hp.leaf E]
 ·have E:p.leaf=false:=hl;refine⟨?_,?_⟩
  ·show(gH _ _ _).length=(gH _ _ _).length+1;rw[if_neg (by rw[E];decide),yI _ h3,yI _ (by rw[(hp.node E).1];omega),(hp.node E).1]
  show gH _ _ _≠[];intro e;have:=congrArg length e;rw[yI _ h3] at this;simp at this
 ·rcases uW.1 I with rfl|h
  ·exact U
  exact hp.lC k h
 ·rcases uW.1 I with rfl|h
  ·exact Z hne
  exact hp.qI hne k h
 ·rcases uW.1 hm with rfl|h
  ·exact hk
  exact hp.aA m h
 rcases uW.1 hm with rfl|h
 ·exact O hl
 exact hp.vw hl m h
theorem zh(h:p.keys.length=5):gG p=p.keys[2]:=by unfold gG;rw[getD_eq_getElem?_getD,getElem?_eq_getElem w4];rfl
theorem UG(hp:wN p n)(h5:p.keys.length=5)(h0:0≤n):eC (ek p n) (n+1):=by
 have U:=zh h5;have I:gG p∈p.keys:=(by rw[U];exact getElem_mem _)
 refine⟨?_,(hp.lC _ I).2,by show -1≤n;omega,by show n<n+1;omega,?_,fun hl=>?_,fun hl=>?_,fun k hk=>hp.lC k (mem_of_mem_take hk),fun _ k hk=>?_,hp.jQ.sublist (take_sublist _ _),fun x hx=>hp.aA x (mem_of_mem_take hx),fun hl x hx=>?_⟩
 ·show(p.keys.take 2).length≤4;rw[length_take];omega
 ·show n<0↔gG p=[];have:=(hp.lC _ I).1;exact⟨fun h=>by omega,fun h=>by rw[h] at this;simp at this⟩
 ·have E:p.leaf=true:=hl;show(p.kids.take (if p.leaf=true then 2 else 3)).length=(p.keys.take 2).length;rw[if_pos E,length_take,length_take,hp.leaf E]
 ·have E:p.leaf=false:=hl;refine⟨?_,?_⟩
  ·show(p.kids.take (if p.leaf=true then 2 else 3)).length=(p.keys.take 2).length+1;rw[if_neg (by rw[E];decide),length_take,length_take,(hp.node E).1];omega
  show p.keys.take 2≠[];intro e;have:=congrArg length e;rw[length_take,h5] at this;cases this
 ·have O:k∈p.keys.take 2:=hk;obtain⟨j,hj,rfl⟩:=mem_iff_getElem.1 O;rw[length_take] at hj;show bA (p.keys.take 2)[j] (gG p);rw[getElem_take,U];exact nv hp.jQ w4 w4
 have E:p.leaf=false:=hl;have:=hp.vw E x (mem_of_mem_take hx);omega
theorem TE{m:Int}(hp:wN p n)(h5:p.keys.length=5)(hm:n≤m):eC (cl p) m:=by
 refine⟨?_,hp.hlen,hp.xk,by have:=hp.wQ;show p.next<m;omega,hp.xm,fun hl=>?_,fun hl=>?_,fun k hk=>hp.lC k (mem_of_mem_drop hk),fun hne k hk=>hp.qI hne k (mem_of_mem_drop hk),hp.jQ.sublist (drop_sublist _ _),fun x hx=>hp.aA x (mem_of_mem_drop hx),fun hl x hx=>?_⟩
 ·show(p.keys.drop _).length≤4;rw[length_drop];split<;>omega
 ·have E:p.leaf=true:=hl;show(p.kids.drop _).length=(p.keys.drop _).length;rw[length_drop,length_drop,hp.leaf E]
 ·have E:p.leaf=false:=hl;refine⟨?_,?_⟩
  ·show(p.kids.drop _).length=(p.keys.drop _).length+1;rw[length_drop,length_drop,(hp.node E).1,if_neg (by rw[E];decide)];omega
  show p.keys.drop _≠[];intro e;have:=congrArg length e;rw[length_drop,if_neg (by rw[E];decide)] at this;simp at this;omega
 have E:p.leaf=false:=hl;have:=hp.vw E x (mem_of_mem_drop hx);omega

def jj(t:aD)(h:Nat):K→List Int→List K→K→Prop
 | low,c::cs,ks,high=>match cs,ks with
  | [],[]=>dO t h c low high
  | _::_,k::ks=>dO t h c low k∧jj t h k cs ks high
  | _,_=>False
 | _,[],_,_=>False
theorem Bi{high:K}{c:Int}:jj t h low [c] [] high↔dO t h c low high:=by rw[jj]
theorem qu{high k:K}{c d:Int}{cs:List Int}{ks:List K}:jj t h low (c::d::cs) (k::ks) high↔dO t h c low k∧jj t h k (d::cs) ks high:=by rw[jj]
theorem Jc{t:aD}{h:Nat}{high:K}:∀{kids:List Int} {keys:List K} {low:K},kids.length=keys.length+1 →
  ((∀j (hj:j<kids.length),dO t h kids[j] (if j=0 then low else keys.getD (j-1) []) (keys.getD j high))↔jj t h low kids keys high)
 | [],keys,low,e=>by simp at e
 | [c],[],low,e=>by
  rw[Bi];constructor
  ·intro q;exact q 0 bn
  intro q j hj;obtain rfl:j=0:=(by simpa using hj)
  exact q
 | [c],k::ks,low,e=>by simp at e
 | c::d::cs,[],low,e=>by simp at e
 | c::d::cs,k::ks,low,e=>by
  rw[qu,←Jc (kids:=d::cs) (keys:=ks) (low:=k) (by simpa using e)];constructor
  ·intro q;refine⟨q 0 bn,fun j hj=>?_⟩;have:=q (j+1) (by simpa using hj);rw[if_neg w4] at this;simp only[getElem_cons_succ,Nat.add_sub_cancel,getD_cons_succ] at this;cases j with
   | zero=>exact this
   | succ j=>exact this
  rintro⟨q0,q⟩ j hj;cases j with
  | zero=>exact q0
  | succ j =>
   have:=q j (by simpa using hj);rw[if_neg w4];simp only[getElem_cons_succ,Nat.add_sub_cancel,getD_cons_succ];cases j with
   | zero=>exact this
   | succ j=>exact this
theorem Bt{high:K}(hp:eC (t.pg i) n):dO t (h+1) i low high↔(0≤i∧i<t.ag.length)∧(t.pg i).leaf=false∧(t.pg i).high=high∧(∀k∈(t.pg i).keys,¬bA k low)∧jj t h low (t.pg i).kids (t.pg i).keys high:=by
 constructor
 ·rintro⟨q1,q2,E,O,I⟩;refine⟨q1,q2,E,O,?_⟩;rw[←Jc (hp.node q2).1];intro j hj;have:=I j hj;unfold iv gM at this;rw[E] at this;exact this
 rintro⟨q1,q2,E,O,I⟩;refine⟨q1,q2,E,O,?_⟩;rw[←Jc (hp.node q2).1] at I;intro j hj;have:=I j hj;unfold iv gM;rw[E];exact this
theorem RB{t u:aD}{h:Nat}{high:K}:∀{kids:List Int} {keys:List K} {low:K},jj t h low kids keys high→(∀c∈kids,∀lo hi,dO t h c lo hi→dO u h c lo hi)→jj u h low kids keys high
 | [],keys,low,q,_=>by simp[jj] at q
 | [c],[],low,q,f=>by rw[Bi] at q ⊢;exact f c bn _ _ q
 | [c],k::ks,low,q,f=>by simp[jj] at q
 | c::d::cs,[],low,q,f=>by simp[jj] at q
 | c::d::cs,k::ks,low,q,f=>by
  rw[qu] at q ⊢;exact⟨f c bn _ _ q.1,RB q.2 fun x hx=>f x (by simp at hx ⊢;exact .inr hx)⟩
theorem RC{t u:aD}{h:Nat}{high up:K}{aA:Int}:∀(j:Nat) {kids:List Int} {keys:List K} {low:K} (hj:j<kids.length),jj t h low kids keys high →
  (∀c∈kids.eraseIdx j,∀lo hi,dO t h c lo hi→dO u h c lo hi) →
  (dO u h kids[j] (if j=0 then low else keys.getD (j-1) []) up)→dO u h aA up (keys.getD j high)→jj u h low (gH kids (j+1) aA) (gH keys j up) high
 | 0,[],keys,low,hj,q,f,q1,q2=>by simp at hj
 | 0,[c],[],low,hj,q,f,q1,q2=>by
  show jj u h low [c,aA] [up] high;rw[qu,Bi];exact⟨q1,q2⟩
 | 0,[c],k::ks,low,hj,q,f,q1,q2=>by simp[jj] at q
 | 0,c::d::cs,[],low,hj,q,f,q1,q2=>by simp[jj] at q
 | 0,c::d::cs,k::ks,low,hj,q,f,q1,q2=>by
  show jj u h low (c::aA::d::cs) (up::k::ks) high;rw[qu,qu];rw[qu] at q;exact⟨q1,q2,RB q.2 fun x hx=>f x (by simpa using hx)⟩
 | j+1,[],keys,low,hj,q,f,q1,q2=>by simp at hj
 | j+1,[c],keys,low,hj,q,f,q1,q2=>by simp at hj
 | j+1,c::d::cs,[],low,hj,q,f,q1,q2=>by simp[jj] at q
 | j+1,c::d::cs,k::ks,low,hj,q,f,q1,q2=>by
  rw[qu] at q;have e1:gH (c::d::cs) (j+1+1) aA=c::gH (d::cs) (j+1) aA:=rfl;have e2:gH (k::ks) (j+1) up=k::gH ks j up:=rfl;rw[e1,e2];have E:=RC (t:=t) (u:=u) (up:=up) (aA:=aA) j (kids:=d::cs) (keys:=ks) (low:=k) (by simpa using hj) q.2 (fun x hx=>f x (by rw[eraseIdx_cons_succ];exact mem_cons_of_mem _ hx)) (by
   have:=q1;rw[if_neg w4] at this;simp only[getElem_cons_succ,Nat.add_sub_cancel] at this;cases j with
   | zero=>exact this
   | succ j=>exact this) (by simpa using q2)
  have I:gH (d::cs) (j+1) aA=d::gH cs j aA:=rfl;rw[I] at E ⊢;rw[qu];exact⟨f c (by rw[eraseIdx_cons_succ];simp) _ _ q.1,E⟩
theorem Pb{t:aD}{h:Nat}{high:K}:∀(m:Nat) {kids:List Int} {keys:List K} {low:K} (hm:m<keys.length),jj t h low kids keys high→jj t h low (kids.take (m+1)) (keys.take m) keys[m]∧jj t h keys[m] (kids.drop (m+1)) (keys.drop (m+1)) high
 | 0,c::d::cs,k::ks,low,hm,q=>by
  rw[qu] at q;exact⟨Bi.2 q.1,q.2⟩
 | m+1,c::d::cs,k::ks,low,hm,q=>by
  rw[qu] at q;obtain⟨q1,q2⟩:=Pb m (kids:=d::cs) (keys:=ks) (by simpa using hm) q.2;refine⟨?_,q2⟩;have e:(c::d::cs).take (m+1+1)=c::d::cs.take m:=rfl;rw[e];show jj t h low (c::d::cs.take m) (k::ks.take m) _;rw[qu];exact⟨q.1,q1⟩
 | _,_,[],_,hm,_=>by simp at hm
 | _,[],_::_,_,_,q=>by simp[jj] at q
 | _,[c],_::_,_,_,q=>by simp[jj] at q
theorem Bu{t:aD}{e:Int}:∀{a b:List Int},eU t (a++b) e↔eU t a (b.headD e)∧eU t b e
 | [],b=>by simp[eU]
 | [i],[]=>by simp[eU]
 | [i],j::b=>by simp[eU]
 | i::j::a,b=>by
  have:=Bu (t:=t) (e:=e) (a:=j::a) (b:=b);show(t.pg i).next=j∧eU t (j::a++b) e↔((t.pg i).next=j∧eU t (j::a) (b.headD e))∧eU t b e;rw[this,and_assoc]
theorem yJ{t u:aD}:∀{a:List Int} {e:Int},(∀j∈a,(u.pg j).next=(t.pg j).next)→eU t a e→eU u a e
 | [],e,_,_=>trivial
 | [i],e,f,h=>by show(u.pg i).next=e;rw[f i bn];exact h
 | i::j::a,e,f,h=>⟨by rw[f i bn];exact h.1,yJ (fun x hx=>f x (mem_cons_of_mem _ hx)) h.2⟩
theorem Fy{t:aD}{n:Int}(hp:∀p∈t.ag,eC p n):∀{h:Nat} {i:Int} {low high:K},dO t h i low high→∀d,d≤h→cu t d i≠[]
 | 0,i,low,high,ok,d,hd=>by
  obtain rfl:d=0:=(by omega)
  simp[cu]
 | h+1,i,low,high,ok,d,hd=>by
  cases d with
  | zero=>simp[cu]
  | succ d =>
   obtain⟨q1,q2,I,O,E⟩:=ok;have po:=hp _ (jw q1);have hl:=(po.node q2).1;have h0:0<(t.pg i).kids.length:=(by omega)
   have:=Fy hp (E 0 h0) d w4;rw[cu];intro e;rw[flatMap_eq_nil_iff] at e;exact this (e _ (getElem_mem h0))
theorem sy{t:aD}:∀(h:Nat) (i:Int) (d:Nat),d≤h→∀x∈cu t d i,x∈ids t h i
 | 0,i,d,hd,x,hx=>by
  obtain rfl:d=0:=(by omega)
  exact hx
 | h+1,i,0,hd,x,hx=>by
  have:x=i:=(by simpa[cu] using hx)
  subst this;exact tG _ _
 | h+1,i,d+1,hd,x,hx=>by
  rw[cu] at hx;obtain⟨c,hc,hx⟩:=mem_flatMap.1 hx;rw[ids];exact mem_cons_of_mem _ (mem_flatMap.2 ⟨c,hc,sy h c d w4 x hx⟩)
theorem Eo{a b:List α}(h:a≠[])(e:α):(a++b).headD e=a.headD e:=by
 cases a with
 | nil=>exact absurd rfl h
 | cons x r=>rfl

def nZ(t:aD)(h:Nat)(i:Int):Option (K×Int)→List Int
 | none=>ids t h i
 | some (_,aA)=>ids t h i++ids t h aA
def FZ(t:aD)(h:Nat)(i:Int):Option (K×Int)→List (K×Int)
 | none=>ei t h i
 | some (_,aA)=>ei t h i++ei t h aA
def sQ(t:aD)(d:Nat)(i:Int):Option (K×Int)→List Int
 | none=>cu t d i
 | some (_,aA)=>cu t d i++cu t d aA
def oo(t:aD)(h:Nat)(i:Int)(low high:K):Option (K×Int)→Prop
 | none=>dO t h i low high
 | some (up,aA)=>(1≤up.length∧up.length≤100)∧bA low up∧(high≠[]→bA up high)∧dO t h i low up∧dO t h aA up high
structure oU (t u:aD) (h:Nat) (i:Int) (low high:K) (k:K) (row:Int) (r:Option (K×Int)):Prop where
 le:t.ag.length≤u.ag.length
 more:u.ag.length≤t.ag.length+(h+1)
 root:u.root=t.root
 fy:∀p∈u.ag,eC p u.ag.length
 out:∀j:Int,0≤j→j<t.ag.length→j∉ids t h i→u.pg j=t.pg j
 ok:oo u h i low high r
 sub:∀x∈nZ u h i r,x∈ids t h i∨(t.ag.length:Int)≤x
 nodup:(nZ u h i r).Nodup
 YE:(nZ u h i r).length+t.ag.length=(ids t h i).length+u.ag.length
 ei:∀x,x∈FZ u h i r↔x=(k,row)∨x∈ei t h i
 pF:∀d,d≤h→∀e,eU t (cu t d i) e→eU u (sQ u d i r) e∧(sQ u d i r).headD e=(cu t d i).headD e
def jl(t:aD)(i:Int)(a b:cW):aD:=⟨(t.ag.set i.toNat a)++[b],t.root⟩
theorem pM(t:aD)(i:Int)(a b:cW):(jl t i a b).ag.length=t.ag.length+1:=by simp[jl]
theorem P5(h:0≤i∧i<t.ag.length)(a b:cW):(jl t i a b).pg i=a:=by
 unfold aD.pg jl;rw[getD_eq_getElem?_getD,getElem?_append_left vI,getElem?_set_self w4];rfl
theorem RD(t:aD)(i:Int)(a b:cW):(jl t i a b).pg t.ag.length=b:=by
 unfold aD.pg jl;rw[getD_eq_getElem?_getD,getElem?_append_right vI,length_set];simp
theorem Pd{j:Int}(hi:0≤i)(hj:0≤j∧j<t.ag.length)(h:i≠j)(a b:cW):(jl t i a b).pg j=t.pg j:=by
 unfold aD.pg jl;rw[getD_eq_getElem?_getD,getD_eq_getElem?_getD,getElem?_append_left vI,getElem?_set_ne w4]
theorem IF{q:cW}(hp:∀p∈t.ag,eC p n)(hq:eC q n):∀p∈(t.set i q).ag,eC p n:=fun p h=>by
 rcases mem_or_eq_of_mem_set h with h|rfl
 ·exact hp p h
 exact hq
theorem Pe{a b:cW}{m:Int}(hp:∀p∈t.ag,eC p n)(hm:n≤m)(ha:eC a m)(hb:eC b m):∀p∈(jl t i a b).ag,eC p m:=fun p h=>by
 unfold jl at h;rcases mem_append.1 h with h|h
 ·rcases mem_or_eq_of_mem_set h with h|rfl
  ·exact(hp p h).more hm
  exact ha
 rw[mem_singleton] at h;subst h;exact hb
theorem Jd{aA:Int}(h:(bB (t.pg i) up aA).keys.length≤4):rH t i up aA=(t.set i (bB (t.pg i) up aA),none):=by unfold rH;rw[if_pos h]
theorem IG{aA:Int}(h:¬(bB (t.pg i) up aA).keys.length≤4):rH t i up aA=(jl t i (ek (bB (t.pg i) up aA) t.ag.length) (cl (bB (t.pg i) up aA)),some (gG (bB (t.pg i) up aA),(t.ag.length:Int))):=by unfold rH;rw[if_neg h];rfl
theorem TF{q:cW}(hr:q.keys.Pairwise bA)(h5:q.keys.length=5)(hl:∀k∈q.keys,¬bA k low):bA low (gG q)∧(∀k∈q.keys.drop 2,¬bA k (gG q)):=by
 rw[zh h5];refine⟨OR (hl _ (getElem_mem (by omega:0<q.keys.length))) (nv hr w4 w4),fun k hk=>?_⟩;obtain⟨j,hj,rfl⟩:=mem_iff_getElem.1 hk;rw[length_drop] at hj;rw[getElem_drop];rcases Nat.eq_zero_or_pos j with rfl|h0
 ·exact jK _
 exact zf (nv hr w4 w4)
theorem ac8(hp:∀p∈t.ag,eC p t.ag.length){high:K}(ok:dO t 0 i low high){k:K}{row:Int}(hk:lI low high k)(hn:∀x∈ei t 0 i,x.1≠k)(hl:1≤k.length∧k.length≤100)(hr:0≤row):oU t (rH t i k row).1 0 i low high k row (rH t i k row).2:=by
 obtain⟨q1,q2,O,q4⟩:=ok;have po:=hp _ (jw q1);have U:k∉(t.pg i).keys:=fun hm=>by
  obtain⟨j,hj,e⟩:=mem_iff_getElem.1 hm;have hlen:=po.leaf q2;refine hn ((t.pg i).keys[j],(t.pg i).kids[j]'w4) ?_ e;show _∈eR (t.pg i);unfold eR;exact mem_iff_getElem.2 ⟨j,by rw[length_zip];omega,by rw[getElem_zip]⟩
 have hf:wN (bB (t.pg i) k row) t.ag.length:=Jb po U hl (fun hne=>hk.2 (by rw[←O];exact hne) |> fun h=>by rw[O];exact h) hr (fun h=>by rw[q2] at h;cases h);have fK:=(Ja po U).2.2;have hE:eR (bB (t.pg i) k row)=gH (eR (t.pg i)) (aL (t.pg i) k) (k,row):=by
  show(gH _ _ _).zip (gH _ _ _)=_;rw[if_pos q2];exact abo (po.leaf q2) fK k row
 have E:∀x∈(bB (t.pg i) k row).keys,¬bA x low:=fun x hx=>by
  rcases uW.1 hx with rfl|h
  ·exact hk.1
  exact q4 x h
 by_cases h4:(bB (t.pg i) k row).keys.length≤4
 ·rw[Jd h4];have Z:=Bh q1 (bB (t.pg i) k row);refine⟨by rw[oA];omega,by rw[oA];omega,rfl,by rw[oA];exact IF hp (hf.ok h4),fun j h0 hj hne=>?_,?_,fun x hx=>.inl hx,?_,by rw[oA];rfl,fun x=>?_,fun d hd e hs=>?_⟩
  ·exact wi q1.1 h0 (by intro e;subst e;simp[ids] at hne) _
  ·exact⟨by rw[oA];exact q1,by rw[Z];exact q2,by rw[Z];exact O,by rw[Z];exact E⟩
  ·show[i].Nodup;simp
  ·show x∈eR ((t.set i _).pg i)↔_;rw[Z,hE,uW];rfl
  obtain rfl:d=0:=(by omega)
  refine⟨?_,rfl⟩;show((t.set i _).pg i).next=e;rw[Z];exact hs
 have h5:(bB (t.pg i) k row).keys.length=5:=(by have:=hf.eE;omega)
 rw[IG h4];have I:(bB (t.pg i) k row).leaf=true:=q2;have ea:=P5 q1 (ek (bB (t.pg i) k row) t.ag.length) (cl (bB (t.pg i) k row));have eb:=RD t i (ek (bB (t.pg i) k row) t.ag.length) (cl (bB (t.pg i) k row));obtain⟨u1,u2⟩:=TF hf.jQ h5 E;have Dn:gG (bB (t.pg i) k row)∈(bB (t.pg i) k row).keys:=(by rw[zh h5];exact getElem_mem _)
 have gK:eR (ek (bB (t.pg i) k row) t.ag.length)++eR (cl (bB (t.pg i) k row))=eR (bB (t.pg i) k row):=by
  show((bB (t.pg i) k row).keys.take 2).zip ((bB (t.pg i) k row).kids.take (if (bB (t.pg i) k row).leaf=true then 2 else 3))++((bB (t.pg i) k row).keys.drop (if (bB (t.pg i) k row).leaf=true then 2 else 3)).zip ((bB (t.pg i) k row).kids.drop (if (bB (t.pg i) k row).leaf=true then 2 else 3))=_;rw[if_pos I,←zip_append (by rw[length_take,length_take,hf.leaf I]),take_append_drop,take_append_drop];rfl
 refine⟨by rw[pM];omega,by rw[pM];omega,rfl,?_,fun j h0 hj hne=>?_,⟨hf.lC _ Dn,u1,fun hne=>hf.qI (by show(t.pg i).high≠[];rw[O];exact hne) _ Dn |> fun h=>by rw[←O];exact h,?_,?_⟩,fun x hx=>?_,?_,by rw[pM];show[i,(t.ag.length:Int)].length+_=[i].length+_;simp;omega,fun x=>?_,fun d hd e hs=>?_⟩
 ·rw[pM];exact Pe hp w4 (UG hf h5 w4) (TE hf h5 w4)
 ·exact Pd q1.1 ⟨h0,hj⟩ (by intro e;subst e;simp[ids] at hne) _ _
 ·exact⟨by rw[pM];omega,by rw[ea];exact I,by rw[ea];rfl,by rw[ea];exact fun x hx=>E x (mem_of_mem_take hx)⟩
 ·refine⟨by rw[pM];omega,by rw[eb];exact I,by rw[eb];exact O,?_⟩;rw[eb];show ∀x∈(bB (t.pg i) k row).keys.drop (if (bB (t.pg i) k row).leaf=true then 2 else 3),_;rw[if_pos I];exact u2
 ·have px:x∈[i,(t.ag.length:Int)]:=hx;simp only[mem_cons,not_mem_nil,or_false] at px;rcases px with rfl|rfl
  ·exact .inl (by simp[ids])
  exact .inr (Int.le_refl _)
 ·show[i,(t.ag.length:Int)].Nodup;simp;omega
 ·show x∈eR ((jl t i _ _).pg i)++eR ((jl t i _ _).pg _)↔_;rw[ea,eb,gK,hE,uW];rfl
 obtain rfl:d=0:=(by omega)
 refine⟨?_,rfl⟩;show((jl t i _ _).pg i).next=_∧((jl t i _ _).pg _).next=e;rw[ea,eb];exact⟨rfl,hs⟩

end Go.Proofs.YtdgichenhdikgaaGreatDoor.Tr

namespace Go.Proofs.YtdgichenhdikgaaGreatDoor.Tr
open List
open Go.Proofs.Tryz
open Go.Lib (compareBytes)
variable {α:Type} {A B:List Int} {v:aD}
theorem JZ{keys:List K}(hr:keys.Pairwise bA){up:K}{j:Nat}(hj:j≤keys.length)(h1:∀(h:0<j),¬bA up (keys[j-1]'w4))(h2:∀(h:j<keys.length),bA up keys[j]):mO keys up=j:=by
 have E:=Bf keys up;rcases Nat.lt_trichotomy (mO keys up) j with h|h|h
 ·exfalso;have aa:mO keys up<keys.length:=(by omega)
  have h3:=ID aa;have h4:=h1 w4;rcases Nat.lt_or_ge (mO keys up) (j-1) with h5|h5
  ·exact h4 (lQ h3 (nv hr h5 w4))
  have:mO keys up=j-1:=(by omega)
  simp only[this] at h3;exact h4 h3
 ·exact h
 exact absurd (h2 w4) (I9 h).2
theorem OS{l:List α}{j:Nat}(hj:j<l.length)(x:α):gH l (j+1) x=l.take j++l[j]::x::l.drop (j+1):=by
 unfold gH;rw[take_succ_eq_append_getElem hj,append_assoc];rfl
theorem u0{l:List α}{j:Nat}(hj:j<l.length):l=l.take j++l[j]::l.drop (j+1):=by
 conv=>lhs;rw[←take_append_drop j l,drop_eq_getElem_cons hj]
theorem ZU{l:List α}{j:Nat}{x:α}(h:x∈l.eraseIdx j):x∈l.take j∨x∈l.drop (j+1):=by
 rw[eraseIdx_eq_take_drop_succ] at h;exact mem_append.1 h
variable {t:aD}
theorem wj{h:Nat}{i:Int}{j:Nat}(hj:j<(t.pg i).kids.length)(hn:(ids t (h+1) i).Nodup):(ids t h (t.pg i).kids[j]).Nodup∧i∉ids t h (t.pg i).kids[j]∧(∀x∈(t.pg i).kids.take j++(t.pg i).kids.drop (j+1),(∀y∈ids t h x,y∉ids t h (t.pg i).kids[j])∧i∉ids t h x) ∧
  (((t.pg i).kids.take j).flatMap (ids t h)++((t.pg i).kids.drop (j+1)).flatMap (ids t h)).Nodup∧i∉((t.pg i).kids.take j).flatMap (ids t h)++((t.pg i).kids.drop (j+1)).flatMap (ids t h):=by
 rw[ids,nodup_cons] at hn;obtain⟨h0,hn⟩:=hn;have hs:=u0 hj;rw[hs,flatMap_append,flatMap_cons] at hn h0;simp only[mem_append,not_or] at h0;rw[nodup_append] at hn;obtain⟨n1,n2,n3⟩:=hn;rw[nodup_append] at n2;obtain⟨n4,n5,n6⟩:=n2;refine⟨n4,h0.2.1,fun x hx=>?_,?_,?_⟩
 ·rcases mem_append.1 hx with hx|hx
  ·exact⟨fun y hy hc=>n3 y (mem_flatMap.2 ⟨x,hx,hy⟩) y (mem_append_left _ hc) rfl,fun hi=>h0.1 (mem_flatMap.2 ⟨x,hx,hi⟩)⟩
  exact⟨fun y hy hc=>n6 y hc y (mem_flatMap.2 ⟨x,hx,hy⟩) rfl,fun hi=>h0.2.2 (mem_flatMap.2 ⟨x,hx,hi⟩)⟩
 ·rw[nodup_append];exact⟨n1,n5,fun a ha b hb=>n3 a ha b (mem_append_right _ hb)⟩
 simp only[mem_append,not_or];exact⟨h0.1,h0.2.2⟩
theorem II{f g:Int→List α}{c aA:Int}(hA:∀x∈A,f x=g x)(E:∀x∈B,f x=g x):(A++c::aA::B).flatMap f=A.flatMap g++(f c++f aA)++B.flatMap g:=by
 rw[flatMap_append,flatMap_cons,flatMap_cons,rh hA,rh E];simp
theorem Je{f g:Int→List α}{c:Int}(hA:∀x∈A,f x=g x)(E:∀x∈B,f x=g x):(A++c::B).flatMap f=A.flatMap g++f c++B.flatMap g:=by
 rw[flatMap_append,flatMap_cons,rh hA,rh E];simp

structure jt (t u:aD) (h:Nat) (i:Int) (low high:K) (j:Nat) (k:K) (row:Int) (r:Option (K×Int)):Prop where
 hp:∀p∈t.ag,eC p t.ag.length
 ok:dO t (h+1) i low high
 nd:(ids t (h+1) i).Nodup
 hj:j<(t.pg i).kids.length
 hk:lI (iv low (t.pg i) j) (gM (t.pg i) j) k
 ins:oU t u h ((t.pg i).kids.getD j 0) (iv low (t.pg i) j) (gM (t.pg i) j) k row r
section
variable {u:aD} {h:Nat} {i:Int} {low high:K} {j:Nat} {k:K} {row:Int} {r:Option (K×Int)}
theorem jt.aA(m:jt t u h i low high j k row r):(t.pg i).kids.getD j 0=(t.pg i).kids[j]'m.hj:=tO m.hj
theorem jt.same(m:jt t u h i low high j k row r):u.pg i=t.pg i:=by
 have:=(wj m.hj m.nd).2.1;exact m.ins.out i m.ok.idx.1 m.ok.idx.2 (by rw[m.aA];exact this)
structure oF (u v:aD) (i:Int):Prop where
 le:u.ag.length≤v.ag.length
 pg:∀x:Int,0≤x→x<u.ag.length→x≠i→v.pg x=u.pg x
theorem jt.others(m:jt t u h i low high j k row r)(ha:oF u v i):∀x∈(t.pg i).kids.take j++(t.pg i).kids.drop (j+1),∀y∈ids t h x,v.pg y=t.pg y:=fun x hx y hy=>by
 obtain⟨h1,h2⟩:=(wj m.hj m.nd).2.2.1 x hx;have I:y≠i:=fun e=>h2 (e ▸ hy);have E:0≤y∧y<t.ag.length:=by
  have hm:y∈ids t (h+1) i:=by
   rw[ids];refine mem_cons_of_mem _ (mem_flatMap.2 ⟨x,?_,hy⟩);rcases mem_append.1 hx with hx|hx
   ·exact mem_of_mem_take hx
   exact mem_of_mem_drop hx
  exact m.ok.ids y hm
 have O:=m.ins.le;rw[ha.pg y E.1 w4 I,m.ins.out y E.1 E.2 (by rw[m.aA];exact h1 y hy)]
theorem jt.below(m:jt t u h i low high j k row r)(ha:oF u v i):∀y∈nZ u h ((t.pg i).kids[j]'m.hj) r,0≤y→y<u.ag.length→v.pg y=u.pg y:=fun y hy h0 hl=>by
 refine ha.pg y h0 hl fun e=>?_;have hs:=m.ins.sub y (by rw[m.aA];exact hy);rw[m.aA] at hs;rcases hs with hs|hs
 ·exact(wj m.hj m.nd).2.1 (e ▸ hs)
 have:=m.ok.idx;omega
theorem jt.qD(m:jt t u h i low high j k row r)(ha:oF u v i){x:Int}(hx:x∈(t.pg i).kids.take j++(t.pg i).kids.drop (j+1)):ids v h x=ids t h x∧ei v h x=ei t h x∧∀d,d≤h→cu v d x=cu t d x:=frame h x (m.others ha x hx)
theorem jt.TG(m:jt t u h i low high j k row r)(ha:oF u v i){x:Int}(hx:x∈(t.pg i).kids.take j++(t.pg i).kids.drop (j+1)){lo hi:K}(aQ:dO t h x lo hi):dO v h x lo hi:=by
 have:=m.ins.le;have:=ha.le;exact aQ.frame w4 (m.others ha x hx)
theorem jt.RE(m:jt t u h i low high j k row r):(((t.pg i).kids.take j).flatMap (ids t h)++nZ u h ((t.pg i).kids[j]'m.hj) r++((t.pg i).kids.drop (j+1)).flatMap (ids t h)).Nodup∧i∉((t.pg i).kids.take j).flatMap (ids t h)++nZ u h ((t.pg i).kids[j]'m.hj) r++((t.pg i).kids.drop (j+1)).flatMap (ids t h):=by
 obtain⟨a1,a2,a3,a4,a5⟩:=wj m.hj m.nd;have hnd:=m.ins.nodup;have E:=m.ins.sub;rw[m.aA] at hnd E;have aa:∀x∈(t.pg i).kids.take j++(t.pg i).kids.drop (j+1),∀y∈ids t h x,y<t.ag.length:=fun x hx y hy=>by
  refine(m.ok.ids y ?_).2;rw[ids];refine mem_cons_of_mem _ (mem_flatMap.2 ⟨x,?_,hy⟩);rcases mem_append.1 hx with hx|hx
  ·exact mem_of_mem_take hx
  exact mem_of_mem_drop hx
 have I:∀x∈(t.pg i).kids.take j++(t.pg i).kids.drop (j+1),∀y∈ids t h x,y∉nZ u h ((t.pg i).kids[j]'m.hj) r:=fun x hx y hy hm=>by
  rcases E y hm with hs|hs
  ·exact(a3 x hx).1 y hy hs
  have:=aa x hx y hy;omega
 have O:i∉nZ u h ((t.pg i).kids[j]'m.hj) r:=fun hm=>by
  rcases E i hm with hs|hs
  ·exact a2 hs
  have:=m.ok.idx;omega
 rw[nodup_append] at a4;obtain⟨b1,b2,b3⟩:=a4;refine⟨?_,?_⟩
 ·rw[nodup_append,nodup_append];refine⟨⟨b1,hnd,fun a ha b hb e=>?_⟩,b2,fun a ha b hb e=>?_⟩
  ·obtain⟨x,hx,ha⟩:=mem_flatMap.1 ha;subst e;exact I x (mem_append_left _ hx) a ha hb
  obtain⟨x,hx,jG⟩:=mem_flatMap.1 hb;subst e;rcases mem_append.1 ha with ha|ha
  ·exact b3 a ha a hb rfl
  exact I x (mem_append_right _ hx) a jG ha
 simp only[mem_append,not_or] at a5 ⊢;exact⟨⟨a5.1,O⟩,a5.2⟩
theorem jt.UH(m:jt t u h i low high j k row r):(((t.pg i).kids.take j).flatMap (ids t h)++nZ u h ((t.pg i).kids[j]'m.hj) r++((t.pg i).kids.drop (j+1)).flatMap (ids t h)).length+1+t.ag.length=(ids t (h+1) i).length+u.ag.length:=by
 have hc:=m.ins.YE;rw[m.aA] at hc;have e:(ids t (h+1) i).length=1+((((t.pg i).kids.take j).flatMap (ids t h)).length+((ids t h ((t.pg i).kids[j]'m.hj)).length+(((t.pg i).kids.drop (j+1)).flatMap (ids t h)).length)):=by
  rw[ids];conv=>lhs;rw[u0 m.hj]
  rw[length_cons,flatMap_append,flatMap_cons,length_append,length_append];omega
 rw[e,length_append,length_append];omega
theorem jt.Uq(m:jt t u h i low high j k row r):∀x∈((t.pg i).kids.take j).flatMap (ids t h)++nZ u h ((t.pg i).kids[j]'m.hj) r++((t.pg i).kids.drop (j+1)).flatMap (ids t h),x∈ids t (h+1) i∨(t.ag.length:Int)≤x:=fun x hx=>by
 have E:=m.ins.sub;rw[m.aA] at E;have up:∀c∈(t.pg i).kids,∀y∈ids t h c,y∈ids t (h+1) i:=fun c hc y hy=>by rw[ids];exact mem_cons_of_mem _ (mem_flatMap.2 ⟨c,hc,hy⟩)
 rcases mem_append.1 hx with hx|hx
 ·rcases mem_append.1 hx with hx|hx
  ·obtain⟨c,hc,hx⟩:=mem_flatMap.1 hx;exact .inl (up c (mem_of_mem_take hc) x hx)
  rcases E x hx with hs|hs
  ·exact .inl (up _ (getElem_mem _) x hs)
  exact .inr hs
 obtain⟨c,hc,hx⟩:=mem_flatMap.1 hx;exact .inl (up c (mem_of_mem_drop hc) x hx)
theorem jt.J0(m:jt t u h i low high j k row r)(x:K×Int):x∈((t.pg i).kids.take j).flatMap (ei t h)++FZ u h ((t.pg i).kids[j]'m.hj) r++((t.pg i).kids.drop (j+1)).flatMap (ei t h)↔x=(k,row)∨x∈ei t (h+1) i:=by
 have he:=m.ins.ei x;rw[m.aA] at he;have e:ei t (h+1) i=((t.pg i).kids.take j).flatMap (ei t h)++(ei t h ((t.pg i).kids[j]'m.hj)++((t.pg i).kids.drop (j+1)).flatMap (ei t h)):=by
  rw[ei];conv=>lhs;rw[u0 m.hj]
  rw[flatMap_append,flatMap_cons]
 rw[e];simp only[mem_append,he];constructor
 ·rintro((h|h|h)|h)
  ·exact .inr (.inl h)
  ·exact .inl h
  ·exact .inr (.inr (.inl h))
  exact .inr (.inr (.inr h))
 rintro(h|h|h|h)
 ·exact .inl (.inr (.inl h))
 ·exact .inl (.inl h)
 ·exact .inl (.inr (.inr h))
 exact .inr h
theorem jt.KA(m:jt t u h i low high j k row r)(ha:oF u v i){d:Nat}(hd:d≤h){e:Int}(hs:eU t (cu t (d+1) i) e) :
  eU v (((t.pg i).kids.take j).flatMap (cu t d)++sQ u d ((t.pg i).kids[j]'m.hj) r++((t.pg i).kids.drop (j+1)).flatMap (cu t d)) e∧(((t.pg i).kids.take j).flatMap (cu t d)++sQ u d ((t.pg i).kids[j]'m.hj) r++((t.pg i).kids.drop (j+1)).flatMap (cu t d)).headD e=(cu t (d+1) i).headD e:=by
 have hl:cu t (d+1) i=((t.pg i).kids.take j).flatMap (cu t d)++(cu t d ((t.pg i).kids[j]'m.hj)++((t.pg i).kids.drop (j+1)).flatMap (cu t d)):=by
  rw[cu];conv=>lhs;rw[u0 m.hj]
  rw[flatMap_append,flatMap_cons]
 rw[hl] at hs ⊢;rw[Bu,Bu] at hs;obtain⟨s1,s2,s3⟩:=hs;obtain⟨g1,g2⟩:=m.ins.pF d hd _ (by rw[m.aA];exact s2);rw[m.aA] at g1 g2;obtain⟨_,_,_,_,O⟩:=m.ok;have hne:cu t d ((t.pg i).kids[j]'m.hj)≠[]:=Fy m.hp (O j m.hj) d hd;have fr:∀x∈(t.pg i).kids.take j++(t.pg i).kids.drop (j+1),∀y∈cu t d x,(v.pg y).next=(t.pg y).next:=fun x hx y hy=>by rw[m.others ha x hx y (sy h x d hd y hy)]
 have U:∀y∈sQ u d ((t.pg i).kids[j]'m.hj) r,(v.pg y).next=(u.pg y).next:=fun y hy=>by
  have aQ:=m.ins.ok;rw[m.aA] at aQ;cases r with
  | none =>
   have hi:=sy h _ d hd y hy;have hb:=dO.ids aQ y hi;rw[m.below ha y hi hb.1 hb.2]
  | some q =>
   obtain⟨up,aA⟩:=q;obtain⟨_,_,_,o1,o2⟩:=aQ;rcases mem_append.1 hy with hy|hy
   ·have hi:=sy h _ d hd y hy;have hb:=o1.ids y hi;rw[m.below ha y (mem_append_left _ hi) hb.1 hb.2]
   have hi:=sy h _ d hd y hy;have hb:=o2.ids y hi;rw[m.below ha y (mem_append_right _ hi) hb.1 hb.2]
 have E:sQ u d ((t.pg i).kids[j]'m.hj) r≠[]:=fun e0=>by
  have aQ:=m.ins.ok;rw[m.aA] at aQ;cases r with
  | none=>exact Fy m.ins.fy aQ d hd e0
  | some q =>
   obtain⟨up,aA⟩:=q;exact Fy m.ins.fy aQ.2.2.2.1 d hd (append_eq_nil_iff.1 e0).1
 have I:=yJ (u:=v) (fun y hy=>by obtain⟨x,hx,hy⟩:=mem_flatMap.1 hy;exact fr x (mem_append_left _ hx) y hy) s1;have Z:=yJ (u:=v) (fun y hy=>by obtain⟨x,hx,hy⟩:=mem_flatMap.1 hy;exact fr x (mem_append_right _ hx) y hy) s3;have g1':=yJ (u:=v) U g1;have hh:∀e':Int,(sQ u d ((t.pg i).kids[j]'m.hj) r).headD e'=(cu t d ((t.pg i).kids[j]'m.hj)).headD e':=fun e'=>by
  cases h1:sQ u d ((t.pg i).kids[j]'m.hj) r with
  | nil=>exact absurd h1 E
  | cons a b =>
   cases h2:cu t d ((t.pg i).kids[j]'m.hj) with
   | nil=>exact absurd h2 hne
   | cons a' b'=>rw[h1,h2] at g2;exact g2
 rw[append_assoc];refine⟨?_,?_⟩
 ·rw[Bu,Bu];refine⟨?_,g1',Z⟩;rw[Eo E,hh];rw[Eo hne] at I;exact I
 cases hA:((t.pg i).kids.take j).flatMap (cu t d) with
 | cons a b=>rfl
 | nil=>rw[nil_append,nil_append,Eo E,Eo hne,hh]
end
end Go.Proofs.YtdgichenhdikgaaGreatDoor.Tr

namespace Go.Proofs.YtdgichenhdikgaaGreatDoor.Tr
open List
open Go.Proofs.Tryz
open Go.Lib (compareBytes)
variable {t u:aD} {h:Nat} {i:Int} {low high:K} {j:Nat} {k:K} {row:Int}
theorem abp{α:Type}{l:List α}{j E:Nat}(I:E<l.length)(hne:E≠j):l[E]∈l.take j++l.drop (j+1):=by
 rcases Nat.lt_or_ge E j with h|h
 ·exact mem_append_left _ (mem_iff_getElem.2 ⟨E,by rw[length_take];omega,by rw[getElem_take]⟩)
 refine mem_append_right _ (mem_iff_getElem.2 ⟨E-(j+1),by rw[length_drop];omega,?_⟩);rw[getElem_drop];congr 1;omega
theorem Jf(m:jt t u h i low high j k row none):oU t u (h+1) i low high k row none:=by
 have E:oF u u i:=⟨Nat.le_refl _,fun _ _ _ _=>rfl⟩
 have I:=m.same;have AF:=m.ok.idx;obtain⟨q1,q2,q3,q4,q5⟩:=m.ok;have aQ:dO u h ((t.pg i).kids[j]'m.hj) (iv low (t.pg i) j) (gM (t.pg i) j):=(by have:=m.ins.ok;rw[m.aA] at this;exact this)
 have pX:ids u (h+1) i=i::(((t.pg i).kids.take j).flatMap (ids t h)++nZ u h ((t.pg i).kids[j]'m.hj) none++((t.pg i).kids.drop (j+1)).flatMap (ids t h)):=by
  rw[ids,I];conv=>lhs;rw[u0 m.hj]
  rw[Je (fun x hx=>(m.qD E (mem_append_left _ hx)).1) (fun x hx=>(m.qD E (mem_append_right _ hx)).1)];rfl
 have O:ei u (h+1) i=((t.pg i).kids.take j).flatMap (ei t h)++FZ u h ((t.pg i).kids[j]'m.hj) none++((t.pg i).kids.drop (j+1)).flatMap (ei t h):=by
  rw[ei,I];conv=>lhs;rw[u0 m.hj]
  rw[Je (fun x hx=>(m.qD E (mem_append_left _ hx)).2.1) (fun x hx=>(m.qD E (mem_append_right _ hx)).2.1)];rfl
 have U:∀d,d≤h→cu u (d+1) i=((t.pg i).kids.take j).flatMap (cu t d)++sQ u d ((t.pg i).kids[j]'m.hj) none++((t.pg i).kids.drop (j+1)).flatMap (cu t d):=fun d hd=>by
  rw[cu,I];conv=>lhs;rw[u0 m.hj]
  rw[Je (fun x hx=>(m.qD E (mem_append_left _ hx)).2.2 d hd) (fun x hx=>(m.qD E (mem_append_right _ hx)).2.2 d hd)];rfl
 have hle:=m.ins.le;have Vh:=m.ins.more;have Z:=m.RE;refine⟨hle,by omega,m.ins.root,m.ins.fy,fun x h0 hx hne=>?_,?_,?_,?_,?_,?_,?_⟩
 ·refine m.ins.out x h0 hx fun hm=>hne ?_;rw[m.aA] at hm;rw[ids];exact mem_cons_of_mem _ (mem_flatMap.2 ⟨_,getElem_mem _,hm⟩)
 ·refine⟨⟨AF.1,by omega⟩,by rw[I];exact q2,by rw[I];exact q3,by rw[I];exact q4,?_⟩;rw[I];intro j' jr;by_cases e:j'=j
  ·subst e;exact aQ
  exact m.TG E (abp jr e) (q5 j' jr)
 ·intro x hx;have px:x∈ids u (h+1) i:=hx;exact z105
 ·show(ids u (h+1) i).Nodup;rw[pX,nodup_cons];exact⟨Z.2,Z.1⟩
 ·show(ids u (h+1) i).length+_=_;rw[pX,length_cons];exact m.UH
 ·intro x;show x∈ei u (h+1) i↔_;rw[O];exact m.J0 x
 intro d hd e hs;cases d with
 | zero=>exact⟨by show(u.pg i).next=e;rw[I];exact hs,rfl⟩
 | succ d =>
  show eU u (cu u (d+1) i) e∧(cu u (d+1) i).headD e=_;rw[U d w4];exact m.KA E w4 hs
theorem jt.place{up:K}{aA:Int}(m:jt t u h i low high j k row (some (up,aA))):aL (t.pg i) up=j∧up∉(t.pg i).keys∧lI low high up∧bA low up:=by
 obtain⟨q1,q2,I,O,Z⟩:=m.ok;have po:=m.hp _ (jw q1);have hn:=(po.node q2).1;have aQ:=m.ins.ok;rw[m.aA] at aQ;obtain⟨o1,o2,o3,o4,o5⟩:=aQ;have U:=m.hj;have eK:∀(h0:0<j),bA ((t.pg i).keys[j-1]'w4) up:=fun h0=>by rw[Fb h0 w4] at o2;exact o2
 have er:∀(hl:j<(t.pg i).keys.length),bA up (t.pg i).keys[j]:=fun hl=>by
  rw[Fx hl] at o3;exact o3 (by intro e;have:=(po.lC _ (getElem_mem hl)).1;rw[e] at this;simp at this)
 have fK:aL (t.pg i) up=j:=by
  unfold aL;rw[if_neg (by rw[q2];decide)];exact JZ po.jQ w4 (fun h0=>zf (eK h0)) er
 have E:bA low up:=by
  rcases Nat.eq_zero_or_pos j with h0|h0
  ·rw[h0] at o2;exact o2
  exact OR (O _ (getElem_mem (by omega:j-1<_))) (eK h0)
 refine⟨fK,fun hm=>?_,⟨zf E,fun hne=>?_⟩,E⟩
 ·obtain⟨a,ha,e⟩:=mem_iff_getElem.1 hm;rcases Nat.lt_or_ge a j with h1|h1
  ·have h2:=eK w4;rcases Nat.lt_or_ge a (j-1) with h3|h3
   ·have:=lQ (nv po.jQ h3 w4) h2;rw[e] at this;exact jK _ this
   have:a=j-1:=(by omega)
   subst this;rw[e] at h2;exact jK _ h2
  have h2:=er w4;rcases Nat.lt_or_ge j a with h3|h3
  ·have:=lQ h2 (nv po.jQ h3 ha);rw[e] at this;exact jK _ this
  have:a=j:=(by omega)
  subst this;rw[e] at h2;exact jK _ h2
 by_cases hl:j<(t.pg i).keys.length
 ·exact lQ (er hl) (by rw[←I];exact po.qI (by rw[I];exact hne) _ (getElem_mem hl))
 rw[JX w4,I] at o3;exact o3 hne
theorem ac9{up:K}{aA:Int}(m:jt t u h i low high j k row (some (up,aA))):oU t (rH u i up aA).1 (h+1) i low high k row (rH u i up aA).2:=by
 obtain⟨p1,p2,p3,p4⟩:=m.place;have es:=m.same;have AF:=m.ok.idx;have aQ:=m.ins.ok;rw[m.aA] at aQ;obtain⟨o1,o2,o3,o4,o5⟩:=aQ;obtain⟨q1,q2,q3,q4,q5⟩:=m.ok;have hle:=m.ins.le;have Vh:=m.ins.more;have U:0≤i∧i<u.ag.length:=⟨AF.1,by omega⟩
 have YF:=m.hp _ (jw q1);have po:eC (t.pg i) u.ag.length:=YF.more w4;have hn:=(po.node q2).1;have l8:=m.hj;have hf:wN (bB (t.pg i) up aA) u.ag.length:=Jb po p2 o1 (by rw[q3];exact p3.2) o5.idx.1 (fun _=>o5.idx.2);have I:(bB (t.pg i) up aA).kids=(t.pg i).kids.take j++((t.pg i).kids[j]'m.hj)::aA::(t.pg i).kids.drop (j+1):=by
  show gH _ (if (t.pg i).leaf=true then _ else _) aA=_;rw[if_neg (by rw[q2];decide),p1];exact OS m.hj aA
 have ah4:(bB (t.pg i) up aA).keys=gH (t.pg i).keys j up:=by
  show gH _ _ _=_;rw[p1]
 have Z:∀x∈(bB (t.pg i) up aA).keys,¬bA x low:=fun x hx=>by
  rcases uW.1 hx with rfl|h
  ·exact p3.1
  exact q4 x h
 have hKT:jj t h low (t.pg i).kids (t.pg i).keys high:=(Bt YF).1 m.ok |>.2.2.2.2
 -- what is below,in any tree aqB apd
 have below:∀{v:aD},oF u v i→(∀x,x∈ids u h ((t.pg i).kids[j]'m.hj)++ids u h aA→v.pg x=u.pg x):=fun E x hx=>by
  refine m.below E x hx ?_ ?_
  ·rcases mem_append.1 hx with hx|hx
   ·exact(o4.ids x hx).1
   exact(o5.ids x hx).1
  rcases mem_append.1 hx with hx|hx
  ·exact(o4.ids x hx).2
  exact(o5.ids x hx).2
 have NV:∀{v:aD},oF u v i→_:=fun {v} E=>frame (t:=u) (u:=v) h ((t.pg i).kids[j]'m.hj) (fun x hx=>below E x (mem_append_left _ hx));have NW:∀{v:aD},oF u v i→_:=fun {v} E=>frame (t:=u) (u:=v) h aA (fun x hx=>below E x (mem_append_right _ hx));have YG:∀{v:aD},oF u v i→jj v h low (bB (t.pg i) up aA).kids (bB (t.pg i) up aA).keys high:=fun {v} E=>by
  have e1:(bB (t.pg i) up aA).kids=gH (t.pg i).kids (j+1) aA:=(by rw[I];exact(OS m.hj aA).symm)
  rw[e1,ah4];refine RC j m.hj hKT (fun c hc lo hi aQ=>m.TG E ?_ aQ) ?_ ?_
  ·rcases ZU hc with hc|hc
   ·exact mem_append_left _ hc
   exact mem_append_right _ hc
  ·have:=o4.frame E.le (fun x hx=>below E x (mem_append_left _ hx));unfold iv at this;exact this
  have:=o5.frame E.le (fun x hx=>below E x (mem_append_right _ hx));unfold gM at this;rw[q3] at this;exact this
 have Wr:∀{v:aD},oF u v i→(bB (t.pg i) up aA).kids.flatMap (ids v h)=((t.pg i).kids.take j).flatMap (ids t h)++nZ u h ((t.pg i).kids[j]'m.hj) (some (up,aA))++((t.pg i).kids.drop (j+1)).flatMap (ids t h):=fun {v} E=>by
  rw[I,II (fun x hx=>(m.qD E (mem_append_left _ hx)).1) (fun x hx=>(m.qD E (mem_append_right _ hx)).1),(NV E).1,(NW E).1];rfl
 have Vi:∀{v:aD},oF u v i→(bB (t.pg i) up aA).kids.flatMap (ei v h)=((t.pg i).kids.take j).flatMap (ei t h)++FZ u h ((t.pg i).kids[j]'m.hj) (some (up,aA))++((t.pg i).kids.drop (j+1)).flatMap (ei t h):=fun {v} E=>by
  rw[I,II (fun x hx=>(m.qD E (mem_append_left _ hx)).2.1) (fun x hx=>(m.qD E (mem_append_right _ hx)).2.1),(NV E).2.1,(NW E).2.1];rfl
 have Ws:∀{v:aD},oF u v i→∀d,d≤h→(bB (t.pg i) up aA).kids.flatMap (cu v d)=((t.pg i).kids.take j).flatMap (cu t d)++sQ u d ((t.pg i).kids[j]'m.hj) (some (up,aA))++((t.pg i).kids.drop (j+1)).flatMap (cu t d):=fun {v} E d hd=>by
  rw[I,II (fun x hx=>(m.qD E (mem_append_left _ hx)).2.2 d hd) (fun x hx=>(m.qD E (mem_append_right _ hx)).2.2 d hd),(NV E).2.2 d hd,(NW E).2.2 d hd];rfl
 have vT:=m.RE;have Cj:=m.UH;have Wt:∀x:Int,0≤x→x<t.ag.length→x∉ids t (h+1) i→u.pg x=t.pg x∧x≠i:=fun x h0 hx hne=>by
  refine⟨m.ins.out x h0 hx fun hm=>hne ?_,fun e=>hne (by rw[e];exact tG _ _)⟩;rw[m.aA] at hm;rw[ids];exact mem_cons_of_mem _ (mem_flatMap.2 ⟨_,getElem_mem _,hm⟩)
 by_cases h4:(bB (u.pg i) up aA).keys.length≤4
 ·rw[Jd h4];rw[es] at h4 ⊢;have ep:=Bh U (bB (t.pg i) up aA);have E:oF u (u.set i (bB (t.pg i) up aA)) i:=⟨by rw[oA];omega,fun x h0 hx hne=>wi U.1 h0 (Ne.symm hne) _⟩
  have pX:ids (u.set i (bB (t.pg i) up aA)) (h+1) i=i::(((t.pg i).kids.take j).flatMap (ids t h)++nZ u h ((t.pg i).kids[j]'m.hj) (some (up,aA))++((t.pg i).kids.drop (j+1)).flatMap (ids t h)):=(by rw[ids,ep,Wr E])
  refine⟨by rw[oA];omega,by rw[oA];omega,m.ins.root,by rw[oA];exact IF m.ins.fy (hf.ok h4),fun x h0 hx hne=>?_,?_,fun x hx=>?_,?_,?_,fun x=>?_,fun d hd e hs=>?_⟩
  ·obtain⟨e1,e2⟩:=Wt x h0 hx hne;rw[E.pg x h0 w4 e2,e1]
  ·show dO _ (h+1) i low high;refine(Bt (n:=u.ag.length) (by rw[ep];exact hf.ok h4)).2 ?_;rw[ep];exact⟨by rw[oA];exact U,q2,q3,Z,YG E⟩
  ·have px:x∈ids (u.set i (bB (t.pg i) up aA)) (h+1) i:=hx;exact z105
  ·show(ids _ (h+1) i).Nodup;rw[pX,nodup_cons];exact⟨vT.2,vT.1⟩
  ·show(ids _ (h+1) i).length+_=_;rw[pX,length_cons,oA];exact Cj
  ·show x∈ei _ (h+1) i↔_;rw[ei,ep,Vi E];exact m.J0 x
  cases d with
  | zero=>exact⟨by show((u.set i _).pg i).next=e;rw[ep];exact hs,rfl⟩
  | succ d =>
   show eU _ (cu _ (d+1) i) e∧(cu _ (d+1) i).headD e=_;rw[cu,ep,Ws E d w4];exact m.KA E w4 hs
 have h5:(bB (t.pg i) up aA).keys.length=5:=(by rw[es] at h4;have:=hf.eE;omega)
 rw[IG h4];rw[es] at h4 ⊢;have Dp:(bB (t.pg i) up aA).leaf=false:=q2;have ea:=P5 U (ek (bB (t.pg i) up aA) u.ag.length) (cl (bB (t.pg i) up aA));have eb:=RD u i (ek (bB (t.pg i) up aA) u.ag.length) (cl (bB (t.pg i) up aA));have E:oF u (jl u i (ek (bB (t.pg i) up aA) u.ag.length) (cl (bB (t.pg i) up aA))) i:=⟨by rw[pM];omega,fun x h0 hx hne=>Pd U.1 ⟨h0,hx⟩ (Ne.symm hne) _ _⟩
 obtain⟨u1,u2⟩:=TF hf.jQ h5 Z;have Dn:gG (bB (t.pg i) up aA)∈(bB (t.pg i) up aA).keys:=(by rw[zh h5];exact getElem_mem _)
 have eK:=UG hf h5 w4;have er:=TE (m:=u.ag.length+1) hf h5 w4;have Av:=Pb 2 w4 (YG E);rw[←zh h5] at Av;have HA:(ek (bB (t.pg i) up aA) u.ag.length).kids=(bB (t.pg i) up aA).kids.take 3:=by
  show(bB (t.pg i) up aA).kids.take (if _ then _ else _)=_;rw[if_neg (by rw[Dp];decide)]
 have HB:(cl (bB (t.pg i) up aA)).kids=(bB (t.pg i) up aA).kids.drop 3:=by
  show(bB (t.pg i) up aA).kids.drop (if _ then _ else _)=_;rw[if_neg (by rw[Dp];decide)]
 have ehy:(cl (bB (t.pg i) up aA)).keys=(bB (t.pg i) up aA).keys.drop 3:=by
  show(bB (t.pg i) up aA).keys.drop (if _ then _ else _)=_;rw[if_neg (by rw[Dp];decide)]
 have O:∀{α:Type} (f:Int→List α),((bB (t.pg i) up aA).kids.take 3).flatMap f++((bB (t.pg i) up aA).kids.drop 3).flatMap f=(bB (t.pg i) up aA).kids.flatMap f:=fun f=>by rw[←flatMap_append,take_append_drop]
 have pX:nZ (jl u i (ek (bB (t.pg i) up aA) u.ag.length) (cl (bB (t.pg i) up aA))) (h+1) i (some (gG (bB (t.pg i) up aA),(u.ag.length:Int)))=(i::((bB (t.pg i) up aA).kids.take 3).flatMap (ids (jl u i (ek (bB (t.pg i) up aA) u.ag.length) (cl (bB (t.pg i) up aA))) h))++((u.ag.length:Int)::((bB (t.pg i) up aA).kids.drop 3).flatMap (ids (jl u i (ek (bB (t.pg i) up aA) u.ag.length) (cl (bB (t.pg i) up aA))) h)):=by
  show ids _ (h+1) i++ids _ (h+1) _=_;rw[ids,ids,ea,eb,HA,HB]
 have pid:=(O (ids (jl u i (ek (bB (t.pg i) up aA) u.ag.length) (cl (bB (t.pg i) up aA))) h)).trans (Wr E);have akw:∀x∈((t.pg i).kids.take j).flatMap (ids t h)++nZ u h ((t.pg i).kids[j]'m.hj) (some (up,aA))++((t.pg i).kids.drop (j+1)).flatMap (ids t h),x<u.ag.length:=fun x hx=>by
  rcases mem_append.1 hx with hx|hx
  ·rcases mem_append.1 hx with hx|hx
   ·obtain⟨c,hc,hx⟩:=mem_flatMap.1 hx;obtain⟨a,ha,rfl⟩:=mem_iff_getElem.1 (mem_of_mem_take hc);have:=(q5 a ha).ids x hx;omega
   rcases mem_append.1 hx with hx|hx
   ·exact(o4.ids x hx).2
   exact(o5.ids x hx).2
  obtain⟨c,hc,hx⟩:=mem_flatMap.1 hx;obtain⟨a,ha,rfl⟩:=mem_iff_getElem.1 (mem_of_mem_drop hc);have:=(q5 a ha).ids x hx;omega
 refine⟨by rw[pM];omega,by rw[pM];omega,m.ins.root,?_,fun x h0 hx hne=>?_,⟨hf.lC _ Dn,u1,fun hne=>?_,?_,?_⟩,fun x hx=>?_,?_,?_,fun x=>?_,fun d hd e hs=>?_⟩
 ·rw[pM];exact Pe m.ins.fy w4 eK er
 ·obtain⟨e1,e2⟩:=Wt x h0 hx hne;rw[E.pg x h0 w4 e2,e1]
 ·have:=hf.qI (by show(t.pg i).high≠[];rw[q3];exact hne) _ Dn;rw[←q3];exact this
 ·refine(Bt (n:=(u.ag.length:Int)+1) (by rw[ea];exact eK)).2 ?_;rw[ea,HA];exact⟨by rw[pM];omega,Dp,rfl,fun x hx=>Z x (mem_of_mem_take hx),Av.1⟩
 ·refine(Bt (n:=(u.ag.length:Int)+1) (by rw[eb];exact er)).2 ?_;rw[eb,HB,ehy];refine⟨by rw[pM];omega,Dp,q3,fun x hx=>u2 x ?_,Av.2⟩;rw[show 3=2+1 from rfl,←drop_drop] at hx;exact mem_of_mem_drop hx
 ·rw[pX] at hx;have eY:x=i∨x=(u.ag.length:Int)∨x∈((bB (t.pg i) up aA).kids.take 3).flatMap (ids (jl u i (ek (bB (t.pg i) up aA) u.ag.length) (cl (bB (t.pg i) up aA))) h)++((bB (t.pg i) up aA).kids.drop 3).flatMap (ids (jl u i (ek (bB (t.pg i) up aA) u.ag.length) (cl (bB (t.pg i) up aA))) h):=by
   rcases mem_append.1 hx with hx|hx
   ·rcases mem_cons.1 hx with h|h
    ·exact .inl h
    exact .inr (.inr (mem_append_left _ h))
   rcases mem_cons.1 hx with h|h
   ·exact .inr (.inl h)
   exact .inr (.inr (mem_append_right _ h))
  rw[pid] at eY;rcases eY with rfl|rfl|hx
  ·exact .inl (tG _ _)
  ·exact .inr w4
  exact m.Uq x hx
 ·rw[pX];have hnd:=vT.1;rw[←pid,nodup_append] at hnd;have qg:=vT.2;rw[←pid] at qg;simp only[mem_append,not_or] at qg;have j6:∀x∈((bB (t.pg i) up aA).kids.take 3).flatMap (ids (jl u i (ek (bB (t.pg i) up aA) u.ag.length) (cl (bB (t.pg i) up aA))) h)++((bB (t.pg i) up aA).kids.drop 3).flatMap (ids (jl u i (ek (bB (t.pg i) up aA) u.ag.length) (cl (bB (t.pg i) up aA))) h),x<u.ag.length:=fun x hx=>akw x (by rw[←pid];exact hx);rw[nodup_append,nodup_cons,nodup_cons];refine⟨⟨qg.1,hnd.1⟩,⟨fun hm=>?_,hnd.2.1⟩,fun a ha b hb e=>?_⟩
  ·have:=j6 _ (mem_append_right _ hm);omega
  subst e;rcases mem_cons.1 ha with rfl|ha
  ·rcases mem_cons.1 hb with hb|hb
   ·omega
   exact qg.2 hb
  rcases mem_cons.1 hb with rfl|hb
  ·have:=j6 _ (mem_append_left _ ha);omega
  exact hnd.2.2 a ha a hb rfl
 ·rw[pX,pM];have:=congrArg length pid;rw[length_append] at this;rw[length_append,length_cons,length_cons];omega
 ·show x∈ei _ (h+1) i++ei _ (h+1) _↔_;rw[ei,ei,ea,eb,HA,HB,O,Vi E];exact m.J0 x
 cases d with
 | zero =>
  refine⟨?_,rfl⟩;show((jl u i _ _).pg i).next=_∧((jl u i _ _).pg _).next=e;rw[ea,eb];exact⟨rfl,hs⟩
 | succ d =>
  show eU _ (cu _ (d+1) i++cu _ (d+1) _) e∧(cu _ (d+1) i++cu _ (d+1) _).headD e=_;rw[cu,cu,ea,eb,HA,HB,O,Ws E d w4];exact m.KA E w4 hs
theorem Fz:∀{h:Nat} {t:aD} (hp:∀p∈t.ag,eC p t.ag.length) {i:Int} {low high:K} (ok:dO t h i low high) (nd:(ids t h i).Nodup) {k:K} {row:Int} (hk:lI low high k) (hn:∀x∈ei t h i,x.1≠k) (hl:1≤k.length∧k.length≤100) (hr:0≤row),oU t (gq t k row h i).1 h i low high k row (gq t k row h i).2
 | 0,t,hp,i,low,high,ok,nd,k,row,hk,hn,hl,hr=>ac8 hp ok hk hn hl hr
 | h+1,t,hp,i,low,high,ok,nd,k,row,hk,hn,hl,hr=>by
  obtain⟨q1,q2,O,Z,U⟩:=id ok;have po:=hp _ (jw q1);obtain⟨d1,d2⟩:=down po q2 O hk;have E:=(wj d1 nd).1;have I:=Fz (h:=h) hp (U _ d1) E d2 (fun x hx=>hn x MI) hl hr;rw[←tO d1] at I;rw[gq];generalize gq t k row h ((t.pg i).kids.getD (aL (t.pg i) k) 0)=R at I;obtain⟨u,r⟩:=R;have m:jt t u h i low high (aL (t.pg i) k) k row r:=⟨hp,ok,nd,d1,d2,I⟩
  cases r with
  | none=>exact Jf m
  | some q=>obtain⟨up,aA⟩:=q;exact ac9 m

end Go.Proofs.YtdgichenhdikgaaGreatDoor.Tr
namespace Go.Proofs.YtdgichenhdikgaaGreatDoor.Tr
open List
open Go.Proofs.Tryz
open Go.Lib (compareBytes)
variable {t:aD} {h:Nat} {k:K} {row:Int}
variable {p:cW}
def kZ(t:aD)(h:Nat):List (K×Int):=ei t h t.root
def gB(t:aD)(h:Nat)(k:K)(row:Int):aD:=ah3 (gq t k row h t.root)
def iU(u:aD)(up:K)(aA:Int):aD:=⟨u.ag++[⟨false,[up],[u.root,aA],[],-1⟩],u.ag.length⟩
theorem tP(u:aD)(up:K)(aA:Int):(iU u up aA).ag.length=u.ag.length+1:=by simp[iU]
theorem ada(u:aD)(up:K)(aA:Int):(iU u up aA).pg u.ag.length=⟨false,[up],[u.root,aA],[],-1⟩:=by
 unfold aD.pg iU;rw[getD_eq_getElem?_getD,getElem?_append_right w4];simp
theorem adb{u:aD}{x:Int}(hx:0≤x∧x<u.ag.length)(up:K)(aA:Int):(iU u up aA).pg x=u.pg x:=by
 unfold aD.pg iU;rw[getD_eq_getElem?_getD,getD_eq_getElem?_getD,getElem?_append_left w4]
theorem Valid.range(v:Valid t h):0≤t.root∧t.root<t.ag.length:=v.ok.idx
theorem RF(hp:∀p∈t.ag,eC p t.ag.length):∀{h:Nat} {i:Int} {low high:K},dO t h i low high→h+1≤(ids t h i).length
 | 0,_,_,_,_=>by simp[ids]
 | h+1,i,low,high,⟨q1,q2,I,O,E⟩=>by
  have po:=hp _ (jw q1);have hn:=(po.node q2).1;have h0:0<(t.pg i).kids.length:=(by omega)
  have:=RF hp (E 0 h0);rw[ids,length_cons,u0 h0,flatMap_append,flatMap_cons,length_append,length_append];omega
theorem Valid.high(v:Valid t h):h<t.ag.length:=by
 have:=RF v.fy v.ok;rw[v.all] at this;omega
theorem abq(v:Valid t h)(hn:∀x∈kZ t h,x.1≠k)(hl:1≤k.length∧k.length≤100)(hr:0≤row)(hm:t.ag.length+(h+2)≤4000) :
  ∃h',(h≤h'∧h'≤h+1)∧Valid (gB t h k row) h'∧(t.ag.length≤(gB t h k row).ag.length∧(gB t h k row).ag.length≤t.ag.length+(h+2))∧∀x,x∈kZ (gB t h k row) h'↔x=(k,row)∨x∈kZ t h:=by
 have I:=Fz v.fy v.ok v.zU (tY k) hn hl hr;unfold gB;generalize gq t k row h t.root=R at I;obtain⟨u,r⟩:=R;have hle:t.ag.length≤u.ag.length:=I.le;have Vh:u.ag.length≤t.ag.length+(h+1):=I.more;have O:(nZ u h t.root r).length+t.ag.length=(ids t h t.root).length+u.ag.length:=I.YE;rw[v.all] at O;have aqC:=v.pos;have E:u.root=t.root:=I.root;cases r with
 | none =>
  refine⟨h,⟨Nat.le_refl _,by omega⟩,⟨by show 1≤u.ag.length;omega,by show u.ag.length≤4000;omega,I.fy,?_,?_,?_,fun d hd=>?_⟩,⟨hle,by show u.ag.length≤_;omega⟩,fun x=>?_⟩
  ·show dO u h u.root [] [];rw[E];exact I.ok
  ·show(ids u h u.root).Nodup;rw[E];exact I.nodup
  ·show(ids u h u.root).length=u.ag.length;rw[E];have:(ids u h t.root).length+t.ag.length=t.ag.length+u.ag.length:=O;omega
  ·show eU u (cu u d u.root) (-1);rw[E];exact(I.pF d hd (-1) (v.pF d hd)).1
  show x∈ei u h u.root↔_;rw[E];exact I.ei x
 | some q =>
  obtain⟨up,aA⟩:=q;obtain⟨o1,o2,o3,o4,o5⟩:(1≤up.length∧up.length≤100)∧bA [] up∧(([]:K)≠[]→bA up [])∧dO u h t.root [] up∧dO u h aA up []:=I.ok;have ho:∀x∈ids u h t.root++ids u h aA,(iU u up aA).pg x=u.pg x:=fun x hx=>by
   refine adb ?_ up aA;rcases mem_append.1 hx with hx|hx
   ·exact o4.ids x hx
   exact o5.ids x hx
  have f1:=frame (t:=u) (u:=iU u up aA) h t.root (fun x hx=>ho x (mem_append_left _ hx));have f2:=frame (t:=u) (u:=iU u up aA) h aA (fun x hx=>ho x (mem_append_right _ hx));have g1:dO (iU u up aA) h t.root [] up:=o4.frame (by rw[tP];omega) (fun x hx=>ho x (mem_append_left _ hx));have g2:dO (iU u up aA) h aA up []:=o5.frame (by rw[tP];omega) (fun x hx=>ho x (mem_append_right _ hx));have U:=ada u up aA;rw[E] at U;have hnd:=I.nodup;have pX:ids (iU u up aA) (h+1) u.ag.length=(u.ag.length:Int)::(ids u h t.root++ids u h aA):=by
   rw[ids,U];show _::([t.root,aA].flatMap (ids (iU u up aA) h))=_;rw[flatMap_cons,flatMap_cons,flatMap_nil,append_nil,f1.1,f2.1]
  have Z:eC (⟨false,[up],[t.root,aA],[],-1⟩:cW) (u.ag.length+1:Nat):=by
   have i1:=o4.idx;have i2:=o5.idx;refine⟨by simp,by simp,by simp,by simp;omega,by simp,(fun h=>by cases h),fun _=>⟨rfl,by simp⟩,fun x hx=>?_,fun h=>absurd rfl h,by simp,fun x hx=>?_,fun _ x hx=>?_⟩
   ·have:x=up:=(by simpa using hx)
    subst this;exact o1
   ·have:x=t.root∨x=aA:=(by simpa using hx)
    rcases this with rfl|rfl
    ·exact i1.1
    exact i2.1
   have:x=t.root∨x=aA:=(by simpa using hx)
   rcases this with rfl|rfl<;>omega
  refine⟨h+1,⟨by omega,by omega⟩,⟨?_,?_,?_,?_,?_,?_,fun d hd=>?_⟩,⟨?_,?_⟩,fun x=>?_⟩
  ·show 1≤(iU u up aA).ag.length;rw[tP];omega
  ·show(iU u up aA).ag.length≤4000;rw[tP];omega
  ·show ∀p∈(iU u up aA).ag,eC p (iU u up aA).ag.length;rw[tP];intro p hp;rcases mem_append.1 hp with hp|hp
   ·have Ak:eC p u.ag.length:=I.fy p hp;exact Ak.more w4
   rw[mem_singleton] at hp;subst hp;rw[E];exact Z
  ·show dO (iU u up aA) (h+1) u.ag.length [] [];refine(Bt (n:=(u.ag.length+1:Nat)) (by rw[U];exact Z)).2 ?_;rw[U];refine⟨by rw[tP];omega,rfl,rfl,fun x _=>Ky x,?_⟩;rw[qu,Bi];exact⟨g1,g2⟩
  ·show(ids (iU u up aA) (h+1) u.ag.length).Nodup;rw[pX,nodup_cons];refine⟨fun hm=>?_,hnd⟩;rcases mem_append.1 hm with hm|hm
   ·have:=o4.ids _ hm;omega
   have:=o5.ids _ hm;omega
  ·show(ids (iU u up aA) (h+1) u.ag.length).length=(iU u up aA).ag.length;rw[pX,tP,length_cons];have:(ids u h t.root++ids u h aA).length+t.ag.length=t.ag.length+u.ag.length:=O;omega
  ·show eU (iU u up aA) (cu (iU u up aA) d u.ag.length) (-1);cases d with
   | zero=>show((iU u up aA).pg u.ag.length).next = -1;rw[U]
   | succ d =>
    rw[cu,U];show eU _ ([t.root,aA].flatMap (cu (iU u up aA) d)) (-1);rw[flatMap_cons,flatMap_cons,flatMap_nil,append_nil,f1.2.2 d w4,f2.2.2 d w4];refine yJ (fun x hx=>?_) (I.pF d w4 (-1) (v.pF d w4)).1;have px:x∈cu u d t.root++cu u d aA:=hx;rw[ho x ?_];rcases mem_append.1 px with px|px
    ·exact mem_append_left _ (sy h _ d w4 x px)
    exact mem_append_right _ (sy h _ d w4 x px)
  ·show t.ag.length≤(iU u up aA).ag.length;rw[tP];omega
  ·show(iU u up aA).ag.length≤_;rw[tP];omega
  show x∈ei (iU u up aA) (h+1) u.ag.length↔_;rw[ei,U];show x∈[t.root,aA].flatMap (ei (iU u up aA) h)↔_;rw[flatMap_cons,flatMap_cons,flatMap_nil,append_nil,f1.2.1,f2.2.1];exact I.ei x
theorem P6:Valid p8 0:=by
 refine⟨by decide,by decide,fun p hp=>?_,⟨by decide,rfl,rfl,fun k hk=>by cases hk⟩,by simp[ids],rfl,fun d hd=>?_⟩
 ·have:p=⟨true,[],[],[],-1⟩:=(by simpa[p8] using hp)
  subst this;exact⟨by simp,by simp,by simp,by simp[p8],by simp,fun _=>rfl,(fun h=>by cases h),(fun k hk=>by cases hk),(fun h=>absurd rfl h),by simp,(fun n hn=>by cases hn),(fun h=>by cases h)⟩
 obtain rfl:d=0:=(by omega)
 rfl
theorem ade:kZ p8 0=[]:=rfl
theorem EN(hl:p.kids.length=p.keys.length){a:Nat}(ha:a<p.keys.length):(eR p)[a]'(by unfold eR;rw[length_zip];omega)=(p.keys[a],p.kids[a]'w4):=by unfold eR;rw[getElem_zip]
theorem A4(hl:p.kids.length=p.keys.length){x:K×Int}:x∈eR p↔∃a,∃(ha:a<p.keys.length),x=(p.keys[a],p.kids[a]'w4):=by
 constructor
 ·intro h;obtain⟨a,ha,e⟩:=mem_iff_getElem.1 h;have E:a<p.keys.length:=(by unfold eR at ha;rw[length_zip] at ha;omega)
  exact⟨a,E,by rw[←e,EN hl E]⟩
 rintro⟨a,ha,rfl⟩;exact mem_iff_getElem.2 ⟨a,by unfold eR;rw[length_zip];omega,EN hl ha⟩
def BE(t:aD)(k:K)(h:Nat):Prop:=∃(ha:aL (t.pg (aH t k h t.root)) k<(t.pg (aH t k h t.root)).keys.length),(t.pg (aH t k h t.root)).keys[aL (t.pg (aH t k h t.root)) k]=k
theorem Valid.leaf(v:Valid t h)(k:K):(0≤aH t k h t.root∧aH t k h t.root<t.ag.length)∧(t.pg (aH t k h t.root)).leaf=true:=by
 obtain⟨_,_,_,_,_,_,_,h3,_⟩:=Bg v.fy v.ok (tY k);exact⟨h3.1,h3.2.1⟩
theorem found(v:Valid t h)(k:K)(row:Int):(k,row)∈kZ t h↔∃(ha:aL (t.pg (aH t k h t.root)) k<(t.pg (aH t k h t.root)).keys.length),(t.pg (aH t k h t.root)).keys[aL (t.pg (aH t k h t.root)) k]=k∧(t.pg (aH t k h t.root)).kids.getD (aL (t.pg (aH t k h t.root)) k) 0=row:=by
 obtain⟨pre,post,lo,hi,e,h1,h2,h3,h4⟩:=Bg v.fy v.ok (tY k);have po:=v.fy _ (jw h3.1);have fI:=h3.2.1;have hlen:=po.leaf fI;unfold kZ;rw[wB,e,flatMap_append,flatMap_cons];generalize I:t.pg (aH t k h t.root)=p at *;have fK:aL p k=gm p.keys k:=(by unfold aL;rw[if_pos fI])
 rw[fK];simp only[mem_append];constructor
 ·rintro(hx|hx|hx)
  ·obtain⟨l,hl,hx⟩:=mem_flatMap.1 hx;exact absurd (h1 l hl _ hx) (jK k)
  ·obtain⟨a,ha,e2⟩:=(A4 hlen).1 hx;injection e2 with E O
   have:gm p.keys k=a:=by
    rcases Nat.lt_trichotomy (gm p.keys k) a with h5|h5|h5
    ·exfalso;have:=A3 (keys:=p.keys) (k:=k) w4;have h6:=nv po.jQ h5 ha;rw[←E] at h6;exact this h6
    ·exact h5
    have:=(Be h5).2;rw[←E] at this;exact absurd this (jK k)
   subst this;exact⟨ha,E.symm,by rw[getD_eq_getElem?_getD,getElem?_eq_getElem w4];exact O.symm⟩
  obtain⟨l,hl,hx⟩:=mem_flatMap.1 hx;exact absurd (h2 l hl _ hx) (jK k)
 rintro⟨ha,e1,e2⟩;refine .inr (.inl ((A4 hlen).2 ⟨_,ha,?_⟩));rw[getD_eq_getElem?_getD,getElem?_eq_getElem w4] at e2;rw[e1];congr 1;exact e2.symm
theorem A5(v:Valid t h)(k:K):BE t k h↔∃row,(k,row)∈kZ t h:=by
 constructor
 ·rintro⟨ha,e⟩;exact⟨_,(found v k _).2 ⟨ha,e,rfl⟩⟩
 rintro⟨row,hr⟩;obtain⟨ha,e,_⟩:=(found v k row).1 hr;exact⟨ha,e⟩
def kH(p:cW)(a:Nat):cW:={p with keys:=p.keys.eraseIdx a,kids:=p.kids.eraseIdx a}
def gC(t:aD)(h:Nat)(k:K):aD:=t.set (aH t k h t.root) (kH (t.pg (aH t k h t.root)) (aL (t.pg (aH t k h t.root)) k))
theorem agE{n:Int}(hp:eC p n)(hl:p.leaf=true){a:Nat}(ha:a<p.keys.length):eC (kH p a) n:=by
 have hlen:=hp.leaf hl;refine⟨?_,hp.hlen,hp.xk,hp.wQ,hp.xm,fun _=>?_,fun h=>?_,fun k hk=>hp.lC k ((eraseIdx_sublist _ _).subset hk),fun hne k hk=>hp.qI hne k ((eraseIdx_sublist _ _).subset hk),hp.jQ.sublist (eraseIdx_sublist _ _),fun x hx=>hp.aA x ((eraseIdx_sublist _ _).subset hx),fun h=>?_⟩
 ·show(p.keys.eraseIdx a).length≤4;rw[length_eraseIdx_of_lt ha];have:=hp.eE;omega
 ·show(p.kids.eraseIdx a).length=(p.keys.eraseIdx a).length;rw[length_eraseIdx_of_lt ha,length_eraseIdx_of_lt w4,hlen]
 ·have:p.leaf=false:=h;rw[hl] at this;cases this
 have:p.leaf=false:=h;rw[hl] at this;cases this
theorem P7{α β:Type}:∀{a:List α} {b:List β} {n:Nat},(a.eraseIdx n).zip (b.eraseIdx n)=(a.zip b).eraseIdx n
 | [],_,n=>by simp
 | _::_,[],n=>by cases n<;>simp
 | x::a,y::b,0=>by simp
 | x::a,y::b,n+1=>by simp[P7 (a:=a) (b:=b) (n:=n)]
theorem RG{q:cW}{l:Int}(hq:q.leaf=true)(hh:q.high=(t.pg l).high)(hx:q.next=(t.pg l).next)(hl:0≤l∧l<t.ag.length)(fI:(t.pg l).leaf=true)(E:∀k∈q.keys,k∈(t.pg l).keys):∀{h:Nat} {i:Int} {low high:K},dO t h i low high →
  dO (t.set l q) h i low high∧ids (t.set l q) h i=ids t h i∧∀d,d≤h→cu (t.set l q) d i=cu t d i
 | 0,i,low,high,⟨q1,q2,I,O⟩=>by
  refine⟨?_,rfl,fun d hd=>by cases Nat.le_zero.1 hd;rfl⟩;by_cases e:l=i
  ·subst e;rw[dO,Bh hl,oA];exact⟨q1,hq,by rw[hh];exact I,fun k hk=>O k (E k hk)⟩
  rw[dO,wi hl.1 q1.1 e,oA];exact⟨q1,q2,I,O⟩
 | h+1,i,low,high,⟨q1,q2,I,O,q5⟩=>by
  have e:l≠i:=fun e=>by rw[e,q2] at fI;cases fI
  have U:=wi (t:=t) hl.1 q1.1 e q;have Z:=fun j (hj:j<(t.pg i).kids.length)=>RG hq hh hx hl fI E (q5 j hj);refine⟨?_,?_,fun d hd=>?_⟩
  ·rw[dO,U,oA];exact⟨q1,q2,I,O,fun j hj=>(Z j hj).1⟩
  ·rw[ids,ids,U];congr 1;refine rh fun c hc=>?_;obtain⟨j,hj,rfl⟩:=mem_iff_getElem.1 hc;exact(Z j hj).2.1
  cases d with
  | zero=>rfl
  | succ d =>
   rw[cu,cu,U];refine rh fun c hc=>?_;obtain⟨j,hj,rfl⟩:=mem_iff_getElem.1 hc;exact(Z j hj).2.2 d w4
theorem abr(v:Valid t h)(ht:BE t k h):Valid (gC t h k) h∧(gC t h k).ag.length=t.ag.length∧∀x,x∈kZ (gC t h k) h↔x∈kZ t h∧x.1≠k:=by
 obtain⟨ha,hk⟩:=ht;obtain⟨hl,fI⟩:=v.leaf k;have po:=v.fy _ (jw hl);have hq:=agE po fI ha;have hlen:=po.leaf fI;have S:=fun {i:Int} {low high:K} (ok:dO t h i low high)=>RG (t:=t) (q:=kH (t.pg (aH t k h t.root)) (aL (t.pg (aH t k h t.root)) k)) (l:=aH t k h t.root) fI rfl rfl hl fI (fun k hk=>(eraseIdx_sublist _ _).subset hk) ok;obtain⟨s1,s2,s3⟩:=S v.ok;have E:(gC t h k).ag.length=t.ag.length:=oA _ _ _;refine⟨⟨by rw[E];exact v.pos,by rw[E];exact v.nY,?_,s1,?_,?_,fun d hd=>?_⟩,E,fun x=>?_⟩
 ·rw[E];exact IF v.fy hq
 ·show(ids (gC t h k) h t.root).Nodup;unfold gC;rw[s2];exact v.zU
 ·show(ids (gC t h k) h t.root).length=_;rw[E];unfold gC;rw[s2];exact v.all
 ·show eU (gC t h k) (cu (gC t h k) d t.root) (-1);unfold gC;rw[s3 d hd];refine yJ (fun y hy=>?_) (v.pF d hd);have I:=v.ok.ids y (sy h _ d hd y hy);by_cases e:aH t k h t.root=y
  ·rw[←e,Bh hl];rfl
  rw[wi hl.1 I.1 e]
 obtain⟨pre,post,lo,hi,e,h1,h2,h3,h4⟩:=Bg v.fy v.ok (tY k);have hlv:(cu t h t.root).Nodup→aH t k h t.root∉pre∧aH t k h t.root∉post:=fun hn=>by
  rw[e,nodup_append,nodup_cons] at hn;exact⟨fun hm=>hn.2.2 _ hm _ (mem_cons_self) rfl,hn.2.1.1⟩
 have eK:∀y∈pre,eR ((gC t h k).pg y)=eR (t.pg y)∨y=aH t k h t.root:=fun y hy=>by
  by_cases e':aH t k h t.root=y
  ·exact .inr e'.symm
  left;have I:=v.ok.ids y (sy h _ h (Nat.le_refl _) y (by rw[e];exact mem_append_left _ hy));unfold gC;rw[wi hl.1 I.1 e']
 have rQ:∀y∈post,eR ((gC t h k).pg y)=eR (t.pg y)∨y=aH t k h t.root:=fun y hy=>by
  by_cases e':aH t k h t.root=y
  ·exact .inr e'.symm
  left;have I:=v.ok.ids y (sy h _ h (Nat.le_refl _) y (by rw[e];exact mem_append_right _ (mem_cons_of_mem _ hy)));unfold gC;rw[wi hl.1 I.1 e']
 have Z:(k,(t.pg (aH t k h t.root)).kids.getD (aL (t.pg (aH t k h t.root)) k) 0)∈eR (t.pg (aH t k h t.root)):=(A4 hlen).2 ⟨_,ha,by rw[hk,getD_eq_getElem?_getD,getElem?_eq_getElem w4];rfl⟩;have akx:aH t k h t.root∉pre:=fun hm=>absurd (h1 _ hm _ Z) (jK k);have ah5:aH t k h t.root∉post:=fun hm=>absurd (h2 _ hm _ Z) (jK k);have ed:eR ((gC t h k).pg (aH t k h t.root))=(eR (t.pg (aH t k h t.root))).eraseIdx (aL (t.pg (aH t k h t.root)) k):=by
  unfold gC;rw[Bh hl];exact P7
 have fe:∀{A:List Int},(∀y∈A,eR ((gC t h k).pg y)=eR (t.pg y)∨y=aH t k h t.root)→aH t k h t.root∉A→A.flatMap (fun l=>eR ((gC t h k).pg l))=A.flatMap (fun l=>eR (t.pg l)):=fun {A} hA hn=>rh fun y hy=>(hA y hy).resolve_right fun e'=>hn (e' ▸ hy);have O:∀x:K×Int,x∈(eR (t.pg (aH t k h t.root))).eraseIdx (aL (t.pg (aH t k h t.root)) k)↔x∈eR (t.pg (aH t k h t.root))∧x.1≠k:=fun x=>by
  rw[mem_eraseIdx_iff_getElem];constructor
  ·rintro⟨a,YH,hne,rfl⟩;refine⟨getElem_mem _,fun hc=>hne ?_⟩;have U:a<(t.pg (aH t k h t.root)).keys.length:=(by unfold eR at YH;rw[length_zip] at YH;omega)
   rw[EN hlen U] at hc;have hc:(t.pg (aH t k h t.root)).keys[a]=k:=hc;rcases Nat.lt_trichotomy a (aL (t.pg (aH t k h t.root)) k) with h5|h5|h5
   ·have:=nv po.jQ h5 ha;rw[hc,hk] at this;exact absurd this (jK k)
   ·exact h5
   have:=nv po.jQ h5 U;rw[hc,hk] at this;exact absurd this (jK k)
  rintro⟨hx,hne⟩;obtain⟨a,U,rfl⟩:=(A4 hlen).1 hx;refine⟨a,by unfold eR;rw[length_zip];omega,fun e'=>hne ?_,EN hlen U⟩;subst e';exact hk
 show x∈ei (gC t h k) h t.root↔x∈ei t h t.root∧_;rw[wB,wB];have aky:cu (gC t h k) h t.root=cu t h t.root:=s3 h (Nat.le_refl _);rw[aky,e,flatMap_append,flatMap_cons,flatMap_append,flatMap_cons,fe eK akx,fe rQ ah5,ed];simp only[mem_append,O];constructor
 ·rintro(hx|hx|hx)
  ·refine⟨.inl hx,fun hc=>?_⟩;obtain⟨l,mb,hx⟩:=mem_flatMap.1 hx;have:=h1 l mb x hx;rw[hc] at this;exact jK k this
  ·exact⟨.inr (.inl hx.1),hx.2⟩
  refine⟨.inr (.inr hx),fun hc=>?_⟩;obtain⟨l,mb,hx⟩:=mem_flatMap.1 hx;have:=h2 l mb x hx;rw[hc] at this;exact jK k this
 rintro⟨hx|hx|hx,hne⟩
 ·exact .inl hx
 ·exact .inr (.inl ⟨hx,hne⟩)
 exact .inr (.inr hx)

end Go.Proofs.YtdgichenhdikgaaGreatDoor.Tr
namespace Go.Proofs.YtdgichenhdikgaaGreatDoor.Tr
open List
open Go.Proofs.Tryz
open Go.Lib (compareBytes)
def sR(lv:List (List Int))(n:Nat):List (List Int):=lv++replicate (n-lv.length) []
def kL(lv:List (List Int))(level:Nat)(i:Int):List (List Int):=(sR lv (level+1)).set level ((sR lv (level+1)).getD level []++[i])
abbrev ju:=List Int×List (List Int)
def lT(go:Int→K→K→ju→Option (Nat×ju))(low:K)(p:cW):List Int→Nat→Option Nat→ju→Option (Nat×ju)
 | [],_,deep,s=>deep.map fun d=>(d,s)
 | c::cs,k,deep,s=>match go c (iv low p k) (gM p k) s with
  | none=>none
  | some (d,s')=>if deep=none∨deep=some d then lT go low p cs (k+1) (some d) s' else none
def jm(t:aD):Nat→Int→K→K→Nat→ju→Option (Nat×ju)
 | 0,_,_,_,_,_=>none
 | f+1,i,low,high,level,s =>
  if i∈s.1 then none
  else if (t.pg i).high≠high∨(∃k,(t.pg i).keys.head?=some k∧bA k low) then none
  else if (t.pg i).leaf=true then some (level,(s.1++[i],kL s.2 level i))
  else lT (fun c lo hi s=>jm t f c lo hi (level+1) s) low (t.pg i) (t.pg i).kids 0 none (s.1++[i],kL s.2 level i)
def u6(t:aD):Prop:=∀p∈t.ag,eC p t.ag.length
open Classical in
noncomputable def gv(t:aD):Int :=
 if t.ag.length<1∨t.ag.length>4000∨t.root<0∨t.root≥t.ag.length then 11
 else if ¬u6 t then 11
 else match jm t (t.ag.length+1) t.root [] [] 0 ([],[]) with
  | none=>11
  | some (_,s)=>if s.1.length≠t.ag.length then 11 else if ∀l∈s.2,eU t l (-1) then 0 else 11
theorem RH(lv:List (List Int))(n:Nat):(sR lv n).length=max lv.length n:=by unfold sR;rw[length_append,length_replicate];omega
theorem J1(lv:List (List Int))(n m:Nat):(sR lv n).getD m []=lv.getD m []:=by
 unfold sR;rw[getD_eq_getElem?_getD,getD_eq_getElem?_getD];rcases Nat.lt_or_ge m lv.length with h|h
 ·rw[getElem?_append_left h]
 rw[getElem?_append_right h,getElem?_eq_none h,getElem?_replicate];split<;>rfl
theorem Jg(lv:List (List Int))(level:Nat)(i:Int):(kL lv level i).length=max lv.length (level+1):=by unfold kL;rw[length_set,RH]
theorem Fc(lv:List (List Int))(level:Nat)(i:Int)(m:Nat):(kL lv level i).getD m []=lv.getD m []++(if m=level then [i] else []):=by
 unfold kL;rw[getD_eq_getElem?_getD];by_cases e:m=level
 ·subst e;rw[getElem?_set_self (by rw[RH];omega),J1,if_pos rfl];rfl
 rw[getElem?_set_ne (fun h=>e h.symm),if_neg e,append_nil,←getD_eq_getElem?_getD,J1]
def wY(t:aD)(h level:Nat)(i:Int)(m:Nat):List Int:=if level≤m∧m≤level+h then cu t (m-level) i else []
variable {t:aD}
theorem RI {h level:Nat} {low:K} {p:cW} (go:Int→K→K→ju→Option (Nat×ju))
  (O:∀(c:Int) (lo hi:K) (s:ju),dO t h c lo hi→(∀x∈ids t h c,x∉s.1)→(ids t h c).Nodup→∃lv,go c lo hi s=some (level+1+h,(s.1++ids t h c,lv))∧lv.length=max s.2.length (level+1+h+1)∧∀m,lv.getD m []=s.2.getD m []++wY t h (level+1) c m) :
  ∀(cs:List Int) (k:Nat) (deep:Option Nat) (s:ju),(∀j (hj:j<cs.length),dO t h cs[j] (iv low p (k+j)) (gM p (k+j)))→(cs.flatMap (ids t h)).Nodup→(∀x∈cs.flatMap (ids t h),x∉s.1)→(deep=none∨deep=some (level+1+h))→(cs≠[]∨deep≠none) →
   ∃lv,lT go low p cs k deep s=some (level+1+h,(s.1++cs.flatMap (ids t h),lv))∧lv.length=(if cs=[] then s.2.length else max s.2.length (level+1+h+1))∧∀m,lv.getD m []=s.2.getD m []++(if level+1≤m∧m≤level+1+h then cs.flatMap (cu t (m-(level+1))) else [])
 | [],k,deep,s,_,_,_,hd,hne=>by
  rcases hd with rfl|rfl
  ·rcases hne with h|h<;>exact absurd rfl h
  exact⟨s.2,by simp[lT],by simp,fun m=>by split<;>simp⟩
 | c::cs,k,deep,s,aQ,hnd,E,hd,_=>by
  rw[flatMap_cons] at hnd E;rw[nodup_append] at hnd;obtain⟨n1,n2,n3⟩:=hnd;obtain⟨I,e1,l1,m1⟩:=O c (iv low p k) (gM p k) s (aQ 0 bn) (fun x hx=>E x (mem_append_left _ hx)) n1;obtain⟨U,e2,l2,m2⟩:=RI go O cs (k+1) (some (level+1+h)) (s.1++ids t h c,I) (fun j hj=>by
   have:=aQ (j+1) (by simpa using hj);simp only[getElem_cons_succ] at this;rw[show k+1+j=k+(j+1) by omega];exact this) n2 (fun x hx hm=>by
    rcases mem_append.1 hm with hm|hm
    ·exact E x (mem_append_right _ hx) hm
    exact n3 x hm x hx rfl) (.inr rfl) (.inr bn)
  refine⟨U,?_,?_,fun m=>?_⟩
  ·rw[lT,e1];show(if deep=none∨deep=some (level+1+h) then _ else _)=_;rw[if_pos hd,e2,flatMap_cons,append_assoc]
  ·rw[l2];show(if cs=[] then I.length else max I.length _)=_;rw[l1,if_neg (cons_ne_nil c cs)];split<;>omega
  rw[m2,m1];unfold wY;split
  ·rw[flatMap_cons,append_assoc]
  simp
theorem UI(hp:∀p∈t.ag,eC p t.ag.length):∀{h f:Nat} {i:Int} {low high:K} {level:Nat} {s:ju},h<f→dO t h i low high→(∀x∈ids t h i,x∉s.1)→(ids t h i).Nodup →
  ∃lv,jm t f i low high level s=some (level+h,(s.1++ids t h i,lv))∧lv.length=max s.2.length (level+h+1)∧∀m,lv.getD m []=s.2.getD m []++wY t h level i m
 | h,0,_,_,_,_,_,hf,_,_,_=>by omega
 | 0,f+1,i,low,high,level,s,hf,ok,E,hnd=>by
  obtain⟨q1,q2,O,U⟩:=ok;refine⟨kL s.2 level i,?_,Jg _ _ _,fun m=>?_⟩
  ·rw[jm,if_neg (E i (tG 0 i)),if_neg,if_pos q2];rfl;rintro(h|⟨k,hk,aa⟩)
   ·exact h O
   exact U k (mem_of_mem_head? hk) aa
  rw[Fc];unfold wY;congr 1;by_cases e:m=level
  ·subst e;rw[if_pos rfl,if_pos ⟨Nat.le_refl _,Nat.le_refl _⟩,Nat.sub_self];rfl
  rw[if_neg e,if_neg w4]
 | h+1,f+1,i,low,high,level,s,hf,ok,E,hnd=>by
  obtain⟨q1,q2,O,U,Z⟩:=ok;have po:=hp _ (jw q1);have I:(t.pg i).kids≠[]:=fun e=>by have:=(po.node q2).1;rw[e] at this;simp at this
  rw[ids,nodup_cons] at hnd;rw[ids] at E;obtain⟨lv,e,l,mm⟩:=RI (t:=t) (h:=h) (level:=level) (low:=low) (p:=t.pg i) (fun c lo hi s=>jm t f c lo hi (level+1) s)
   (fun c lo hi s ok hd hn=>UI hp (h:=h) (f:=f) (level:=level+1) w4 ok hd hn) (t.pg i).kids 0 none (s.1++[i],kL s.2 level i) (fun j hj=>by rw[Nat.zero_add];exact Z j hj) hnd.2 (fun x hx hm=>by
    rcases mem_append.1 hm with hm|hm
    ·exact E x (mem_cons_of_mem _ hx) hm
    rw[mem_singleton] at hm;subst hm;exact hnd.1 hx) (.inl rfl) (.inl I)
  refine⟨lv,?_,?_,fun m=>?_⟩
  ·rw[jm,if_neg (E i mem_cons_self),if_neg,if_neg (by rw[q2];decide),e,ids]
   ·simp;omega
   rintro(h|⟨k,hk,aa⟩)
   ·exact h O
   exact U k (mem_of_mem_head? hk) aa
  ·rw[l,if_neg I];show max (kL s.2 level i).length _=_;rw[Jg];omega
  rw[mm];show(kL s.2 level i).getD m []++_=_;rw[Fc];unfold wY;rw[append_assoc];congr 1;by_cases e1:m=level
  ·subst e1;rw[if_pos rfl,if_neg w4,if_pos ⟨Nat.le_refl _,by omega⟩,Nat.sub_self];rfl
  rw[if_neg e1,nil_append];by_cases e2:level+1≤m∧m≤level+1+h
  ·rw[if_pos e2,if_pos w4];obtain⟨d,rfl⟩:∃d,m=level+1+d:=⟨m-(level+1),by omega⟩
   rw[show level+1+d-(level+1)=d by omega,show level+1+d-level=d+1 by omega,cu]
  rw[if_neg e2,if_neg w4]
open Classical in
theorem Jh{h:Nat}(v:Valid t h):gv t=0:=by
 have hr:=v.range;have E:=v.pos;have hm:=v.nY;unfold gv;rw[if_neg w4,if_neg (by exact fun hn=>hn v.fy)];obtain⟨lv,e,l,I⟩:=UI v.fy (f:=t.ag.length+1) (level:=0) (s:=([],[])) (by have:=v.high;omega) v.ok (fun x _ hx=>by cases hx) v.zU;rw[e];show(if ([]++ids t h t.root).length≠t.ag.length then _ else if ∀l∈lv,eU t l (-1) then (0:Int) else 11)=0;rw[if_neg (by rw[nil_append,v.all];simp),if_pos];intro x hx;obtain⟨m,tw,rfl⟩:=mem_iff_getElem.1 hx;have:=I m;rw[getD_eq_getElem?_getD,getElem?_eq_getElem tw] at this;have e2:lv[m]=wY t h 0 t.root m:=(by simpa using this)
 rw[e2];unfold wY;rw[l] at tw;rw[if_pos (by simp at tw;omega),Nat.sub_zero];exact v.pF m (by simp at tw;omega)

end Go.Proofs.YtdgichenhdikgaaGreatDoor.Tr
