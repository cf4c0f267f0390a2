/-
  What the proof of GA leans on, part 5: walks of the program's functions at the level of values, and plain facts of what they compute.
-/
import Derived.Test.YtkgmonfgofobaaaGreatDoorPGA4
set_option linter.unusedVariables false
set_option linter.unusedSimpArgs false
set_option maxRecDepth 100000
set_option maxHeartbeats 4000000
namespace Go.Proofs.YtkgmonfgofobaaaGreatDoor.Ex
open List
open Go.Proofs.Tryz
open Go.RowKit V Pk Vl Cd
variable {i:Nat} {a b:Vl} {p:Vl→Prop}
def wr(n:Int):Int:=IntKind.i64.wrap n
theorem aiE(n:Int):-9223372036854775808≤wr n∧wr n≤9223372036854775807:=by unfold wr;rw[IntKind.wrap_i64];omega
def qM(b:Bool):Vl:=if b=true then ⟨1,1,⟨#[]⟩⟩ else ⟨1,0,⟨#[]⟩⟩
def jr(a b:Vl)(i:Nat):Vl:=if i=0 then a else b
theorem Jc(a b:Vl)(h:i<2):(([ae a.k,ae a.n,aZ a.s,ae b.k,ae b.n,aZ b.s]:List D).drop (i*3)).take 3=[ae (jr a b i).k,ae (jr a b i).n,aZ (jr a b i).s]:=by
 match i,h with
 | 0,_|1,_=>rfl
def lH(a b:Vl)(d:Int):Vl×Int :=
 if (a.k≠1∧a.k≠0)∨(b.k≠1∧b.k≠0) then (bw,4) else if a.k=1∧a.n=d then (a,0) else if b.k=1∧b.n=d then (b,0) else if a.k=0∨b.k=0 then (bw,0) else (a,0)
theorem KI(h:∀j,j<i→p (jr a b j))(hi:2≤i):p a∧p b:=⟨h 0 w4,h 1 w4⟩
theorem JE(h:∀j,j<i→p (jr a b j))(h1:p (jr a b i)):∀j,j<i+1→p (jr a b j):=fun j hj=>by
 by_cases e:j=i
 ·subst e;exact h1
 exact h j w4
theorem abQ{d:Int}(hi:i<2)(h1:(jr a b i).k≠1)(h2:(jr a b i).k≠0):lH a b d=(bw,4):=by
 unfold lH;match i,hi with
 | 0,_=>rw[if_pos (.inl ⟨h1,h2⟩)]
 | 1,_=>rw[if_pos (.inr ⟨h1,h2⟩)]
theorem abR{d:Int}(hi:i<2)(hg:¬((a.k≠1∧a.k≠0)∨(b.k≠1∧b.k≠0)))(h0:∀j,j<i→¬((jr a b j).k=1∧(jr a b j).n=d))(h1:(jr a b i).k=1)(h2:(jr a b i).n=d):lH a b d=(jr a b i,0):=by
 unfold lH;rw[if_neg hg];match i,hi with
 | 0,_=>rw[if_pos ⟨h1,h2⟩];rfl
 | 1,_=>rw[if_neg (show ¬(a.k=1∧a.n=d) from h0 0 w4),if_pos (show b.k=1∧b.n=d from⟨h1,h2⟩)];rfl
def oC(k a b:Int):Int×Bool :=
 if k=8 then (wr (a+b),decide (wr (a+b)<a)==decide (b<0)) else if k=9 then (wr (a-b),decide (wr (a-b)>a)==decide (b<0))
 else (wr (a*b),a==0||(wr ((wr (a*b)).tdiv a)==b && !(a == -1&&b == -9223372036854775808)))
def qU(a b:Vl):Bool:=a.k==0||b.k==0
def gY(k:Int)(a b:Vl):Vl×Int :=
 if mU a b≠0 then (bw,mU a b) else if k=3 then lH a b 0 else if k=4 then lH a b 1
 else if k=6∨k=7 then (if qU a b=true then (bw,0) else if a.k≠b.k then (bw,4) else (qM ((fu a b==0&&k==6)||(decide (fu a b<0)&&k==7)),0))
 else if k=8∨k=9∨k=10 then (if (a.k≠2∧a.k≠0)∨(b.k≠2∧b.k≠0) then (bw,4) else if qU a b=true then (bw,0) else if (oC k a.n b.n).2=true then (⟨2,(oC k a.n b.n).1,⟨#[]⟩⟩,0) else (bw,5))
 else (bw,2)
def uz(k:Int)(a:Vl):Vl×Int :=
 if cg a≠0 then (bw,cg a) else if k=11 then (qM (a.k==0),0)
 else if k=5 then (if a.k=0 then (a,0) else if a.k=1 then (qM (a.n==0),0) else (bw,4)) else (bw,2)
def nu(r:Vl×Int):D:=.dD [.agg (cV r.1),ae r.2]
variable {G:List (Nat×List Value)}
theorem BQ(b:Bool):VP Tryz.prog G 121 [bG b] (.agg (cV (qM b))):=by
 refine VC.body func121 rfl ntmps121 aQ fun X0 w0 bf=>?_;refine cf ?_;refine OD.alloc (ds:=[_,_,_]) ap rfl rfl zeroValue33 rfl (fun b2=>?_);refine an 6 [0,2] ?_;refine af [2,3] ?_;refine av ?_ ?_<;>intro aL bB
 ·refine aB 1 ?_;refine aO 0 [_,_,_] sizeOf33 ?_;refine an 6 [2] ?_;refine aM [] ?_;refine⟨?_,rfl⟩;unfold qM;simp_all[cV]
 refine aB 1 ?_;refine aO 0 [_,_,_] sizeOf33 ?_;refine an 6 [2] ?_;refine aM [] ?_;refine⟨?_,rfl⟩;unfold qM;simp_all[cV]
theorem Un(a b:Vl):VP Tryz.prog G 123 [.agg (cV a),.agg (cV b)] (bG (qU a b)):=by
 refine VC.body func123 rfl ntmps123 aQ fun X0 w0 bf=>?_;unfold cV;refine cf ?_;refine OD.box (ds:=[_,_,_]) ap rfl rfl ot rfl rfl (fun b2=>?_);refine OD.box (ds:=[_,_,_]) ap rfl rfl ot rfl rfl (fun b3=>?_);refine an 13 [2,3] ?_;refine aB 4 ?_;refine bY 8 (fun I E=>?_) (fun I E=>?_)
 ·refine bp [4] ?_;refine eZ ?_;refine⟨vb ?_,rfl⟩;unfold qU;simp_all
 refine bp [4] ?_;refine eZ ?_;refine⟨vb ?_,rfl⟩;unfold qU;simp_all
theorem SH(a b:Vl)(d:Int):VP Tryz.prog G 122 [.agg (cV a),.agg (cV b),ae d] (nu (lH a b d)):=by
 refine VC.body func122 rfl ntmps122 aQ fun X0 w0 bf=>?_;unfold nu cV;have pD:=Un (G:=G) a b;unfold cV at pD;refine cf ?_;refine OD.box (ds:=[_,_,_]) ap rfl rfl ot rfl rfl (fun b3=>?_);refine OD.box (ds:=[_,_,_]) ap rfl rfl ot rfl rfl (fun b4=>?_);refine OD.alloc (ds:=[_,_,_]) ap rfl rfl zeroValue33 rfl (fun b6=>?_);refine an 50 [2,3,4,6] ?_;refine cM [2,3,4,6,14,15] ?_;refine aR 2 ?_ (h:=by exact(E0 (pl:=[(0,_),(1,_)]) (ds:=[_,_,_,_,_,_]) rfl zeroValue189 runUnderlying189 sizeOf33 ⟨rfl,ot,rfl,ot,trivial⟩ rfl rfl));refine bH ?_;refine eG [2,3,4,6,14] (fun aS _ (i:Nat) aE=>(i≤2)∧(∀j,j<i→¬((jr a b j).k≠1∧(jr a b j).k≠0))∧aE=(⟨50,(15,ae (i:Nat))::aS,[⟨b6,33,3,[ae 0,ae 0,fj]⟩,⟨b4,33,3,[ae b.k,ae b.n,aZ b.s]⟩,⟨b3,33,3,[ae a.k,ae a.n,aZ a.s]⟩]⟩:St)) (fun (i:Nat)=>2-i) 0 ⟨(Nat.zero_le _),(fun j hj=>absurd hj (Nat.not_lt_zero _)),rfl⟩ ?_;rintro i _ ⟨hi,fw,rfl⟩;refine af [2,3,4,6,14,15,16] ?_;refine av ?_ ?_<;>intro aL bB
 ·have aa:i<2:=(by omega)
  refine cf ?_;refine bV (IM (j:=i) rfl ot ot runUnderlying189 sizeOf33 isAgg33 rfl aa (Jc a b aa)) ?_;refine OD.alloc (ds:=[_,_,_]) ap rfl rfl zeroValue33 rfl (fun b9=>?_);refine aO 0 [_,_,_] sizeOf33 ?_;refine an 50 [2,3,4,6,9,14,15] ?_;refine aB 4 ?_;refine bY 21 (fun qY I=>?_) (fun qY I=>?_)
  ·refine bp [2,3,4,6,14,15,25] ?_;refine av ?_ ?_<;>intro aY cD
   ·have aW:lH a b d=(bw,4):=abQ aa (by simp_all) (by simp_all);refine aB 1 ?_;refine aO 1 [_,_,_] sizeOf33 ?_;refine an 50 [6,7] ?_;exact oO
   exact Yk
  refine bp [2,3,4,6,14,15,25] ?_;refine gq ?_;exact Yk
 have U:=KI (p:=fun v=>¬(v.k≠1∧v.k≠0)) fw w4;have hg:¬((a.k≠1∧a.k≠0)∨(b.k≠1∧b.k≠0)):=fun h=>h.elim U.1 U.2;clear fw hi;refine cM [2,3,4,6,30,31] ?_;refine aR 2 ?_ (h:=by exact(E0 (pl:=[(0,_),(1,_)]) (ds:=[_,_,_,_,_,_]) rfl zeroValue189 runUnderlying189 sizeOf33 ⟨rfl,ot,rfl,ot,trivial⟩ rfl rfl));refine bH ?_;refine eG [2,3,4,6,30] (fun aS _ (i:Nat) aE=>(i≤2)∧(∀j,j<i→¬((jr a b j).k=1∧(jr a b j).n=d))∧aE=(⟨50,(31,ae (i:Nat))::aS,[⟨b6,33,3,[ae 0,ae 0,fj]⟩,⟨b4,33,3,[ae b.k,ae b.n,aZ b.s]⟩,⟨b3,33,3,[ae a.k,ae a.n,aZ a.s]⟩]⟩:St)) (fun (i:Nat)=>2-i) 0 ⟨(Nat.zero_le _),(fun j hj=>absurd hj (Nat.not_lt_zero _)),rfl⟩ ?_;rintro i _ ⟨lQ,LS,rfl⟩;refine af [2,3,4,6,30,31,32] ?_;refine av ?_ ?_<;>intro cm cR
 ·have aa:i<2:=(by omega)
  refine cf ?_;refine bV (IM (j:=i) rfl ot ot runUnderlying189 sizeOf33 isAgg33 rfl aa (Jc a b aa)) ?_;refine OD.alloc (ds:=[_,_,_]) ap rfl rfl zeroValue33 rfl (fun lE=>?_);refine aO 0 [_,_,_] sizeOf33 ?_;refine an 50 [2,3,4,6,11,30,31] ?_;refine aB 4 ?_;refine bY 37 (fun Z O=>?_) (fun Z O=>?_)
  ·refine bp [2,3,4,6,11,30,31,42] ?_;refine av ?_ ?_<;>intro da eA
   ·have aW:lH a b d=(jr a b i,0):=abR aa hg LS (by simp_all) (by simp_all);refine aB 1 ?_;refine aO 1 [_,_,_] sizeOf33 ?_;refine an 50 [6,7] ?_;exact oO
   exact Ym
  refine bp [2,3,4,6,11,30,31,42] ?_;refine gq ?_;exact Ym
 have E:=KI (p:=fun v=>¬(v.k=1∧v.n=d)) LS w4;refine cL [3,6,47] (pD) ?_;refine av ?_ ?_<;>intro dR fH
 ·have aW:lH a b d=(bw,0):=(by unfold lH;rw[if_neg hg,if_neg E.1,if_neg E.2,if_pos (by unfold qU at dR;simpa using dR)])
  refine aB 1 ?_;refine aO 0 [_,_,_] sizeOf33 ?_;refine an 50 [6,7] ?_;exact oO
 have aW:lH a b d=(a,0):=(by unfold lH;rw[if_neg hg,if_neg E.1,if_neg E.2,if_neg (by unfold qU at dR;simpa using dR)])
 refine aB 1 ?_;refine aO 0 [_,_,_] sizeOf33 ?_;refine an 50 [6,7] ?_;exact uR
theorem adK(k a b:Int):VP Tryz.prog G 124 [ae k,ae a,ae b] (.dD [ae (oC k a b).1,bG (oC k a b).2]):=by
 refine VC.body func124 rfl ntmps124 aQ fun X0 w0 bf=>?_;refine af [0,1,2] ?_;refine af [1,2,11] ?_;refine af [1,2,11,12] ?_;refine av ?_ ?_<;>intro aL bB
 ·refine cM [1,2,8] ?_;refine aR 2 ?_ (h:=by exact(dA (r:=.int .i64 (wr (a+b))) rfl ot ot (kr rfl)));exact z91
 refine af [1,2,24] ?_;refine av ?_ ?_<;>intro aY cD
 ·refine cM [1,2,9] ?_;refine aR 2 ?_ (h:=by exact(dA (r:=.int .i64 (wr (a-b))) rfl ot ot (iy rfl)));exact z91
 refine cM [1,2,10] ?_;refine aR 2 ?_ (h:=by exact(dA (r:=.int .i64 (wr (a*b))) rfl ot ot (Ku rfl)));refine bH ?_;refine aB 4 ?_;refine bY 42 (fun rO E=>?_) (fun rO E=>?_)
 ·refine bp [6,7] ?_;refine N3 ?_;refine⟨?_,rfl⟩;unfold oC;simp_all
 refine aH 2 ?_;refine OD.still iJ rfl (dA (r:=.int .i64 (wr ((wr (a*b)).tdiv a))) rfl ot ot (ae7 (by simpa using rO) rfl)) ?_;refine aH 3 ?_;refine bY 48 (fun U I=>?_) (fun U I=>?_)
 ·refine aH 3 ?_;refine bY 51 (fun Z O=>?_) (fun Z O=>?_)
  ·refine an 58 [6,7] ?_;refine aM [] ?_;refine⟨?_,rfl⟩;unfold oC;simp_all
  refine an 58 [6,7] ?_;refine aM [] ?_;refine⟨?_,rfl⟩;unfold oC;simp_all
 refine an 58 [6,7] ?_;refine aM [] ?_;refine⟨?_,rfl⟩;unfold oC;simp_all
theorem ahi(k:Int)(a:Vl):VP Tryz.prog G 76 [ae k,.agg (cV a)] (nu (uz k a)):=by
 refine VC.body func76 rfl ntmps76 aQ fun X0 w0 bf=>?_;unfold nu;have fC:=Vl.pS (G:=G) a;unfold cV at fC;unfold cV;refine cf ?_;refine OD.box (ds:=[_,_,_]) ap rfl rfl ot rfl rfl (fun b3=>?_);refine OD.alloc (ds:=[_,_,_]) ap rfl rfl zeroValue33 rfl (fun E=>?_);refine an 35 [0,3,4] ?_;refine cL [0,3,4,6] (fC) ?_;refine af [0,3,4,6,10] ?_;refine av ?_ ?_<;>intro aL bB
 ·refine aB 2 ?_;exact DE
 refine af [3,4,13] ?_;refine af [3,4,13,14] ?_;refine av ?_ ?_<;>intro aY cD
 ·refine aB 3 ?_;refine ec call121 (BQ _) ?_;exact DE
 refine af [3,4,20] ?_;refine av ?_ ?_<;>intro cm cR
 ·refine af [3,4,23] ?_;refine af [3,4,23,24] ?_;refine av ?_ ?_<;>intro da eA
  ·refine aB 1 ?_;exact DE
  refine af [3,4,27] ?_;refine av ?_ ?_<;>intro dR fH
  ·refine aB 3 ?_;refine ec call121 (BQ _) ?_;exact DE
  refine aB 1 ?_;exact DE
 refine aB 1 ?_;refine aO 0 [_,_,_] sizeOf33 ?_;refine an 35 [4,5] ?_;refine aM [] ?_;refine⟨?_,rfl⟩;unfold uz;simp_all[bw]
theorem afE{k:Int}(h0:mU a b=0)(hk:k=8∨k=9∨k=10)(hi:i<2)(h1:(jr a b i).k≠2)(h2:(jr a b i).k≠0):gY k a b=(bw,4):=by
 unfold gY;rw[if_neg (by simp[h0]),if_neg w4,if_neg w4,if_neg w4,if_pos hk];match i,hi with
 | 0,_=>rw[if_pos (.inl ⟨h1,h2⟩)]
 | 1,_=>rw[if_pos (.inr ⟨h1,h2⟩)]
theorem Jd{k:Int}(h0:mU a b=0)(hk:k=8∨k=9∨k=10)(hg:¬((a.k≠2∧a.k≠0)∨(b.k≠2∧b.k≠0))) :
  gY k a b=if qU a b=true then (bw,0) else if (oC k a.n b.n).2=true then (⟨2,(oC k a.n b.n).1,⟨#[]⟩⟩,0) else (bw,5):=by
 unfold gY;rw[if_neg (by simp[h0]),if_neg w4,if_neg w4,if_neg w4,if_pos hk,if_neg hg]
theorem ahj(k:Int)(a b:Vl)(oa:a.Ok)(ob:b.Ok):VP Tryz.prog G 77 [ae k,.agg (cV a),.agg (cV b)] (nu (gY k a b)):=by
 refine VC.body func77 rfl ntmps77 aQ fun X0 w0 bf=>?_;unfold nu;have q9:=Cd.Ua (G:=G) a b;have pD:=Un (G:=G) a b;have oN:=SH (G:=G) a b 0;have lN:=SH (G:=G) a b 1;have fC:=Cd.Qn (G:=G) a b oa ob;have HN:=adK (G:=G) k a.n b.n;unfold nu at oN lN;unfold cV at q9 pD oN lN fC;unfold cV;refine cf ?_;refine OD.box (ds:=[_,_,_]) ap rfl rfl ot rfl rfl (fun b4=>?_);refine OD.box (ds:=[_,_,_]) ap rfl rfl ot rfl rfl (fun b5=>?_);refine OD.alloc (ds:=[_,_,_]) ap rfl rfl zeroValue33 rfl (fun b6=>?_);refine an 106 [0,4,5,6] ?_;refine cL [0,4,5,6,8] (q9) ?_;refine af [0,4,5,6,8,18] ?_;refine av ?_ ?_<;>intro aL bB
 ·have E:mU a b≠0:=(by simpa using aL)
  have aW:gY k a b=(bw,mU a b):=(by unfold gY;rw[if_pos E])
  refine aB 2 ?_;exact z8
 have E:mU a b=0:=(by simpa using aL)
 refine af [0,4,5,6,21] ?_;refine af [0,4,5,6,21,22] ?_;refine av ?_ ?_<;>intro aY cD
 ·have aW:gY k a b=lH a b 0:=(by unfold gY;rw[if_neg (by simp[E]),if_pos w4])
  refine aB 2 ?_;refine ec call122 (oN) ?_;refine aH 2 ?_;exact z8
 refine af [0,4,5,6,21,29] ?_;refine av ?_ ?_<;>intro cm cR
 ·have aW:gY k a b=lH a b 1:=(by unfold gY;rw[if_neg (by simp[E]),if_neg w4,if_pos w4])
  refine aB 2 ?_;refine ec call122 (lN) ?_;refine aH 2 ?_;exact z8
 refine iL [0,4,5,6,21] (fun aS kV aE=>∃(q:Bool),(q=true↔k=6∨k=7)∧aE=(⟨106,(36,bG q)::aS,kV⟩:St)) ?_ ?_
 ·refine af [0,4,5,6,21,36] ?_;refine av ?_ ?_<;>intro da eA
  ·refine CD.skip ?_;exact z109
  refine cc [0,4,5,6,21,36] ?_;exact z109
 rintro _ ⟨q,hq,rfl⟩;refine av ?_ ?_<;>intro dR fH
 ·have aq9:=hq.1 dR;refine cL [0,4,5,6,41] (pD) ?_;refine av ?_ ?_<;>intro fM gW
  ·have aW:gY k a b=(bw,0):=(by unfold gY;rw[if_neg (by simp[E]),if_neg w4,if_neg w4,if_pos w4,if_pos fM])
   refine aB 1 ?_;exact z8
  refine af [0,4,5,6,47] ?_;refine av ?_ ?_<;>intro jb px
  ·have aW:gY k a b=(bw,4):=(by unfold gY;rw[if_neg (by simp[E]),if_neg w4,if_neg w4,if_pos w4,if_neg (by rw[fM];simp),if_pos (by simpa using jb)])
   refine aB 1 ?_;exact z8
  have aW:gY k a b=(qM ((fu a b==0&&k==6)||(decide (fu a b<0)&&k==7)),0):=(by unfold gY;rw[if_neg (by simp[E]),if_neg w4,if_neg w4,if_pos w4,if_neg (by rw[fM];simp),if_neg (by simpa using jb)])
  refine cL [0,6,9] (fC) ?_;refine aB 3 ?_;refine bY 54 (fun AE zX=>?_) (fun AE zX=>?_)
  ·refine aH 4 ?_;refine bY 58 (fun akY aiF=>?_) (fun akY aiF=>?_)
   ·refine yG 3 ?_;exact z131
   refine aH 3 ?_;refine bY 61 (fun O I=>?_) (fun O I=>?_)
   ·exact z131
   exact z131
  refine aH 7 ?_;refine bY 61 (fun O I=>?_) (fun O I=>?_)
  ·exact z131
  exact z131
 have ara:¬(k=6∨k=7):=fun h=>by rw[hq.2 h] at dR;cases dR
 refine iL [0,4,5,6] (fun aS kV aE=>∃(q:Bool),(q=true↔k=8∨k=9∨k=10)∧aE=(⟨106,(67,bG q)::aS,kV⟩:St)) ?_ ?_
 ·refine af [0,4,5,6,21,67] ?_;refine av ?_ ?_<;>intro iS mY
  ·refine CD.skip ?_;exact z109
  refine af [0,4,5,6,21,67] ?_;refine av ?_ ?_<;>intro qo Ay
  ·refine CD.skip ?_;exact z109
  refine cc [0,4,5,6,67] ?_;exact z109
 rintro _ ⟨q,Ze,rfl⟩;refine av ?_ ?_<;>intro uZ C4
 ·have If:=Ze.1 uZ;refine cM [0,4,5,6,73,74] ?_;refine aR 2 ?_ (h:=by exact(E0 (pl:=[(0,_),(1,_)]) (ds:=[_,_,_,_,_,_]) rfl zeroValue189 runUnderlying189 sizeOf33 ⟨rfl,ot,rfl,ot,trivial⟩ rfl rfl));refine bH ?_;refine eG [0,4,5,6,73] (fun aS _ (i:Nat) aE=>(i≤2)∧(∀j,j<i→¬((jr a b j).k≠2∧(jr a b j).k≠0))∧aE=(⟨106,(74,ae (i:Nat))::aS,[⟨b6,33,3,[ae 0,ae 0,fj]⟩,⟨b5,33,3,[ae b.k,ae b.n,aZ b.s]⟩,⟨b4,33,3,[ae a.k,ae a.n,aZ a.s]⟩]⟩:St)) (fun (i:Nat)=>2-i) 0 ⟨(Nat.zero_le _),(fun j hj=>absurd hj (Nat.not_lt_zero _)),rfl⟩ ?_;rintro i _ ⟨hi,fw,rfl⟩;have If:k=8∨k=9∨k=10:=(by omega)
  refine af [0,4,5,6,73,74,75] ?_;refine av ?_ ?_<;>intro Hh GM
  ·have aa:i<2:=(by omega)
   refine cf ?_;refine bV (IM (j:=i) rfl ot ot runUnderlying189 sizeOf33 isAgg33 rfl aa (Jc a b aa)) ?_;refine OD.alloc (ds:=[_,_,_]) ap rfl rfl zeroValue33 rfl (fun lE=>?_);refine aO 0 [_,_,_] sizeOf33 ?_;refine an 106 [0,4,5,6,11,73,74] ?_;refine aB 4 ?_;refine bY 80 (fun MX GN=>?_) (fun MX GN=>?_)
   ·refine bp [0,4,5,6,73,74,84] ?_;refine av ?_ ?_<;>intro vO Gx
    ·have aW:gY k a b=(bw,4):=afE E If aa (by simp_all) (by simp_all);refine aB 1 ?_;refine aO 1 [_,_,_] sizeOf33 ?_;refine an 106 [6,7] ?_;refine aM [] ?_;rw[aW];first|exact⟨rfl,rfl⟩|(refine⟨?_,rfl⟩;clear aW fC HN oN lN q9 pD;generalize (fu a b==0)=z1 at *;generalize (decide (fu a b<0))=z2 at *;subst_vars;simp_all;done)
    exact Yj
   refine bp [0,4,5,6,73,74,84] ?_;refine gq ?_;exact Yj
  have Zf:=KI (p:=fun v=>¬(v.k≠2∧v.k≠0)) fw w4;have OS:=Jd E If (fun h=>h.elim Zf.1 Zf.2);refine cL [0,4,5,6,89] (pD) ?_;refine av ?_ ?_<;>intro U aiG
  ·have aW:gY k a b=(bw,0):=(by rw[OS,if_pos U])
   refine aB 1 ?_;exact z8
  refine cL [6,12,13] (HN) ?_;refine af [6,12,101] ?_;refine av ?_ ?_<;>intro Z aiH
  ·have aW:gY k a b=(bw,5):=(by rw[OS,if_neg (by rw[U];simp),if_neg (by simpa using Z)])
   refine aB 1 ?_;exact z8
  have aW:gY k a b=(⟨2,(oC k a.n b.n).1,⟨#[]⟩⟩,0):=(by rw[OS,if_neg (by rw[U];simp),if_pos (by simpa using Z)])
  refine aB 2 ?_;exact z8
 have hn8:¬(k=8∨k=9∨k=10):=fun h=>by rw[Ze.2 h] at uZ;cases uZ
 have aW:gY k a b=(bw,2):=(by unfold gY;rw[if_neg (by simp[E]),if_neg w4,if_neg w4,if_neg w4,if_neg w4])
 refine aB 1 ?_;refine aO 0 [_,_,_] sizeOf33 ?_;refine an 106 [6,7] ?_;refine aM [] ?_;rw[aW];first|exact⟨rfl,rfl⟩|(refine⟨?_,rfl⟩;clear aW fC HN oN lN q9 pD;generalize (fu a b==0)=z1 at *;generalize (decide (fu a b<0))=z2 at *;subst_vars;simp_all;done)

end Go.Proofs.YtkgmonfgofobaaaGreatDoor.Ex
namespace Go.Proofs.YtkgmonfgofobaaaGreatDoor.Ex
open List
open Go.Proofs.Tryz
open Go.RowKit V Pk Vl Go.Proofs.YtkgmonfgofobaaaGreatDoor.Nm Pc
variable {a b:Vl} {l:List cH} {row:List Vl} {ops:List aK}
def fY(l:List cH)(row:List Vl)(o:aK)(a b:Vl):Vl×Int :=
 if bS o.k=1 then uz o.k a else if bS o.k=2 then gY o.k a b else if o.k=2 then (row.getD (bC l o.nm).toNat bw,0) else (o.v,0)
def qV(l:List cH)(row:List Vl)(ops:List aK):Vl×Int:=iZ bw (fY l row) ops []
def dG(l:List cH)(row:List Vl)(ops:List aK):Vl×Int :=
 if dQ l row≠0 then (bw,dQ l row) else if (dU l ops).2≠0 then (bw,(dU l ops).2) else qV l row ops
theorem uv:bw.Ok:=⟨by decide,by decide,by decide,by decide,Nat.zero_le _⟩
theorem SI(b:Bool):(qM b).Ok:=by unfold qM;split<;>exact⟨by decide,by decide,by decide,by decide,Nat.zero_le _⟩
theorem ok_int{n:Int}(h:-9223372036854775808≤n∧n≤9223372036854775807):(⟨2,n,⟨#[]⟩⟩:Vl).Ok:=⟨by show -9223372036854775808≤(2:Int);decide,by show(2:Int)≤_;decide,h.1,h.2,Nat.zero_le _⟩
theorem adL{d:Int}(oa:a.Ok)(ob:b.Ok):(lH a b d).1.Ok:=by
 unfold lH;repeat' split
 all_goals first|exact uv|exact oa|exact ob
theorem ok_two{k:Int}(oa:a.Ok)(ob:b.Ok):(gY k a b).1.Ok:=by
 unfold gY;repeat' split
 all_goals first|exact uv|exact adL oa ob|exact SI _|skip
 unfold oC;repeat' split
 all_goals exact ok_int (aiE _)
theorem ok_one{k:Int}(oa:a.Ok):(uz k a).1.Ok:=by
 unfold uz;repeat' split
 all_goals first|exact uv|exact oa|exact SI _
theorem Uo(hr:∀v∈row,v.Ok){o:aK}(ho:o.v.Ok)(oa:a.Ok)(ob:b.Ok):(fY l row o a b).1.Ok:=by
 unfold fY;split
 ·exact ok_one oa
 split
 ·exact ok_two oa ob
 split
 ·show(row.getD _ bw).Ok;rw[getD_eq_getElem?_getD];cases h:row[(bC l o.nm).toNat]? with
  | none=>exact uv
  | some v=>exact hr v (mem_of_getElem? h)
 exact ho
theorem KJ{st:List Vl}(h:∀v∈st,v.Ok)(j:Nat):(st.getD j bw).Ok:=by
 rw[getD_eq_getElem?_getD];cases hj:st[j]? with
 | none=>exact uv
 | some v=>exact h v (mem_of_getElem? hj)
theorem KK{st:List Vl}(h:∀v∈st,v.Ok)(k:Int):(fx bw k st).Ok:=by unfold fx;split;exact KJ h _;exact uv
theorem KL{st:List Vl}(h:∀v∈st,v.Ok)(k:Int):(fy bw k st).Ok:=by unfold fy;split;exact KJ h _;exact uv
theorem Q1{α:Type}{z:α}{f:aK→α→α→α × Int}:∀{l:List aK} {st:List α},(iZ z f l st).2=0→∀o∈l,∃a b,(f o a b).2=0
 | [],_,_,o,ho=>by cases ho
 | x::r,st,h,o,ho=>by
  rw[iZ] at h;split at h
  ·rename_i hne;exact absurd h hne
  rename_i he;rcases mem_cons.1 ho with rfl|ho
  ·exact⟨_,_,Classical.not_not.1 he⟩
  exact Q1 h o ho
theorem Q2(h:(uu l ops).2=0):∀o∈ops,o.k=2→0≤bC l o.nm:=fun o ho hk=>by
 obtain⟨a,b,he⟩:=Q1 h o ho;unfold jw at he;rw[if_neg w4,if_pos hk] at he;unfold vz at he;split at he
 ·cases he
 omega
theorem Ky(h:dQ l row=0):row.length=l.length:=by
 unfold dQ at h;split at h
 ·rename_i h1;exact absurd h h1
 split at h
 ·cases h
 omega
theorem F0(h:(dU l ops).2=0):fW l=0∧gN ops=0∧dU l ops=uu l ops:=by
 unfold dU at h ⊢;split at h
 ·rename_i h1;exact absurd h h1
 rename_i h1;split at h
 ·rename_i h2;exact absurd h h2
 rename_i h2;exact⟨Classical.not_not.1 h1,Classical.not_not.1 h2,by rw[if_neg h1,if_neg h2]⟩
variable {G:List (Nat×List Value)}
theorem abS(l:List cH)(hl:l.length≤6)(row:List Vl)(oT:row.length=l.length)(o:aK)(I:o.k=2→0≤bC l o.nm)(a b a' b':Vl)(ha:a=a')(hb:b=b')(oa:a.Ok)(ob:b.Ok)(br bc:Nat):VC Tryz.prog G 74 [.agg (cO o),.agg (cV a'),.agg (cV b'),cZ br,cZ bc] [⟨br,43,1,[au 3 cV row]⟩,⟨bc,29,1,[au 2 cC l]⟩] (fun r S=>r=nu (fY l row o a b)∧S=[⟨br,43,1,[au 3 cV row]⟩,⟨bc,29,1,[au 2 cC l]⟩]):=by
 refine VC.body func74 rfl ntmps74 aQ fun X0 w0 bf=>?_;subst ha hb;have nj:=ahi (G:=G) o.k a;have E:=ahj (G:=G) o.k a b oa ob;unfold nu at nj E ⊢;unfold cV at nj E;unfold cO cV;have U:=xo (fun c:cH=>c.n.toList==o.nm.toList) l;have O:bC l o.nm=dP (fun c:cH=>c.n.toList==o.nm.toList) l:=rfl;rw[←O] at U;clear O;refine cf ?_;refine OD.box (ds:=[_,_,_,_,_]) ap rfl rfl ot rfl rfl (fun b5=>?_);refine OD.box (ds:=[_,_,_]) ap rfl rfl ot rfl rfl (fun b6=>?_);refine OD.box (ds:=[_,_,_]) ap rfl rfl ot rfl rfl (fun b7=>?_);refine OD.alloc (ds:=[_,_,_]) ap rfl rfl zeroValue33 rfl (fun b8=>?_);refine an 42 [3,4,5,6,7,8] ?_;refine cL [3,4,5,6,7,8,12] (FD o.k) ?_;refine af [3,4,5,6,7,8,12,13] ?_;refine av ?_ ?_<;>intro aL bB
 ·have aW:fY l row o a b=uz o.k a:=(by unfold fY;rw[if_pos w4])
  refine aB 3 ?_;refine ec call76 (nj) ?_;refine aH 2 ?_;exact z72
 refine af [3,4,5,6,7,8,21] ?_;refine av ?_ ?_<;>intro aY cD
 ·have aW:fY l row o a b=gY o.k a b:=(by unfold fY;rw[if_neg w4,if_pos w4])
  refine aB 4 ?_;refine ec call77 (E) ?_;refine aH 2 ?_;exact z72
 refine af [3,4,5,8,32] ?_;refine av ?_ ?_<;>intro cm cR
 ·have fF:o.k=2:=(by omega)
  have aL:=I fF;have Z:(bC l o.nm).toNat<row.length:=(by omega)
  have aW:fY l row o a b=(row[(bC l o.nm).toNat],0):=(by unfold fY;rw[if_neg w4,if_neg w4,if_pos fF,getD_eq_getElem?_getD,getElem?_eq_getElem Z];rfl)
  refine CD.seq ?_;refine mE 7 [8,39] ?_;refine cN (qK l hl o.nm) ?_;refine bH ?_;exact z72
 have aW:fY l row o a b=(o.v,0):=(by unfold fY;rw[if_neg w4,if_neg w4,if_neg w4])
 refine aB 2 ?_;refine aO 0 [_,_,_] sizeOf33 ?_;refine an 42 [8,9] ?_;exact z117
theorem aaQ:(Tryz.prog.info? 33).map (fun i=>(i.zero,i.size,i.bytes))=some (some (.agg #[.int .i64 0,.int .i64 0,.string ⟨#[]⟩]),3,32):=by kernel_rfl
theorem adM(l:List cH)(hl:l.length≤6)(row:List Vl)(oT:row.length=l.length)(MY:∀v∈row,v.Ok)(ops:List aK)(gd:∀o∈ops,o.v.Ok)(akZ:∀o∈ops,o.k=2→0≤bC l o.nm)(qw:ops.length≤40)(hx:fX 0 ops=0)(br bc:Nat):VC Tryz.prog G 73 [au 5 cO ops,.eH (.func 74) [cZ br,cZ bc]] [⟨br,43,1,[au 3 cV row]⟩,⟨bc,29,1,[au 2 cC l]⟩] (fun r S=>r=nu (qV l row ops)∧S=[⟨br,43,1,[au 3 cV row]⟩,⟨bc,29,1,[au 2 cC l]⟩]):=by
 refine VC.body func73 rfl ntmps73 aQ fun X0 w0 bf=>?_;unfold nu;refine cf ?_;refine OD.alloc (ds:=[_,_,_]) ap rfl rfl zeroValue33 rfl (fun b4=>?_);refine an 64 [0,1,4] ?_;refine cf ?_;refine OD.alloc (ds:=[_,_,_]) ap rfl rfl zeroValue33 rfl (fun b6=>?_);refine OD.perm (JG (k:=2) (k':=2) rfl rfl) ?_;refine an 64 [0,1,4,6] ?_;refine cf ?_;refine bp [0,1,4,6,7] ?_;refine af [1,4,6,7,16,17,18] ?_;refine CD.block ?_;refine nq (fun (jO:Nat×List Vl×Option Addr×Nat×List ah) aE=>match jO with|(i,st,I,E,Sh)=>(i≤ops.length)∧(st.length≤i)∧(fX ((st.length:Nat):Int) (ops.drop i)=0)∧(qV l row ops=iZ bw (fY l row) (ops.drop i) st)∧(∀v∈st,v.Ok)∧(bn 33 3 ((st).flatMap cV) (st).length I E Sh)∧aE=(⟨64,[(1,.eH (.func 74) [cZ br,cZ bc]),(4,cZ b4),(6,cZ b6),(7,aP I (st).length E),(16,au 5 cO ops),(17,ae (ops.length:Nat)),(18,ae (i:Nat))],(⟨br,43,1,[au 3 cV row]⟩::⟨bc,29,1,[au 2 cC l]⟩::⟨b6,33,3,[ae 0,ae 0,fj]⟩::⟨b4,33,3,[ae 0,ae 0,fj]⟩::Sh)⟩:St)) (fun (jO:Nat×List Vl×Option Addr×Nat×List ah)=>match jO with|(i,st,I,E,Sh)=>ops.length-i) (0,[],none,0,[]) ⟨(Nat.zero_le _),(Nat.zero_le _),hx,rfl,(fun v hv=>by cases hv),(bn.cast iW lu),rfl⟩ (aJ (h:=by repeat (first|exact trivial|refine⟨Hz,?_⟩))) ?_;rintro⟨i,st,I,E,Sh⟩ _ ⟨hi,fS,hex,hinv,aT,U,rfl⟩;refine af [1,4,6,7,16,17,18,19] ?_;refine av ?_ ?_<;>intro aL bB
 ·have aa:i<ops.length:=(by omega)
  obtain⟨he,yQ⟩:=Q0 aa hex;obtain⟨rY,WW,yR,Bg⟩:=wX he;have uX:=uh ops[i].k;have pL:(st.take (st.length-(bS ops[i].k).toNat)++[(fY l row ops[i] (fx bw ops[i].k st) (fy bw ops[i].k st)).1]).length=st.length+1-(bS ops[i].k).toNat:=(by rw[length_append,length_take,length_singleton];omega)
  have oe:fX (((st.take (st.length-(bS ops[i].k).toNat)++[(fY l row ops[i] (fx bw ops[i].k st) (fy bw ops[i].k st)).1]).length:Nat):Int) (ops.drop (i+1))=0:=(by rw[pL,show(((st.length+1-(bS ops[i].k).toNat:Nat)):Int)=(st.length:Int)+(1-bS ops[i].k) by omega];exact yQ)
  have ak0:∀v∈st.take (st.length-(bS ops[i].k).toNat)++[(fY l row ops[i] (fx bw ops[i].k st) (fy bw ops[i].k st)).1],v.Ok:=fun v hv=>by rcases mem_append.1 hv with hv|hv;exact aT v (mem_of_mem_take hv);rw[mem_singleton] at hv;rw[hv];exact Uo MY (gd _ (getElem_mem aa)) (KK aT _) (KL aT _)
  refine aB 2 ?_;refine OD.alloc (ds:=[_,_,_,_,_]) ap rfl rfl zeroValue35 rfl (fun b9=>?_);refine aO 0 [_,_,_,_,_] sizeOf35 ?_;refine an 64 [1,4,6,7,9,16,17,18] ?_;refine cf ?_;refine OD.alloc (ds:=[_,_,_]) ap rfl rfl zeroValue33 rfl (fun kf=>?_);refine OD.alloc (ds:=[_,_,_]) ap rfl rfl zeroValue33 rfl (fun lE=>?_);refine an 64 [1,4,6,7,9,10,11,16,17,18] ?_;refine cL [1,4,6,7,9,10,11,12,16,17,18] (FD ops[i].k) ?_;refine af [1,4,6,7,9,10,11,12,13,16,17,18] ?_;refine iL [1,4,6,9,10,11,12,13,16,17,18] (fun aS _ aE=>∃(va:Vl),∃(I:Option Addr),∃(E:Nat),∃(Sh:List ah),(fx bw ops[i].k st=va)∧(bn 33 3 (st.flatMap cV) st.length I E Sh)∧aE=(⟨64,(7,aP I st.length E)::aS,(⟨lE,33,3,[ae 0,ae 0,fj]⟩::⟨kf,33,3,[ae va.k,ae va.n,aZ va.s]⟩::⟨b9,35,5,[ae ops[i].k,ae ops[i].v.k,ae ops[i].v.n,aZ ops[i].v.s,aZ ops[i].nm]⟩::⟨br,43,1,[au 3 cV row]⟩::⟨bc,29,1,[au 2 cC l]⟩::⟨b6,33,3,[ae 0,ae 0,fj]⟩::⟨b4,33,3,[ae 0,ae 0,fj]⟩::Sh)⟩:St)) ?_ ?_
  ·refine af [1,4,6,7,9,10,11,12,13,16,17,18,30] ?_;refine av ?_ ?_<;>intro aY cD
   ·obtain⟨bh,rfl,Z,O,rfl⟩:=U.pos w4;have u0:(st.length-(bS ops[i].k).toNat)<st.length:=(by omega)
    have ha:fx bw ops[i].k st=st[(st.length-(bS ops[i].k).toNat)]:=(by unfold fx;rw[if_pos w4,getD_eq_getElem?_getD,getElem?_eq_getElem u0];rfl)
    refine dY 2 ?_;refine bV (dO 3 (h:=by first|exact .l (j:=(st.length-(bS ops[i].k).toNat)) w4 w4|exact .r (j:=(st.length-(bS ops[i].k).toNat)) w4 w4)) ?_;refine bV (cW (mk:=Op.load 33) rfl ot (dL (k:=7) fq rfl rfl rfl isAgg33 sizeOf33 u0)) ?_;refine aO 1 [_,_,_] sizeOf33 ?_;refine an 64 [1,4,6,7,9,10,11,12,13,16,17,18] ?_;refine⟨_,aJ,(st[(st.length-(bS ops[i].k).toNat)]),(some ⟨bh,0,none⟩),E,[⟨bh,33,E*3,flatMap cV st⟩],ha,(bQ (g:=cV) (ls:=st) Z O),rfl⟩
   have ha:fx bw ops[i].k st=bw:=(by unfold fx;rw[if_neg w4])
   refine CD.skip ?_;refine⟨_,aJ,bw,I,E,Sh,ha,U,rfl⟩
  rintro _ ⟨va,I,E,Sh,ha,U,rfl⟩;refine iL [1,4,6,9,10,11,13,16,17,18] (fun aS _ aE=>∃(vb:Vl),∃(I:Option Addr),∃(E:Nat),∃(Sh:List ah),(fy bw ops[i].k st=vb)∧(bn 33 3 (st.flatMap cV) st.length I E Sh)∧aE=(⟨64,(7,aP I st.length E)::aS,(⟨lE,33,3,[ae vb.k,ae vb.n,aZ vb.s]⟩::⟨kf,33,3,[ae va.k,ae va.n,aZ va.s]⟩::⟨b9,35,5,[ae ops[i].k,ae ops[i].v.k,ae ops[i].v.n,aZ ops[i].v.s,aZ ops[i].nm]⟩::⟨br,43,1,[au 3 cV row]⟩::⟨bc,29,1,[au 2 cC l]⟩::⟨b6,33,3,[ae 0,ae 0,fj]⟩::⟨b4,33,3,[ae 0,ae 0,fj]⟩::Sh)⟩:St)) ?_ ?_
  ·refine af [1,4,6,7,9,10,11,13,16,17,18,36] ?_;refine av ?_ ?_<;>intro cm cR
   ·obtain⟨bh,rfl,Z,O,rfl⟩:=U.pos w4;have C6:(st.length-(bS ops[i].k).toNat)+1<st.length:=(by omega)
    have hb:fy bw ops[i].k st=st[(st.length-(bS ops[i].k).toNat)+1]:=(by unfold fy;rw[if_pos w4,getD_eq_getElem?_getD,getElem?_eq_getElem C6];rfl)
    refine dY 3 ?_;refine bV (dO 3 (h:=by first|exact .l (j:=(st.length-(bS ops[i].k).toNat)+1) w4 w4|exact .r (j:=(st.length-(bS ops[i].k).toNat)+1) w4 w4)) ?_;refine bV (cW (mk:=Op.load 33) rfl ot (dL (k:=7) fq rfl rfl rfl isAgg33 sizeOf33 C6)) ?_;refine aO 0 [_,_,_] sizeOf33 ?_;refine an 64 [1,4,6,7,9,10,11,13,16,17,18] ?_;refine⟨_,aJ,(st[(st.length-(bS ops[i].k).toNat)+1]),(some ⟨bh,0,none⟩),E,[⟨bh,33,E*3,flatMap cV st⟩],hb,(bQ (g:=cV) (ls:=st) Z O),rfl⟩
   have hb:fy bw ops[i].k st=bw:=(by unfold fy;rw[if_neg w4])
   refine CD.skip ?_;refine⟨_,aJ,bw,I,E,Sh,hb,U,rfl⟩
  rintro _ ⟨vb,I,E,Sh,hb,U,rfl⟩;refine aB 4 ?_;refine OD.lY (f:=74) (args:=[_,_,_]) (all:=[_,_,_,_,_]) (Sf:=[⟨br,43,1,[au 3 cV row]⟩,⟨bc,29,1,[au 2 cC l]⟩]) ap rfl rfl ot call74 (abS l hl row oT ops[i] (akZ _ (getElem_mem aa)) _ _ (va) (vb) ha hb (KK aT _) (KL aT _) br bc) rfl ⟨ot,ot,ot,trivial⟩ (JG (k:=3) (k':=3) rfl rfl) ?_;rintro _ _ ⟨rfl,rfl⟩;refine aH 3 ?_;refine OD.alloc (ds:=[_,_,_]) ap rfl rfl zeroValue33 rfl (fun Ec=>?_);refine aO 0 [_,_,_] sizeOf33 ?_;refine an 64 [1,4,6,7,13,14,15,16,17,18] ?_;refine af [1,4,6,7,13,14,15,16,17,18,51] ?_;refine av ?_ ?_<;>intro da eA
  ·have hz:(fY l row ops[i] (fx bw ops[i].k st) (fy bw ops[i].k st)).2≠0:=(by simpa using da)
   have aW:=hinv.trans (Ul aa hz);refine aB 2 ?_;refine aO 7 [_,_,_] sizeOf33 ?_;refine an 64 [4,5] ?_;refine aM [⟨br,43,1,[au 3 cV row]⟩,⟨bc,29,1,[au 2 cC l]⟩] ?_;rw[aW];exact⟨rfl,rfl⟩
  have hz:(fY l row ops[i] (fx bw ops[i].k st) (fy bw ops[i].k st)).2=0:=(by simpa using da)
  refine CD.skip ?_;refine CD.vQ (k:=(st.length-(bS ops[i].k).toNat)) (ls:=st) (Sq:=Sh) fq w4 U (dI (A:=[_,_,_,_,_,_,_,_])) (fun MW L5=>?_);refine CD.perm (ez (A:=[_,_,_,_,_,_,_,_])) ?_;refine iv 6 (ax (take 1 _)) ?_ (fun _ h=>(Sublist.map _ (take_sublist _ _)).subset h);refine aD 0 rfl bI ?_;refine aD 1 rfl bI ?_;first|refine aD 2 rfl (EU (n:=st.length) (k:=(take (st.length-(bS ops[i].k).toNat) st).length) (cs:=st.flatMap cV) rfl ot rfl ⟨_,_,ot,by rw[length_take];omega⟩ runUnderlying43 sizeOf33 pA U) ?_|refine aD 2 rfl (EU (n:=st.length) (k:=(take (st.length-(bS ops[i].k).toNat) st).length) (cs:=st.flatMap cV) rfl ot rfl ⟨_,_,ot,by rw[length_take];omega⟩ runUnderlying43 sizeOf33 pA (bQ (e:=33) (g:=cV) (ls:=st) Z O)) ?_
  refine aD 3 rfl (cW (mk:=Op.load 33) rfl ot (by first|exact qJ (k:=0) (ds:=[_,_,_]) rfl rfl isAgg33 sizeOf33 rfl rfl|exact ku mu isAgg33 sizeOf33 w5|exact ku fq isAgg33 sizeOf33 w5|exact dL (k:=0) mu rfl rfl rfl isAgg33 sizeOf33 w5|exact dL (k:=1) mu rfl rfl rfl isAgg33 sizeOf33 w5|exact dL (k:=2) mu rfl rfl rfl isAgg33 sizeOf33 w5|exact dL (k:=3) mu rfl rfl rfl isAgg33 sizeOf33 w5|exact dL (k:=4) mu rfl rfl rfl isAgg33 sizeOf33 w5|exact dL (k:=5) mu rfl rfl rfl isAgg33 sizeOf33 w5|exact dL (k:=6) mu rfl rfl rfl isAgg33 sizeOf33 w5|exact dL (k:=7) mu rfl rfl rfl isAgg33 sizeOf33 w5|exact dL (k:=0) fq rfl rfl rfl isAgg33 sizeOf33 w5|exact dL (k:=1) fq rfl rfl rfl isAgg33 sizeOf33 w5|exact dL (k:=2) fq rfl rfl rfl isAgg33 sizeOf33 w5|exact dL (k:=3) fq rfl rfl rfl isAgg33 sizeOf33 w5|exact dL (k:=4) fq rfl rfl rfl isAgg33 sizeOf33 w5|exact dL (k:=5) fq rfl rfl rfl isAgg33 sizeOf33 w5|exact dL (k:=6) fq rfl rfl rfl isAgg33 sizeOf33 w5|exact dL (k:=7) fq rfl rfl rfl isAgg33 sizeOf33 w5|exact qR (ds:=[_,_,_]) isAgg33 sizeOf33 rfl rfl)) ?_;refine dZ.later rfl ?_;refine AD.one (i:=4) aC ?_;refine nJ (cq 0 [_]) [.int .i64 0,.int .i64 0,.string ⟨#[]⟩] [_,_,_] zeroValue33 runUnderlying43 sizeOf33 (fun AY=>?_);refine nK 0 58 3 1 ?_;refine AD.one (i:=5) aC ?_
  refine bD.eL (ls:=(take (st.length-(bS ops[i].k).toNat) st)) (new:=[(fY l row ops[i] (fx bw ops[i].k st) (fy bw ops[i].k st)).1]) (Sq:=MW) fq Gi rfl ap rfl rfl underlying43 aaQ rfl w7 ot L5 (dI (A:=[_,_,_,_,_,_,_,_])) ot bj wg iB (fun tI sY CP CQ=>?_);refine AD.perm (ez (S1:=[⟨tI,33,sY*3,flatMap cV ((take (st.length-(bS ops[i].k).toNat) st)++[(fY l row ops[i] (fx bw ops[i].k st) (fy bw ops[i].k st)).1])⟩]) (A:=[_,_,_,_,_,_,_,_])) ?_;refine fB ?_;refine bp [1,4,6,7,16,17,18] ?_;refine cc [1,4,6,7,16,17,18] ?_;refine⟨((i+1),(st.take (st.length-(bS ops[i].k).toNat)++[(fY l row ops[i] (fx bw ops[i].k st) (fy bw ops[i].k st)).1]),(some ⟨tI,0,none⟩),sY,[⟨tI,33,sY*3,flatMap cV ((take (st.length-(bS ops[i].k).toNat) st)++[(fY l row ops[i] (fx bw ops[i].k st) (fy bw ops[i].k st)).1])⟩]),_,cr,(aJ (h:=by repeat (first|exact trivial|refine⟨Hz,?_⟩))),w4,(by rw[pL];omega),oe,(hinv.trans (Um aa hz)),ak0,(bn.cast (bQ CP CQ) (by rfl)),rfl⟩
 have h1:=SG w4 hex;have C7:0<st.length:=(by omega)
 obtain⟨bh,rfl,Z,O,rfl⟩:=U.pos w4;have aW:=hinv.trans (SF w4);have ic:st.getD 0 bw=st[0]:=(by rw[getD_eq_getElem?_getD,getElem?_eq_getElem C7];rfl)
 rw[ic] at aW;refine aB 1 ?_;refine bV (o9 (mk:=Op.indexAddr 43) rfl ot bP (by first|exact pU (j:=0) runUnderlying43 sizeOf33 rfl AR|exact pY (j:=0) runUnderlying43 sizeOf33 rfl AR)) ?_;refine bV (cW (mk:=Op.load 33) rfl ot (dL (k:=4) fq rfl rfl rfl isAgg33 sizeOf33 C7)) ?_;refine aO 3 [_,_,_] sizeOf33 ?_;refine an 64 [4,5] ?_;exact z117
theorem afF(l:List cH)(hl:l.length≤6)(row:List Vl)(O:row.length=l.length)(E:∀v∈row,v.Ok)(ops:List aK)(gd:∀o∈ops,o.v.Ok)(I:∀o∈ops,o.k=2→0≤bC l o.nm)(hx:gN ops=0):VP Tryz.prog G 38 [au 2 cC l,au 3 cV row,au 5 cO ops] (nu (qV l row ops)):=by
 refine VC.body func38 rfl ntmps38 aQ fun X0 w0 bf=>?_;obtain⟨U,fO⟩:=xp hx;have fE:=fun br bc=>adM (G:=G) l hl row O E ops gd I U fO br bc;unfold nu at fE ⊢;generalize qV l row ops=q at fE ⊢;skip;refine cf ?_;refine OD.box (ds:=[_]) ap rfl rfl ot rfl rfl (fun b3=>?_);refine OD.box (ds:=[_]) ap rfl rfl ot rfl rfl (fun Z=>?_);refine OD.alloc (ds:=[_,_,_]) ap rfl rfl zeroValue33 rfl (fun b6=>?_);refine an 13 [2,3,4,6] ?_;refine aB 1 ?_;refine bV (pR (ds:=[_,_]) rfl ⟨ot,ot,trivial⟩) ?_;refine OD.call ap rfl rfl rfl call73 (fE Z b3) ⟨ot,ot,trivial⟩ (JG (k:=1) (k':=1) rfl rfl) ?_;rintro _ _ ⟨rfl,rfl⟩;refine aH 2 ?_;refine aO 2 [_,_,_] sizeOf33 ?_;refine an 13 [6,7] ?_;exact z46
theorem Up(hm:(3,marksC)∈G)(hw:(1,wordsC)∈G)(ht:(0,typesC)∈G)(l:List cH)(hl:l.length≤6)(aT:∀c∈l,c.n.size≤maxLen)(row:List Vl)(Z:row.length≤1000)(E:∀v∈row,v.Ok)(ops:List aK)(ho:∀o∈ops,o.nm.size≤maxLen)(gd:∀o∈ops,o.v.Ok):VP Tryz.prog G 22 [au 2 cC l,au 3 cV row,au 5 cO ops] (nu (dG l row ops)):=by
 refine VC.body func22 rfl ntmps22 aQ fun X0 w0 bf=>?_;have c8:=dV;have U:=Lo hm hw ht l w4 aT row w4;have I:=KH hm hw ht l hl aT ops ho;unfold qh at I;unfold nu;refine cf ?_;refine OD.alloc (ds:=[_,_,_]) ap rfl rfl zeroValue33 rfl (fun b6=>?_);refine an 34 [0,1,2,6] ?_;refine cL [0,1,2,6,8] (U) ?_;refine af [0,1,2,6,8,15] ?_;refine av ?_ ?_<;>intro aL bB
 ·have h0:dQ l row≠0:=(by simpa using aL)
  have aW:dG l row ops=(bw,dQ l row):=(by unfold dG;rw[if_pos h0])
  refine aB 2 ?_;refine aO 0 [_,_,_] sizeOf33 ?_;refine an 34 [6,7] ?_;exact oO
 have h0:dQ l row=0:=(by simpa using aL)
 refine cL [0,1,2,6,10] (I) ?_;refine af [0,1,2,6,10,25] ?_;refine av ?_ ?_<;>intro aY cD
 ·have h1:(dU l ops).2≠0:=(by simpa using aY)
  have aW:dG l row ops=(bw,(dU l ops).2):=(by unfold dG;rw[if_neg (by simp[h0]),if_pos h1])
  refine aB 2 ?_;refine aO 0 [_,_,_] sizeOf33 ?_;refine an 34 [6,7] ?_;exact oO
 have h1:(dU l ops).2=0:=(by simpa using aY)
 obtain⟨k1,k2,k3⟩:=F0 h1;have aW:dG l row ops=qV l row ops:=(by unfold dG;rw[if_neg (by simp[h0]),if_neg (by simp[h1])])
 have O:=afF (G:=G) l hl row (Ky h0) E ops gd (Q2 (by rw[←k3];exact h1)) k2;unfold nu at O;refine aB 3 ?_;refine ec call38 (O) ?_;refine aH 2 ?_;refine aO 0 [_,_,_] sizeOf33 ?_;refine an 34 [6,7] ?_;exact uR

end Go.Proofs.YtkgmonfgofobaaaGreatDoor.Ex
namespace Go.Proofs.YtkgmonfgofobaaaGreatDoor.Pc
open List
open Go.Proofs.Tryz
open Go.RowKit V Pk Vl Go.Proofs.YtkgmonfgofobaaaGreatDoor.Nm
variable {G:List (Nat×List Value)}
def bL:List cH:=[⟨⟨#[105,100]⟩,2⟩,⟨⟨#[110]⟩,2⟩,⟨⟨#[115]⟩,3⟩,⟨⟨#[98]⟩,1⟩]
def qN(n:Int):Vl:=if ev n 3=2 then bw else ⟨1,ev n 3,⟨#[]⟩⟩
def gZ(n:Int):Vl:=⟨2,n,⟨#[]⟩⟩
theorem aiI:cy ⟨#[105,100]⟩=0:=tT (l:=[105,100]) w7 w7 w7
theorem ak1:cy ⟨#[110]⟩=0:=tT (l:=[110]) w7 w7 w7
theorem ak2:cy ⟨#[115]⟩=0:=tT (l:=[115]) w7 w7 w7
theorem ak3:cy ⟨#[98]⟩=0:=tT (l:=[98]) w7 w7 w7
theorem Ki:fW bL=0:=by
 simp[fW,bL,rL,nE,aiI,ak1,ak2,ak3,wV]
theorem ae2:∀c∈bL,c.n.size≤maxLen:=fun c hc=>by
 have h:c.n.size≤2:=by
  simp only[bL,mem_cons,not_mem_nil,or_false] at hc;rcases hc with rfl|rfl|rfl|rfl
  ·exact Nat.le_refl 2
  ·exact Nat.le_succ 1
  ·exact Nat.le_succ 1
  exact Nat.le_succ 1
 exact Nat.le_trans h w7
theorem Cp(n:Int):cg (gZ n)=0:=by
 unfold cg;rw[if_neg (show ¬(gZ n).k=0 by show ¬(2:Int)=0;decide),if_neg (show ¬(gZ n).k=1 by show ¬(2:Int)=1;decide),if_pos (show(gZ n).k=2 from rfl),if_neg (fun h=>h rfl)]
theorem GO:cg bw=0:=by decide
theorem Je:VP Tryz.prog G 13 [] (au 2 cC bL):=by
 refine VC.body func13 rfl ntmps13 aQ fun X0 w0 bf=>?_;refine af [] ?_;refine aB 4 ?_;refine eD (cq 0 [_,_,_,_]) [.string ⟨#[]⟩,.int .i64 0,.string ⟨#[]⟩,.int .i64 0,.string ⟨#[]⟩,.int .i64 0,.string ⟨#[]⟩,.int .i64 0] [_,_,_,_,_,_,_,_] zeroValue28 runUnderlying29 sizeOf28 (fun b5=>?_);refine OD.perm (ez (S1:=[⟨b5,28,4*2,flatMap cC ([⟨⟨#[105,100]⟩,2⟩,⟨⟨#[110]⟩,2⟩,⟨⟨#[115]⟩,3⟩,⟨⟨#[98]⟩,1⟩])⟩]) (A:=[])) ?_;refine an 6 [0] ?_;refine CD.iE (t:=0) (Sq:=[⟨b5,28,4*2,flatMap cC ([⟨⟨#[105,100]⟩,2⟩,⟨⟨#[110]⟩,2⟩,⟨⟨#[115]⟩,3⟩,⟨⟨#[98]⟩,1⟩])⟩]) lk (bQ (g:=cC) (sz:=2) (e:=28) (ls:=[⟨⟨#[105,100]⟩,2⟩,⟨⟨#[110]⟩,2⟩,⟨⟨#[115]⟩,3⟩,⟨⟨#[98]⟩,1⟩]) (Nat.le_refl _) (show 4≤maxLen by decide)) (cz lV _) (dI (A:=[])) ?_;exact z46

end Go.Proofs.YtkgmonfgofobaaaGreatDoor.Pc
namespace Go.Proofs.YtkgmonfgofobaaaGreatDoor.Ex
open List
open Go.Proofs.Tryz
open Go.RowKit V Pk Vl Go.Proofs.YtkgmonfgofobaaaGreatDoor.Nm Pc
variable {k:Int} {a b:Vl} {l:List cH} {row:List Vl} {o:aK} {α:Type} {ks:List Int}
theorem IP(b:Bool):cg (qM b)=0:=by cases b<;>decide
theorem abT(n:Int):cg ⟨2,n,⟨#[]⟩⟩=0:=Cp n
theorem F1(h:¬(k=8∨k=9∨k=10)):xP k=1:=if_neg h
theorem afG(h:k=8∨k=9∨k=10):xP k=2:=if_pos h
theorem JP(b:Bool):(qM b).k=1:=by cases b<;>rfl
theorem Fh{v:Vl}(h:jf v=0):cg v=0:=by
 unfold jf at h;split at h
 ·cases h
 exact h
def jM(k:Int)(v:Vl):Prop:=cg v=0∧(v.k=k∨v.k=0)
theorem Cq:jM 0 bw:=⟨GO,.inl rfl⟩
structure Ai (l:List cH) (o:aK):Prop where
 nm:o.nm.size≤maxLen
 ok:o.v.Ok
 ck:cg o.v=0
 k1:1≤o.k
 k2:o.k≤11
 Zg:o.k=2→0≤bC l o.nm
def GP(l:List cH)(row:List Vl):Prop:=∀i:Nat,jM (l.getD i ⟨⟨#[]⟩,0⟩).k (row.getD i bw)
theorem Aj{a b:Int}(h:sj a b=true):a=b∨a=0:=by
 unfold sj at h;simpa using h
theorem aaR{d:Int}(ha:cg a=0)(hb:cg b=0)(h1:a.k=1∨a.k=0)(h2:b.k=1∨b.k=0):(lH a b d).2=0∧jM 1 (lH a b d).1:=by
 unfold lH;rw[if_neg w4];split
 ·exact⟨rfl,ha,h1⟩
 split
 ·exact⟨rfl,hb,h2⟩
 split
 ·exact⟨rfl,GO,.inr rfl⟩
 exact⟨rfl,ha,h1⟩
theorem Uq(ha:cg a=0)(hb:cg b=0):Cd.mU a b=0:=by unfold Cd.mU;rw[ha,hb];rfl
theorem abU(h:Cd.mU a b=0)(hk:k=3∨k=4):∃d,gY k a b=lH a b d:=by
 unfold gY;rw[if_neg (by simp[h])];rcases hk with rfl|rfl
 ·exact⟨0,if_pos rfl⟩
 exact⟨1,by rw[if_neg w7,if_pos rfl]⟩
theorem adN(h:Cd.mU a b=0)(hk:k=6∨k=7):gY k a b=if qU a b=true then (bw,0) else if a.k≠b.k then (bw,4) else (qM ((Cd.fu a b==0&&k==6)||(decide (Cd.fu a b<0)&&k==7)),0):=by
 unfold gY;rw[if_neg (by simp[h]),if_neg w4,if_neg w4,if_pos hk]
theorem abV(hr:GP l row)(ho:Ai l o){a b:Int}{E vb:Vl}(ha:jM a E)(hb:jM b vb)(h:(jw l o a b).2=0) :
  (fY l row o E vb).2=5∨((fY l row o E vb).2=0∧jM (jw l o a b).1 (fY l row o E vb).1):=by
 have k1:=ho.k1;have k2:=ho.k2;obtain⟨ca,ka⟩:=ha;obtain⟨cb,kb⟩:=hb;have O:=Uq ca cb;unfold jw at h ⊢;by_cases e1:o.k=1
 ·rw[if_pos e1];have:fY l row o E vb=(o.v,0):=(by unfold fY bS;rw[if_neg w4,if_neg (by rw[if_pos (.inl e1)];omega),if_neg w4]<;>(try rw[if_pos (.inl e1)];omega))
  rw[this];exact .inr ⟨rfl,ho.ck,.inl rfl⟩
 rw[if_neg e1] at h ⊢;by_cases e2:o.k=2
 ·rw[if_pos e2] at h ⊢;have hp:bS o.k=0:=(by unfold bS;rw[if_pos (.inr e2)])
  have hc:=ho.Zg e2;have:fY l row o E vb=(row.getD (bC l o.nm).toNat bw,0):=(by unfold fY;rw[if_neg w4,if_neg w4,if_pos e2])
  rw[this];unfold vz;rw[if_neg w4];exact .inr ⟨rfl,hr _⟩
 rw[if_neg e2] at h ⊢;have aT:okF o.k a b=true:=by
  by_cases hk:okF o.k a b=true
  ·exact hk
  rw[if_neg hk] at h;cases h
 rw[if_pos aT];unfold okF at aT;by_cases I:o.k=5∨o.k=11
 ·have hp:bS o.k=1:=(by unfold bS;rw[if_neg w4,if_pos I])
  have he:fY l row o E vb=uz o.k E:=(by unfold fY;rw[if_pos hp])
  rw[he];unfold uz;rw[if_neg (by simp[ca])];rcases I with I|I
  ·have U:¬(o.k=3∨o.k=4):=(by omega)
   have Z:¬o.k=11:=(by omega)
   rw[if_neg U,if_pos I] at aT;have hi:=Aj aT;rw[if_neg Z,if_pos I,F1 w4];by_cases z:E.k=0
   ·rw[if_pos z];exact .inr ⟨rfl,ca,.inr z⟩
   rw[if_neg z,if_pos w4];exact .inr ⟨rfl,IP _,.inl (JP _)⟩
  rw[if_pos I,F1 w4];exact .inr ⟨rfl,IP _,.inl (JP _)⟩
 have hp:bS o.k=2:=(by unfold bS;rw[if_neg w4,if_neg I])
 have he:fY l row o E vb=gY o.k E vb:=(by unfold fY;rw[if_neg w4,if_pos hp])
 rw[he];by_cases e3:o.k=3∨o.k=4
 ·rw[if_pos e3,Bool.and_eq_true] at aT;have i1:=Aj aT.1;have i2:=Aj aT.2;obtain⟨d,hd⟩:=abU O e3;rw[hd,F1 w4];exact .inr (aaR ca cb w4 w4)
 have n5:¬o.k=5:=(by omega)
 rw[if_neg e3,if_neg n5] at aT;by_cases e6:o.k=6∨o.k=7
 ·rw[if_pos e6,Bool.or_eq_true] at aT;rw[adN O e6,F1 w4];by_cases hn:qU E vb=true
  ·rw[if_pos hn];exact .inr ⟨rfl,GO,.inr rfl⟩
  rw[if_neg hn];unfold qU at hn;simp only[Bool.or_eq_true,beq_iff_eq,not_or] at hn;have lO:E.k=vb.k:=by
   rcases aT with aT|aT
   ·have:=Aj aT;omega
   have:b=0:=(by simpa using aT)
   omega
  rw[if_neg (by simpa using lO)];exact .inr ⟨rfl,IP _,.inl (JP _)⟩
 have e8:o.k=8∨o.k=9∨o.k=10:=(by omega)
 rw[if_neg e6,if_pos e8,Bool.and_eq_true] at aT;have i1:=Aj aT.1;have i2:=Aj aT.2;rw[Jd O e8 w4,afG e8];split
 ·exact .inr ⟨rfl,GO,.inr rfl⟩
 split
 ·exact .inr ⟨rfl,abT _,.inl rfl⟩
 exact .inl rfl
theorem KM{z:α}{f:aK→α→α→α × Int}{r:List aK}{st:List α}(h:(f o (fx z o.k st) (fy z o.k st)).2=0):iZ z f (o::r) st=iZ z f r (st.take (st.length-(bS o.k).toNat)++[(f o (fx z o.k st) (fy z o.k st)).1]):=by
 rw[iZ,if_neg (by rw[h];simp)]
theorem JQ{z:α}{f:aK→α→α→α × Int}{r:List aK}{st:List α}(h:(f o (fx z o.k st) (fy z o.k st)).2≠0):iZ z f (o::r) st=(z,(f o (fx z o.k st) (fy z o.k st)).2):=by
 rw[iZ,if_pos h]
def C8(ks:List Int)(vs:List Vl):Prop:=ks.length=vs.length∧∀i:Nat,jM (ks.getD i 0) (vs.getD i bw)
theorem SJ(z x:α)(l:List α)(n i:Nat)(hn:n≤l.length):(l.take n++[x]).getD i z=if i<n then l.getD i z else if i=n then x else z:=by
 have hl:(l.take n).length=n:=(by rw[length_take];omega)
 by_cases h1:i<n
 ·rw[if_pos h1,getD_eq_getElem?_getD,getD_eq_getElem?_getD,getElem?_append_left w4,getElem?_take,if_pos h1]
 rw[if_neg h1,getD_eq_getElem?_getD,getElem?_append_right w4,hl];by_cases h2:i=n
 ·rw[if_pos h2,h2,Nat.sub_self];rfl
 rw[if_neg h2,getElem?_eq_none (by rw[length_singleton];omega)];rfl
theorem afH{vs:List Vl}(h:C8 ks vs){v:Vl}(hr:jM k v){n:Nat}(hn:n≤ks.length):C8 (ks.take n++[k]) (vs.take n++[v]):=by
 have hl:=h.1;refine⟨by simp only[length_append,length_take,length_singleton];omega,fun i=>?_⟩;rw[SJ _ _ _ _ _ hn,SJ _ _ _ _ _ w4];split
 ·exact h.2 i
 split
 ·exact hr
 exact Cq
theorem afI{vs:List Vl}(h:C8 ks vs)(k:Int):jM (fx 0 k ks) (fx bw k vs)∧jM (fy 0 k ks) (fy bw k vs):=by
 have hl:=h.1;unfold fx fy;rw[hl];refine⟨?_,?_⟩
 ·split
  ·exact h.2 _
  exact Cq
 split
 ·exact h.2 _
 exact Cq
theorem Q3{l:List cH}{row:List Vl}(hr:GP l row):∀(ops:List aK),(∀o∈ops,Ai l o)→∀(ks:List Int) (vs:List Vl),C8 ks vs→(iZ 0 (jw l) ops ks).2=0 →
  (iZ bw (fY l row) ops vs).2=5∨((iZ bw (fY l row) ops vs).2=0∧jM (iZ 0 (jw l) ops ks).1 (iZ bw (fY l row) ops vs).1)
 | [],_,ks,vs,h,_=>.inr ⟨rfl,h.2 0⟩
 | o::r,hg,ks,vs,h,h0=>by
  obtain⟨hA,hB⟩:=afI h o.k;by_cases hm:(jw l o (fx 0 o.k ks) (fy 0 o.k ks)).2=0
  ·rw[KM hm] at h0 ⊢;rcases abV hr (hg o mem_cons_self) hA hB hm with h5|⟨hz,E⟩
   ·rw[JQ (by rw[h5];decide)];exact .inl h5
   rw[KM hz];have:=afH h E (n:=ks.length-(bS o.k).toNat) (Nat.sub_le _ _);rw[show vs.length-(bS o.k).toNat=ks.length-(bS o.k).toNat by rw[h.1]];exact Q3 hr r (fun x hx=>hg x (mem_cons_of_mem _ hx)) _ _ this h0
  rw[JQ hm] at h0;exact absurd h0 hm
theorem adO(ho:Ai l o)(a b:Int):(jw l o a b).2=0∨(jw l o a b).2=4:=by
 unfold jw;split
 ·exact .inl rfl
 split
 ·rename_i h2;have:=ho.Zg h2;unfold vz;rw[if_neg w4];exact .inl rfl
 split
 ·exact .inl rfl
 exact .inr rfl
theorem SK{l:List cH}:∀(ops:List aK),(∀o∈ops,Ai l o)→∀ks,(iZ 0 (jw l) ops ks).2=0∨(iZ 0 (jw l) ops ks).2=4
 | [],_,ks=>.inl rfl
 | o::r,hg,ks=>by
  rw[iZ];split
  ·rename_i hne;rcases adO (hg o mem_cons_self) (fx 0 o.k ks) (fy 0 o.k ks) with h|h
   ·exact absurd h hne
   exact .inr h
  exact SK r (fun x hx=>hg x (mem_cons_of_mem _ hx)) _
theorem afJ:C8 [] []:=⟨rfl,fun i=>by rw[getD_nil,getD_nil];exact Cq⟩
theorem abW{ops:List aK}(hl:fW l=0)(hw:dQ l row=0)(hr:GP l row)(hg:∀o∈ops,Ai l o)(hx:gN ops=0) :
  dU l ops=uu l ops∧((dU l ops).2=0∨(dU l ops).2=4)∧((dU l ops).2=4→dG l row ops=(bw,4)) ∧
  ((dU l ops).2=0→dG l row ops=qV l row ops∧((dG l row ops).2=5∨((dG l row ops).2=0∧jM (dU l ops).1 (dG l row ops).1))):=by
 have hk:dU l ops=uu l ops:=(by unfold dU;rw[if_neg (by simp[hl]),if_neg (by simp[hx])])
 refine⟨hk,by rw[hk];exact SK ops hg [],fun h4=>?_,fun h0=>?_⟩
 ·unfold dG;rw[if_neg (by simp[hw]),if_pos yj,h4]
 have he:dG l row ops=qV l row ops:=(by unfold dG;rw[if_neg (by simp[hw]),if_neg (by simp[h0])])
 refine⟨he,?_⟩;rw[he,hk];exact Q3 hr ops hg [] [] afJ (by rw[hk] at h0;exact h0)

end Go.Proofs.YtkgmonfgofobaaaGreatDoor.Ex
namespace Go.Proofs.YtkgmonfgofobaaaGreatDoor.Pc
open List
open Go.Proofs.Tryz
open Go.RowKit V Pk Vl Go.Proofs.YtkgmonfgofobaaaGreatDoor.Nm
def typesB:List (List UInt8):=[[],[66,79,79,76],[73,78,84],[84,69,88,84]]
abbrev TypesTab(w:World):Prop:=Tab.l5 w 0 typesC

end Go.Proofs.YtkgmonfgofobaaaGreatDoor.Pc
namespace Go.Proofs.YtkgmonfgofobaaaGreatDoor.Ex





open List
open Go.Proofs.Tryz
open Go.RowKit V Pk Vl Go.Proofs.YtkgmonfgofobaaaGreatDoor.Nm Pc Cd
open Go.Lib (compareBytes)
variable {ops:List aK} {k:List UInt8}
def nQ(ops:List aK)(i:Nat):Int:=(ops.getD i (p8 0)).k
def jg(ops:List aK):Nat→Int→Nat
 | 0,_=>0
 | i+1,need=>if need+(bS (nQ ops i)-1)>0 then jg ops i (need+(bS (nQ ops i)-1)) else i
theorem vv{i:Nat}(h:i<ops.length):nQ ops i=ops[i].k:=by unfold nQ;rw[getD_eq_getElem?_getD,getElem?_eq_getElem h];rfl
theorem Vr{h h':Int}{o:aK}(he:gD h o=0)(hp:bS o.k≤h'):gD h' o=0:=by
 unfold gD at he ⊢;split at he
 ·cases he
 rename_i q1;rw[if_neg q1];split at he
 ·rename_i h2;exact absurd he h2
 rename_i q2;rw[if_neg q2];split at he
 ·cases he
 rename_i E;rw[if_neg E];split at he
 ·rename_i h4;exact absurd he h4.2
 rename_i I;rw[if_neg I,if_neg w4]
theorem Jf{n:Nat}{h:Int}(hn:n<ops.length)(e:runs 0 (ops.take (n+1))=some h):∃h',runs 0 (ops.take n)=some h'∧gD h' ops[n]=0∧h=h'+(1-bS ops[n].k):=by
 rw[take_succ_eq_append_getElem hn,y8] at e;cases hr:runs 0 (ops.take n) with
 | none=>rw[hr] at e;cases e
 | some h' =>
  rw[hr,Option.bind_some,runs] at e;split at e
  ·rename_i he;rw[runs] at e;cases e;exact⟨h',rfl,he,rfl⟩
  cases e
theorem SL{ops:List aK}:∀(n:Nat) (need h:Int),n≤ops.length→runs 0 (ops.take n)=some h→1≤need→need≤h →
  jg ops n need<n∧runs 0 (ops.take (jg ops n need))=some (h-need)∧∀k:Int,0≤k→runs k ((ops.take n).drop (jg ops n need))=some (k+need)
 | 0,need,h,_,e,h1,h2=>by rw[List.take_zero,runs] at e;cases e;omega
 | n+1,need,h,hn,e,h1,h2=>by
  have aa:n<ops.length:=(by omega)
  obtain⟨h',e1,e2,U⟩:=Jf aa e;have I:=uh ops[n].k;have rY:=(wX e2).1;have E:∀m,m≤n→(ops.take (n+1)).drop m=(ops.take n).drop m++[ops[n]]:=fun m hm=>by
   rw[take_succ_eq_append_getElem aa,drop_append,show m-(ops.take n).length=0 by rw[length_take];omega,drop_zero]
  rw[jg,vv aa];by_cases hc:need+(bS ops[n].k-1)>0
  ·rw[if_pos hc];obtain⟨q1,q2,O⟩:=SL n (need+(bS ops[n].k-1)) h' w4 e1 w4 w4;refine⟨by omega,by rw[q2];congr 1;omega,fun k hk=>?_⟩;rw[E _ w4,y8,O k hk,Option.bind_some,runs,if_pos (Vr e2 w4),runs];congr 1;omega
  rw[if_neg hc];refine⟨by omega,by rw[e1];congr 1;omega,fun k hk=>?_⟩;rw[E n (Nat.le_refl _),drop_of_length_le pA,nil_append,runs,if_pos (Vr e2 w4),runs];congr 1;omega
def mv(key:ByteArray)(o:aK):Bool:=o.k==2&&o.nm.toList==key.toList
def ij(o:aK):Bool:=o.k==1 && !(o.v.k==0)
abbrev lF:=List UInt8×List UInt8
variable {b:lF}
def oJ(k:List UInt8)(b:lF):lF:=if compareBytes k b.1>0 then (k,b.2) else b
def sQ(k:List UInt8)(b:lF):lF:=if b.2.length=0∨compareBytes k b.2<0 then (b.1,k) else b
def vN(kc:Int)(eq not:Bool)(k:List UInt8)(b:lF):lF :=
 bif eq||(kc==0)!=not then sQ k (bif eq||(kc==0)==not then oJ k b else b) else bif eq||(kc==0)==not then oJ k b else b
def AF(ops:List aK):List UInt8:=(gm [(ops.getD (dP ij (ops.take 2)).toNat (p8 0)).v]).1
def nB(key:ByteArray)(ops:List aK)(not:Bool)(b:lF):lF :=
 if ops.length≠3∨(not=true∧nQ ops (ops.length-1)≠7)∨(nQ ops (ops.length-1)≠6∧nQ ops (ops.length-1)≠7) then b
 else if dP (mv key) (ops.take 2)<0∨dP ij (ops.take 2)<0 then b
 else vN (dP (mv key) (ops.take 2)) (nQ ops (ops.length-1)==6) not (AF ops) b
def gz(key:ByteArray):Nat→List aK→lF→lF
 | 0,_,b=>b
 | f+1,ops,b =>
  if nQ ops (ops.length-1)=3 then gz key f ((ops.take (ops.length-1)).drop (jg ops (ops.length-1) 1)) (gz key f (ops.take (jg ops (ops.length-1) 1)) b)
  else if nQ ops (ops.length-1)=5 then nB key (ops.take (ops.length-1)) true b
  else nB key ops false b
variable {G:List (Nat×List Value)} {m:Int}
theorem abX(ops:List aK)(qw:ops.length≤40)(n:Nat)(hn:n≤ops.length)(h:Int)(hr:runs 0 (ops.take n)=some h)(h1:1≤h):VP Tryz.prog G 173 [au 5 cO ops,ae (n:Nat)] (ae (jg ops n 1:Nat)):=by
 refine VC.body func173 rfl ntmps173 aQ fun X0 w0 bf=>?_;refine af [0,1] ?_;refine af [0,5] ?_;refine af [0,5,6] ?_;refine eG [0] (fun aS _ (E:Nat×Int) aE=>match E with|(i,need)=>(i≤n)∧(0≤need)∧(need≤1+2*((n:Int)-i))∧((need=0∧jg ops n 1=i)∨(1≤need∧jg ops n 1=jg ops i need∧∃h,runs 0 (ops.take i)=some h∧need≤h))∧aE=(⟨22,(5,ae (i:Nat))::(6,ae need)::aS,[]⟩:St)) (fun (E:Nat×Int)=>match E with|(i,need)=>i) (n,1) ⟨(Nat.le_refl _),w7,w4,(.inr ⟨by decide,rfl,h,hr,h1⟩),rfl⟩ ?_;rintro⟨i,need⟩ _ ⟨hi,gH,YZ,hinv,rfl⟩;refine af [0,5,6,9] ?_;refine av ?_ ?_<;>intro aL bB
 ·obtain⟨hz,_⟩|⟨gI,I,h2,e1,e2⟩:=hinv
  ·omega
  have OT:0<i:=(by rcases Nat.eq_zero_or_pos i with rfl|h;rw[List.take_zero,runs] at e1;cases e1;omega;exact h)
  have O:-9223372036854775808≤((i-1:Nat):Int):=(by omega)
  have U:((i-1:Nat):Int)≤9223372036854775807:=(by omega)
  have kC:(i:Int)-1=((i-1:Nat):Int):=(by omega)
  have aa:i-1<ops.length:=(by omega)
  have uX:=uh ops[i-1].k;obtain⟨h3,e3,e4,e5⟩:=Jf aa (by rw[show i-1+1=i by omega];exact e1);have rY:=(wX e4).1;have Z:jg ops i need=if need+(bS ops[i-1].k-1)>0 then jg ops (i-1) (need+(bS ops[i-1].k-1)) else i-1:=by obtain⟨j,rfl⟩:∃j,i=j+1:=⟨i-1,by omega⟩;rw[jg,vv w4];rfl
  have oe:(need+(bS ops[i-1].k-1)=0∧jg ops n 1=i-1)∨(1≤need+(bS ops[i-1].k-1)∧jg ops n 1=jg ops (i-1) (need+(bS ops[i-1].k-1))∧∃h,runs 0 (ops.take (i-1))=some h∧need+(bS ops[i-1].k-1)≤h):=(by (by_cases hc:need+(bS ops[i-1].k-1)>0);exact .inr ⟨by omega,by rw[I,Z,if_pos hc],h3,e3,by omega⟩;exact .inl ⟨by omega,by rw[I,Z,if_neg hc]⟩)
  refine cM [0,5,6] ?_;refine aR 1 ?_ (h:=by exact(dA rfl ot bP (iy (r:=((i-1:Nat):Int)) (by rw[kC];exact wrap_i64 O U))));refine bH ?_;refine iU [0,5,6] ?_;refine cN (FD ops[i-1].k) ?_;refine bH ?_;refine⟨((i-1),(need+(bS ops[i-1].k-1))),_,cr,aJ,w4,w4,w4,oe,rfl⟩
 have aW:jg ops n 1=i:=(by rcases hinv with ⟨_,h⟩|⟨h,_⟩;exact h;omega)
 refine af [4] ?_;exact uR
theorem Q4(ls:List aK)(g:Nat)(E:List D)(S:List ah)(p:aK→Bool)(fG:∀args w,(callFunc g args).run Tryz.prog w = .ok (.enter g args) w)(hp:∀x∈ls,VC Tryz.prog G g (.agg (cO x)::E) S (fun r S'=>r=bG (p x)∧S'=S))(hlen:ls.length≤1000000):VC Tryz.prog G 174 [au 5 cO ls,.eH (.func g) E] S (fun r S'=>r=ae (dP p ls)∧S'=S):=by
 refine VC.body func174 rfl ntmps174 aQ fun X0 w0 bf=>?_;unfold cO at hp;exact XI
theorem abY(o:aK)(nm:ByteArray)(b:Nat):VC Tryz.prog G 175 [.agg (cO o),cZ b] [⟨b,9,1,[aZ nm]⟩] (fun r S=>r=bG (mv nm o)∧S=[⟨b,9,1,[aZ nm]⟩]):=by
 refine VC.body func175 rfl ntmps175 aQ fun X0 w0 bf=>?_;unfold cO mv;refine cf ?_;refine OD.box (ds:=[_,_,_,_,_]) ap rfl rfl ot rfl rfl (fun b2=>?_);refine an 13 [1,2] ?_;refine aB 4 ?_;refine bY 7 (fun I E=>?_) (fun I E=>?_)
 ·refine bp [3] ?_;refine aM [⟨b,9,1,[aZ nm]⟩] ?_;first|exact⟨rfl,rfl⟩|(refine⟨vb ?_,rfl⟩;simp_all)
 refine bp [3] ?_;refine aM [⟨b,9,1,[aZ nm]⟩] ?_;first|exact⟨rfl,rfl⟩|(refine⟨vb ?_,rfl⟩;simp_all)
theorem abZ(o:aK):VC Tryz.prog G 176 [.agg (cO o)] [] (fun r S=>r=bG (ij o)∧S=[]):=by
 refine VC.body func176 rfl ntmps176 aQ fun X0 w0 bf=>?_;unfold cO ij;refine cf ?_;refine OD.box (ds:=[_,_,_,_,_]) ap rfl rfl ot rfl rfl (fun b1=>?_);refine an 12 [1] ?_;refine aB 4 ?_;refine bY 6 (fun I E=>?_) (fun I E=>?_)
 ·refine bp [2] ?_;refine eZ ?_;first|exact⟨rfl,rfl⟩|(refine⟨vb ?_,rfl⟩;simp_all;done)|(refine⟨vb ?_,rfl⟩;simp_all;rfl)
 refine bp [2] ?_;refine eZ ?_;first|exact⟨rfl,rfl⟩|(refine⟨vb ?_,rfl⟩;simp_all;done)|(refine⟨vb ?_,rfl⟩;simp_all;rfl)
theorem TI(a b:List UInt8):VP Tryz.prog G 64 [au 1 cB a,au 1 cB b] (ae (compareBytes a b)):=by
 exact WI
theorem ab0:(Tryz.prog.info? 5).map (fun i=>(i.zero,i.size,i.bytes))=some (some (.int .u8 0),1,1):=by kernel_rfl
theorem Jz(a:List UInt8)(ha:a.length≤1000):VP Tryz.prog G 90 [au 1 cB a] (au 1 cB a):=by
 refine VC.body func90 rfl ntmps90 aQ fun X0 w0 bf=>?_;have c8:=dV;refine af [0] ?_;refine aB 1 ?_;refine OD.Aa ap rfl rfl ot bP underlying90 (fun O rZ=>?_);refine an 8 [0,4] ?_;refine av ?_ ?_<;>intro aL bB
 ·exact Yo
 refine cf ?_;refine OD.Ab ap rfl rfl runUnderlying90 sizeOf5 (fun b5=>?_);refine aH 1 ?_;refine OD.pQ (ls:=([]:List UInt8)) (new:=a) (Sq:=[⟨b5,5,0*1,[]⟩]) pX xz ap rfl rfl underlying90 ab0 rfl w7 runUnderlying90 sizeOf5 ot (.inr ⟨b5,rfl,Nat.le_refl _,Nat.zero_le _,rfl⟩) (dI (A:=[])) ot iB iB (fun E I S7 qp=>?_);exact z139
theorem FX(l:List Vl):(gm l).1.length≤100:=by
 unfold gm;split
 ·simp
 split
 ·simp
 split
 ·simp
 simpa using by omega
theorem afK(hk:k.length≤100)(h1:b.1.length≤100)(h2:b.2.length≤100):(oJ k b).1.length≤100∧(oJ k b).2.length≤100:=by unfold oJ;split<;>exact⟨by assumption,by assumption⟩
theorem SM(hk:k.length≤100)(h1:b.1.length≤100)(h2:b.2.length≤100):(sQ k b).1.length≤100∧(sQ k b).2.length≤100:=by unfold sQ;split<;>exact⟨by assumption,by assumption⟩
theorem afL{E:Int}{eq not:Bool}(hk:k.length≤100)(h1:b.1.length≤100)(h2:b.2.length≤100):(vN E eq not k b).1.length≤100∧(vN E eq not k b).2.length≤100:=by
 unfold vN;have q1:=afK hk h1 h2;have q2:=SM hk h1 h2;have I:=SM hk q1.1 q1.2;cases(eq||(E==0)!=not)<;>cases(eq||(E==0)==not)
 ·exact⟨h1,h2⟩
 ·exact q1
 ·exact q2
 exact I
theorem zn{key:ByteArray}{not:Bool}(h1:b.1.length≤100)(h2:b.2.length≤100):(nB key ops not b).1.length≤100∧(nB key ops not b).2.length≤100:=by
 unfold nB;split
 ·exact⟨h1,h2⟩
 split
 ·exact⟨h1,h2⟩
 exact afL (FX _) h1 h2
theorem KN(key:ByteArray):∀(f:Nat) (ops:List aK) (b:lF),b.1.length≤100→b.2.length≤100→(gz key f ops b).1.length≤100∧(gz key f ops b).2.length≤100
 | 0,_,b,h1,h2=>⟨h1,h2⟩
 | f+1,ops,b,h1,h2=>by
  rw[gz];split
  ·have q:=KN key f (ops.take (jg ops (ops.length-1) 1)) b h1 h2;exact KN key f _ _ q.1 q.2
  split
  ·exact zn h1 h2
  exact zn h1 h2
theorem FE(h:runs 0 ops=some 1):1≤ops.length:=by
 cases ops with
 | nil=>rw[runs] at h;cases h
 | cons=>simp
theorem SN(h:runs 0 ops=some 1):∃(hn:ops.length-1<ops.length),runs 0 (ops.take (ops.length-1))=some (bS ops[ops.length-1].k):=by
 have hp:=FE h;have aa:ops.length-1<ops.length:=(by omega)
 refine⟨aa,?_⟩;obtain⟨h',e1,e2,E⟩:=Jf aa (by rw[show ops.length-1+1=ops.length by omega,take_length];exact h);rw[e1];congr 1;omega
theorem afM(h:runs 0 ops=some 1)(hk:nQ ops (ops.length-1)=3):jg ops (ops.length-1) 1<ops.length-1∧runs 0 (ops.take (jg ops (ops.length-1) 1))=some 1∧runs 0 ((ops.take (ops.length-1)).drop (jg ops (ops.length-1) 1))=some 1∧runs 0 (ops.take (ops.length-1))=some 2:=by
 obtain⟨hn,e⟩:=SN h;rw[vv hn] at hk;rw[hk] at e;obtain⟨q1,q2,E⟩:=SL (ops.length-1) 1 2 w4 e w7 w7;exact⟨q1,q2,E 0 w7,e⟩
variable {key:ByteArray}
theorem ahk{ls:List aK}{j:Nat}(h:j<ls.length):((ls.flatMap cO).drop (j*5+1)).take 3=cV ls[j].v:=by
 rw[←drop_drop,vp mu,drop_eq_getElem_cons h,flatMap_cons];rfl
theorem adP(hG:(2,[Value.int .i64 m])∈G)(key:ByteArray)(f:Nat)(hf:f≤40)(IH:∀(ops:List aK) (lo hi:List UInt8),ops.length≤f→runs 0 ops=some 1→(∀o∈ops,o.v.Ok)→lo.length≤100→hi.length≤100→∀b0,VC Tryz.prog G 162 [cZ b0,aZ key,au 5 cO ops] [⟨b0,230,2,[au 1 cB lo,au 1 cB hi]⟩] (fun r S=>r = .dD []∧S=[⟨b0,230,2,[.list 1 ((gz key f ops (lo,hi)).1.flatMap cB) (gz key f ops (lo,hi)).1.length,.list 1 ((gz key f ops (lo,hi)).2.flatMap cB) (gz key f ops (lo,hi)).2.length]⟩]))(ops:List aK)(lo hi:List UInt8)(hl:ops.length≤f+1)(qw:ops.length≤40)(hr:runs 0 ops=some 1)(aT:∀o∈ops,o.v.Ok)(e9:lo.length≤100)(eK:hi.length≤100)(b0:Nat):VC Tryz.prog G 162 [cZ b0,aZ key,au 5 cO ops] [⟨b0,230,2,[au 1 cB lo,au 1 cB hi]⟩] (fun r S=>r = .dD []∧S=[⟨b0,230,2,[.list 1 ((gz key (f+1) ops (lo,hi)).1.flatMap cB) (gz key (f+1) ops (lo,hi)).1.length,.list 1 ((gz key (f+1) ops (lo,hi)).2.flatMap cB) (gz key (f+1) ops (lo,hi)).2.length]⟩]):=by
 refine VC.body func162 rfl ntmps162 aQ fun X0 w0 bf=>?_;have hp0:=FE hr;obtain⟨gI,Zh⟩:=SN hr;have I:=vv gI;have c8:=dV;have uX:=uh ops[ops.length-1].k;refine cf ?_;refine OD.box (ds:=[_]) ap rfl rfl ot rfl rfl (fun b4=>?_);refine an 155 [0,2,4] ?_;refine cM [0,2,4,6] ?_;refine aR 2 ?_ (h:=by exact(dA rfl ot bP (iy (r:=((ops.length-1:Nat):Int)) (by rw[show((ops.length:Nat):Int)-1=((ops.length-1:Nat):Int) by omega];exact wrap_i64 w4 w4))));refine bH ?_;refine af [0,2,4,6,22] ?_;refine av ?_ ?_<;>intro aL bB
 ·have mg:nQ ops (ops.length-1)=3:=(by rw[I];omega)
  obtain⟨Ed,Yy,hm3,hm4⟩:=afM hr mg;have aW:(gz key (f+1) ops (lo,hi))=gz key f ((ops.take (ops.length-1)).drop (jg ops (ops.length-1) 1)) (gz key f (ops.take (jg ops (ops.length-1) 1)) (lo,hi)):=(by rw[gz,if_pos mg])
  have Ee:=KN key f (ops.take (jg ops (ops.length-1) 1)) (lo,hi) e9 eK;refine cL [0,2,4,6,7] (abX ops w4 (ops.length-1) w4 2 hm4 w7) ?_;refine CD.seq ?_;refine mE 5 [0,2,4,6,7,26,27,30] ?_;refine aR 4 ?_ (h:=by exact(eJ (l:=0) rfl ot trivial ⟨_,ot⟩ HE));refine jP ?_;refine OD.call ap rfl rfl rfl call162 (IH (ops.take (jg ops (ops.length-1) 1)) (lo) (hi) (by simp only[length_drop,length_take];omega) Yy (fun o ho=>aT o (mem_of_mem_take ho)) w4 w4 b0) ⟨ot,ot,ot,trivial⟩ (mN (k:=1) rfl) ?_;rintro _ _ ⟨rfl,rfl⟩;refine an 155 [0,2,4,6,7] ?_;refine CD.seq ?_;refine mE 6 [32,33,37] ?_;refine aR 5 ?_ (h:=by exact(eJ (l:=(jg ops (ops.length-1) 1)) (h:=(ops.length-1)) rfl ot ⟨_,ot⟩ ⟨_,ot⟩ (ag6 mu (fun h=>by cases h) (fun h=>by cases h) runUnderlying36 sizeOf35 w4 w4)));refine jP ?_;refine OD.call ap rfl rfl rfl call162 (IH ((ops.take (ops.length-1)).drop (jg ops (ops.length-1) 1)) ((gz key f (ops.take (jg ops (ops.length-1) 1)) (lo,hi)).1) ((gz key f (ops.take (jg ops (ops.length-1) 1)) (lo,hi)).2) (by simp only[length_drop,length_take];omega) hm3 (fun o ho=>aT o (mem_of_mem_take (mem_of_mem_drop ho))) w4 w4 b0) ⟨ot,ot,ot,trivial⟩ (mN (k:=0) rfl) ?_;rintro _ _ ⟨rfl,rfl⟩;refine an 155 [] ?_;exact z37
 have mg:¬nQ ops (ops.length-1)=3:=(by rw[I];omega)
 refine af [0,2,4,6,8] ?_;refine CD.cut (fun aE=>∃(bq:List aK),∃(nt:Bool),((gz key (f+1) ops (lo,hi))=nB key bq nt (lo,hi))∧(1≤bq.length)∧(bq.length≤40)∧(∀o∈bq,o.v.Ok)∧(bq.length-1<bq.length)∧aE=(⟨155,[(0,cZ b0),(2,au 5 cO bq),(4,cZ b4),(6,ae ((bq.length-1):Nat)),(8,bG nt)],[⟨b4,9,1,[aZ key]⟩,⟨b0,230,2,[au 1 cB lo,au 1 cB hi]⟩]⟩:St)) ?_ ?_
 ·refine af [0,2,4,6,8,45] ?_;refine av ?_ ?_<;>intro aY cD
  ·have U:nQ ops (ops.length-1)=5:=(by rw[I];simpa using aY)
   have iu:2≤ops.length:=(by rw[←I,U] at Zh;have:=FE Zh;rw[length_take] at this;omega)
   have Bj:(gz key (f+1) ops (lo,hi))=nB key (ops.take (ops.length-1)) true (lo,hi):=(by rw[gz,if_neg mg,if_pos U])
   have uS:(ops.take (ops.length-1)).length=(ops.length-1):=(by rw[length_take];omega)
   refine cM [0,2,4,6,8] ?_;refine aR 2 ?_ (h:=by exact(eJ (l:=0) rfl ot trivial ⟨_,ot⟩ HE));refine bH ?_;refine iU [0,2,4,6,8] ?_;refine aR 1 ?_ (h:=by exact(dA rfl ot bP (iy (r:=((ops.length-1-1:Nat):Int)) (by rw[show((ops.length-1:Nat):Int)-1=((ops.length-1-1:Nat):Int) by omega];exact wrap_i64 w4 w4))));refine bH ?_;refine⟨_,(aJ (h:=by repeat (first|exact trivial|refine⟨(by (repeat (first|exact fP|(apply gi;focus (first|rfl|(rw[uS];done)|(rw[aY];done)))|(apply fU;focus rfl)));done),?_⟩))),(ops.take (ops.length-1)),true,Bj,w4,w4,(fun o ho=>aT o (mem_of_mem_take ho)),w4,rfl⟩
  have U:¬nQ ops (ops.length-1)=5:=(by rw[I];simpa using aY)
  have Bj:(gz key (f+1) ops (lo,hi))=nB key ops false (lo,hi):=(by rw[gz,if_neg mg,if_neg U])
  refine CD.skip ?_;refine⟨_,(aJ (h:=by repeat (first|exact trivial|refine⟨(by (repeat (first|exact fP|(apply gi;focus (first|rfl|(rw[uS];done)|(rw[aY];done)))|(apply fU;focus rfl)));done),?_⟩))),ops,false,Bj,hp0,qw,aT,gI,rfl⟩
 rintro _ ⟨bq,nt,aW,oP,arb,j8,vP,rfl⟩;refine iL [0,2,4,6,8] (fun aS kV aE=>(¬(bq.length≠3∨(nt=true∧bq[bq.length-1].k≠7)∨(bq[bq.length-1].k≠6∧bq[bq.length-1].k≠7)))∧aE=(⟨155,aS,kV⟩:St)) ?_ ?_
 ·refine aB 3 ?_;refine bY 53 (fun MP L0=>?_) (fun MP L0=>?_)
  ·refine bp [0,2,4,6,8,79] ?_;refine eY ?_;exact XO
  refine aH 2 ?_;refine bY 55 (fun uw aiJ=>?_) (fun uw aiJ=>?_)
  ·refine aH 9 ?_;refine bY 64 (fun MZ L6=>?_) (fun MZ L6=>?_)
   ·refine bp [0,2,4,6,8,79] ?_;refine eY ?_;exact XO
   refine aH 7 ?_;exact z31
  refine yG 6 ?_;refine aH 10 ?_;exact z31
 rintro _ ⟨sZ,rfl⟩;refine aB 1 ?_;refine bV (eJ (l:=0) (h:=2) rfl ot trivial ⟨_,bP⟩ HE) ?_;refine bV (pR (ds:=[_]) rfl ⟨ot,trivial⟩) ?_;refine OD.call ap rfl rfl rfl call174 (Q4 (bq.take 2) 175 [cZ b4] _ (mv key) call175 (fun h _=>abY h key b4) pA) ⟨ot,ot,trivial⟩ (mN (k:=0) rfl) ?_;rintro _ SS2 ⟨rfl,E⟩;rw[E];clear E;refine an 155 [0,2,6,8,9] ?_;refine aB 1 ?_;refine bV (eJ (l:=0) (h:=2) rfl ot trivial ⟨_,bP⟩ HE) ?_;refine OD.call ap rfl rfl rfl call174 (Q4 (bq.take 2) 176 [] [] ij call176 (fun h _=>abZ h) pA) ⟨ot,tV,trivial⟩ (fg _) ?_;rintro _ SS2 ⟨rfl,E⟩;rw[E];clear E;refine an 155 [0,2,6,8,9,10] ?_;refine aB 3 ?_;refine bY 89 (fun ak4 aiK=>?_) (fun ak4 aiK=>?_)
 ·refine bp [0,2,6,8,9,10,92] ?_;refine eY ?_;exact WE
 refine bp [0,2,6,8,9,10,92] ?_;refine av ?_ ?_<;>intro da eA
 ·exact WE
 have cm:¬((dP (mv key) (bq.take 2))<0∨(dP ij (bq.take 2))<0):=(by first|omega|(simp_all;omega)|simp_all)
 have hLb:=xo ij (bq.take 2);have HZ:bq.length=3:=(by omega)
 rw[length_take] at hLb;have O:(dP ij (bq.take 2)).toNat<bq.length:=(by omega)
 have Ox:AF bq=(gm [bq[(dP ij (bq.take 2)).toNat].v]).1:=(by unfold AF;rw[getD_eq_getElem?_getD,getElem?_eq_getElem O];rfl)
 have VR:(gz key (f+1) ops (lo,hi))=vN (dP (mv key) (bq.take 2)) (bq[bq.length-1].k==6) nt (gm [bq[(dP ij (bq.take 2)).toNat].v]).1 (lo,hi):=(by rw[aW];unfold nB;rw[vv vP,if_neg sZ,if_neg cm,Ox])
 have yS:=ag9 hG [bq[(dP ij (bq.take 2)).toNat].v] iB (fun v hv=>by rw[mem_singleton] at hv;rw[hv];exact j8 _ (getElem_mem O));have dJ:=FX [bq[(dP ij (bq.take 2)).toNat].v];unfold MH Co at yS;refine cM [0,2,6,8,9,11] ?_;refine aR 2 ?_ (h:=by exact(dO 5 (h:=by first|exact .l (j:=(dP ij (bq.take 2)).toNat) w4 O|exact .r (j:=(dP ij (bq.take 2)).toNat) w4 O)));refine aR 1 ?_ (h:=by exact(cW (mk:=Op.load 33) rfl ot (qR isAgg33 sizeOf33 rfl (ahk O))));refine cN (yS) ?_;refine bH ?_;refine af [0,8,9,11,13] ?_;refine iL [0,8,9,11,13] (fun aS _ aE=>∃(b1:lF),(b1=(bif (bq[bq.length-1].k==6)||(((dP (mv key) (bq.take 2))==0)==nt) then oJ (gm [bq[(dP ij (bq.take 2)).toNat].v]).1 (lo,hi) else (lo,hi)))∧(b1.1.length≤100)∧(b1.2.length≤100)∧aE=(⟨155,aS,[⟨b0,230,2,[au 1 cB b1.1,au 1 cB b1.2]⟩]⟩:St)) ?_ ?_
 ·refine aB 2 ?_;refine bY 110 (fun LM Z=>?_) (fun LM Z=>?_)
  ·refine bp [0,8,9,11,13,115] ?_;refine eY ?_;exact z23
  refine aH 3 ?_;refine OD.still iJ rfl (dA rfl ot ot (Fu underlying4)) ?_;refine an 155 [0,8,9,11,13,115] ?_;refine av ?_ ?_<;>intro dR fH
  ·exact z23
  have DC:(lo,hi)=(bif (bq[bq.length-1].k==6)||(((dP (mv key) (bq.take 2))==0)==nt) then oJ (gm [bq[(dP ij (bq.take 2)).toNat].v]).1 (lo,hi) else (lo,hi)):=(by rw[LM,dR];rfl)
  refine CD.skip ?_;refine⟨_,aJ,(lo,hi),DC,(by first|exact dJ|exact e9),eK,rfl⟩
 rintro _ ⟨b1,jd,arc,ard,rfl⟩;refine aB 2 ?_;refine bY 129 (fun LL ahl=>?_) (fun LL ahl=>?_)
 ·refine bp [0,11,134] ?_;refine eY ?_;exact XG
 refine aH 3 ?_;refine OD.still iJ rfl (dA rfl ot ot (JI underlying4)) ?_;refine an 155 [0,11,134] ?_;refine av ?_ ?_<;>intro jb px
 ·exact XG
 have NT:((bq[bq.length-1].k==6) || !(((dP (mv key) (bq.take 2))==0)==nt))=false:=(by rw[LL,jb];rfl)
 have tG:(gz key (f+1) ops (lo,hi))=b1:=(by rw[VR];unfold vN;rw[show((bq[bq.length-1].k==6)||((dP (mv key) (bq.take 2))==0)!=nt)=false from NT,←jd];rfl)
 refine aM [⟨b0,_,_,_⟩] ?_;refine⟨rfl,?_⟩;first|rw[tG]|rw[aW]
theorem Vs(hG:(2,[Value.int .i64 m])∈G)(key:ByteArray):∀(f:Nat),f≤40→∀(ops:List aK) (lo hi:List UInt8),ops.length≤f→runs 0 ops=some 1→(∀o∈ops,o.v.Ok)→lo.length≤100→hi.length≤100→∀b0,VC Tryz.prog G 162 [cZ b0,aZ key,au 5 cO ops] [⟨b0,230,2,[au 1 cB lo,au 1 cB hi]⟩] (fun r S=>r = .dD []∧S=[⟨b0,230,2,[.list 1 ((gz key f ops (lo,hi)).1.flatMap cB) (gz key f ops (lo,hi)).1.length,.list 1 ((gz key f ops (lo,hi)).2.flatMap cB) (gz key f ops (lo,hi)).2.length]⟩]):=by
 intro f;induction f with
 | zero =>
  intro _ ops lo hi hl hr;have:=FE hr;omega
 | succ f IH =>
  intro hf ops lo hi hl hr aT e9 eK b0;exact adP hG key f w4 (IH w4) ops lo hi hl w4 hr aT e9 eK b0
def iO(l:List cH)(ops:List aK):lF×Int :=
 if fW l≠0 then (([],[]),fW l) else if ops.length=0 then (([],[]),0) else if (dU l ops).2≠0 then (([],[]),(dU l ops).2)
 else if (dU l ops).1≠1∧(dU l ops).1≠0 then (([],[]),4) else (gz (l.getD 0 ⟨⟨#[]⟩,0⟩).n ops.length ops ([],[]),0)
def OU(r:lF×Int):D:=.dD [Co r.1.1,Co r.1.2,ae r.2]
theorem adQ{l:List cH}(h:fW l=0):0<l.length:=by
 unfold fW at h;split at h
 ·cases h
 omega
theorem aaS(h:gN ops=0):runs 0 ops=some 1:=by
  obtain⟨_,h0⟩:=xp h;have key:∀(l:List aK) (k:Int),fX k l=0→runs k l=some 1:=by
    intro l;induction l with
    | nil => intro k h; rw[fX] at h; split at h; · rename_i e; rw[runs, e]
             · cases h
    | cons o r ih =>
      intro k h;rw[fX] at h;split at h
      · rename_i e;rw[runs,if_pos e];exact ih _ h
      rename_i e;exact absurd h e
  exact key ops 0 h0
theorem ab1(hm:(3,marksC)∈G)(hw:(1,wordsC)∈G)(ht:(0,typesC)∈G)(hG:(2,[Value.int .i64 m])∈G)(l:List cH)(hl:l.length≤6)(I:∀c∈l,c.n.size≤maxLen)(ops:List aK)(ho:∀o∈ops,o.nm.size≤maxLen)(aT:∀o∈ops,o.v.Ok):VP Tryz.prog G 149 [au 2 cC l,au 5 cO ops] (OU (iO l ops)):=by
 refine VC.body func149 rfl ntmps149 aQ fun X0 w0 bf=>?_;have c8:=dV;have fC:=FZ hm hw ht l w4 I;have Z:=KH hm hw ht l hl I ops ho;unfold qh at Z;unfold OU Co;refine af [0,1] ?_;refine cL [0,1,7] (fC) ?_;refine af [0,1,7,13] ?_;refine av ?_ ?_<;>intro aL bB
 ·have h0:fW l≠0:=(by simpa using aL)
  have aW:iO l ops=(([],[]),fW l):=(by unfold iO;rw[if_pos h0])
  exact G3
 have h0:¬fW l≠0:=(by simpa using aL)
 have E:=adQ (Classical.not_not.1 h0);refine af [0,1,17] ?_;refine av ?_ ?_<;>intro aY cD
 ·have h1:ops.length=0:=(by simpa using aY)
  have aW:iO l ops=(([],[]),0):=(by unfold iO;rw[if_neg h0,if_pos h1])
  exact G3
 have h1:¬ops.length=0:=(by simpa using aY)
 refine cL [0,1,6,8] (Z) ?_;refine af [0,1,6,8,25] ?_;refine av ?_ ?_<;>intro cm cR
 ·have h2:(dU l ops).2≠0:=(by simpa using cm)
  have aW:iO l ops=(([],[]),(dU l ops).2):=(by unfold iO;rw[if_neg h0,if_neg h1,if_pos h2])
  exact G3
 have h2:¬(dU l ops).2≠0:=(by simpa using cm)
 obtain⟨k1,k2,k3⟩:=F0 (Classical.not_not.1 h2);have Bj:=aaS k2;obtain⟨qw,_⟩:=xp k2;refine aB 3 ?_;refine bY 29 (fun ak5 O=>?_) (fun ak5 O=>?_)
 ·refine bp [0,1,32] ?_;refine av ?_ ?_<;>intro da eA
  ·have h3:(dU l ops).1≠1∧(dU l ops).1≠0:=(by simp_all)
   have aW:iO l ops=(([],[]),4):=(by unfold iO;rw[if_neg h0,if_neg h1,if_neg h2,if_pos h3])
   exact G3
  have h3:¬((dU l ops).1≠1∧(dU l ops).1≠0):=(by simp_all)
  have aW:iO l ops=(gz l[0].n ops.length ops ([],[]),0):=(by unfold iO;rw[if_neg h0,if_neg h1,if_neg h2,if_neg h3,getD_eq_getElem?_getD,getElem?_eq_getElem E];rfl)
  refine aB 1 ?_;refine OD.box (ds:=[_,_]) ap rfl rfl ot rfl rfl (fun U=>?_);refine OD.wk (Wk.WU (k:=0) (sz:=1) (sz':=1) rfl) ?_;refine an 50 [0,1,9] ?_;refine aB 2 ?_;refine bV (o9 (mk:=Op.indexAddr 29) rfl ot bP (by first|exact pU runUnderlying29 sizeOf28 (j:=0) rfl E|exact pY runUnderlying29 sizeOf28 (j:=0) rfl E)) ?_;refine aH 3 ?_;refine OD.call ap rfl rfl rfl call162 (Vs hG l[0].n ops.length qw ops [] [] (Nat.le_refl _) Bj aT (Nat.zero_le _) (Nat.zero_le _) U) ⟨ot,ot,ot,trivial⟩ (mN (k:=0) rfl) ?_;rintro _ _ ⟨rfl,rfl⟩;refine an 50 [9] ?_;refine af [4,5,6] ?_;exact oO
 refine bp [0,1,32] ?_;refine gq ?_;have h3:¬((dU l ops).1≠1∧(dU l ops).1≠0):=(by simp_all)
 have aW:iO l ops=(gz l[0].n ops.length ops ([],[]),0):=(by unfold iO;rw[if_neg h0,if_neg h1,if_neg h2,if_neg h3,getD_eq_getElem?_getD,getElem?_eq_getElem E];rfl)
 refine aB 1 ?_;refine OD.box (ds:=[_,_]) ap rfl rfl ot rfl rfl (fun U=>?_);refine OD.wk (Wk.WU (k:=0) (sz:=1) (sz':=1) rfl) ?_;refine an 50 [0,1,9] ?_;refine aB 2 ?_;refine bV (o9 (mk:=Op.indexAddr 29) rfl ot bP (by first|exact pU runUnderlying29 sizeOf28 (j:=0) rfl E|exact pY runUnderlying29 sizeOf28 (j:=0) rfl E)) ?_;refine aH 3 ?_;refine OD.call ap rfl rfl rfl call162 (Vs hG l[0].n ops.length qw ops [] [] (Nat.le_refl _) Bj aT (Nat.zero_le _) (Nat.zero_le _) U) ⟨ot,ot,ot,trivial⟩ (mN (k:=0) rfl) ?_;rintro _ _ ⟨rfl,rfl⟩;refine an 50 [9] ?_;refine af [4,5,6] ?_;exact uR

end Go.Proofs.YtkgmonfgofobaaaGreatDoor.Ex
namespace Go.Proofs.YtkgmonfgofobaaaGreatDoor.Tr
open List
open Go.Proofs.Tryz
open Go.Lib (compareBytes)
variable {i j:Nat}
abbrev K:=List UInt8
variable {a b c k low:K}
theorem Io(a b:UInt8)(x y:K):compareBytes (a::x) (b::y)=if a<b then -1 else if b<a then 1 else compareBytes x y:=by rw[compareBytes]
theorem u8{a b:UInt8}:a<b↔a.toNat<b.toNat:=UInt8.lt_iff_toNat_lt
theorem yT:∀(x y:K),(compareBytes x y = -1∧compareBytes y x=1)∨(compareBytes x y=0∧x=y)∨(compareBytes x y=1∧compareBytes y x = -1)
 | [],[]=>.inr (.inl ⟨rfl,rfl⟩)
 | [],_::_=>.inl ⟨rfl,rfl⟩
 | _::_,[]=>.inr (.inr ⟨rfl,rfl⟩)
 | a::x,b::y=>by
  rw[Io,Io];by_cases h1:a<b
  ·have h2:¬b<a:=(by rw[u8] at h1 ⊢;omega)
   rw[if_pos h1,if_neg h2,if_pos h1];exact .inl ⟨rfl,rfl⟩
  by_cases h2:b<a
  ·rw[if_neg h1,if_pos h2,if_pos h2];exact .inr (.inr ⟨rfl,rfl⟩)
  rw[if_neg h1,if_neg h2,if_neg h2,if_neg h1];have ry:a=b:=by
   apply UInt8.toNat_inj.1;rw[u8] at h1 h2;omega
  subst ry;rcases yT x y with h|⟨h,e⟩|h
  ·exact .inl h
  ·exact .inr (.inl ⟨h,by rw[e]⟩)
  exact .inr (.inr h)
theorem VZ:∀(x y z:K),compareBytes x y = -1→compareBytes y z = -1→compareBytes x z = -1
 | [],[],_,h,_=>by cases h
 | _::_,[],_,h,_=>by cases h
 | _,_::_,[],_,h=>by cases h
 | [],_::_,_::_,_,_=>rfl
 | a::x,b::y,c::z,h1,h2=>by
  rw[Io] at h1 h2 ⊢;by_cases p:a<b
  ·by_cases q:b<c
   ·rw[if_pos (by rw[u8] at p q ⊢;omega)]
   rw[if_neg q] at h2;by_cases r:c<b
   ·rw[if_pos r] at h2;cases h2
   rw[if_pos (by rw[u8] at p q r ⊢;omega)]
  rw[if_neg p] at h1;by_cases p':b<a
  ·rw[if_pos p'] at h1;cases h1
  rw[if_neg p'] at h1;by_cases q:b<c
  ·rw[if_pos (by rw[u8] at p p' q ⊢;omega)]
  rw[if_neg q] at h2;by_cases r:c<b
  ·rw[if_pos r] at h2;cases h2
  rw[if_neg r] at h2;rw[if_neg (by rw[u8] at p p' q r ⊢;omega),if_neg (by rw[u8] at p p' q r ⊢;omega)];exact VZ x y z h1 h2
def bu(a b:K):Prop:=compareBytes a b<0
instance (a b:K):Decidable (bu a b):=inferInstanceAs (Decidable (_<_))
theorem KO:bu a b↔compareBytes a b = -1:=by
 unfold bu;rcases yT a b with ⟨h,_⟩|⟨h,_⟩|⟨h,_⟩<;>rw[h]<;>decide
theorem Vc:0<compareBytes a b↔bu b a:=by
 unfold bu;rcases yT a b with ⟨h,h'⟩|⟨h,rfl⟩|⟨h,h'⟩
 ·rw[h,h'];decide
 ·rw[h]
 rw[h,h'];decide
theorem Lr(a:K):¬bu a []:=by
 unfold bu;cases a with
 | nil=>decide
 | cons x y=>show ¬(1:Int)<0;decide
theorem jl(a:K):¬bu a a:=fun h=>by
 rcases yT a a with ⟨h1,h2⟩|⟨h1,_⟩|⟨h1,h2⟩
 ·omega
 ·unfold bu at h;omega
 omega
theorem mw(h1:bu a b)(h2:bu b c):bu a c:=KO.2 (VZ a b c (KO.1 h1) (KO.1 h2))
theorem xA(h:bu a b):¬bu b a:=fun h'=>jl a (mw h h')
theorem zN(a b:K):bu a b∨a=b∨bu b a:=by
 unfold bu;rcases yT a b with ⟨h,_⟩|⟨_,h⟩|⟨_,h⟩
 ·exact .inl w4
 ·exact .inr (.inl h)
 exact .inr (.inr w4)
theorem pu:compareBytes a b=0↔a=b:=⟨fun h=>by
 rcases yT a b with ⟨h1,_⟩|⟨_,h1⟩|⟨h1,_⟩
 ·omega
 ·exact h1
 ·omega,fun h=>by
 subst h;rcases yT a a with ⟨h1,h2⟩|⟨h1,_⟩|⟨h1,h2⟩
 ·omega
 ·exact h1
 omega⟩
theorem Qa(h1:¬bu b a)(h2:bu b c):bu a c:=by
 rcases zN a b with h|rfl|h
 ·exact mw h h2
 ·exact h2
 exact absurd h h1
theorem aaw(h1:bu a b)(h2:¬bu c b):bu a c:=by
 rcases zN b c with h|rfl|h
 ·exact mw h1 h
 ·exact h1
 exact absurd h h2
theorem V0(h1:¬bu b a)(h2:¬bu c b):¬bu c a:=fun h=>by
 rcases zN a b with h'|rfl|h'
 ·exact h2 (mw h h')
 ·exact h2 h
 exact h1 h'
theorem rF{α β:Type}{l:List α}{f g:α→List β}(h:∀a∈l,f a=g a):l.flatMap f=l.flatMap g:=by
 induction l with
 | nil=>rfl
 | cons a r ih=>rw[flatMap_cons,flatMap_cons,h a mem_cons_self,ih fun x hx=>h x (mem_cons_of_mem _ hx)]
structure c9 where
 leaf:Bool
 keys:List K
 kids:List Int
 high:K
 next:Int
variable {p:c9}
def ak6:c9:=⟨false,[],[],[],0⟩
structure aG where
 ag:List c9
 root:Int
def aG.pg(t:aG)(i:Int):c9:=t.ag.getD i.toNat ak6
def qi:aG:=⟨[⟨true,[],[],[],-1⟩],0⟩
structure eN (p:c9) (many:Int):Prop where
 eO:p.keys.length≤4
 hlen:p.high.length≤100
 xN:-1≤p.next
 xD:p.next<many
 xO:p.next<0↔p.high=[]
 leaf:p.leaf=true→p.kids.length=p.keys.length
 node:p.leaf=false→p.kids.length=p.keys.length+1∧p.keys≠[]
 lJ:∀k∈p.keys,1≤k.length∧k.length≤100
 qW:p.high≠[]→∀k∈p.keys,bu k p.high
 ke:p.keys.Pairwise bu
 aA:∀n∈p.kids,0≤n
 vS:p.leaf=false→∀n∈p.kids,n<many
theorem eN.more{m E:Int}(h:eN p m)(hm:m≤E):eN p E :=
 ⟨h.eO,h.hlen,h.xN,by have:=h.xD;omega,h.xO,h.leaf,h.node,h.lJ,h.qW,h.ke,h.aA,fun hl n hn=>by have:=h.vS hl n hn;omega⟩
def iM(low:K)(p:c9)(j:Nat):K:=if j=0 then low else p.keys.getD (j-1) []
def iw(p:c9)(j:Nat):K:=p.keys.getD j p.high
def en(t:aG):Nat→Int→K→K→Prop
 | 0,i,low,high=>(0≤i∧i<t.ag.length)∧(t.pg i).leaf=true∧(t.pg i).high=high∧∀k∈(t.pg i).keys,¬bu k low
 | h+1,i,low,high=>(0≤i∧i<t.ag.length)∧(t.pg i).leaf=false∧(t.pg i).high=high∧(∀k∈(t.pg i).keys,¬bu k low) ∧
  ∀j (hj:j<(t.pg i).kids.length),en t h (t.pg i).kids[j] (iM low (t.pg i) j) (iw (t.pg i) j)
def ids(t:aG):Nat→Int→List Int
 | 0,i=>[i]
 | h+1,i=>i::(t.pg i).kids.flatMap (ids t h)
def cJ(t:aG):Nat→Int→List Int
 | 0,i=>[i]
 | d+1,i=>(t.pg i).kids.flatMap (cJ t d)
def fi(p:c9):List (K×Int):=p.keys.zip p.kids
def eB(t:aG):Nat→Int→List (K×Int)
 | 0,i=>fi (t.pg i)
 | h+1,i=>(t.pg i).kids.flatMap (eB t h)
def fm(t:aG):List Int→Int→Prop
 | [],_=>True
 | [i],e=>(t.pg i).next=e
 | i::j::r,e=>(t.pg i).next=j∧fm t (j::r) e
structure Valid (t:aG) (h:Nat):Prop where
 pos:1≤t.ag.length
 n9:t.ag.length≤4000
 fR:∀p∈t.ag,eN p t.ag.length
 ok:en t h t.root [] []
 AG:(ids t h t.root).Nodup
 all:(ids t h t.root).length=t.ag.length
 pM:∀d,d≤h→fm t (cJ t d t.root) (-1)
theorem en.idx{t:aG}:∀{h:Nat} {i:Int} {low high:K},en t h i low high→0≤i∧i<t.ag.length
 | 0,_,_,_,h=>h.1
 | _+1,_,_,_,h=>h.1
theorem en.high{t:aG}:∀{h:Nat} {i:Int} {low high:K},en t h i low high→(t.pg i).high=high
 | 0,_,_,_,h=>h.2.2.1
 | _+1,_,_,_,h=>h.2.2.1
theorem vI{t:aG}{i:Int}(h:0≤i∧i<t.ag.length):t.pg i=t.ag[i.toNat]'w4:=by
 unfold aG.pg;rw[getD_eq_getElem?_getD,getElem?_eq_getElem w4];rfl
theorem jK{t:aG}{i:Int}(h:0≤i∧i<t.ag.length):t.pg i∈t.ag:=by rw[vI h];exact getElem_mem _
theorem tU{t:aG}(h:Nat)(i:Int):i∈ids t h i:=by cases h<;>simp[ids]
theorem frame{t u:aG}:∀(h:Nat) (i:Int),(∀j∈ids t h i,u.pg j=t.pg j)→ids u h i=ids t h i∧eB u h i=eB t h i∧∀d,d≤h→cJ u d i=cJ t d i
 | 0,i,hp=>by
  have h0:=hp i (tU 0 i);refine⟨rfl,by unfold eB;rw[h0],fun d hd=>?_⟩;obtain rfl:d=0:=(by omega)
  rfl
 | h+1,i,hp=>by
  have h0:=hp i (tU _ i);have hs:∀j∈(t.pg i).kids,ids u h j=ids t h j∧eB u h j=eB t h j∧∀d,d≤h→cJ u d j=cJ t d j:=fun j hj=>frame h j fun x hx=>hp x (by
   rw[ids];exact mem_cons_of_mem _ (mem_flatMap.2 ⟨j,hj,hx⟩))
  refine⟨?_,?_,fun d hd=>?_⟩
  ·rw[ids,ids,h0];congr 1;exact rF (fun j hj=>(hs j hj).1)
  ·rw[eB,eB,h0];exact rF (fun j hj=>(hs j hj).2.1)
  cases d with
  | zero=>rfl
  | succ d=>rw[cJ,cJ,h0];exact rF (fun j hj=>(hs j hj).2.2 d w4)
theorem en.frame{t u:aG}(hl:t.ag.length≤u.ag.length):∀{h:Nat} {i:Int} {low high:K},en t h i low high→(∀j∈ids t h i,u.pg j=t.pg j)→en u h i low high
 | 0,i,low,high,⟨q1,q2,E,I⟩,hp=>by
  have h0:=hp i (tU 0 i);exact⟨⟨q1.1,by omega⟩,by rw[h0];exact q2,by rw[h0];exact E,by rw[h0];exact I⟩
 | h+1,i,low,high,⟨q1,q2,E,I,O⟩,hp=>by
  have h0:=hp i (tU _ i);refine⟨⟨q1.1,by omega⟩,by rw[h0];exact q2,by rw[h0];exact E,by rw[h0];exact I,?_⟩;rw[h0];exact fun j hj=>en.frame hl (O j hj) fun x hx=>hp x (by rw[ids];exact mem_cons_of_mem _ (mem_flatMap.2 ⟨_,getElem_mem hj,hx⟩))
theorem en.ids{t:aG}:∀{h:Nat} {i:Int} {low high:K},en t h i low high→∀j∈Tr.ids t h i,0≤j∧j<t.ag.length
 | 0,i,low,high,q,j,hj=>by
  rw[Tr.ids,mem_singleton] at hj;subst hj;exact q.1
 | h+1,i,low,high,⟨q1,q2,I,O,E⟩,j,hj=>by
  rw[Tr.ids] at hj;rcases mem_cons.1 hj with rfl|hj
  ·exact q1
  obtain⟨x,hx,hj⟩:=mem_flatMap.1 hj;obtain⟨n,hn,rfl⟩:=mem_iff_getElem.1 hx;exact en.ids (E n hn) j hj

theorem L7{α:Type}{p:α→Bool}:∀{l:List α} {i:Nat} (h:i<(l.takeWhile p).length),∃(h':i<l.length),p l[i]=true
 | a::r,i,h=>by
  rw[takeWhile_cons] at h;by_cases ha:p a=true
  ·rw[if_pos ha] at h;cases i with
   | zero=>exact⟨by simp,ha⟩
   | succ i =>
    obtain⟨h',q⟩:=L7 (l:=r) (i:=i) pC;exact⟨by simpa using h',by simpa using q⟩
  rw[if_neg ha] at h;simp at h
theorem Ls{α:Type}{p:α→Bool}:∀{l:List α} (h:(l.takeWhile p).length<l.length),p l[(l.takeWhile p).length]=false
 | a::r,h=>by
  by_cases ha:p a=true
  ·have e:((a::r).takeWhile p).length=(r.takeWhile p).length+1:=(by rw[takeWhile_cons,if_pos ha];rfl)
   have h2:(r.takeWhile p).length<r.length:=(by rw[e] at h;simpa using h)
   have:=Ls (l:=r) h2;simp only[e,getElem_cons_succ];exact this
  have e:((a::r).takeWhile p).length=0:=(by rw[takeWhile_cons,if_neg ha];rfl)
  simp only[e,getElem_cons_zero];simpa using ha
theorem V1{α:Type}(p:α→Bool)(l:List α):(l.takeWhile p).length≤l.length:=(takeWhile_sublist p).length_le
def gP(keys:List K)(k:K):Nat:=(keys.takeWhile fun x=>decide (bu x k)).length
def mV(keys:List K)(k:K):Nat:=(keys.takeWhile fun x=>decide (¬bu k x)).length
def aN(p:c9)(k:K):Nat:=if p.leaf=true then gP p.keys k else mV p.keys k
theorem BV{keys:List K}(h:i<gP keys k):∃(h':i<keys.length),bu keys[i] k:=by
 obtain⟨h',q⟩:=L7 h;exact⟨h',by simpa using q⟩
theorem BI{keys:List K}(h:gP keys k<keys.length):¬bu keys[gP keys k] k:=by
 exact of_decide_eq_false (Ls h)
theorem zo(keys:List K)(k:K):gP keys k≤keys.length:=V1 _ _
theorem JR{keys:List K}(h:i<mV keys k):∃(h':i<keys.length),¬bu k keys[i]:=by
 obtain⟨h',q⟩:=L7 h;exact⟨h',by simpa using q⟩
theorem Jg{keys:List K}(h:mV keys k<keys.length):bu k keys[mV keys k]:=by
 exact Classical.not_not.1 (of_decide_eq_false (Ls h))
theorem BW(keys:List K)(k:K):mV keys k≤keys.length:=V1 _ _
theorem nw{keys:List K}(h:keys.Pairwise bu)(E:i<j)(hj:j<keys.length):bu keys[i] keys[j]:=pairwise_iff_getElem.1 h i j w4 hj E
theorem Gk(h:j<p.keys.length):iw p j=p.keys[j]:=by unfold iw;rw[getD_eq_getElem?_getD,getElem?_eq_getElem h];rfl
theorem KP(h:p.keys.length≤j):iw p j=p.high:=by unfold iw;rw[getD_eq_getElem?_getD,getElem?_eq_none h];rfl
theorem F2(h:0<j)(h':j-1<p.keys.length):iM low p j=p.keys[j-1]:=by unfold iM;rw[if_neg w4,getD_eq_getElem?_getD,getElem?_eq_getElem h'];rfl
def lT(low high k:K):Prop:=¬bu k low∧(high≠[]→bu k high)
theorem uj(k:K):lT [] [] k:=⟨Lr k,fun h=>absurd rfl h⟩
theorem down{n:Int}(hp:eN p n)(hl:p.leaf=false){high:K}(E:p.high=high)(hk:lT low high k):aN p k<p.kids.length∧lT (iM low p (aN p k)) (iw p (aN p k)) k:=by
 have e:aN p k=mV p.keys k:=(by unfold aN;rw[if_neg (by rw[hl];decide)])
 have I:=BW p.keys k;rw[e];refine⟨by rw[(hp.node hl).1];omega,?_,?_⟩
 ·rcases Nat.eq_zero_or_pos (mV p.keys k) with h0|h0
  ·rw[h0];exact hk.1
  obtain⟨h',q⟩:=JR (keys:=p.keys) (k:=k) (i:=mV p.keys k-1) w4;rw[F2 h0 h'];exact q
 intro hne;by_cases aa:mV p.keys k<p.keys.length
 ·rw[Gk aa];exact Jg aa
 rw[KP w4] at hne ⊢;rw[E] at hne ⊢;exact hk.2 hne
def aI(t:aG)(k:K):Nat→Int→Int
 | 0,i=>i
 | h+1,i=>aI t k h ((t.pg i).kids.getD (aN (t.pg i) k) 0)
def jo(t:aG)(k:K):Nat→Int→List Int
 | 0,i=>[i]
 | h+1,i=>i::jo t k h ((t.pg i).kids.getD (aN (t.pg i) k) 0)
theorem Q5(t:aG)(k:K):∀(h:Nat) (i:Int),(jo t k h i).getLast?=some (aI t k h i)
 | 0,i=>rfl
 | h+1,i=>by
  have:=Q5 t k h ((t.pg i).kids.getD (aN (t.pg i) k) 0);rw[jo,aI,getLast?_cons,this];rfl
theorem wY(t:aG):∀(h:Nat) (i:Int),eB t h i=(cJ t h i).flatMap fun l=>fi (t.pg l)
 | 0,i=>by simp[eB,cJ]
 | h+1,i=>by
  rw[eB,cJ,flatMap_assoc];exact rF fun j _=>wY t h j
theorem zip_fst{α β:Type}:∀{a:List α} {b:List β},b.length=a.length→(a.zip b).map Prod.fst=a
 | [],_,_=>by simp
 | x::a,[],h=>by simp at h
 | x::a,y::b,h=>by simp[zip_fst (a:=a) (b:=b) pC]
theorem SO{x:K×Int}(h:x∈fi p):x.1∈p.keys:=(of_mem_zip h).1
theorem ua(h:j<p.kids.length):p.kids.getD j 0=p.kids[j]:=by rw[getD_eq_getElem?_getD,getElem?_eq_getElem h];rfl
variable {t:aG} {n:Int}
theorem aaT(hp:eN p n)(hl:p.leaf=false){high:K}(I:p.high=high)(E:∀k∈p.keys,¬bu k low)(hj:j<p.kids.length)(hk:lT (iM low p j) (iw p j) k):lT low high k:=by
 have hn:=(hp.node hl).1;refine⟨?_,fun hne=>?_⟩
 ·rcases Nat.eq_zero_or_pos j with rfl|h0
  ·exact hk.1
  rw[F2 h0 w4] at hk;exact V0 (E _ (getElem_mem _)) hk.1
 by_cases aa:j<p.keys.length
 ·rw[Gk aa] at hk;have hm:=getElem_mem aa;have h2:=hk.2 (by intro e;have:=(hp.lJ _ hm).1;rw[e] at this;simp at this);exact mw h2 (by rw[←I];exact hp.qW (by rw[I];exact hne) _ hm)
 rw[KP w4,I] at hk;exact hk.2 hne
theorem Jh(hp:eN p n)(hl:p.leaf=false)(I:i<j)(hj:j<p.kids.length)(ha:lT (iM low p i) (iw p i) a)(hb:lT (iM low p j) (iw p j) b):bu a b:=by
 have hn:=(hp.node hl).1;have E:i<p.keys.length:=(by omega)
 rw[Gk E] at ha;have h1:=ha.2 (by intro e;have:=(hp.lJ _ (getElem_mem E)).1;rw[e] at this;simp at this);rw[F2 w4 w4] at hb;refine aaw h1 ?_;refine V0 ?_ hb.1;rcases Nat.lt_or_ge i (j-1) with h|h
 ·exact xA (nw hp.ke h w4)
 have:j-1=i:=(by omega)
 simp only[this];exact jl _
theorem KQ(hp:∀p∈t.ag,eN p n):∀{h:Nat} {i:Int} {low high:K},en t h i low high→(eB t h i).Pairwise (fun x y=>bu x.1 y.1)∧∀x∈eB t h i,lT low high x.1
 | 0,i,low,high,ok=>by
  obtain⟨q1,q2,E,I⟩:=ok;have po:=hp _ (jK q1);rw[eB];refine⟨?_,fun x hx=>⟨I _ (SO hx),fun hne=>by rw[←E] at hne ⊢;exact po.qW hne _ (SO hx)⟩⟩;have h1:((fi (t.pg i)).map Prod.fst).Pairwise bu:=(by unfold fi;rw[zip_fst (po.leaf q2)];exact po.ke)
  exact pairwise_map.1 h1
 | h+1,i,low,high,ok=>by
  obtain⟨q1,q2,E,I,O⟩:=ok;have po:=hp _ (jK q1);rw[eB];have hk:∀j (hj:j<(t.pg i).kids.length),(eB t h (t.pg i).kids[j]).Pairwise (fun x y=>bu x.1 y.1)∧∀x∈eB t h (t.pg i).kids[j],lT (iM low (t.pg i) j) (iw (t.pg i) j) x.1:=fun j hj=>KQ hp (O j hj);refine⟨pairwise_flatMap.2 ⟨fun a ha=>?_,?_⟩,fun x hx=>?_⟩
  ·obtain⟨j,hj,rfl⟩:=mem_iff_getElem.1 ha;exact(hk j hj).1
  ·refine pairwise_iff_getElem.2 fun a b ha hb ry x hx y hy=>?_;exact Jh po q2 ry hb ((hk a ha).2 x hx) ((hk b hb).2 y hy)
  obtain⟨c,hc,hx⟩:=mem_flatMap.1 hx;obtain⟨j,hj,rfl⟩:=mem_iff_getElem.1 hc;exact aaT po q2 E I hj ((hk j hj).2 x hx)
theorem BX(hp:∀p∈t.ag,eN p n){k:K}:∀{h:Nat} {i:Int} {low high:K},en t h i low high→lT low high k →
  ∃pre post lo hi,cJ t h i=pre++aI t k h i::post∧(∀l∈pre,∀x∈fi (t.pg l),bu x.1 k)∧(∀l∈post,∀x∈fi (t.pg l),bu k x.1)∧en t 0 (aI t k h i) lo hi∧lT lo hi k
 | 0,i,low,high,ok,hk=>⟨[],[],low,high,rfl,(fun _ h=>by cases h),(fun _ h=>by cases h),ok,hk⟩
 | h+1,i,low,high,ok,hk=>by
  obtain⟨q1,q2,I,O,E⟩:=ok;have po:=hp _ (jK q1);obtain⟨d1,d2⟩:=down po q2 I hk;obtain⟨pre,post,lo,hi,e,h1,h2,h3,h4⟩:=BX hp (E _ d1) d2;have hm:∀j (hj:j<(t.pg i).kids.length),∀l∈cJ t h (t.pg i).kids[j],∀x∈fi (t.pg l),lT (iM low (t.pg i) j) (iw (t.pg i) j) x.1:=fun j hj l hl x hx =>
   (KQ hp (E j hj)).2 x (by rw[wY];exact mem_flatMap.2 ⟨l,hl,hx⟩)
  refine⟨((t.pg i).kids.take (aN (t.pg i) k)).flatMap (cJ t h)++pre,post++((t.pg i).kids.drop (aN (t.pg i) k+1)).flatMap (cJ t h),lo,hi,?_,?_,?_,?_,h4⟩
  ·rw[cJ];conv=>lhs;rw[←take_append_drop (aN (t.pg i) k) (t.pg i).kids]
   rw[drop_eq_getElem_cons d1,flatMap_append,flatMap_cons,e,aI,ua d1];simp
  ·intro l hl x hx;rcases mem_append.1 hl with hl|hl
   ·obtain⟨c,hc,hl⟩:=mem_flatMap.1 hl;obtain⟨j,hj,rfl⟩:=mem_iff_getElem.1 hc;rw[length_take] at hj;rw[getElem_take] at hl;exact Jh po q2 (show j<aN (t.pg i) k by omega) d1 (hm j w4 l hl x hx) d2
   exact h1 l hl x hx
  ·intro l hl x hx;rcases mem_append.1 hl with hl|hl
   ·exact h2 l hl x hx
   obtain⟨c,hc,hl⟩:=mem_flatMap.1 hl;obtain⟨j,hj,rfl⟩:=mem_iff_getElem.1 hc;rw[length_drop] at hj;rw[getElem_drop] at hl;exact Jh po q2 (show aN (t.pg i) k<aN (t.pg i) k+1+j by omega) w4 d2 (hm _ w4 l hl x hx)
  rw[aI,ua d1];exact h3
theorem ab2(hp:∀p∈t.ag,eN p n){h:Nat}{i:Int}{high:K}(ok:en t h i low high)(hk:lT low high k) :
  ∃pre post,cJ t h i=pre++aI t k h i::post∧(eB t h i).filter (fun x=>decide (¬bu x.1 k))=(fi (t.pg (aI t k h i))).drop (aN (t.pg (aI t k h i)) k)++post.flatMap fun l=>fi (t.pg l):=by
 obtain⟨pre,post,lo,hi,e,h1,h2,h3,h4⟩:=BX hp ok hk;refine⟨pre,post,e,?_⟩;have po:=hp _ (jK h3.1);rw[wY,e,flatMap_append,flatMap_cons,filter_append,filter_append];rw[filter_eq_nil_iff.2 (by
  intro x hx;obtain⟨l,hl,hx⟩:=mem_flatMap.1 hx;simpa using h1 l hl x hx),nil_append]
 congr 1
 ·have fA:=h3.2.1;rw[show aN (t.pg (aI t k h i)) k=gP (t.pg (aI t k h i)).keys k by unfold aN;rw[if_pos fA]];generalize I:t.pg (aI t k h i)=p at *;have E:=take_append_drop (gP p.keys k) (fi p);conv=>lhs;rw[←E]
  have hlen:=po.leaf fA;rw[filter_append,filter_eq_nil_iff.2 (by
   intro x hx;obtain⟨j,hj,rfl⟩:=mem_iff_getElem.1 hx;rw[length_take] at hj;obtain⟨h',q⟩:=BV (keys:=p.keys) (k:=k) (i:=j) w4;rw[getElem_take];simpa[fi] using q),nil_append,filter_eq_self.2]
  intro x hx;obtain⟨j,hj,rfl⟩:=mem_iff_getElem.1 hx;rw[length_drop] at hj;have fD:(fi p).length=p.keys.length:=(by unfold fi;rw[length_zip,hlen,Nat.min_self])
  have hd:gP p.keys k<p.keys.length:=(by omega)
  have he:=BI hd;rw[getElem_drop];have:¬bu p.keys[gP p.keys k+j] k:=by
   rcases Nat.eq_zero_or_pos j with rfl|h0
   ·exact he
   exact fun aa=>he (mw (nw po.ke w4 w4) aa)
  simpa[fi] using this
 rw[filter_eq_self.2];intro x hx;obtain⟨l,hl,hx⟩:=mem_flatMap.1 hx;simpa using xA (h2 l hl x hx)

end Go.Proofs.YtkgmonfgofobaaaGreatDoor.Tr
namespace Go.Proofs.YtkgmonfgofobaaaGreatDoor.Tr
open List
open Go.Proofs.Tryz
open Go.Lib (compareBytes)
variable {α:Type} {i n:Int} {p:c9} {up low:K} {h:Nat}
def ik(l:List α)(i:Nat)(x:α):List α:=l.take i++x::l.drop i
def aG.set(t:aG)(i:Int)(p:c9):aG:={t with ag:=t.ag.set i.toNat p}
variable {t:aG}
def bz(p:c9)(up:K)(aA:Int):c9 :=
 {p with keys:=ik p.keys (aN p up) up,kids:=ik p.kids (if p.leaf=true then aN p up else aN p up+1) aA}
def ig(p:c9):K:=p.keys.getD 2 []
def eC(p:c9)(n:Int):c9:={leaf:=p.leaf,keys:=p.keys.take 2,kids:=p.kids.take (if p.leaf=true then 2 else 3),high:=ig p,next:=n}
def cu(p:c9):c9:={leaf:=p.leaf,keys:=p.keys.drop (if p.leaf=true then 2 else 3),kids:=p.kids.drop (if p.leaf=true then 2 else 3),high:=p.high,next:=p.next}
def rR(t:aG)(i:Int)(up:K)(aA:Int):aG×Option (K×Int) :=
 if (bz (t.pg i) up aA).keys.length≤4 then (t.set i (bz (t.pg i) up aA),none)
 else (⟨(t.ag.set i.toNat (eC (bz (t.pg i) up aA) t.ag.length))++[cu (bz (t.pg i) up aA)],t.root⟩,some (ig (bz (t.pg i) up aA),t.ag.length))
def gQ(t:aG)(k:K)(row:Int):Nat→Int→aG×Option (K×Int)
 | 0,i=>rR t i k row
 | h+1,i=>match gQ t k row h ((t.pg i).kids.getD (aN (t.pg i) k) 0) with
  | (t',none)=>(t',none)
  | (t',some (up,aA))=>rR t' i up aA
def aiL(r:aG×Option (K×Int)):aG:=match r with
 | (t,none)=>t
 | (t,some (up,aA))=>⟨t.ag++[⟨false,[up],[t.root,aA],[],-1⟩],t.ag.length⟩
theorem oA(t:aG)(i:Int)(p:c9):(t.set i p).ag.length=t.ag.length:=by simp[aG.set]
theorem wZ(h:0≤i∧i<t.ag.length)(p:c9):(t.set i p).pg i=p:=by
 unfold aG.pg aG.set;rw[getD_eq_getElem?_getD,getElem?_set_self w4];rfl
theorem wN{j:Int}(hi:0≤i)(hj:0≤j)(h:i≠j)(p:c9):(t.set i p).pg j=t.pg j:=by
 unfold aG.pg aG.set;rw[getD_eq_getElem?_getD,getD_eq_getElem?_getD,getElem?_set_ne w4]
theorem zf(l:List α){i:Nat}(h:i≤l.length)(x:α):(ik l i x).length=l.length+1:=by unfold ik;simp;omega
theorem vj{l:List α}{i:Nat}{x y:α}:y∈ik l i x↔y=x∨y∈l:=by
 unfold ik;conv=>rhs;rw[←take_append_drop i l]
 simp only[mem_append,mem_cons];constructor
 ·rintro(h|h|h)
  ·exact .inr (.inl h)
  ·exact .inl h
  exact .inr (.inr h)
 rintro(h|h|h)
 ·exact .inr (.inl h)
 ·exact .inl h
 exact .inr (.inr h)
theorem ab3{β:Type}{a:List α}{b:List β}(h:b.length=a.length){i:Nat}(hi:i≤a.length)(x:α)(y:β):(ik a i x).zip (ik b i y)=ik (a.zip b) i (x,y):=by
 unfold ik;rw[zip_append (by simp[h]),zip_cons_cons];have h1:(a.zip b).take i=(a.take i).zip (b.take i):=take_zipWith;have h2:(a.zip b).drop i=(a.drop i).zip (b.drop i):=drop_zipWith;rw[h1,h2]
theorem JS(hp:eN p n)(hn:up∉p.keys):(∀j (hj:j<p.keys.length),j<aN p up→bu p.keys[j] up)∧(∀j (hj:j<p.keys.length),aN p up≤j→bu up p.keys[j])∧aN p up≤p.keys.length:=by
 unfold aN;split
 ·refine⟨fun j hj h=>(BV h).2,fun j hj h=>?_,zo _ _⟩;have aa:gP p.keys up<p.keys.length:=(by omega)
  have h1:=BI aa;have h2:¬bu p.keys[j] up:=by
   rcases Nat.lt_or_ge (gP p.keys up) j with h'|h'
   ·exact fun E=>h1 (mw (nw hp.ke h' hj) E)
   have:gP p.keys up=j:=(by omega)
   subst this;exact h1
  rcases zN p.keys[j] up with h|h|h
  ·exact absurd h h2
  ·exact absurd (h ▸ getElem_mem hj) hn
  exact h
 refine⟨fun j hj h=>?_,fun j hj h=>?_,BW _ _⟩
 ·have h2:=(JR h).2;rcases zN p.keys[j] up with h|h|h
  ·exact h
  ·exact absurd (h ▸ getElem_mem hj) hn
  exact absurd h h2
 have aa:mV p.keys up<p.keys.length:=(by omega)
 have h1:=Jg aa;rcases Nat.lt_or_ge (mV p.keys up) j with h'|h'
 ·exact mw h1 (nw hp.ke h' hj)
 have:mV p.keys up=j:=(by omega)
 subst this;exact h1
theorem adR(hp:eN p n)(hn:up∉p.keys):(ik p.keys (aN p up) up).Pairwise bu:=by
 obtain⟨h1,h2,h3⟩:=JS hp hn;unfold ik;have hr:=hp.ke;conv at hr=>rw[←take_append_drop (aN p up) p.keys]
 rw[pairwise_append] at hr;rw[pairwise_append,pairwise_cons];refine⟨hr.1,⟨fun y hy=>?_,hr.2.1⟩,fun x hx y hy=>?_⟩
 ·obtain⟨j,hj,rfl⟩:=mem_iff_getElem.1 hy;rw[length_drop] at hj;rw[getElem_drop];exact h2 _ w4 w4
 rcases mem_cons.1 hy with rfl|hy
 ·obtain⟨j,hj,rfl⟩:=mem_iff_getElem.1 hx;rw[length_take] at hj;rw[getElem_take];exact h1 _ w4 w4
 exact hr.2.2 x hx y hy
structure xB (p:c9) (many:Int):Prop where
 eO:p.keys.length≤5
 hlen:p.high.length≤100
 xN:-1≤p.next
 xD:p.next<many
 xO:p.next<0↔p.high=[]
 leaf:p.leaf=true→p.kids.length=p.keys.length
 node:p.leaf=false→p.kids.length=p.keys.length+1∧p.keys≠[]
 lJ:∀k∈p.keys,1≤k.length∧k.length≤100
 qW:p.high≠[]→∀k∈p.keys,bu k p.high
 ke:p.keys.Pairwise bu
 aA:∀n∈p.kids,0≤n
 vS:p.leaf=false→∀n∈p.kids,n<many
theorem xB.ok(h:xB p n)(hl:p.keys.length≤4):eN p n:=⟨hl,h.hlen,h.xN,h.xD,h.xO,h.leaf,h.node,h.lJ,h.qW,h.ke,h.aA,h.vS⟩
theorem JT(hp:eN p n){aA:Int}(hn:up∉p.keys)(U:1≤up.length∧up.length≤100)(Z:p.high≠[]→bu up p.high)(hk:0≤aA)(O:p.leaf=false→aA<n):xB (bz p up aA) n:=by
 obtain⟨_,_,h3⟩:=JS hp hn;have hf:=hp.eO;refine⟨?_,hp.hlen,hp.xN,hp.xD,hp.xO,fun hl=>?_,fun hl=>?_,fun k I=>?_,fun hne k I=>?_,adR hp hn,fun m hm=>?_,fun hl m hm=>?_⟩
 ·show(ik _ _ _).length≤5;rw[zf _ h3];omega
 ·have E:p.leaf=true:=hl;show(ik _ _ _).length=(ik _ _ _).length;rw[if_pos E,zf _ h3,zf _ (by rw[hp.leaf E];exact h3),hp.leaf E]
 ·have E:p.leaf=false:=hl;refine⟨?_,?_⟩
  ·show(ik _ _ _).length=(ik _ _ _).length+1;rw[if_neg (by rw[E];decide),zf _ h3,zf _ (by rw[(hp.node E).1];omega),(hp.node E).1]
  show ik _ _ _≠[];intro e;have:=congrArg length e;rw[zf _ h3] at this;simp at this
 ·rcases vj.1 I with rfl|h
  ·exact U
  exact hp.lJ k h
 ·rcases vj.1 I with rfl|h
  ·exact Z hne
  exact hp.qW hne k h
 ·rcases vj.1 hm with rfl|h
  ·exact hk
  exact hp.aA m h
 rcases vj.1 hm with rfl|h
 ·exact O hl
 exact hp.vS hl m h
theorem zO(h:p.keys.length=5):ig p=p.keys[2]:=by unfold ig;rw[getD_eq_getElem?_getD,getElem?_eq_getElem w4];rfl
theorem Vt(hp:xB p n)(h5:p.keys.length=5)(h0:0≤n):eN (eC p n) (n+1):=by
 have U:=zO h5;have I:ig p∈p.keys:=(by rw[U];exact getElem_mem _)
 refine⟨?_,(hp.lJ _ I).2,by show -1≤n;omega,by show n<n+1;omega,?_,fun hl=>?_,fun hl=>?_,fun k hk=>hp.lJ k (mem_of_mem_take hk),fun _ k hk=>?_,hp.ke.sublist (take_sublist _ _),fun x hx=>hp.aA x (mem_of_mem_take hx),fun hl x hx=>?_⟩
 ·show(p.keys.take 2).length≤4;rw[length_take];omega
 ·show n<0↔ig p=[];have:=(hp.lJ _ I).1;exact⟨fun h=>by omega,fun h=>by rw[h] at this;simp at this⟩
 ·have E:p.leaf=true:=hl;show(p.kids.take (if p.leaf=true then 2 else 3)).length=(p.keys.take 2).length;rw[if_pos E,length_take,length_take,hp.leaf E]
 ·have E:p.leaf=false:=hl;refine⟨?_,?_⟩
  ·show(p.kids.take (if p.leaf=true then 2 else 3)).length=(p.keys.take 2).length+1;rw[if_neg (by rw[E];decide),length_take,length_take,(hp.node E).1];omega
  show p.keys.take 2≠[];intro e;have:=congrArg length e;rw[length_take,h5] at this;cases this
 ·have O:k∈p.keys.take 2:=hk;obtain⟨j,hj,rfl⟩:=mem_iff_getElem.1 O;rw[length_take] at hj;show bu (p.keys.take 2)[j] (ig p);rw[getElem_take,U];exact nw hp.ke w4 w4
 have E:p.leaf=false:=hl;have:=hp.vS E x (mem_of_mem_take hx);omega
theorem Ur{m:Int}(hp:xB p n)(h5:p.keys.length=5)(hm:n≤m):eN (cu p) m:=by
 refine⟨?_,hp.hlen,hp.xN,by have:=hp.xD;show p.next<m;omega,hp.xO,fun hl=>?_,fun hl=>?_,fun k hk=>hp.lJ k (mem_of_mem_drop hk),fun hne k hk=>hp.qW hne k (mem_of_mem_drop hk),hp.ke.sublist (drop_sublist _ _),fun x hx=>hp.aA x (mem_of_mem_drop hx),fun hl x hx=>?_⟩
 ·show(p.keys.drop _).length≤4;rw[length_drop];split<;>omega
 ·have E:p.leaf=true:=hl;show(p.kids.drop _).length=(p.keys.drop _).length;rw[length_drop,length_drop,hp.leaf E]
 ·have E:p.leaf=false:=hl;refine⟨?_,?_⟩
  ·show(p.kids.drop _).length=(p.keys.drop _).length+1;rw[length_drop,length_drop,(hp.node E).1,if_neg (by rw[E];decide)];omega
  show p.keys.drop _≠[];intro e;have:=congrArg length e;rw[length_drop,if_neg (by rw[E];decide)] at this;simp at this;omega
 have E:p.leaf=false:=hl;have:=hp.vS E x (mem_of_mem_drop hx);omega

def jy(t:aG)(h:Nat):K→List Int→List K→K→Prop
 | low,c::cs,ks,high=>match cs,ks with
  | [],[]=>en t h c low high
  | _::_,k::ks=>en t h c low k∧jy t h k cs ks high
  | _,_=>False
 | _,[],_,_=>False
theorem BY{high:K}{c:Int}:jy t h low [c] [] high↔en t h c low high:=by rw[jy]
theorem qF{high k:K}{c d:Int}{cs:List Int}{ks:List K}:jy t h low (c::d::cs) (k::ks) high↔en t h c low k∧jy t h k (d::cs) ks high:=by rw[jy]
theorem JU{t:aG}{h:Nat}{high:K}:∀{kids:List Int} {keys:List K} {low:K},kids.length=keys.length+1 →
  ((∀j (hj:j<kids.length),en t h kids[j] (if j=0 then low else keys.getD (j-1) []) (keys.getD j high))↔jy t h low kids keys high)
 | [],keys,low,e=>by simp at e
 | [c],[],low,e=>by
  rw[BY];constructor
  ·intro q;exact q 0 bj
  intro q j hj;obtain rfl:j=0:=(by simpa using hj)
  exact q
 | [c],k::ks,low,e=>by simp at e
 | c::d::cs,[],low,e=>by simp at e
 | c::d::cs,k::ks,low,e=>by
  rw[qF,←JU (kids:=d::cs) (keys:=ks) (low:=k) (by simpa using e)];constructor
  ·intro q;refine⟨q 0 bj,fun j hj=>?_⟩;have:=q (j+1) (by simpa using hj);rw[if_neg w4] at this;simp only[getElem_cons_succ,Nat.add_sub_cancel,getD_cons_succ] at this;cases j with
   | zero=>exact this
   | succ j=>exact this
  rintro⟨q0,q⟩ j hj;cases j with
  | zero=>exact q0
  | succ j =>
   have:=q j (by simpa using hj);rw[if_neg w4];simp only[getElem_cons_succ,Nat.add_sub_cancel,getD_cons_succ];cases j with
   | zero=>exact this
   | succ j=>exact this
theorem Cb{high:K}(hp:eN (t.pg i) n):en t (h+1) i low high↔(0≤i∧i<t.ag.length)∧(t.pg i).leaf=false∧(t.pg i).high=high∧(∀k∈(t.pg i).keys,¬bu k low)∧jy t h low (t.pg i).kids (t.pg i).keys high:=by
 constructor
 ·rintro⟨q1,q2,E,O,I⟩;refine⟨q1,q2,E,O,?_⟩;rw[←JU (hp.node q2).1];intro j hj;have:=I j hj;unfold iM iw at this;rw[E] at this;exact this
 rintro⟨q1,q2,E,O,I⟩;refine⟨q1,q2,E,O,?_⟩;rw[←JU (hp.node q2).1] at I;intro j hj;have:=I j hj;unfold iM iw;rw[E];exact this
theorem SP{t u:aG}{h:Nat}{high:K}:∀{kids:List Int} {keys:List K} {low:K},jy t h low kids keys high→(∀c∈kids,∀lo hi,en t h c lo hi→en u h c lo hi)→jy u h low kids keys high
 | [],keys,low,q,_=>by simp[jy] at q
 | [c],[],low,q,f=>by rw[BY] at q ⊢;exact f c bj _ _ q
 | [c],k::ks,low,q,f=>by simp[jy] at q
 | c::d::cs,[],low,q,f=>by simp[jy] at q
 | c::d::cs,k::ks,low,q,f=>by
  rw[qF] at q ⊢;exact⟨f c bj _ _ q.1,SP q.2 fun x hx=>f x (by simp at hx ⊢;exact .inr hx)⟩
theorem SQ{t u:aG}{h:Nat}{high up:K}{aA:Int}:∀(j:Nat) {kids:List Int} {keys:List K} {low:K} (hj:j<kids.length),jy t h low kids keys high →
  (∀c∈kids.eraseIdx j,∀lo hi,en t h c lo hi→en u h c lo hi) →
  (en u h kids[j] (if j=0 then low else keys.getD (j-1) []) up)→en u h aA up (keys.getD j high)→jy u h low (ik kids (j+1) aA) (ik keys j up) high
 | 0,[],keys,low,hj,q,f,q1,q2=>by simp at hj
 | 0,[c],[],low,hj,q,f,q1,q2=>by
  show jy u h low [c,aA] [up] high;rw[qF,BY];exact⟨q1,q2⟩
 | 0,[c],k::ks,low,hj,q,f,q1,q2=>by simp[jy] at q
 | 0,c::d::cs,[],low,hj,q,f,q1,q2=>by simp[jy] at q
 | 0,c::d::cs,k::ks,low,hj,q,f,q1,q2=>by
  show jy u h low (c::aA::d::cs) (up::k::ks) high;rw[qF,qF];rw[qF] at q;exact⟨q1,q2,SP q.2 fun x hx=>f x (by simpa using hx)⟩
 | j+1,[],keys,low,hj,q,f,q1,q2=>by simp at hj
 | j+1,[c],keys,low,hj,q,f,q1,q2=>by simp at hj
 | j+1,c::d::cs,[],low,hj,q,f,q1,q2=>by simp[jy] at q
 | j+1,c::d::cs,k::ks,low,hj,q,f,q1,q2=>by
  rw[qF] at q;have e1:ik (c::d::cs) (j+1+1) aA=c::ik (d::cs) (j+1) aA:=rfl;have e2:ik (k::ks) (j+1) up=k::ik ks j up:=rfl;rw[e1,e2];have ih:=SQ (t:=t) (u:=u) (up:=up) (aA:=aA) j (kids:=d::cs) (keys:=ks) (low:=k) (by simpa using hj) q.2 (fun x hx=>f x (by rw[eraseIdx_cons_succ];exact mem_cons_of_mem _ hx)) (by
   have:=q1;rw[if_neg w4] at this;simp only[getElem_cons_succ,Nat.add_sub_cancel] at this;cases j with
   | zero=>exact this
   | succ j=>exact this) (by simpa using q2)
  have E:ik (d::cs) (j+1) aA=d::ik cs j aA:=rfl;rw[E] at ih ⊢;rw[qF];exact⟨f c (by rw[eraseIdx_cons_succ];simp) _ _ q.1,ih⟩
theorem Qs{t:aG}{h:Nat}{high:K}:∀(m:Nat) {kids:List Int} {keys:List K} {low:K} (hm:m<keys.length),jy t h low kids keys high→jy t h low (kids.take (m+1)) (keys.take m) keys[m]∧jy t h keys[m] (kids.drop (m+1)) (keys.drop (m+1)) high
 | 0,c::d::cs,k::ks,low,hm,q=>by
  rw[qF] at q;exact⟨BY.2 q.1,q.2⟩
 | m+1,c::d::cs,k::ks,low,hm,q=>by
  rw[qF] at q;obtain⟨q1,q2⟩:=Qs m (kids:=d::cs) (keys:=ks) (by simpa using hm) q.2;refine⟨?_,q2⟩;have e:(c::d::cs).take (m+1+1)=c::d::cs.take m:=rfl;rw[e];show jy t h low (c::d::cs.take m) (k::ks.take m) _;rw[qF];exact⟨q.1,q1⟩
 | _,_,[],_,hm,_=>by simp at hm
 | _,[],_::_,_,_,q=>by simp[jy] at q
 | _,[c],_::_,_,_,q=>by simp[jy] at q
theorem Cc{t:aG}{e:Int}:∀{a b:List Int},fm t (a++b) e↔fm t a (b.headD e)∧fm t b e
 | [],b=>by simp[fm]
 | [i],[]=>by simp[fm]
 | [i],j::b=>by simp[fm]
 | i::j::a,b=>by
  have:=Cc (t:=t) (e:=e) (a:=j::a) (b:=b);show(t.pg i).next=j∧fm t (j::a++b) e↔((t.pg i).next=j∧fm t (j::a) (b.headD e))∧fm t b e;rw[this,and_assoc]
theorem zg{t u:aG}:∀{a:List Int} {e:Int},(∀j∈a,(u.pg j).next=(t.pg j).next)→fm t a e→fm u a e
 | [],e,_,_=>trivial
 | [i],e,f,h=>by show(u.pg i).next=e;rw[f i bj];exact h
 | i::j::a,e,f,h=>⟨by rw[f i bj];exact h.1,zg (fun x hx=>f x (mem_cons_of_mem _ hx)) h.2⟩
theorem Gl{t:aG}{n:Int}(hp:∀p∈t.ag,eN p n):∀{h:Nat} {i:Int} {low high:K},en t h i low high→∀d,d≤h→cJ t d i≠[]
 | 0,i,low,high,ok,d,hd=>by
  obtain rfl:d=0:=(by omega)
  simp[cJ]
 | h+1,i,low,high,ok,d,hd=>by
  cases d with
  | zero=>simp[cJ]
  | succ d =>
   obtain⟨q1,q2,I,O,E⟩:=ok;have po:=hp _ (jK q1);have hl:=(po.node q2).1;have h0:0<(t.pg i).kids.length:=(by omega)
   have:=Gl hp (E 0 h0) d w4;rw[cJ];intro e;rw[flatMap_eq_nil_iff] at e;exact this (e _ (getElem_mem h0))
theorem sM{t:aG}:∀(h:Nat) (i:Int) (d:Nat),d≤h→∀x∈cJ t d i,x∈ids t h i
 | 0,i,d,hd,x,hx=>by
  obtain rfl:d=0:=(by omega)
  exact hx
 | h+1,i,0,hd,x,hx=>by
  have:x=i:=(by simpa[cJ] using hx)
  subst this;exact tU _ _
 | h+1,i,d+1,hd,x,hx=>by
  rw[cJ] at hx;obtain⟨c,hc,hx⟩:=mem_flatMap.1 hx;rw[ids];exact mem_cons_of_mem _ (mem_flatMap.2 ⟨c,hc,sM h c d w4 x hx⟩)
theorem Fi{a b:List α}(h:a≠[])(e:α):(a++b).headD e=a.headD e:=by
 cases a with
 | nil=>exact absurd rfl h
 | cons x r=>rfl

def oc(t:aG)(h:Nat)(i:Int):Option (K×Int)→List Int
 | none=>ids t h i
 | some (_,aA)=>ids t h i++ids t h aA
def GQ(t:aG)(h:Nat)(i:Int):Option (K×Int)→List (K×Int)
 | none=>eB t h i
 | some (_,aA)=>eB t h i++eB t h aA
def td(t:aG)(d:Nat)(i:Int):Option (K×Int)→List Int
 | none=>cJ t d i
 | some (_,aA)=>cJ t d i++cJ t d aA
def om(t:aG)(h:Nat)(i:Int)(low high:K):Option (K×Int)→Prop
 | none=>en t h i low high
 | some (up,aA)=>(1≤up.length∧up.length≤100)∧bu low up∧(high≠[]→bu up high)∧en t h i low up∧en t h aA up high
structure oU (t u:aG) (h:Nat) (i:Int) (low high:K) (k:K) (row:Int) (r:Option (K×Int)):Prop where
 le:t.ag.length≤u.ag.length
 more:u.ag.length≤t.ag.length+(h+1)
 root:u.root=t.root
 fR:∀p∈u.ag,eN p u.ag.length
 out:∀j:Int,0≤j→j<t.ag.length→j∉ids t h i→u.pg j=t.pg j
 ok:om u h i low high r
 sub:∀x∈oc u h i r,x∈ids t h i∨(t.ag.length:Int)≤x
 nodup:(oc u h i r).Nodup
 Zi:(oc u h i r).length+t.ag.length=(ids t h i).length+u.ag.length
 eB:∀x,x∈GQ u h i r↔x=(k,row)∨x∈eB t h i
 pM:∀d,d≤h→∀e,fm t (cJ t d i) e→fm u (td u d i r) e∧(td u d i r).headD e=(cJ t d i).headD e
def jA(t:aG)(i:Int)(a b:c9):aG:=⟨(t.ag.set i.toNat a)++[b],t.root⟩
theorem pT(t:aG)(i:Int)(a b:c9):(jA t i a b).ag.length=t.ag.length+1:=by simp[jA]
theorem Q6(h:0≤i∧i<t.ag.length)(a b:c9):(jA t i a b).pg i=a:=by
 unfold aG.pg jA;rw[getD_eq_getElem?_getD,getElem?_append_left wc,getElem?_set_self w4];rfl
theorem SR(t:aG)(i:Int)(a b:c9):(jA t i a b).pg t.ag.length=b:=by
 unfold aG.pg jA;rw[getD_eq_getElem?_getD,getElem?_append_right wc,length_set];simp
theorem Qt{j:Int}(hi:0≤i)(hj:0≤j∧j<t.ag.length)(h:i≠j)(a b:c9):(jA t i a b).pg j=t.pg j:=by
 unfold aG.pg jA;rw[getD_eq_getElem?_getD,getD_eq_getElem?_getD,getElem?_append_left wc,getElem?_set_ne w4]
theorem Ji{q:c9}(hp:∀p∈t.ag,eN p n)(hq:eN q n):∀p∈(t.set i q).ag,eN p n:=fun p h=>by
 rcases mem_or_eq_of_mem_set h with h|rfl
 ·exact hp p h
 exact hq
theorem Qu{a b:c9}{m:Int}(hp:∀p∈t.ag,eN p n)(hm:n≤m)(ha:eN a m)(hb:eN b m):∀p∈(jA t i a b).ag,eN p m:=fun p h=>by
 unfold jA at h;rcases mem_append.1 h with h|h
 ·rcases mem_or_eq_of_mem_set h with h|rfl
  ·exact(hp p h).more hm
  exact ha
 rw[mem_singleton] at h;subst h;exact hb
theorem JV{aA:Int}(h:(bz (t.pg i) up aA).keys.length≤4):rR t i up aA=(t.set i (bz (t.pg i) up aA),none):=by unfold rR;rw[if_pos h]
theorem Jj{aA:Int}(h:¬(bz (t.pg i) up aA).keys.length≤4):rR t i up aA=(jA t i (eC (bz (t.pg i) up aA) t.ag.length) (cu (bz (t.pg i) up aA)),some (ig (bz (t.pg i) up aA),(t.ag.length:Int))):=by unfold rR;rw[if_neg h];rfl
theorem Us{q:c9}(hr:q.keys.Pairwise bu)(h5:q.keys.length=5)(hl:∀k∈q.keys,¬bu k low):bu low (ig q)∧(∀k∈q.keys.drop 2,¬bu k (ig q)):=by
 rw[zO h5];refine⟨Qa (hl _ (getElem_mem (by omega:0<q.keys.length))) (nw hr w4 w4),fun k hk=>?_⟩;obtain⟨j,hj,rfl⟩:=mem_iff_getElem.1 hk;rw[length_drop] at hj;rw[getElem_drop];rcases Nat.eq_zero_or_pos j with rfl|h0
 ·exact jl _
 exact xA (nw hr w4 w4)
theorem adS(hp:∀p∈t.ag,eN p t.ag.length){high:K}(ok:en t 0 i low high){k:K}{row:Int}(hk:lT low high k)(hn:∀x∈eB t 0 i,x.1≠k)(hl:1≤k.length∧k.length≤100)(hr:0≤row):oU t (rR t i k row).1 0 i low high k row (rR t i k row).2:=by
 obtain⟨q1,q2,O,q4⟩:=ok;have po:=hp _ (jK q1);have U:k∉(t.pg i).keys:=fun hm=>by
  obtain⟨j,hj,e⟩:=mem_iff_getElem.1 hm;have hlen:=po.leaf q2;refine hn ((t.pg i).keys[j],(t.pg i).kids[j]'w4) ?_ e;show _∈fi (t.pg i);unfold fi;exact mem_iff_getElem.2 ⟨j,by rw[length_zip];omega,by rw[getElem_zip]⟩
 have hf:xB (bz (t.pg i) k row) t.ag.length:=JT po U hl (fun hne=>hk.2 (by rw[←O];exact hne) |> fun h=>by rw[O];exact h) hr (fun h=>by rw[q2] at h;cases h);have fD:=(JS po U).2.2;have hE:fi (bz (t.pg i) k row)=ik (fi (t.pg i)) (aN (t.pg i) k) (k,row):=by
  show(ik _ _ _).zip (ik _ _ _)=_;rw[if_pos q2];exact ab3 (po.leaf q2) fD k row
 have E:∀x∈(bz (t.pg i) k row).keys,¬bu x low:=fun x hx=>by
  rcases vj.1 hx with rfl|h
  ·exact hk.1
  exact q4 x h
 by_cases h4:(bz (t.pg i) k row).keys.length≤4
 ·rw[JV h4];have Z:=wZ q1 (bz (t.pg i) k row);refine⟨by rw[oA];omega,by rw[oA];omega,rfl,by rw[oA];exact Ji hp (hf.ok h4),fun j h0 hj hne=>?_,?_,fun x hx=>.inl hx,?_,by rw[oA];rfl,fun x=>?_,fun d hd e hs=>?_⟩
  ·exact wN q1.1 h0 (by intro e;subst e;simp[ids] at hne) _
  ·exact⟨by rw[oA];exact q1,by rw[Z];exact q2,by rw[Z];exact O,by rw[Z];exact E⟩
  ·show[i].Nodup;simp
  ·show x∈fi ((t.set i _).pg i)↔_;rw[Z,hE,vj];rfl
  obtain rfl:d=0:=(by omega)
  refine⟨?_,rfl⟩;show((t.set i _).pg i).next=e;rw[Z];exact hs
 have h5:(bz (t.pg i) k row).keys.length=5:=(by have:=hf.eO;omega)
 rw[Jj h4];have I:(bz (t.pg i) k row).leaf=true:=q2;have ea:=Q6 q1 (eC (bz (t.pg i) k row) t.ag.length) (cu (bz (t.pg i) k row));have eb:=SR t i (eC (bz (t.pg i) k row) t.ag.length) (cu (bz (t.pg i) k row));obtain⟨u1,u2⟩:=Us hf.ke h5 E;have Ef:ig (bz (t.pg i) k row)∈(bz (t.pg i) k row).keys:=(by rw[zO h5];exact getElem_mem _)
 have ir:fi (eC (bz (t.pg i) k row) t.ag.length)++fi (cu (bz (t.pg i) k row))=fi (bz (t.pg i) k row):=by
  show((bz (t.pg i) k row).keys.take 2).zip ((bz (t.pg i) k row).kids.take (if (bz (t.pg i) k row).leaf=true then 2 else 3))++((bz (t.pg i) k row).keys.drop (if (bz (t.pg i) k row).leaf=true then 2 else 3)).zip ((bz (t.pg i) k row).kids.drop (if (bz (t.pg i) k row).leaf=true then 2 else 3))=_;rw[if_pos I,←zip_append (by rw[length_take,length_take,hf.leaf I]),take_append_drop,take_append_drop];rfl
 refine⟨by rw[pT];omega,by rw[pT];omega,rfl,?_,fun j h0 hj hne=>?_,⟨hf.lJ _ Ef,u1,fun hne=>hf.qW (by show(t.pg i).high≠[];rw[O];exact hne) _ Ef |> fun h=>by rw[←O];exact h,?_,?_⟩,fun x hx=>?_,?_,by rw[pT];show[i,(t.ag.length:Int)].length+_=[i].length+_;simp;omega,fun x=>?_,fun d hd e hs=>?_⟩
 ·rw[pT];exact Qu hp w4 (Vt hf h5 w4) (Ur hf h5 w4)
 ·exact Qt q1.1 ⟨h0,hj⟩ (by intro e;subst e;simp[ids] at hne) _ _
 ·exact⟨by rw[pT];omega,by rw[ea];exact I,by rw[ea];rfl,by rw[ea];exact fun x hx=>E x (mem_of_mem_take hx)⟩
 ·refine⟨by rw[pT];omega,by rw[eb];exact I,by rw[eb];exact O,?_⟩;rw[eb];show ∀x∈(bz (t.pg i) k row).keys.drop (if (bz (t.pg i) k row).leaf=true then 2 else 3),_;rw[if_pos I];exact u2
 ·have pE:x∈[i,(t.ag.length:Int)]:=hx;simp only[mem_cons,not_mem_nil,or_false] at pE;rcases pE with rfl|rfl
  ·exact .inl (by simp[ids])
  exact .inr (Int.le_refl _)
 ·show[i,(t.ag.length:Int)].Nodup;simp;omega
 ·show x∈fi ((jA t i _ _).pg i)++fi ((jA t i _ _).pg _)↔_;rw[ea,eb,ir,hE,vj];rfl
 obtain rfl:d=0:=(by omega)
 refine⟨?_,rfl⟩;show((jA t i _ _).pg i).next=_∧((jA t i _ _).pg _).next=e;rw[ea,eb];exact⟨rfl,hs⟩

end Go.Proofs.YtkgmonfgofobaaaGreatDoor.Tr

namespace Go.Proofs.YtkgmonfgofobaaaGreatDoor.Tr
open List
open Go.Proofs.Tryz
open Go.Lib (compareBytes)
variable {α:Type} {A B:List Int} {v:aG}
theorem KR{keys:List K}(hr:keys.Pairwise bu){up:K}{j:Nat}(hj:j≤keys.length)(h1:∀(h:0<j),¬bu up (keys[j-1]'w4))(h2:∀(h:j<keys.length),bu up keys[j]):mV keys up=j:=by
 have E:=BW keys up;rcases Nat.lt_trichotomy (mV keys up) j with h|h|h
 ·exfalso;have aa:mV keys up<keys.length:=(by omega)
  have h3:=Jg aa;have h4:=h1 w4;rcases Nat.lt_or_ge (mV keys up) (j-1) with h5|h5
  ·exact h4 (mw h3 (nw hr h5 w4))
  have:mV keys up=j-1:=(by omega)
  simp only[this] at h3;exact h4 h3
 ·exact h
 exact absurd (h2 w4) (JR h).2
theorem Qb{l:List α}{j:Nat}(hj:j<l.length)(x:α):ik l (j+1) x=l.take j++l[j]::x::l.drop (j+1):=by
 unfold ik;rw[take_succ_eq_append_getElem hj,append_assoc];rfl
theorem vm{l:List α}{j:Nat}(hj:j<l.length):l=l.take j++l[j]::l.drop (j+1):=by
 conv=>lhs;rw[←take_append_drop j l,drop_eq_getElem_cons hj]
theorem aax{l:List α}{j:Nat}{x:α}(h:x∈l.eraseIdx j):x∈l.take j∨x∈l.drop (j+1):=by
 rw[eraseIdx_eq_take_drop_succ] at h;exact mem_append.1 h
variable {t:aG}
theorem wO{h:Nat}{i:Int}{j:Nat}(hj:j<(t.pg i).kids.length)(hn:(ids t (h+1) i).Nodup):(ids t h (t.pg i).kids[j]).Nodup∧i∉ids t h (t.pg i).kids[j]∧(∀x∈(t.pg i).kids.take j++(t.pg i).kids.drop (j+1),(∀y∈ids t h x,y∉ids t h (t.pg i).kids[j])∧i∉ids t h x) ∧
  (((t.pg i).kids.take j).flatMap (ids t h)++((t.pg i).kids.drop (j+1)).flatMap (ids t h)).Nodup∧i∉((t.pg i).kids.take j).flatMap (ids t h)++((t.pg i).kids.drop (j+1)).flatMap (ids t h):=by
 rw[ids,nodup_cons] at hn;obtain⟨h0,hn⟩:=hn;have hs:=vm hj;rw[hs,flatMap_append,flatMap_cons] at hn h0;simp only[mem_append,not_or] at h0;rw[nodup_append] at hn;obtain⟨n1,n2,n3⟩:=hn;rw[nodup_append] at n2;obtain⟨n4,n5,n6⟩:=n2;refine⟨n4,h0.2.1,fun x hx=>?_,?_,?_⟩
 ·rcases mem_append.1 hx with hx|hx
  ·exact⟨fun y hy hc=>n3 y (mem_flatMap.2 ⟨x,hx,hy⟩) y (mem_append_left _ hc) rfl,fun hi=>h0.1 (mem_flatMap.2 ⟨x,hx,hi⟩)⟩
  exact⟨fun y hy hc=>n6 y hc y (mem_flatMap.2 ⟨x,hx,hy⟩) rfl,fun hi=>h0.2.2 (mem_flatMap.2 ⟨x,hx,hi⟩)⟩
 ·rw[nodup_append];exact⟨n1,n5,fun a ha b hb=>n3 a ha b (mem_append_right _ hb)⟩
 simp only[mem_append,not_or];exact⟨h0.1,h0.2.2⟩
theorem Jk{f g:Int→List α}{c aA:Int}(hA:∀x∈A,f x=g x)(E:∀x∈B,f x=g x):(A++c::aA::B).flatMap f=A.flatMap g++(f c++f aA)++B.flatMap g:=by
 rw[flatMap_append,flatMap_cons,flatMap_cons,rF hA,rF E];simp
theorem JW{f g:Int→List α}{c:Int}(hA:∀x∈A,f x=g x)(E:∀x∈B,f x=g x):(A++c::B).flatMap f=A.flatMap g++f c++B.flatMap g:=by
 rw[flatMap_append,flatMap_cons,rF hA,rF E];simp

structure jG (t u:aG) (h:Nat) (i:Int) (low high:K) (j:Nat) (k:K) (row:Int) (r:Option (K×Int)):Prop where
 hp:∀p∈t.ag,eN p t.ag.length
 ok:en t (h+1) i low high
 nd:(ids t (h+1) i).Nodup
 hj:j<(t.pg i).kids.length
 hk:lT (iM low (t.pg i) j) (iw (t.pg i) j) k
 ins:oU t u h ((t.pg i).kids.getD j 0) (iM low (t.pg i) j) (iw (t.pg i) j) k row r
section
variable {u:aG} {h:Nat} {i:Int} {low high:K} {j:Nat} {k:K} {row:Int} {r:Option (K×Int)}
theorem jG.aA(m:jG t u h i low high j k row r):(t.pg i).kids.getD j 0=(t.pg i).kids[j]'m.hj:=ua m.hj
theorem jG.same(m:jG t u h i low high j k row r):u.pg i=t.pg i:=by
 have:=(wO m.hj m.nd).2.1;exact m.ins.out i m.ok.idx.1 m.ok.idx.2 (by rw[m.aA];exact this)
structure oD (u v:aG) (i:Int):Prop where
 le:u.ag.length≤v.ag.length
 pg:∀x:Int,0≤x→x<u.ag.length→x≠i→v.pg x=u.pg x
theorem jG.others(m:jG t u h i low high j k row r)(ha:oD u v i):∀x∈(t.pg i).kids.take j++(t.pg i).kids.drop (j+1),∀y∈ids t h x,v.pg y=t.pg y:=fun x hx y hy=>by
 obtain⟨h1,h2⟩:=(wO m.hj m.nd).2.2.1 x hx;have I:y≠i:=fun e=>h2 (e ▸ hy);have E:0≤y∧y<t.ag.length:=by
  have hm:y∈ids t (h+1) i:=by
   rw[ids];refine mem_cons_of_mem _ (mem_flatMap.2 ⟨x,?_,hy⟩);rcases mem_append.1 hx with hx|hx
   ·exact mem_of_mem_take hx
   exact mem_of_mem_drop hx
  exact m.ok.ids y hm
 have O:=m.ins.le;rw[ha.pg y E.1 w4 I,m.ins.out y E.1 E.2 (by rw[m.aA];exact h1 y hy)]
theorem jG.below(m:jG t u h i low high j k row r)(ha:oD u v i):∀y∈oc u h ((t.pg i).kids[j]'m.hj) r,0≤y→y<u.ag.length→v.pg y=u.pg y:=fun y hy h0 hl=>by
 refine ha.pg y h0 hl fun e=>?_;have hs:=m.ins.sub y (by rw[m.aA];exact hy);rw[m.aA] at hs;rcases hs with hs|hs
 ·exact(wO m.hj m.nd).2.1 (e ▸ hs)
 have:=m.ok.idx;omega
theorem jG.qO(m:jG t u h i low high j k row r)(ha:oD u v i){x:Int}(hx:x∈(t.pg i).kids.take j++(t.pg i).kids.drop (j+1)):ids v h x=ids t h x∧eB v h x=eB t h x∧∀d,d≤h→cJ v d x=cJ t d x:=frame h x (m.others ha x hx)
theorem jG.Ut(m:jG t u h i low high j k row r)(ha:oD u v i){x:Int}(hx:x∈(t.pg i).kids.take j++(t.pg i).kids.drop (j+1)){lo hi:K}(aT:en t h x lo hi):en v h x lo hi:=by
 have:=m.ins.le;have:=ha.le;exact aT.frame w4 (m.others ha x hx)
theorem jG.SS(m:jG t u h i low high j k row r):(((t.pg i).kids.take j).flatMap (ids t h)++oc u h ((t.pg i).kids[j]'m.hj) r++((t.pg i).kids.drop (j+1)).flatMap (ids t h)).Nodup∧i∉((t.pg i).kids.take j).flatMap (ids t h)++oc u h ((t.pg i).kids[j]'m.hj) r++((t.pg i).kids.drop (j+1)).flatMap (ids t h):=by
 obtain⟨a1,a2,a3,a4,a5⟩:=wO m.hj m.nd;have hnd:=m.ins.nodup;have E:=m.ins.sub;rw[m.aA] at hnd E;have aa:∀x∈(t.pg i).kids.take j++(t.pg i).kids.drop (j+1),∀y∈ids t h x,y<t.ag.length:=fun x hx y hy=>by
  refine(m.ok.ids y ?_).2;rw[ids];refine mem_cons_of_mem _ (mem_flatMap.2 ⟨x,?_,hy⟩);rcases mem_append.1 hx with hx|hx
  ·exact mem_of_mem_take hx
  exact mem_of_mem_drop hx
 have I:∀x∈(t.pg i).kids.take j++(t.pg i).kids.drop (j+1),∀y∈ids t h x,y∉oc u h ((t.pg i).kids[j]'m.hj) r:=fun x hx y hy hm=>by
  rcases E y hm with hs|hs
  ·exact(a3 x hx).1 y hy hs
  have:=aa x hx y hy;omega
 have O:i∉oc u h ((t.pg i).kids[j]'m.hj) r:=fun hm=>by
  rcases E i hm with hs|hs
  ·exact a2 hs
  have:=m.ok.idx;omega
 rw[nodup_append] at a4;obtain⟨b1,b2,b3⟩:=a4;refine⟨?_,?_⟩
 ·rw[nodup_append,nodup_append];refine⟨⟨b1,hnd,fun a ha b hb e=>?_⟩,b2,fun a ha b hb e=>?_⟩
  ·obtain⟨x,hx,ha⟩:=mem_flatMap.1 ha;subst e;exact I x (mem_append_left _ hx) a ha hb
  obtain⟨x,hx,jW⟩:=mem_flatMap.1 hb;subst e;rcases mem_append.1 ha with ha|ha
  ·exact b3 a ha a hb rfl
  exact I x (mem_append_right _ hx) a jW ha
 simp only[mem_append,not_or] at a5 ⊢;exact⟨⟨a5.1,O⟩,a5.2⟩
theorem jG.Vu(m:jG t u h i low high j k row r):(((t.pg i).kids.take j).flatMap (ids t h)++oc u h ((t.pg i).kids[j]'m.hj) r++((t.pg i).kids.drop (j+1)).flatMap (ids t h)).length+1+t.ag.length=(ids t (h+1) i).length+u.ag.length:=by
 have hc:=m.ins.Zi;rw[m.aA] at hc;have e:(ids t (h+1) i).length=1+((((t.pg i).kids.take j).flatMap (ids t h)).length+((ids t h ((t.pg i).kids[j]'m.hj)).length+(((t.pg i).kids.drop (j+1)).flatMap (ids t h)).length)):=by
  rw[ids];conv=>lhs;rw[vm m.hj]
  rw[length_cons,flatMap_append,flatMap_cons,length_append,length_append];omega
 rw[e,length_append,length_append];omega
theorem jG.Ve(m:jG t u h i low high j k row r):∀x∈((t.pg i).kids.take j).flatMap (ids t h)++oc u h ((t.pg i).kids[j]'m.hj) r++((t.pg i).kids.drop (j+1)).flatMap (ids t h),x∈ids t (h+1) i∨(t.ag.length:Int)≤x:=fun x hx=>by
 have E:=m.ins.sub;rw[m.aA] at E;have up:∀c∈(t.pg i).kids,∀y∈ids t h c,y∈ids t (h+1) i:=fun c hc y hy=>by rw[ids];exact mem_cons_of_mem _ (mem_flatMap.2 ⟨c,hc,hy⟩)
 rcases mem_append.1 hx with hx|hx
 ·rcases mem_append.1 hx with hx|hx
  ·obtain⟨c,hc,hx⟩:=mem_flatMap.1 hx;exact .inl (up c (mem_of_mem_take hc) x hx)
  rcases E x hx with hs|hs
  ·exact .inl (up _ (getElem_mem _) x hs)
  exact .inr hs
 obtain⟨c,hc,hx⟩:=mem_flatMap.1 hx;exact .inl (up c (mem_of_mem_drop hc) x hx)
theorem jG.KS(m:jG t u h i low high j k row r)(x:K×Int):x∈((t.pg i).kids.take j).flatMap (eB t h)++GQ u h ((t.pg i).kids[j]'m.hj) r++((t.pg i).kids.drop (j+1)).flatMap (eB t h)↔x=(k,row)∨x∈eB t (h+1) i:=by
 have he:=m.ins.eB x;rw[m.aA] at he;have e:eB t (h+1) i=((t.pg i).kids.take j).flatMap (eB t h)++(eB t h ((t.pg i).kids[j]'m.hj)++((t.pg i).kids.drop (j+1)).flatMap (eB t h)):=by
  rw[eB];conv=>lhs;rw[vm m.hj]
  rw[flatMap_append,flatMap_cons]
 rw[e];simp only[mem_append,he];constructor
 ·rintro((h|h|h)|h)
  ·exact .inr (.inl h)
  ·exact .inl h
  ·exact .inr (.inr (.inl h))
  exact .inr (.inr (.inr h))
 rintro(h|h|h|h)
 ·exact .inl (.inr (.inl h))
 ·exact .inl (.inl h)
 ·exact .inl (.inr (.inr h))
 exact .inr h
theorem jG.Lu(m:jG t u h i low high j k row r)(ha:oD u v i){d:Nat}(hd:d≤h){e:Int}(hs:fm t (cJ t (d+1) i) e) :
  fm v (((t.pg i).kids.take j).flatMap (cJ t d)++td u d ((t.pg i).kids[j]'m.hj) r++((t.pg i).kids.drop (j+1)).flatMap (cJ t d)) e∧(((t.pg i).kids.take j).flatMap (cJ t d)++td u d ((t.pg i).kids[j]'m.hj) r++((t.pg i).kids.drop (j+1)).flatMap (cJ t d)).headD e=(cJ t (d+1) i).headD e:=by
 have hl:cJ t (d+1) i=((t.pg i).kids.take j).flatMap (cJ t d)++(cJ t d ((t.pg i).kids[j]'m.hj)++((t.pg i).kids.drop (j+1)).flatMap (cJ t d)):=by
  rw[cJ];conv=>lhs;rw[vm m.hj]
  rw[flatMap_append,flatMap_cons]
 rw[hl] at hs ⊢;rw[Cc,Cc] at hs;obtain⟨s1,s2,s3⟩:=hs;obtain⟨g1,g2⟩:=m.ins.pM d hd _ (by rw[m.aA];exact s2);rw[m.aA] at g1 g2;obtain⟨_,_,_,_,O⟩:=m.ok;have hne:cJ t d ((t.pg i).kids[j]'m.hj)≠[]:=Gl m.hp (O j m.hj) d hd;have fr:∀x∈(t.pg i).kids.take j++(t.pg i).kids.drop (j+1),∀y∈cJ t d x,(v.pg y).next=(t.pg y).next:=fun x hx y hy=>by rw[m.others ha x hx y (sM h x d hd y hy)]
 have U:∀y∈td u d ((t.pg i).kids[j]'m.hj) r,(v.pg y).next=(u.pg y).next:=fun y hy=>by
  have aT:=m.ins.ok;rw[m.aA] at aT;cases r with
  | none =>
   have hi:=sM h _ d hd y hy;have hb:=en.ids aT y hi;rw[m.below ha y hi hb.1 hb.2]
  | some q =>
   obtain⟨up,aA⟩:=q;obtain⟨_,_,_,o1,o2⟩:=aT;rcases mem_append.1 hy with hy|hy
   ·have hi:=sM h _ d hd y hy;have hb:=o1.ids y hi;rw[m.below ha y (mem_append_left _ hi) hb.1 hb.2]
   have hi:=sM h _ d hd y hy;have hb:=o2.ids y hi;rw[m.below ha y (mem_append_right _ hi) hb.1 hb.2]
 have E:td u d ((t.pg i).kids[j]'m.hj) r≠[]:=fun e0=>by
  have aT:=m.ins.ok;rw[m.aA] at aT;cases r with
  | none=>exact Gl m.ins.fR aT d hd e0
  | some q =>
   obtain⟨up,aA⟩:=q;exact Gl m.ins.fR aT.2.2.2.1 d hd (append_eq_nil_iff.1 e0).1
 have I:=zg (u:=v) (fun y hy=>by obtain⟨x,hx,hy⟩:=mem_flatMap.1 hy;exact fr x (mem_append_left _ hx) y hy) s1;have Z:=zg (u:=v) (fun y hy=>by obtain⟨x,hx,hy⟩:=mem_flatMap.1 hy;exact fr x (mem_append_right _ hx) y hy) s3;have g1':=zg (u:=v) U g1;have hh:∀e':Int,(td u d ((t.pg i).kids[j]'m.hj) r).headD e'=(cJ t d ((t.pg i).kids[j]'m.hj)).headD e':=fun e'=>by
  cases h1:td u d ((t.pg i).kids[j]'m.hj) r with
  | nil=>exact absurd h1 E
  | cons a b =>
   cases h2:cJ t d ((t.pg i).kids[j]'m.hj) with
   | nil=>exact absurd h2 hne
   | cons a' b'=>rw[h1,h2] at g2;exact g2
 rw[append_assoc];refine⟨?_,?_⟩
 ·rw[Cc,Cc];refine⟨?_,g1',Z⟩;rw[Fi E,hh];rw[Fi hne] at I;exact I
 cases hA:((t.pg i).kids.take j).flatMap (cJ t d) with
 | cons a b=>rfl
 | nil=>rw[nil_append,nil_append,Fi E,Fi hne,hh]
end
end Go.Proofs.YtkgmonfgofobaaaGreatDoor.Tr

namespace Go.Proofs.YtkgmonfgofobaaaGreatDoor.Tr
open List
open Go.Proofs.Tryz
open Go.Lib (compareBytes)
variable {t u:aG} {h:Nat} {i:Int} {low high:K} {j:Nat} {k:K} {row:Int}
theorem ab4{α:Type}{l:List α}{j E:Nat}(I:E<l.length)(hne:E≠j):l[E]∈l.take j++l.drop (j+1):=by
 rcases Nat.lt_or_ge E j with h|h
 ·exact mem_append_left _ (mem_iff_getElem.2 ⟨E,by rw[length_take];omega,by rw[getElem_take]⟩)
 refine mem_append_right _ (mem_iff_getElem.2 ⟨E-(j+1),by rw[length_drop];omega,?_⟩);rw[getElem_drop];congr 1;omega
theorem JX(m:jG t u h i low high j k row none):oU t u (h+1) i low high k row none:=by
 have E:oD u u i:=⟨Nat.le_refl _,fun _ _ _ _=>rfl⟩
 have I:=m.same;have Bk:=m.ok.idx;obtain⟨q1,q2,q3,q4,q5⟩:=m.ok;have aT:en u h ((t.pg i).kids[j]'m.hj) (iM low (t.pg i) j) (iw (t.pg i) j):=(by have:=m.ins.ok;rw[m.aA] at this;exact this)
 have qf:ids u (h+1) i=i::(((t.pg i).kids.take j).flatMap (ids t h)++oc u h ((t.pg i).kids[j]'m.hj) none++((t.pg i).kids.drop (j+1)).flatMap (ids t h)):=by
  rw[ids,I];conv=>lhs;rw[vm m.hj]
  rw[JW (fun x hx=>(m.qO E (mem_append_left _ hx)).1) (fun x hx=>(m.qO E (mem_append_right _ hx)).1)];rfl
 have O:eB u (h+1) i=((t.pg i).kids.take j).flatMap (eB t h)++GQ u h ((t.pg i).kids[j]'m.hj) none++((t.pg i).kids.drop (j+1)).flatMap (eB t h):=by
  rw[eB,I];conv=>lhs;rw[vm m.hj]
  rw[JW (fun x hx=>(m.qO E (mem_append_left _ hx)).2.1) (fun x hx=>(m.qO E (mem_append_right _ hx)).2.1)];rfl
 have U:∀d,d≤h→cJ u (d+1) i=((t.pg i).kids.take j).flatMap (cJ t d)++td u d ((t.pg i).kids[j]'m.hj) none++((t.pg i).kids.drop (j+1)).flatMap (cJ t d):=fun d hd=>by
  rw[cJ,I];conv=>lhs;rw[vm m.hj]
  rw[JW (fun x hx=>(m.qO E (mem_append_left _ hx)).2.2 d hd) (fun x hx=>(m.qO E (mem_append_right _ hx)).2.2 d hd)];rfl
 have hle:=m.ins.le;have V2:=m.ins.more;have Z:=m.SS;refine⟨hle,by omega,m.ins.root,m.ins.fR,fun x h0 hx hne=>?_,?_,?_,?_,?_,?_,?_⟩
 ·refine m.ins.out x h0 hx fun hm=>hne ?_;rw[m.aA] at hm;rw[ids];exact mem_cons_of_mem _ (mem_flatMap.2 ⟨_,getElem_mem _,hm⟩)
 ·refine⟨⟨Bk.1,by omega⟩,by rw[I];exact q2,by rw[I];exact q3,by rw[I];exact q4,?_⟩;rw[I];intro j' jD;by_cases e:j'=j
  ·subst e;exact aT
  exact m.Ut E (ab4 jD e) (q5 j' jD)
 ·intro x hx;have pE:x∈ids u (h+1) i:=hx;exact Wx
 ·show(ids u (h+1) i).Nodup;rw[qf,nodup_cons];exact⟨Z.2,Z.1⟩
 ·show(ids u (h+1) i).length+_=_;rw[qf,length_cons];exact m.Vu
 ·intro x;show x∈eB u (h+1) i↔_;rw[O];exact m.KS x
 intro d hd e hs;cases d with
 | zero=>exact⟨by show(u.pg i).next=e;rw[I];exact hs,rfl⟩
 | succ d =>
  show fm u (cJ u (d+1) i) e∧(cJ u (d+1) i).headD e=_;rw[U d w4];exact m.Lu E w4 hs
theorem jG.place{up:K}{aA:Int}(m:jG t u h i low high j k row (some (up,aA))):aN (t.pg i) up=j∧up∉(t.pg i).keys∧lT low high up∧bu low up:=by
 obtain⟨q1,q2,I,O,Z⟩:=m.ok;have po:=m.hp _ (jK q1);have hn:=(po.node q2).1;have aT:=m.ins.ok;rw[m.aA] at aT;obtain⟨o1,o2,o3,o4,o5⟩:=aT;have U:=m.hj;have e9:∀(h0:0<j),bu ((t.pg i).keys[j-1]'w4) up:=fun h0=>by rw[F2 h0 w4] at o2;exact o2
 have eK:∀(hl:j<(t.pg i).keys.length),bu up (t.pg i).keys[j]:=fun hl=>by
  rw[Gk hl] at o3;exact o3 (by intro e;have:=(po.lJ _ (getElem_mem hl)).1;rw[e] at this;simp at this)
 have fD:aN (t.pg i) up=j:=by
  unfold aN;rw[if_neg (by rw[q2];decide)];exact KR po.ke w4 (fun h0=>xA (e9 h0)) eK
 have E:bu low up:=by
  rcases Nat.eq_zero_or_pos j with h0|h0
  ·rw[h0] at o2;exact o2
  exact Qa (O _ (getElem_mem (by omega:j-1<_))) (e9 h0)
 refine⟨fD,fun hm=>?_,⟨xA E,fun hne=>?_⟩,E⟩
 ·obtain⟨a,ha,e⟩:=mem_iff_getElem.1 hm;rcases Nat.lt_or_ge a j with h1|h1
  ·have h2:=e9 w4;rcases Nat.lt_or_ge a (j-1) with h3|h3
   ·have:=mw (nw po.ke h3 w4) h2;rw[e] at this;exact jl _ this
   have:a=j-1:=(by omega)
   subst this;rw[e] at h2;exact jl _ h2
  have h2:=eK w4;rcases Nat.lt_or_ge j a with h3|h3
  ·have:=mw h2 (nw po.ke h3 ha);rw[e] at this;exact jl _ this
  have:a=j:=(by omega)
  subst this;rw[e] at h2;exact jl _ h2
 by_cases hl:j<(t.pg i).keys.length
 ·exact mw (eK hl) (by rw[←I];exact po.qW (by rw[I];exact hne) _ (getElem_mem hl))
 rw[KP w4,I] at o3;exact o3 hne
theorem adT{up:K}{aA:Int}(m:jG t u h i low high j k row (some (up,aA))):oU t (rR u i up aA).1 (h+1) i low high k row (rR u i up aA).2:=by
 obtain⟨p1,p2,p3,p4⟩:=m.place;have es:=m.same;have Bk:=m.ok.idx;have aT:=m.ins.ok;rw[m.aA] at aT;obtain⟨o1,o2,o3,o4,o5⟩:=aT;obtain⟨q1,q2,q3,q4,q5⟩:=m.ok;have hle:=m.ins.le;have V2:=m.ins.more;have U:0≤i∧i<u.ag.length:=⟨Bk.1,by omega⟩
 have Zj:=m.hp _ (jK q1);have po:eN (t.pg i) u.ag.length:=Zj.more w4;have hn:=(po.node q2).1;have jQ:=m.hj;have hf:xB (bz (t.pg i) up aA) u.ag.length:=JT po p2 o1 (by rw[q3];exact p3.2) o5.idx.1 (fun _=>o5.idx.2);have I:(bz (t.pg i) up aA).kids=(t.pg i).kids.take j++((t.pg i).kids[j]'m.hj)::aA::(t.pg i).kids.drop (j+1):=by
  show ik _ (if (t.pg i).leaf=true then _ else _) aA=_;rw[if_neg (by rw[q2];decide),p1];exact Qb m.hj aA
 have aiM:(bz (t.pg i) up aA).keys=ik (t.pg i).keys j up:=by
  show ik _ _ _=_;rw[p1]
 have Z:∀x∈(bz (t.pg i) up aA).keys,¬bu x low:=fun x hx=>by
  rcases vj.1 hx with rfl|h
  ·exact p3.1
  exact q4 x h
 have hKT:jy t h low (t.pg i).kids (t.pg i).keys high:=(Cb Zj).1 m.ok |>.2.2.2.2
 -- what is below,in any tree are apP
 have below:∀{v:aG},oD u v i→(∀x,x∈ids u h ((t.pg i).kids[j]'m.hj)++ids u h aA→v.pg x=u.pg x):=fun E x hx=>by
  refine m.below E x hx ?_ ?_
  ·rcases mem_append.1 hx with hx|hx
   ·exact(o4.ids x hx).1
   exact(o5.ids x hx).1
  rcases mem_append.1 hx with hx|hx
  ·exact(o4.ids x hx).2
  exact(o5.ids x hx).2
 have OV:∀{v:aG},oD u v i→_:=fun {v} E=>frame (t:=u) (u:=v) h ((t.pg i).kids[j]'m.hj) (fun x hx=>below E x (mem_append_left _ hx));have OW:∀{v:aG},oD u v i→_:=fun {v} E=>frame (t:=u) (u:=v) h aA (fun x hx=>below E x (mem_append_right _ hx));have Zk:∀{v:aG},oD u v i→jy v h low (bz (t.pg i) up aA).kids (bz (t.pg i) up aA).keys high:=fun {v} E=>by
  have e1:(bz (t.pg i) up aA).kids=ik (t.pg i).kids (j+1) aA:=(by rw[I];exact(Qb m.hj aA).symm)
  rw[e1,aiM];refine SQ j m.hj hKT (fun c hc lo hi aT=>m.Ut E ?_ aT) ?_ ?_
  ·rcases aax hc with hc|hc
   ·exact mem_append_left _ hc
   exact mem_append_right _ hc
  ·have:=o4.frame E.le (fun x hx=>below E x (mem_append_left _ hx));unfold iM at this;exact this
  have:=o5.frame E.le (fun x hx=>below E x (mem_append_right _ hx));unfold iw at this;rw[q3] at this;exact this
 have W5:∀{v:aG},oD u v i→(bz (t.pg i) up aA).kids.flatMap (ids v h)=((t.pg i).kids.take j).flatMap (ids t h)++oc u h ((t.pg i).kids[j]'m.hj) (some (up,aA))++((t.pg i).kids.drop (j+1)).flatMap (ids t h):=fun {v} E=>by
  rw[I,Jk (fun x hx=>(m.qO E (mem_append_left _ hx)).1) (fun x hx=>(m.qO E (mem_append_right _ hx)).1),(OV E).1,(OW E).1];rfl
 have V3:∀{v:aG},oD u v i→(bz (t.pg i) up aA).kids.flatMap (eB v h)=((t.pg i).kids.take j).flatMap (eB t h)++GQ u h ((t.pg i).kids[j]'m.hj) (some (up,aA))++((t.pg i).kids.drop (j+1)).flatMap (eB t h):=fun {v} E=>by
  rw[I,Jk (fun x hx=>(m.qO E (mem_append_left _ hx)).2.1) (fun x hx=>(m.qO E (mem_append_right _ hx)).2.1),(OV E).2.1,(OW E).2.1];rfl
 have W6:∀{v:aG},oD u v i→∀d,d≤h→(bz (t.pg i) up aA).kids.flatMap (cJ v d)=((t.pg i).kids.take j).flatMap (cJ t d)++td u d ((t.pg i).kids[j]'m.hj) (some (up,aA))++((t.pg i).kids.drop (j+1)).flatMap (cJ t d):=fun {v} E d hd=>by
  rw[I,Jk (fun x hx=>(m.qO E (mem_append_left _ hx)).2.2 d hd) (fun x hx=>(m.qO E (mem_append_right _ hx)).2.2 d hd),(OV E).2.2 d hd,(OW E).2.2 d hd];rfl
 have wC:=m.SS;have C9:=m.Vu;have W7:∀x:Int,0≤x→x<t.ag.length→x∉ids t (h+1) i→u.pg x=t.pg x∧x≠i:=fun x h0 hx hne=>by
  refine⟨m.ins.out x h0 hx fun hm=>hne ?_,fun e=>hne (by rw[e];exact tU _ _)⟩;rw[m.aA] at hm;rw[ids];exact mem_cons_of_mem _ (mem_flatMap.2 ⟨_,getElem_mem _,hm⟩)
 by_cases h4:(bz (u.pg i) up aA).keys.length≤4
 ·rw[JV h4];rw[es] at h4 ⊢;have ep:=wZ U (bz (t.pg i) up aA);have E:oD u (u.set i (bz (t.pg i) up aA)) i:=⟨by rw[oA];omega,fun x h0 hx hne=>wN U.1 h0 (Ne.symm hne) _⟩
  have qf:ids (u.set i (bz (t.pg i) up aA)) (h+1) i=i::(((t.pg i).kids.take j).flatMap (ids t h)++oc u h ((t.pg i).kids[j]'m.hj) (some (up,aA))++((t.pg i).kids.drop (j+1)).flatMap (ids t h)):=(by rw[ids,ep,W5 E])
  refine⟨by rw[oA];omega,by rw[oA];omega,m.ins.root,by rw[oA];exact Ji m.ins.fR (hf.ok h4),fun x h0 hx hne=>?_,?_,fun x hx=>?_,?_,?_,fun x=>?_,fun d hd e hs=>?_⟩
  ·obtain⟨e1,e2⟩:=W7 x h0 hx hne;rw[E.pg x h0 w4 e2,e1]
  ·show en _ (h+1) i low high;refine(Cb (n:=u.ag.length) (by rw[ep];exact hf.ok h4)).2 ?_;rw[ep];exact⟨by rw[oA];exact U,q2,q3,Z,Zk E⟩
  ·have pE:x∈ids (u.set i (bz (t.pg i) up aA)) (h+1) i:=hx;exact Wx
  ·show(ids _ (h+1) i).Nodup;rw[qf,nodup_cons];exact⟨wC.2,wC.1⟩
  ·show(ids _ (h+1) i).length+_=_;rw[qf,length_cons,oA];exact C9
  ·show x∈eB _ (h+1) i↔_;rw[eB,ep,V3 E];exact m.KS x
  cases d with
  | zero=>exact⟨by show((u.set i _).pg i).next=e;rw[ep];exact hs,rfl⟩
  | succ d =>
   show fm _ (cJ _ (d+1) i) e∧(cJ _ (d+1) i).headD e=_;rw[cJ,ep,W6 E d w4];exact m.Lu E w4 hs
 have h5:(bz (t.pg i) up aA).keys.length=5:=(by rw[es] at h4;have:=hf.eO;omega)
 rw[Jj h4];rw[es] at h4 ⊢;have Eg:(bz (t.pg i) up aA).leaf=false:=q2;have ea:=Q6 U (eC (bz (t.pg i) up aA) u.ag.length) (cu (bz (t.pg i) up aA));have eb:=SR u i (eC (bz (t.pg i) up aA) u.ag.length) (cu (bz (t.pg i) up aA));have E:oD u (jA u i (eC (bz (t.pg i) up aA) u.ag.length) (cu (bz (t.pg i) up aA))) i:=⟨by rw[pT];omega,fun x h0 hx hne=>Qt U.1 ⟨h0,hx⟩ (Ne.symm hne) _ _⟩
 obtain⟨u1,u2⟩:=Us hf.ke h5 Z;have Ef:ig (bz (t.pg i) up aA)∈(bz (t.pg i) up aA).keys:=(by rw[zO h5];exact getElem_mem _)
 have e9:=Vt hf h5 w4;have eK:=Ur (m:=u.ag.length+1) hf h5 w4;have Bb:=Qs 2 w4 (Zk E);rw[←zO h5] at Bb;have Ip:(eC (bz (t.pg i) up aA) u.ag.length).kids=(bz (t.pg i) up aA).kids.take 3:=by
  show(bz (t.pg i) up aA).kids.take (if _ then _ else _)=_;rw[if_neg (by rw[Eg];decide)]
 have Iq:(cu (bz (t.pg i) up aA)).kids=(bz (t.pg i) up aA).kids.drop 3:=by
  show(bz (t.pg i) up aA).kids.drop (if _ then _ else _)=_;rw[if_neg (by rw[Eg];decide)]
 have ehy:(cu (bz (t.pg i) up aA)).keys=(bz (t.pg i) up aA).keys.drop 3:=by
  show(bz (t.pg i) up aA).keys.drop (if _ then _ else _)=_;rw[if_neg (by rw[Eg];decide)]
 have O:∀{α:Type} (f:Int→List α),((bz (t.pg i) up aA).kids.take 3).flatMap f++((bz (t.pg i) up aA).kids.drop 3).flatMap f=(bz (t.pg i) up aA).kids.flatMap f:=fun f=>by rw[←flatMap_append,take_append_drop]
 have qf:oc (jA u i (eC (bz (t.pg i) up aA) u.ag.length) (cu (bz (t.pg i) up aA))) (h+1) i (some (ig (bz (t.pg i) up aA),(u.ag.length:Int)))=(i::((bz (t.pg i) up aA).kids.take 3).flatMap (ids (jA u i (eC (bz (t.pg i) up aA) u.ag.length) (cu (bz (t.pg i) up aA))) h))++((u.ag.length:Int)::((bz (t.pg i) up aA).kids.drop 3).flatMap (ids (jA u i (eC (bz (t.pg i) up aA) u.ag.length) (cu (bz (t.pg i) up aA))) h)):=by
  show ids _ (h+1) i++ids _ (h+1) _=_;rw[ids,ids,ea,eb,Ip,Iq]
 have pid:=(O (ids (jA u i (eC (bz (t.pg i) up aA) u.ag.length) (cu (bz (t.pg i) up aA))) h)).trans (W5 E);have ak7:∀x∈((t.pg i).kids.take j).flatMap (ids t h)++oc u h ((t.pg i).kids[j]'m.hj) (some (up,aA))++((t.pg i).kids.drop (j+1)).flatMap (ids t h),x<u.ag.length:=fun x hx=>by
  rcases mem_append.1 hx with hx|hx
  ·rcases mem_append.1 hx with hx|hx
   ·obtain⟨c,hc,hx⟩:=mem_flatMap.1 hx;obtain⟨a,ha,rfl⟩:=mem_iff_getElem.1 (mem_of_mem_take hc);have:=(q5 a ha).ids x hx;omega
   rcases mem_append.1 hx with hx|hx
   ·exact(o4.ids x hx).2
   exact(o5.ids x hx).2
  obtain⟨c,hc,hx⟩:=mem_flatMap.1 hx;obtain⟨a,ha,rfl⟩:=mem_iff_getElem.1 (mem_of_mem_drop hc);have:=(q5 a ha).ids x hx;omega
 refine⟨by rw[pT];omega,by rw[pT];omega,m.ins.root,?_,fun x h0 hx hne=>?_,⟨hf.lJ _ Ef,u1,fun hne=>?_,?_,?_⟩,fun x hx=>?_,?_,?_,fun x=>?_,fun d hd e hs=>?_⟩
 ·rw[pT];exact Qu m.ins.fR w4 e9 eK
 ·obtain⟨e1,e2⟩:=W7 x h0 hx hne;rw[E.pg x h0 w4 e2,e1]
 ·have:=hf.qW (by show(t.pg i).high≠[];rw[q3];exact hne) _ Ef;rw[←q3];exact this
 ·refine(Cb (n:=(u.ag.length:Int)+1) (by rw[ea];exact e9)).2 ?_;rw[ea,Ip];exact⟨by rw[pT];omega,Eg,rfl,fun x hx=>Z x (mem_of_mem_take hx),Bb.1⟩
 ·refine(Cb (n:=(u.ag.length:Int)+1) (by rw[eb];exact eK)).2 ?_;rw[eb,Iq,ehy];refine⟨by rw[pT];omega,Eg,q3,fun x hx=>u2 x ?_,Bb.2⟩;rw[show 3=2+1 from rfl,←drop_drop] at hx;exact mem_of_mem_drop hx
 ·rw[qf] at hx;have fw:x=i∨x=(u.ag.length:Int)∨x∈((bz (t.pg i) up aA).kids.take 3).flatMap (ids (jA u i (eC (bz (t.pg i) up aA) u.ag.length) (cu (bz (t.pg i) up aA))) h)++((bz (t.pg i) up aA).kids.drop 3).flatMap (ids (jA u i (eC (bz (t.pg i) up aA) u.ag.length) (cu (bz (t.pg i) up aA))) h):=by
   rcases mem_append.1 hx with hx|hx
   ·rcases mem_cons.1 hx with h|h
    ·exact .inl h
    exact .inr (.inr (mem_append_left _ h))
   rcases mem_cons.1 hx with h|h
   ·exact .inr (.inl h)
   exact .inr (.inr (mem_append_right _ h))
  rw[pid] at fw;rcases fw with rfl|rfl|hx
  ·exact .inl (tU _ _)
  ·exact .inr w4
  exact m.Ve x hx
 ·rw[qf];have hnd:=wC.1;rw[←pid,nodup_append] at hnd;have nk:=wC.2;rw[←pid] at nk;simp only[mem_append,not_or] at nk;have oS:∀x∈((bz (t.pg i) up aA).kids.take 3).flatMap (ids (jA u i (eC (bz (t.pg i) up aA) u.ag.length) (cu (bz (t.pg i) up aA))) h)++((bz (t.pg i) up aA).kids.drop 3).flatMap (ids (jA u i (eC (bz (t.pg i) up aA) u.ag.length) (cu (bz (t.pg i) up aA))) h),x<u.ag.length:=fun x hx=>ak7 x (by rw[←pid];exact hx);rw[nodup_append,nodup_cons,nodup_cons];refine⟨⟨nk.1,hnd.1⟩,⟨fun hm=>?_,hnd.2.1⟩,fun a ha b hb e=>?_⟩
  ·have:=oS _ (mem_append_right _ hm);omega
  subst e;rcases mem_cons.1 ha with rfl|ha
  ·rcases mem_cons.1 hb with hb|hb
   ·omega
   exact nk.2 hb
  rcases mem_cons.1 hb with rfl|hb
  ·have:=oS _ (mem_append_left _ ha);omega
  exact hnd.2.2 a ha a hb rfl
 ·rw[qf,pT];have:=congrArg length pid;rw[length_append] at this;rw[length_append,length_cons,length_cons];omega
 ·show x∈eB _ (h+1) i++eB _ (h+1) _↔_;rw[eB,eB,ea,eb,Ip,Iq,O,V3 E];exact m.KS x
 cases d with
 | zero =>
  refine⟨?_,rfl⟩;show((jA u i _ _).pg i).next=_∧((jA u i _ _).pg _).next=e;rw[ea,eb];exact⟨rfl,hs⟩
 | succ d =>
  show fm _ (cJ _ (d+1) i++cJ _ (d+1) _) e∧(cJ _ (d+1) i++cJ _ (d+1) _).headD e=_;rw[cJ,cJ,ea,eb,Ip,Iq,O,W6 E d w4];exact m.Lu E w4 hs
theorem Gm:∀{h:Nat} {t:aG} (hp:∀p∈t.ag,eN p t.ag.length) {i:Int} {low high:K} (ok:en t h i low high) (nd:(ids t h i).Nodup) {k:K} {row:Int} (hk:lT low high k) (hn:∀x∈eB t h i,x.1≠k) (hl:1≤k.length∧k.length≤100) (hr:0≤row),oU t (gQ t k row h i).1 h i low high k row (gQ t k row h i).2
 | 0,t,hp,i,low,high,ok,nd,k,row,hk,hn,hl,hr=>adS hp ok hk hn hl hr
 | h+1,t,hp,i,low,high,ok,nd,k,row,hk,hn,hl,hr=>by
  obtain⟨q1,q2,I,U,O⟩:=id ok;have po:=hp _ (jK q1);obtain⟨d1,d2⟩:=down po q2 I hk;have E:=(wO d1 nd).1;have ih:=Gm (h:=h) hp (O _ d1) E d2 (fun x hx=>hn x NK) hl hr;rw[←ua d1] at ih;rw[gQ];generalize gQ t k row h ((t.pg i).kids.getD (aN (t.pg i) k) 0)=R at ih;obtain⟨u,r⟩:=R;have m:jG t u h i low high (aN (t.pg i) k) k row r:=⟨hp,ok,nd,d1,d2,ih⟩
  cases r with
  | none=>exact JX m
  | some q=>obtain⟨up,aA⟩:=q;exact adT m

end Go.Proofs.YtkgmonfgofobaaaGreatDoor.Tr
namespace Go.Proofs.YtkgmonfgofobaaaGreatDoor.Tr
open List
open Go.Proofs.Tryz
open Go.Lib (compareBytes)
variable {t:aG} {h:Nat} {k:K} {row:Int}
variable {p:c9}
def lm(t:aG)(h:Nat):List (K×Int):=eB t h t.root
def gb(t:aG)(h:Nat)(k:K)(row:Int):aG:=aiL (gQ t k row h t.root)
def jm(u:aG)(up:K)(aA:Int):aG:=⟨u.ag++[⟨false,[up],[u.root,aA],[],-1⟩],u.ag.length⟩
theorem uc(u:aG)(up:K)(aA:Int):(jm u up aA).ag.length=u.ag.length+1:=by simp[jm]
theorem adU(u:aG)(up:K)(aA:Int):(jm u up aA).pg u.ag.length=⟨false,[up],[u.root,aA],[],-1⟩:=by
 unfold aG.pg jm;rw[getD_eq_getElem?_getD,getElem?_append_right w4];simp
theorem adV{u:aG}{x:Int}(hx:0≤x∧x<u.ag.length)(up:K)(aA:Int):(jm u up aA).pg x=u.pg x:=by
 unfold aG.pg jm;rw[getD_eq_getElem?_getD,getD_eq_getElem?_getD,getElem?_append_left w4]
theorem Valid.range(v:Valid t h):0≤t.root∧t.root<t.ag.length:=v.ok.idx
theorem SU(hp:∀p∈t.ag,eN p t.ag.length):∀{h:Nat} {i:Int} {low high:K},en t h i low high→h+1≤(ids t h i).length
 | 0,_,_,_,_=>by simp[ids]
 | h+1,i,low,high,⟨q1,q2,I,O,E⟩=>by
  have po:=hp _ (jK q1);have hn:=(po.node q2).1;have h0:0<(t.pg i).kids.length:=(by omega)
  have:=SU hp (E 0 h0);rw[ids,length_cons,vm h0,flatMap_append,flatMap_cons,length_append,length_append];omega
theorem Valid.high(v:Valid t h):h<t.ag.length:=by
 have:=SU v.fR v.ok;rw[v.all] at this;omega
theorem ab5(v:Valid t h)(hn:∀x∈lm t h,x.1≠k)(hl:1≤k.length∧k.length≤100)(hr:0≤row)(hm:t.ag.length+(h+2)≤4000) :
  ∃h',(h≤h'∧h'≤h+1)∧Valid (gb t h k row) h'∧(t.ag.length≤(gb t h k row).ag.length∧(gb t h k row).ag.length≤t.ag.length+(h+2))∧∀x,x∈lm (gb t h k row) h'↔x=(k,row)∨x∈lm t h:=by
 have I:=Gm v.fR v.ok v.AG (uj k) hn hl hr;unfold gb;generalize gQ t k row h t.root=R at I;obtain⟨u,r⟩:=R;have hle:t.ag.length≤u.ag.length:=I.le;have V2:u.ag.length≤t.ag.length+(h+1):=I.more;have O:(oc u h t.root r).length+t.ag.length=(ids t h t.root).length+u.ag.length:=I.Zi;rw[v.all] at O;have arf:=v.pos;have E:u.root=t.root:=I.root;cases r with
 | none =>
  refine⟨h,⟨Nat.le_refl _,by omega⟩,⟨by show 1≤u.ag.length;omega,by show u.ag.length≤4000;omega,I.fR,?_,?_,?_,fun d hd=>?_⟩,⟨hle,by show u.ag.length≤_;omega⟩,fun x=>?_⟩
  ·show en u h u.root [] [];rw[E];exact I.ok
  ·show(ids u h u.root).Nodup;rw[E];exact I.nodup
  ·show(ids u h u.root).length=u.ag.length;rw[E];have:(ids u h t.root).length+t.ag.length=t.ag.length+u.ag.length:=O;omega
  ·show fm u (cJ u d u.root) (-1);rw[E];exact(I.pM d hd (-1) (v.pM d hd)).1
  show x∈eB u h u.root↔_;rw[E];exact I.eB x
 | some q =>
  obtain⟨up,aA⟩:=q;obtain⟨o1,o2,o3,o4,o5⟩:(1≤up.length∧up.length≤100)∧bu [] up∧(([]:K)≠[]→bu up [])∧en u h t.root [] up∧en u h aA up []:=I.ok;have ho:∀x∈ids u h t.root++ids u h aA,(jm u up aA).pg x=u.pg x:=fun x hx=>by
   refine adV ?_ up aA;rcases mem_append.1 hx with hx|hx
   ·exact o4.ids x hx
   exact o5.ids x hx
  have f1:=frame (t:=u) (u:=jm u up aA) h t.root (fun x hx=>ho x (mem_append_left _ hx));have f2:=frame (t:=u) (u:=jm u up aA) h aA (fun x hx=>ho x (mem_append_right _ hx));have g1:en (jm u up aA) h t.root [] up:=o4.frame (by rw[uc];omega) (fun x hx=>ho x (mem_append_left _ hx));have g2:en (jm u up aA) h aA up []:=o5.frame (by rw[uc];omega) (fun x hx=>ho x (mem_append_right _ hx));have U:=adU u up aA;rw[E] at U;have hnd:=I.nodup;have qf:ids (jm u up aA) (h+1) u.ag.length=(u.ag.length:Int)::(ids u h t.root++ids u h aA):=by
   rw[ids,U];show _::([t.root,aA].flatMap (ids (jm u up aA) h))=_;rw[flatMap_cons,flatMap_cons,flatMap_nil,append_nil,f1.1,f2.1]
  have Z:eN (⟨false,[up],[t.root,aA],[],-1⟩:c9) (u.ag.length+1:Nat):=by
   have i1:=o4.idx;have i2:=o5.idx;refine⟨by simp,by simp,by simp,by simp;omega,by simp,(fun h=>by cases h),fun _=>⟨rfl,by simp⟩,fun x hx=>?_,fun h=>absurd rfl h,by simp,fun x hx=>?_,fun _ x hx=>?_⟩
   ·have:x=up:=(by simpa using hx)
    subst this;exact o1
   ·have:x=t.root∨x=aA:=(by simpa using hx)
    rcases this with rfl|rfl
    ·exact i1.1
    exact i2.1
   have:x=t.root∨x=aA:=(by simpa using hx)
   rcases this with rfl|rfl<;>omega
  refine⟨h+1,⟨by omega,by omega⟩,⟨?_,?_,?_,?_,?_,?_,fun d hd=>?_⟩,⟨?_,?_⟩,fun x=>?_⟩
  ·show 1≤(jm u up aA).ag.length;rw[uc];omega
  ·show(jm u up aA).ag.length≤4000;rw[uc];omega
  ·show ∀p∈(jm u up aA).ag,eN p (jm u up aA).ag.length;rw[uc];intro p hp;rcases mem_append.1 hp with hp|hp
   ·have uP:eN p u.ag.length:=I.fR p hp;exact uP.more w4
   rw[mem_singleton] at hp;subst hp;rw[E];exact Z
  ·show en (jm u up aA) (h+1) u.ag.length [] [];refine(Cb (n:=(u.ag.length+1:Nat)) (by rw[U];exact Z)).2 ?_;rw[U];refine⟨by rw[uc];omega,rfl,rfl,fun x _=>Lr x,?_⟩;rw[qF,BY];exact⟨g1,g2⟩
  ·show(ids (jm u up aA) (h+1) u.ag.length).Nodup;rw[qf,nodup_cons];refine⟨fun hm=>?_,hnd⟩;rcases mem_append.1 hm with hm|hm
   ·have:=o4.ids _ hm;omega
   have:=o5.ids _ hm;omega
  ·show(ids (jm u up aA) (h+1) u.ag.length).length=(jm u up aA).ag.length;rw[qf,uc,length_cons];have:(ids u h t.root++ids u h aA).length+t.ag.length=t.ag.length+u.ag.length:=O;omega
  ·show fm (jm u up aA) (cJ (jm u up aA) d u.ag.length) (-1);cases d with
   | zero=>show((jm u up aA).pg u.ag.length).next = -1;rw[U]
   | succ d =>
    rw[cJ,U];show fm _ ([t.root,aA].flatMap (cJ (jm u up aA) d)) (-1);rw[flatMap_cons,flatMap_cons,flatMap_nil,append_nil,f1.2.2 d w4,f2.2.2 d w4];refine zg (fun x hx=>?_) (I.pM d w4 (-1) (v.pM d w4)).1;have pE:x∈cJ u d t.root++cJ u d aA:=hx;rw[ho x ?_];rcases mem_append.1 pE with pE|pE
    ·exact mem_append_left _ (sM h _ d w4 x pE)
    exact mem_append_right _ (sM h _ d w4 x pE)
  ·show t.ag.length≤(jm u up aA).ag.length;rw[uc];omega
  ·show(jm u up aA).ag.length≤_;rw[uc];omega
  show x∈eB (jm u up aA) (h+1) u.ag.length↔_;rw[eB,U];show x∈[t.root,aA].flatMap (eB (jm u up aA) h)↔_;rw[flatMap_cons,flatMap_cons,flatMap_nil,append_nil,f1.2.1,f2.2.1];exact I.eB x
theorem Q7:Valid qi 0:=by
 refine⟨by decide,by decide,fun p hp=>?_,⟨by decide,rfl,rfl,fun k hk=>by cases hk⟩,by simp[ids],rfl,fun d hd=>?_⟩
 ·have:p=⟨true,[],[],[],-1⟩:=(by simpa[qi] using hp)
  subst this;exact⟨by simp,by simp,by simp,by simp[qi],by simp,fun _=>rfl,(fun h=>by cases h),(fun k hk=>by cases hk),(fun h=>absurd rfl h),by simp,(fun n hn=>by cases hn),(fun h=>by cases h)⟩
 obtain rfl:d=0:=(by omega)
 rfl
theorem adW:lm qi 0=[]:=rfl
theorem FF(hl:p.kids.length=p.keys.length){a:Nat}(ha:a<p.keys.length):(fi p)[a]'(by unfold fi;rw[length_zip];omega)=(p.keys[a],p.kids[a]'w4):=by unfold fi;rw[getElem_zip]
theorem BJ(hl:p.kids.length=p.keys.length){x:K×Int}:x∈fi p↔∃a,∃(ha:a<p.keys.length),x=(p.keys[a],p.kids[a]'w4):=by
 constructor
 ·intro h;obtain⟨a,ha,e⟩:=mem_iff_getElem.1 h;have E:a<p.keys.length:=(by unfold fi at ha;rw[length_zip] at ha;omega)
  exact⟨a,E,by rw[←e,FF hl E]⟩
 rintro⟨a,ha,rfl⟩;exact mem_iff_getElem.2 ⟨a,by unfold fi;rw[length_zip];omega,FF hl ha⟩
def Cr(t:aG)(k:K)(h:Nat):Prop:=∃(ha:aN (t.pg (aI t k h t.root)) k<(t.pg (aI t k h t.root)).keys.length),(t.pg (aI t k h t.root)).keys[aN (t.pg (aI t k h t.root)) k]=k
theorem Valid.leaf(v:Valid t h)(k:K):(0≤aI t k h t.root∧aI t k h t.root<t.ag.length)∧(t.pg (aI t k h t.root)).leaf=true:=by
 obtain⟨_,_,_,_,_,_,_,h3,_⟩:=BX v.fR v.ok (uj k);exact⟨h3.1,h3.2.1⟩
theorem found(v:Valid t h)(k:K)(row:Int):(k,row)∈lm t h↔∃(ha:aN (t.pg (aI t k h t.root)) k<(t.pg (aI t k h t.root)).keys.length),(t.pg (aI t k h t.root)).keys[aN (t.pg (aI t k h t.root)) k]=k∧(t.pg (aI t k h t.root)).kids.getD (aN (t.pg (aI t k h t.root)) k) 0=row:=by
 obtain⟨pre,post,lo,hi,e,h1,h2,h3,h4⟩:=BX v.fR v.ok (uj k);have po:=v.fR _ (jK h3.1);have fA:=h3.2.1;have hlen:=po.leaf fA;unfold lm;rw[wY,e,flatMap_append,flatMap_cons];generalize I:t.pg (aI t k h t.root)=p at *;have fD:aN p k=gP p.keys k:=(by unfold aN;rw[if_pos fA])
 rw[fD];simp only[mem_append];constructor
 ·rintro(hx|hx|hx)
  ·obtain⟨l,hl,hx⟩:=mem_flatMap.1 hx;exact absurd (h1 l hl _ hx) (jl k)
  ·obtain⟨a,ha,e2⟩:=(BJ hlen).1 hx;injection e2 with E O
   have:gP p.keys k=a:=by
    rcases Nat.lt_trichotomy (gP p.keys k) a with h5|h5|h5
    ·exfalso;have:=BI (keys:=p.keys) (k:=k) w4;have h6:=nw po.ke h5 ha;rw[←E] at h6;exact this h6
    ·exact h5
    have:=(BV h5).2;rw[←E] at this;exact absurd this (jl k)
   subst this;exact⟨ha,E.symm,by rw[getD_eq_getElem?_getD,getElem?_eq_getElem w4];exact O.symm⟩
  obtain⟨l,hl,hx⟩:=mem_flatMap.1 hx;exact absurd (h2 l hl _ hx) (jl k)
 rintro⟨ha,e1,e2⟩;refine .inr (.inl ((BJ hlen).2 ⟨_,ha,?_⟩));rw[getD_eq_getElem?_getD,getElem?_eq_getElem w4] at e2;rw[e1];congr 1;exact e2.symm
theorem BK(v:Valid t h)(k:K):Cr t k h↔∃row,(k,row)∈lm t h:=by
 constructor
 ·rintro⟨ha,e⟩;exact⟨_,(found v k _).2 ⟨ha,e,rfl⟩⟩
 rintro⟨row,hr⟩;obtain⟨ha,e,_⟩:=(found v k row).1 hr;exact⟨ha,e⟩
def kO(p:c9)(a:Nat):c9:={p with keys:=p.keys.eraseIdx a,kids:=p.kids.eraseIdx a}
def hU(t:aG)(h:Nat)(k:K):aG:=t.set (aI t k h t.root) (kO (t.pg (aI t k h t.root)) (aN (t.pg (aI t k h t.root)) k))
theorem ahm{n:Int}(hp:eN p n)(hl:p.leaf=true){a:Nat}(ha:a<p.keys.length):eN (kO p a) n:=by
 have hlen:=hp.leaf hl;refine⟨?_,hp.hlen,hp.xN,hp.xD,hp.xO,fun _=>?_,fun h=>?_,fun k hk=>hp.lJ k ((eraseIdx_sublist _ _).subset hk),fun hne k hk=>hp.qW hne k ((eraseIdx_sublist _ _).subset hk),hp.ke.sublist (eraseIdx_sublist _ _),fun x hx=>hp.aA x ((eraseIdx_sublist _ _).subset hx),fun h=>?_⟩
 ·show(p.keys.eraseIdx a).length≤4;rw[length_eraseIdx_of_lt ha];have:=hp.eO;omega
 ·show(p.kids.eraseIdx a).length=(p.keys.eraseIdx a).length;rw[length_eraseIdx_of_lt ha,length_eraseIdx_of_lt w4,hlen]
 ·have:p.leaf=false:=h;rw[hl] at this;cases this
 have:p.leaf=false:=h;rw[hl] at this;cases this
theorem Q8{α β:Type}:∀{a:List α} {b:List β} {n:Nat},(a.eraseIdx n).zip (b.eraseIdx n)=(a.zip b).eraseIdx n
 | [],_,n=>by simp
 | _::_,[],n=>by cases n<;>simp
 | x::a,y::b,0=>by simp
 | x::a,y::b,n+1=>by simp[Q8 (a:=a) (b:=b) (n:=n)]
theorem SV{q:c9}{l:Int}(hq:q.leaf=true)(Z:q.high=(t.pg l).high)(hx:q.next=(t.pg l).next)(hl:0≤l∧l<t.ag.length)(fA:(t.pg l).leaf=true)(E:∀k∈q.keys,k∈(t.pg l).keys):∀{h:Nat} {i:Int} {low high:K},en t h i low high →
  en (t.set l q) h i low high∧ids (t.set l q) h i=ids t h i∧∀d,d≤h→cJ (t.set l q) d i=cJ t d i
 | 0,i,low,high,⟨q1,q2,I,O⟩=>by
  refine⟨?_,rfl,fun d hd=>by cases Nat.le_zero.1 hd;rfl⟩;by_cases e:l=i
  ·subst e;rw[en,wZ hl,oA];exact⟨q1,hq,by rw[Z];exact I,fun k hk=>O k (E k hk)⟩
  rw[en,wN hl.1 q1.1 e,oA];exact⟨q1,q2,I,O⟩
 | h+1,i,low,high,⟨q1,q2,I,O,q5⟩=>by
  have e:l≠i:=fun e=>by rw[e,q2] at fA;cases fA
  have U:=wN (t:=t) hl.1 q1.1 e q;have ih:=fun j (hj:j<(t.pg i).kids.length)=>SV hq Z hx hl fA E (q5 j hj);refine⟨?_,?_,fun d hd=>?_⟩
  ·rw[en,U,oA];exact⟨q1,q2,I,O,fun j hj=>(ih j hj).1⟩
  ·rw[ids,ids,U];congr 1;refine rF fun c hc=>?_;obtain⟨j,hj,rfl⟩:=mem_iff_getElem.1 hc;exact(ih j hj).2.1
  cases d with
  | zero=>rfl
  | succ d =>
   rw[cJ,cJ,U];refine rF fun c hc=>?_;obtain⟨j,hj,rfl⟩:=mem_iff_getElem.1 hc;exact(ih j hj).2.2 d w4
theorem ab6(v:Valid t h)(ht:Cr t k h):Valid (hU t h k) h∧(hU t h k).ag.length=t.ag.length∧∀x,x∈lm (hU t h k) h↔x∈lm t h∧x.1≠k:=by
 obtain⟨ha,hk⟩:=ht;obtain⟨hl,fA⟩:=v.leaf k;have po:=v.fR _ (jK hl);have hq:=ahm po fA ha;have hlen:=po.leaf fA;have S:=fun {i:Int} {low high:K} (ok:en t h i low high)=>SV (t:=t) (q:=kO (t.pg (aI t k h t.root)) (aN (t.pg (aI t k h t.root)) k)) (l:=aI t k h t.root) fA rfl rfl hl fA (fun k hk=>(eraseIdx_sublist _ _).subset hk) ok;obtain⟨s1,s2,s3⟩:=S v.ok;have E:(hU t h k).ag.length=t.ag.length:=oA _ _ _;refine⟨⟨by rw[E];exact v.pos,by rw[E];exact v.n9,?_,s1,?_,?_,fun d hd=>?_⟩,E,fun x=>?_⟩
 ·rw[E];exact Ji v.fR hq
 ·show(ids (hU t h k) h t.root).Nodup;unfold hU;rw[s2];exact v.AG
 ·show(ids (hU t h k) h t.root).length=_;rw[E];unfold hU;rw[s2];exact v.all
 ·show fm (hU t h k) (cJ (hU t h k) d t.root) (-1);unfold hU;rw[s3 d hd];refine zg (fun y hy=>?_) (v.pM d hd);have I:=v.ok.ids y (sM h _ d hd y hy);by_cases e:aI t k h t.root=y
  ·rw[←e,wZ hl];rfl
  rw[wN hl.1 I.1 e]
 obtain⟨pre,post,lo,hi,e,h1,h2,h3,h4⟩:=BX v.fR v.ok (uj k);have hlv:(cJ t h t.root).Nodup→aI t k h t.root∉pre∧aI t k h t.root∉post:=fun hn=>by
  rw[e,nodup_append,nodup_cons] at hn;exact⟨fun hm=>hn.2.2 _ hm _ (mem_cons_self) rfl,hn.2.1.1⟩
 have e9:∀y∈pre,fi ((hU t h k).pg y)=fi (t.pg y)∨y=aI t k h t.root:=fun y hy=>by
  by_cases e':aI t k h t.root=y
  ·exact .inr e'.symm
  left;have I:=v.ok.ids y (sM h _ h (Nat.le_refl _) y (by rw[e];exact mem_append_left _ hy));unfold hU;rw[wN hl.1 I.1 e']
 have rY:∀y∈post,fi ((hU t h k).pg y)=fi (t.pg y)∨y=aI t k h t.root:=fun y hy=>by
  by_cases e':aI t k h t.root=y
  ·exact .inr e'.symm
  left;have I:=v.ok.ids y (sM h _ h (Nat.le_refl _) y (by rw[e];exact mem_append_right _ (mem_cons_of_mem _ hy)));unfold hU;rw[wN hl.1 I.1 e']
 have Z:(k,(t.pg (aI t k h t.root)).kids.getD (aN (t.pg (aI t k h t.root)) k) 0)∈fi (t.pg (aI t k h t.root)):=(BJ hlen).2 ⟨_,ha,by rw[hk,getD_eq_getElem?_getD,getElem?_eq_getElem w4];rfl⟩;have ak8:aI t k h t.root∉pre:=fun hm=>absurd (h1 _ hm _ Z) (jl k);have aiN:aI t k h t.root∉post:=fun hm=>absurd (h2 _ hm _ Z) (jl k);have ed:fi ((hU t h k).pg (aI t k h t.root))=(fi (t.pg (aI t k h t.root))).eraseIdx (aN (t.pg (aI t k h t.root)) k):=by
  unfold hU;rw[wZ hl];exact Q8
 have fe:∀{A:List Int},(∀y∈A,fi ((hU t h k).pg y)=fi (t.pg y)∨y=aI t k h t.root)→aI t k h t.root∉A→A.flatMap (fun l=>fi ((hU t h k).pg l))=A.flatMap (fun l=>fi (t.pg l)):=fun {A} hA hn=>rF fun y hy=>(hA y hy).resolve_right fun e'=>hn (e' ▸ hy);have O:∀x:K×Int,x∈(fi (t.pg (aI t k h t.root))).eraseIdx (aN (t.pg (aI t k h t.root)) k)↔x∈fi (t.pg (aI t k h t.root))∧x.1≠k:=fun x=>by
  rw[mem_eraseIdx_iff_getElem];constructor
  ·rintro⟨a,Zl,hne,rfl⟩;refine⟨getElem_mem _,fun hc=>hne ?_⟩;have U:a<(t.pg (aI t k h t.root)).keys.length:=(by unfold fi at Zl;rw[length_zip] at Zl;omega)
   rw[FF hlen U] at hc;have hc:(t.pg (aI t k h t.root)).keys[a]=k:=hc;rcases Nat.lt_trichotomy a (aN (t.pg (aI t k h t.root)) k) with h5|h5|h5
   ·have:=nw po.ke h5 ha;rw[hc,hk] at this;exact absurd this (jl k)
   ·exact h5
   have:=nw po.ke h5 U;rw[hc,hk] at this;exact absurd this (jl k)
  rintro⟨hx,hne⟩;obtain⟨a,U,rfl⟩:=(BJ hlen).1 hx;refine⟨a,by unfold fi;rw[length_zip];omega,fun e'=>hne ?_,FF hlen U⟩;subst e';exact hk
 show x∈eB (hU t h k) h t.root↔x∈eB t h t.root∧_;rw[wY,wY];have ak9:cJ (hU t h k) h t.root=cJ t h t.root:=s3 h (Nat.le_refl _);rw[ak9,e,flatMap_append,flatMap_cons,flatMap_append,flatMap_cons,fe e9 ak8,fe rY aiN,ed];simp only[mem_append,O];constructor
 ·rintro(hx|hx|hx)
  ·refine⟨.inl hx,fun hc=>?_⟩;obtain⟨l,mi,hx⟩:=mem_flatMap.1 hx;have:=h1 l mi x hx;rw[hc] at this;exact jl k this
  ·exact⟨.inr (.inl hx.1),hx.2⟩
  refine⟨.inr (.inr hx),fun hc=>?_⟩;obtain⟨l,mi,hx⟩:=mem_flatMap.1 hx;have:=h2 l mi x hx;rw[hc] at this;exact jl k this
 rintro⟨hx|hx|hx,hne⟩
 ·exact .inl hx
 ·exact .inr (.inl ⟨hx,hne⟩)
 exact .inr (.inr hx)

end Go.Proofs.YtkgmonfgofobaaaGreatDoor.Tr
namespace Go.Proofs.YtkgmonfgofobaaaGreatDoor.Tr
open List
open Go.Proofs.Tryz
open Go.Lib (compareBytes)
def tg(lv:List (List Int))(n:Nat):List (List Int):=lv++replicate (n-lv.length) []
def kQ(lv:List (List Int))(level:Nat)(i:Int):List (List Int):=(tg lv (level+1)).set level ((tg lv (level+1)).getD level []++[i])
abbrev jH:=List Int×List (List Int)
def l6(go:Int→K→K→jH→Option (Nat×jH))(low:K)(p:c9):List Int→Nat→Option Nat→jH→Option (Nat×jH)
 | [],_,deep,s=>deep.map fun d=>(d,s)
 | c::cs,k,deep,s=>match go c (iM low p k) (iw p k) s with
  | none=>none
  | some (d,s')=>if deep=none∨deep=some d then l6 go low p cs (k+1) (some d) s' else none
def jB(t:aG):Nat→Int→K→K→Nat→jH→Option (Nat×jH)
 | 0,_,_,_,_,_=>none
 | f+1,i,low,high,level,s =>
  if i∈s.1 then none
  else if (t.pg i).high≠high∨(∃k,(t.pg i).keys.head?=some k∧bu k low) then none
  else if (t.pg i).leaf=true then some (level,(s.1++[i],kQ s.2 level i))
  else l6 (fun c lo hi s=>jB t f c lo hi (level+1) s) low (t.pg i) (t.pg i).kids 0 none (s.1++[i],kQ s.2 level i)
def vr(t:aG):Prop:=∀p∈t.ag,eN p t.ag.length
open Classical in
noncomputable def gS(t:aG):Int :=
 if t.ag.length<1∨t.ag.length>4000∨t.root<0∨t.root≥t.ag.length then 11
 else if ¬vr t then 11
 else match jB t (t.ag.length+1) t.root [] [] 0 ([],[]) with
  | none=>11
  | some (_,s)=>if s.1.length≠t.ag.length then 11 else if ∀l∈s.2,fm t l (-1) then 0 else 11
theorem SX(lv:List (List Int))(n:Nat):(tg lv n).length=max lv.length n:=by unfold tg;rw[length_append,length_replicate];omega
theorem KT(lv:List (List Int))(n m:Nat):(tg lv n).getD m []=lv.getD m []:=by
 unfold tg;rw[getD_eq_getElem?_getD,getD_eq_getElem?_getD];rcases Nat.lt_or_ge m lv.length with h|h
 ·rw[getElem?_append_left h]
 rw[getElem?_append_right h,getElem?_eq_none h,getElem?_replicate];split<;>rfl
theorem JY(lv:List (List Int))(level:Nat)(i:Int):(kQ lv level i).length=max lv.length (level+1):=by unfold kQ;rw[length_set,SX]
theorem F3(lv:List (List Int))(level:Nat)(i:Int)(m:Nat):(kQ lv level i).getD m []=lv.getD m []++(if m=level then [i] else []):=by
 unfold kQ;rw[getD_eq_getElem?_getD];by_cases e:m=level
 ·subst e;rw[getElem?_set_self (by rw[SX];omega),KT,if_pos rfl];rfl
 rw[getElem?_set_ne (fun h=>e h.symm),if_neg e,append_nil,←getD_eq_getElem?_getD,KT]
def xL(t:aG)(h level:Nat)(i:Int)(m:Nat):List Int:=if level≤m∧m≤level+h then cJ t (m-level) i else []
variable {t:aG}
theorem SY {h level:Nat} {low:K} {p:c9} (go:Int→K→K→jH→Option (Nat×jH))
  (O:∀(c:Int) (lo hi:K) (s:jH),en t h c lo hi→(∀x∈ids t h c,x∉s.1)→(ids t h c).Nodup→∃lv,go c lo hi s=some (level+1+h,(s.1++ids t h c,lv))∧lv.length=max s.2.length (level+1+h+1)∧∀m,lv.getD m []=s.2.getD m []++xL t h (level+1) c m) :
  ∀(cs:List Int) (k:Nat) (deep:Option Nat) (s:jH),(∀j (hj:j<cs.length),en t h cs[j] (iM low p (k+j)) (iw p (k+j)))→(cs.flatMap (ids t h)).Nodup→(∀x∈cs.flatMap (ids t h),x∉s.1)→(deep=none∨deep=some (level+1+h))→(cs≠[]∨deep≠none) →
   ∃lv,l6 go low p cs k deep s=some (level+1+h,(s.1++cs.flatMap (ids t h),lv))∧lv.length=(if cs=[] then s.2.length else max s.2.length (level+1+h+1))∧∀m,lv.getD m []=s.2.getD m []++(if level+1≤m∧m≤level+1+h then cs.flatMap (cJ t (m-(level+1))) else [])
 | [],k,deep,s,_,_,_,hd,hne=>by
  rcases hd with rfl|rfl
  ·rcases hne with h|h<;>exact absurd rfl h
  exact⟨s.2,by simp[l6],by simp,fun m=>by split<;>simp⟩
 | c::cs,k,deep,s,aT,hnd,E,hd,_=>by
  rw[flatMap_cons] at hnd E;rw[nodup_append] at hnd;obtain⟨n1,n2,n3⟩:=hnd;obtain⟨I,e1,l1,m1⟩:=O c (iM low p k) (iw p k) s (aT 0 bj) (fun x hx=>E x (mem_append_left _ hx)) n1;obtain⟨U,e2,l2,m2⟩:=SY go O cs (k+1) (some (level+1+h)) (s.1++ids t h c,I) (fun j hj=>by
   have:=aT (j+1) (by simpa using hj);simp only[getElem_cons_succ] at this;rw[show k+1+j=k+(j+1) by omega];exact this) n2 (fun x hx hm=>by
    rcases mem_append.1 hm with hm|hm
    ·exact E x (mem_append_right _ hx) hm
    exact n3 x hm x hx rfl) (.inr rfl) (.inr bj)
  refine⟨U,?_,?_,fun m=>?_⟩
  ·rw[l6,e1];show(if deep=none∨deep=some (level+1+h) then _ else _)=_;rw[if_pos hd,e2,flatMap_cons,append_assoc]
  ·rw[l2];show(if cs=[] then I.length else max I.length _)=_;rw[l1,if_neg (cons_ne_nil c cs)];split<;>omega
  rw[m2,m1];unfold xL;split
  ·rw[flatMap_cons,append_assoc]
  simp
theorem Vv(hp:∀p∈t.ag,eN p t.ag.length):∀{h f:Nat} {i:Int} {low high:K} {level:Nat} {s:jH},h<f→en t h i low high→(∀x∈ids t h i,x∉s.1)→(ids t h i).Nodup →
  ∃lv,jB t f i low high level s=some (level+h,(s.1++ids t h i,lv))∧lv.length=max s.2.length (level+h+1)∧∀m,lv.getD m []=s.2.getD m []++xL t h level i m
 | h,0,_,_,_,_,_,hf,_,_,_=>by omega
 | 0,f+1,i,low,high,level,s,hf,ok,E,hnd=>by
  obtain⟨q1,q2,O,U⟩:=ok;refine⟨kQ s.2 level i,?_,JY _ _ _,fun m=>?_⟩
  ·rw[jB,if_neg (E i (tU 0 i)),if_neg,if_pos q2];rfl;rintro(h|⟨k,hk,aa⟩)
   ·exact h O
   exact U k (mem_of_mem_head? hk) aa
  rw[F3];unfold xL;congr 1;by_cases e:m=level
  ·subst e;rw[if_pos rfl,if_pos ⟨Nat.le_refl _,Nat.le_refl _⟩,Nat.sub_self];rfl
  rw[if_neg e,if_neg w4]
 | h+1,f+1,i,low,high,level,s,hf,ok,E,hnd=>by
  obtain⟨q1,q2,O,U,Z⟩:=ok;have po:=hp _ (jK q1);have I:(t.pg i).kids≠[]:=fun e=>by have:=(po.node q2).1;rw[e] at this;simp at this
  rw[ids,nodup_cons] at hnd;rw[ids] at E;obtain⟨lv,e,l,mm⟩:=SY (t:=t) (h:=h) (level:=level) (low:=low) (p:=t.pg i) (fun c lo hi s=>jB t f c lo hi (level+1) s)
   (fun c lo hi s ok hd hn=>Vv hp (h:=h) (f:=f) (level:=level+1) w4 ok hd hn) (t.pg i).kids 0 none (s.1++[i],kQ s.2 level i) (fun j hj=>by rw[Nat.zero_add];exact Z j hj) hnd.2 (fun x hx hm=>by
    rcases mem_append.1 hm with hm|hm
    ·exact E x (mem_cons_of_mem _ hx) hm
    rw[mem_singleton] at hm;subst hm;exact hnd.1 hx) (.inl rfl) (.inl I)
  refine⟨lv,?_,?_,fun m=>?_⟩
  ·rw[jB,if_neg (E i mem_cons_self),if_neg,if_neg (by rw[q2];decide),e,ids]
   ·simp;omega
   rintro(h|⟨k,hk,aa⟩)
   ·exact h O
   exact U k (mem_of_mem_head? hk) aa
  ·rw[l,if_neg I];show max (kQ s.2 level i).length _=_;rw[JY];omega
  rw[mm];show(kQ s.2 level i).getD m []++_=_;rw[F3];unfold xL;rw[append_assoc];congr 1;by_cases e1:m=level
  ·subst e1;rw[if_pos rfl,if_neg w4,if_pos ⟨Nat.le_refl _,by omega⟩,Nat.sub_self];rfl
  rw[if_neg e1,nil_append];by_cases e2:level+1≤m∧m≤level+1+h
  ·rw[if_pos e2,if_pos w4];obtain⟨d,rfl⟩:∃d,m=level+1+d:=⟨m-(level+1),by omega⟩
   rw[show level+1+d-(level+1)=d by omega,show level+1+d-level=d+1 by omega,cJ]
  rw[if_neg e2,if_neg w4]
open Classical in
theorem JZ{h:Nat}(v:Valid t h):gS t=0:=by
 have hr:=v.range;have E:=v.pos;have hm:=v.n9;unfold gS;rw[if_neg w4,if_neg (by exact fun hn=>hn v.fR)];obtain⟨lv,e,l,I⟩:=Vv v.fR (f:=t.ag.length+1) (level:=0) (s:=([],[])) (by have:=v.high;omega) v.ok (fun x _ hx=>by cases hx) v.AG;rw[e];show(if ([]++ids t h t.root).length≠t.ag.length then _ else if ∀l∈lv,fm t l (-1) then (0:Int) else 11)=0;rw[if_neg (by rw[nil_append,v.all];simp),if_pos];intro x hx;obtain⟨m,tP,rfl⟩:=mem_iff_getElem.1 hx;have:=I m;rw[getD_eq_getElem?_getD,getElem?_eq_getElem tP] at this;have e2:lv[m]=xL t h 0 t.root m:=(by simpa using this)
 rw[e2];unfold xL;rw[l] at tP;rw[if_pos (by simp at tP;omega),Nat.sub_zero];exact v.pM m (by simp at tP;omega)

end Go.Proofs.YtkgmonfgofobaaaGreatDoor.Tr
namespace Go.Proofs.YtkgmonfgofobaaaGreatDoor.Tw
open List
open Go.Proofs.Tryz
open Go.RowKit V Tr Pk
open Go.Lib (compareBytes)
variable {l hi k:K} {p:c9} {n many:Int} {i:Nat} {t:aG}
def cK(k:K):List D:=[au 1 cB k]
theorem gw(k:K):(cK k).length=1:=rfl
theorem pZ(k:K):(cK k).all V.one=true:=rfl
def cI(n:Int):List D:=[ae n]
theorem eM(n:Int):(cI n).length=1:=rfl
theorem nT(n:Int):(cI n).all V.one=true:=rfl
def cP(p:c9):List D:=[bG p.leaf,au 1 cK p.keys,au 1 cI p.kids,au 1 cB p.high,ae p.next]
theorem Gn(p:c9):(cP p).length=5:=rfl
theorem ahn(p:c9):(cP p).all V.one=true:=rfl
def cT(t:aG):List D:=[au 5 cP t.ag,ae t.root]
def oK(k:K):Bool:=decide (0<k.length∧k.length≤100)
def vD(p:c9)(i:Nat):Prop:=∀(h:i<p.keys.length),oK p.keys[i]=true∧(∀(h0:0<i),bu (p.keys[i-1]'w4) p.keys[i])∧(p.high≠[]→bu p.keys[i] p.high)
theorem adX{l:List K}(h:∀i (hi:i<l.length) (h0:0<i),bu (l[i-1]'w4) l[i]):l.Pairwise bu:=by
 refine pairwise_iff_getElem.2 fun i j hi hj E=>?_;obtain⟨d,rfl⟩:∃d,j=i+1+d:=⟨j-(i+1),by omega⟩
 induction d with
 | zero=>have:=h (i+1) hj w4;simpa using this
 | succ d ih =>
  have h1:=ih w4 w4;have h2:=h (i+1+(d+1)) hj w4;exact mw h1 (by simpa using h2)
theorem TJ(h:eN p n)(i:Nat):vD p i:=fun hi=>by
 have hm:=getElem_mem hi;have:=h.lJ _ hm;exact⟨by unfold oK;simp;omega,fun h0=>nw h.ke w4 hi,fun hne=>h.qW hne _ hm⟩
theorem Le(h:decide ((l.length:Int)>0)=true):l≠[]:=fun e=>by rw[e] at h;cases h
theorem len_nil(h:decide ((l.length:Int)>0)=false):l=[]:=by
 have:=of_decide_eq_false h;exact length_eq_zero_iff.1 w4
theorem V4(h:decide ((hi.length:Int)>0)=true):decide (compareBytes k hi≥0)=decide (hi≠[]∧¬bu k hi):=by
 have:=Le h;unfold bu;simp[this]
theorem V5(h:decide ((hi.length:Int)>0)=false):false=decide (hi≠[]∧¬bu k hi):=by simp[len_nil h]
variable {G:List (Nat×List Value)}
theorem xw(a b:K):VP Tryz.prog G 64 [au 1 cB a,au 1 cB b] (ae (compareBytes a b)):=by
 exact WI
theorem V6(a b:K)(ha:a.length≤maxLen)(hb:b.length≤maxLen):VP Tryz.prog G 133 [au 1 cB a,au 1 cB b] (bG (decide (a=b))):=by
 refine VC.body func133 rfl ntmps133 aQ fun X0 w0 bf=>?_;refine af [0,1] ?_;refine cM [4] ?_;refine aR 1 ?_ (h:=by exact DT);refine aR 1 ?_ (h:=by exact DT);refine bH ?_;refine aM [] ?_;refine⟨vb ?_,rfl⟩;rw[ByteArray.toList_eq,ByteArray.toList_eq];show(a==b)=decide (a=b);by_cases h:a=b<;>simp[h]
theorem zP(k:K):VP Tryz.prog G 132 [au 1 cB k] (bG (oK k)):=by
 refine VC.body func132 rfl ntmps132 aQ fun X0 w0 bf=>?_;refine af [0] ?_;refine aB 4 ?_;refine bY 6 (fun I E=>?_) (fun I E=>?_)
 ·refine bp [2] ?_;refine eZ ?_;refine⟨vb ?_,rfl⟩;unfold oK;first|(simp_all;done)|(simp_all;omega)
 refine bp [2] ?_;refine eZ ?_;refine⟨vb ?_,rfl⟩;unfold oK;first|(simp_all;done)|(simp_all;omega)
theorem ab7(p:c9)(k:K):VP Tryz.prog G 134 [.agg (cP p),au 1 cB k] (bG (decide (p.high≠[]∧¬bu k p.high))):=by
 refine VC.body func134 rfl ntmps134 aQ fun X0 w0 bf=>?_;unfold cP;refine cf ?_;refine OD.box (ds:=[_,_,_,_,_]) ap rfl rfl ot rfl rfl (fun b2=>?_);refine an 16 [1,2] ?_;refine aB 5 ?_;refine bY 9 (fun E I=>?_) (fun E I=>?_)
 ·refine aH 3 ?_;refine OD.iC iJ rfl rfl rfl call64 (xw k p.high) ⟨ot,ot,trivial⟩ ?_;refine an 16 [4] ?_;refine aM [] ?_;refine⟨vb ?_,rfl⟩;first|exact V4 E|exact V5 E
 refine bp [4] ?_;refine eZ ?_;refine⟨vb ?_,rfl⟩;first|exact V4 E|exact V5 E
theorem V7{a:Int}(h:(decide (a<0)!=((l.length:Int)==0))=false):a<0↔l=[]:=by
 have h:decide (a<0)=((l.length:Int)==0):=(by simpa using h)
 rw[←length_eq_zero_iff];constructor
 ·intro q;rw[decide_eq_true q] at h;have:=beq_iff_eq.1 h.symm;omega
 intro q;rw[q] at h;exact of_decide_eq_true h
theorem ah3{a:Int}(h:a<0↔l=[]):(!(decide (a<0)==((l.length:Int)==0)))=false:=by
 rw[←length_eq_zero_iff] at h;by_cases q:a<0
 ·rw[decide_eq_true q,h.1 q];rfl
 rw[decide_eq_false q];have:¬l.length=0:=fun e=>q (h.2 e);simp;exact fun e=>this (by rw[e];rfl)
open Classical in
noncomputable def CC(p:c9)(many:Int):Bool:=decide (eN p many)
open Classical in
theorem Fq(h:¬eN p many):false=CC p many:=(decide_eq_false h).symm
open Classical in
theorem ab8(h:eN p many):true=CC p many:=(decide_eq_true h).symm
theorem ae4(h:eN p n)(hi:i<p.kids.length):0≤p.kids[i]∧(p.leaf=false→p.kids[i]<n):=⟨h.aA _ (getElem_mem hi),fun hl=>h.vS hl _ (getElem_mem hi)⟩
theorem adY(f1:p.keys.length≤4)(f2:p.high.length≤100)(f3:-1≤p.next)(f4:p.next<many)(f5:(p.next<0↔p.high=[]))(I:(p.leaf=true→p.kids.length=p.keys.length))(E:(p.leaf=false→p.kids.length=p.keys.length+1∧p.keys.length≠0))(hk:∀j,j<p.keys.length→vD p j)(hc:∀j (hj:j<p.kids.length),0≤p.kids[j]∧(p.leaf=false→p.kids[j]<many)):eN p many:=by
 refine⟨f1,f2,f3,f4,f5,I,fun h=>⟨(E h).1,fun e=>(E h).2 (by rw[e];rfl)⟩,fun k h=>?_,fun hne k h=>?_,adX fun i hi h0=>(hk i hi hi).2.1 h0,fun n h=>?_,fun hl n h=>?_⟩
 ·obtain⟨i,hi,rfl⟩:=mem_iff_getElem.1 h;have:=(hk i hi hi).1;unfold oK at this;have:=of_decide_eq_true this;omega
 ·obtain⟨i,hi,rfl⟩:=mem_iff_getElem.1 h;exact(hk i hi hi).2.2 hne
 ·obtain⟨i,hi,rfl⟩:=mem_iff_getElem.1 h;exact(hc i hi).1
 obtain⟨i,hi,rfl⟩:=mem_iff_getElem.1 h;exact(hc i hi).2 hl
theorem afN(p:c9)(many:Int)(dJ:p.keys.length≤maxLen)(fL:p.kids.length≤maxLen):VP Tryz.prog G 114 [.agg (cP p),ae many] (bG (CC p many)):=by
 refine VC.body func114 rfl ntmps114 aQ fun X0 w0 bf=>?_;unfold cP;have c8:=dV;refine cf ?_;refine OD.box (ds:=[_,_,_,_,_]) ap rfl rfl ot rfl rfl (fun b2=>?_);refine an 132 [1,2] ?_;refine aB 5 ?_;refine bY 13 (fun ala Z=>?_) (fun ala Z=>?_)
 ·exact G4
 refine aH 6 ?_;refine bY 19 (fun MO aiO=>?_) (fun MO aiO=>?_)
 ·exact G4
 refine aH 5 ?_;refine bY 24 (fun alb aiP=>?_) (fun alb aiP=>?_)
 ·exact G4
 refine aH 6 ?_;refine bY 30 (fun alc aiQ=>?_) (fun alc aiQ=>?_)
 ·exact G4
 refine aH 7 ?_;refine OD.still iJ rfl (dA rfl ot ot (JI underlying4)) ?_;refine an 132 [1,2,39] ?_;refine av ?_ ?_<;>intro aL bB
 ·refine af [4] ?_;refine aM [] ?_;exact z7
 refine CD.skip ?_;refine iL [1,2] (fun aS I aE=>(p.keys.length≤4)∧(p.high.length≤100)∧(-1≤p.next)∧(p.next<many)∧((p.next<0↔p.high=[]))∧((p.leaf=true→p.kids.length=p.keys.length))∧((p.leaf=false→p.kids.length=p.keys.length+1∧p.keys.length≠0))∧aE=(⟨132,aS,I⟩:St)) ?_ ?_
 ·refine aB 3 ?_;refine bY 42 (fun rO aiR=>?_) (fun rO aiR=>?_)
  ·refine aH 9 ?_;refine bY 51 (fun ald aiS=>?_) (fun ald aiS=>?_)
   ·exact WM
   refine aH 4 ?_;refine bY 55 (fun uw E=>?_) (fun uw E=>?_)
   ·exact absurd uw (by rw[rO];decide)
   refine bp [1,2,71] ?_;refine gq ?_;refine CD.skip ?_;refine⟨_,aJ,w4,w4,w4,w4,(V7 aL),(fun _=>by omega),(fun h=>absurd rO (by rw[h];decide)),rfl⟩
  refine yG 7 ?_;refine aH 6 ?_;refine bY 55 (fun uw E=>?_) (fun uw E=>?_)
  ·refine aH 9 ?_;refine bY 64 (fun MZ L6=>?_) (fun MZ L6=>?_)
   ·exact WM
   refine bp [1,2,71] ?_;refine av ?_ ?_<;>intro aY cD
   ·refine af [4] ?_;refine eZ ?_;exact z7
   refine CD.skip ?_;refine⟨_,aJ,w4,w4,w4,w4,(V7 aL),(fun h=>absurd rO (by rw[h];decide)),(fun _=>⟨by omega,by omega⟩),rfl⟩
  exact absurd uw (by rw[rO];decide)
 rintro _ ⟨f1,f2,f3,f4,f5,f6,f7,rfl⟩;refine af [1,2,73,74,75] ?_;refine eG [1,2,73,74] (fun aS I (i:Nat) aE=>(i≤p.keys.length)∧(∀j,j<i→vD p j)∧aE=(⟨132,(75,ae (i:Nat))::aS,I⟩:St)) (fun (i:Nat)=>p.keys.length-i) 0 ⟨(Nat.zero_le _),(fun j h=>by omega),rfl⟩ ?_;rintro i _ ⟨hi,yo,rfl⟩;refine af [1,2,73,74,75,76] ?_;refine av ?_ ?_<;>intro cm cR
 ·have aa:i<p.keys.length:=(by omega)
  refine af [1,2,5,6,73,74,75] ?_;refine aB 1 ?_;refine ec call132 (zP p.keys[i]) ?_;refine aH 2 ?_;refine bY 83 (fun xQ aiT=>?_) (fun xQ aiT=>?_)
  ·refine an 132 [1,2,73,74,75,110] ?_;refine eY ?_;exact XQ
  refine aH 3 ?_;refine bY 86 (fun ale aiU=>?_) (fun ale aiU=>?_)
  ·refine aH 4 ?_;refine bV (dO 1 (h:=by first|exact .l (j:=i-1) w4 w4|exact .r (j:=i-1) w4 w4)) ?_;refine aH 2 ?_;refine OD.iC iJ rfl rfl rfl call64 (xw (p.keys[i-1]'w4) p.keys[i]) ⟨ot,ot,trivial⟩ ?_;refine aH 4 ?_;refine bY 98 (fun An GR=>?_) (fun An GR=>?_)
   ·refine an 132 [1,2,73,74,75,110] ?_;refine eY ?_;exact XQ
   refine aH 5 ?_;exact z21
  refine yG 9 ?_;refine aH 8 ?_;exact z21
 have aiV:∀j,j<p.keys.length→vD p j:=fun j hj=>yo j w4;refine af [1,2,113,114,115] ?_;refine eG [1,2,113,114] (fun aS I (i:Nat) aE=>(i≤p.kids.length)∧(∀j (_:j<i) (hj:j<p.kids.length),0≤p.kids[j]∧(p.leaf=false→p.kids[j]<many))∧aE=(⟨132,(115,ae (i:Nat))::aS,I⟩:St)) (fun (i:Nat)=>p.kids.length-i) 0 ⟨(Nat.zero_le _),(fun j h=>by omega),rfl⟩ ?_;rintro i _ ⟨kC,lN,rfl⟩;refine af [1,2,113,114,115,116] ?_;refine av ?_ ?_<;>intro dR fH
 ·have aa:i<p.kids.length:=(by omega)
  refine af [1,2,8,113,114,115] ?_;refine aB 3 ?_;refine bY 121 (fun LP O=>?_) (fun LP O=>?_)
  ·refine bp [1,2,113,114,115,130] ?_;refine eY ?_;exact Yb
  refine aH 4 ?_;refine bY 125 (fun Gz U=>?_) (fun Gz U=>?_)
  ·refine bp [1,2,113,114,115,130] ?_;refine av ?_ ?_<;>intro fM gW
   ·exact Yb
   exact X6
  refine bp [1,2,113,114,115,130] ?_;refine gq ?_;exact X6
 refine af [4] ?_;refine aM [] ?_;refine⟨vb (ab8 (adY f1 f2 f3 f4 f5 f6 f7 aiV fun j hj=>lN j w4 hj)),rfl⟩

def nA(keys:List K)(k:K):Bool:=decide (keys[gP keys k]?=some k)
theorem adZ{keys:List K}(hi:i≤keys.length)(h1:∀m (hm:m<keys.length),m<i→bu keys[m] k)(h2:∀m (hm:m<keys.length),i≤m→¬bu keys[m] k):gP keys k=i:=by
 have E:=zo keys k;rcases Nat.lt_trichotomy (gP keys k) i with h|h|h
 ·have aa:gP keys k<keys.length:=(by omega)
  exact absurd (h1 _ aa h) (BI aa)
 ·exact h
 obtain⟨h',q⟩:=BV h;exact absurd q (h2 _ h' (Nat.le_refl _))
theorem ab9{keys:List K}(hr:keys.Pairwise bu)(k:K):mV keys k=if nA keys k=true then gP keys k+1 else gP keys k:=by
 have E:=zo keys k;split
 ·rename_i hf;unfold nA at hf;have hf:=of_decide_eq_true hf;obtain⟨aa,he⟩:=List.getElem?_eq_some_iff.1 hf;refine KR hr w4 (fun _=>?_) (fun h=>?_)
  ·show ¬bu k (keys[gP keys k+1-1]'w4);simp only[Nat.add_sub_cancel,he];exact jl k
  have:=nw hr (Nat.lt_succ_self (gP keys k)) h;rw[he] at this;exact this
 rename_i hf;refine KR hr E (fun h0=>?_) (fun h=>?_)
 ·exact xA (BV (by omega:gP keys k-1<gP keys k)).2
 have h1:=BI h;rcases zN keys[gP keys k] k with h2|h2|h2
 ·exact absurd h2 h1
 ·exfalso;apply hf;unfold nA;rw[getElem?_eq_getElem h,h2];simp
 exact h2
theorem CE{a:Nat}:((a:Nat):Int).fdiv (2 ^ min (1:Int).toNat IntKind.u64.bits)=((a/2:Nat):Int):=by
 rw[show min (1:Int).toNat IntKind.u64.bits=1 from rfl,Int.fdiv_eq_ediv_of_nonneg _ w7];rfl
theorem Vw{keys:List K}(hd:gP keys k=i)(hi:i<keys.length):(D.dD [ae (i:Nat),bG (compareBytes keys[i] k==0)]) = .dD [ae (gP keys k:Nat),bG (nA keys k)]∧([]:List ah)=[]:=by
 subst hd;refine⟨?_,rfl⟩;have:(compareBytes keys[gP keys k] k==0)=nA keys k:=by
  unfold nA;rw[getElem?_eq_getElem hi];by_cases h:keys[gP keys k]=k
  ·have:=pu.2 h;rw[this];simp[h]
  have:¬compareBytes keys[gP keys k] k=0:=fun e=>h (pu.1 e);simp[h,this]
 rw[this]
theorem Uu{keys:List K}(hd:gP keys k=i)(hi:keys.length≤i):(D.dD [ae (i:Nat),bG false]) = .dD [ae (gP keys k:Nat),bG (nA keys k)]∧([]:List ah)=[]:=by
 subst hd;refine⟨?_,rfl⟩;have:nA keys k=false:=(by unfold nA;rw[getElem?_eq_none hi];rfl)
 rw[this]
theorem acd(keys:List K)(k:K)(hr:keys.Pairwise bu)(hl:keys.length≤1000):VP Tryz.prog G 135 [au 1 cK keys,au 1 cB k,.eH (.func 64) []] (.dD [ae (gP keys k:Nat),bG (nA keys k)]):=by
 refine VC.body func135 rfl ntmps135 aQ fun X0 w0 bf=>?_;have c8:=dV;refine af [0,1,2] ?_;refine af [0,1,2,8] ?_;refine af [0,1,2,8,9,10] ?_;refine eG [0,1,2,8] (fun aS _ (I:Nat×Nat) aE=>match I with|(i,j)=>(i≤j)∧(j≤keys.length)∧(∀m (hm:m<keys.length),m<i→bu keys[m] k)∧(∀m (hm:m<keys.length),j≤m→¬bu keys[m] k)∧aE=(⟨49,(9,ae (i:Nat))::(10,ae (j:Nat))::aS,[]⟩:St)) (fun (I:Nat×Nat)=>match I with|(i,j)=>j-i) (0,keys.length) ⟨(Nat.zero_le _),(Nat.le_refl _),(fun m hm h=>by omega),(fun m hm h=>by omega),rfl⟩ ?_;rintro⟨i,j⟩ _ ⟨Bl,hjn,h1,h2,rfl⟩;refine af [0,1,2,8,9,10,17] ?_;refine av ?_ ?_<;>intro aL bB
 ·have aa:i<j:=(by omega)
  have E:((i+j)/2)<keys.length:=(by omega)
  refine cM [0,1,2,8,9,10,11] ?_;refine aR 2 ?_ (h:=by exact(dA rfl ot ot (kr (r:=((i+j:Nat):Int)) AP)));refine aR 0 ?_ (h:=by exact(oX rfl ot (o8 (r:=((i+j:Nat):Int)) runUnderlying3 runUnderlying225 (IntWalk.u64_in _ w4))));refine aR 0 ?_ (h:=by exact(dA rfl ot bP (zC w7 CE)));refine aR 0 ?_ (h:=by exact(oX rfl ot (o8 (r:=((((i+j)/2):Nat):Int)) runUnderlying225 runUnderlying3 (wrap_i64 w4 w4))));refine bH ?_;refine aB 6 ?_;refine OD.lY (f:=64) (args:=[_,_]) (all:=[_,_]) (Sf:=[]) ap rfl rfl ot call64 (xw (keys[((i+j)/2)]'E) k) rfl ⟨ot,ot,trivial⟩ (fg _) ?_;rintro _ _ ⟨rfl,rfl⟩;refine an 49 [0,1,2,8,9,10,11,31] ?_;refine av ?_ ?_<;>intro aY cD
  ·have hc:bu (keys[((i+j)/2)]'E) k:=of_decide_eq_true aY;have Z:∀m (hm:m<keys.length),m<((i+j)/2)+1→bu keys[m] k:=fun m hm h=>by (rcases Nat.lt_or_ge m ((i+j)/2) with q|q);exact mw (nw hr q E) hc;(have:m=((i+j)/2):=by omega);subst this;exact hc
   refine cc [0,1,2,8,9,10] ?_;refine⟨((((i+j)/2)+1),j),_,cr,aJ,w4,w4,(fun m hm h=>by rcases Nat.lt_or_ge m i with q|q;exact h1 m hm q;exact Z m hm w4),h2,rfl⟩
  have hc:¬bu (keys[((i+j)/2)]'E) k:=of_decide_eq_false aY;have O:∀m (hm:m<keys.length),((i+j)/2)≤m→¬bu keys[m] k:=fun m hm h hh=>by (rcases Nat.lt_or_ge ((i+j)/2) m with q|q);exact hc (mw (nw hr q hm) hh);(have:m=((i+j)/2):=by omega);subst this;exact hc hh
  refine cc [0,1,2,8,9,10] ?_;refine⟨(i,((i+j)/2)),_,cr,aJ,w4,w4,h1,O,rfl⟩
 obtain rfl:i=j:=(by omega)
 have hd:=adZ hjn h1 h2;refine aB 5 ?_;refine bY 39 (fun alf U=>?_) (fun alf U=>?_)
 ·refine aH 6 ?_;refine OD.lY (f:=64) (args:=[_,_]) (all:=[_,_]) (Sf:=[]) iJ rfl rfl ot call64 (xw (keys[i]'w4) k) rfl ⟨ot,ot,trivial⟩ (fg _) ?_;rintro _ _ ⟨rfl,rfl⟩;refine an 49 [6,7] ?_;refine aM [] ?_;first|exact Vw hd w4|exact Uu hd w4
 refine bp [6,7] ?_;refine N3 ?_;first|exact Vw hd w4|exact Uu hd w4
theorem J0(p:c9)(k:K)(hr:p.keys.Pairwise bu)(hl:p.keys.length≤1000):VP Tryz.prog G 91 [.agg (cP p),au 1 cB k] (ae (aN p k:Nat)):=by
 refine VC.body func91 rfl ntmps91 aQ fun X0 w0 bf=>?_;unfold cP;have c8:=dV;have I:=zo p.keys k;have Yt:=ab9 hr k;refine cf ?_;refine OD.box (ds:=[_,_,_,_,_]) ap rfl rfl ot rfl rfl (fun b2=>?_);refine an 23 [1,2] ?_;refine cL [2,5,6] (acd p.keys k hr hl) ?_;refine aB 2 ?_;refine bY 15 (fun CR E=>?_) (fun CR E=>?_)
 ·refine bp [5,19] ?_;refine av ?_ ?_<;>intro aL bB
  ·refine cc [5] ?_;exact Yr
  exact Yr
 refine bp [5,19] ?_;refine gq ?_;refine af [4] ?_;refine eZ ?_;refine⟨vi ?_,rfl⟩;unfold aN;first|(rw[CR] at Yt;cases fA:p.leaf<;>simp_all;done)|(simp_all;done)|(simp_all;omega)

theorem ace{d:Nat}{i:Int}{lo:K}(ok:en t d i lo hi)(h:(t.pg i).leaf=true):d=0:=by
 cases d with
 | zero=>rfl
 | succ d=>obtain⟨_,q2,_⟩:=ok;rw[q2] at h;cases h
theorem acf{d:Nat}{i:Int}{lo:K}(ok:en t d i lo hi)(h:(t.pg i).leaf=false):∃d',d=d'+1:=by
 cases d with
 | zero=>obtain⟨_,q2,_⟩:=ok;rw[q2] at h;cases h
 | succ d=>exact⟨d,rfl⟩
theorem acg:(Tryz.prog.info? 3).map (fun i=>(i.zero,i.size,i.bytes))=some (some (.int .i64 0),1,8):=by kernel_rfl
theorem Uv(t:aG)(h:Nat)(v:Valid t h)(k:K):VC Tryz.prog G 89 [.agg (cT t),au 1 cB k] [] (gE cI 3 1 (jo t k h t.root)):=by
 refine VC.body func89 rfl ntmps89 aQ fun X0 w0 bf=>?_;unfold cT;have c8:=dV;have hval:=v;have eK:=v.high;have OX:=v.n9;refine cf ?_;refine OD.box (ds:=[_,_]) ap rfl rfl ot rfl rfl (fun b2=>?_);refine an 45 [1,2] ?_;refine aB 2 ?_;refine eD (cq 0 [_]) [.int .i64 0] [_] zeroValue3 runUnderlying70 sizeOf3 (fun kf=>?_);refine OD.perm (ez (S1:=[⟨kf,3,1*1,flatMap cI ([t.root])⟩]) (A:=[_])) ?_;refine an 45 [1,2,5] ?_;refine CD.block ?_;refine nq (fun (U:Nat×Int×K×K×List Int×Option Addr×Nat×List ah) aE=>match U with|(d,i,lo,hi,pre,Ir,O,Sl)=>(en t d i lo hi)∧(lT lo hi k)∧(pre++jo t k d i=jo t k h t.root)∧(pre.length+d≤h)∧(bn 3 1 (((pre++[i])).flatMap cI) ((pre++[i])).length Ir O Sl)∧aE=(⟨45,[(1,au 1 cB k),(2,cZ b2),(5,aP Ir ((pre++[i])).length O)],(⟨b2,75,2,[au 5 cP t.ag,ae t.root]⟩::Sl)⟩:St)) (fun (U:Nat×Int×K×K×List Int×Option Addr×Nat×List ah)=>match U with|(d,i,lo,hi,pre,Ir,O,Sl)=>d) (h,t.root,[],[],[],(some ⟨kf,0,none⟩),1,[⟨kf,3,1*1,flatMap cI ([t.root])⟩]) ⟨v.ok,(uj k),(nil_append _),bj,(bn.cast (bQ (g:=cI) (sz:=1) (e:=3) (ls:=[t.root]) (Nat.le_refl _) (show 1≤maxLen by decide)) lu),rfl⟩ (aJ (h:=by repeat (first|exact trivial|refine⟨(by (repeat (first|exact fP|(apply gi;focus (first|rfl|(simp;done)|(congr 2;omega)|(apply eP;rw[Z])|(apply eP;simp;done)))|(apply fU;focus rfl)));done),?_⟩))) ?_
 rintro⟨d,i,lo,hi,pre,Ir,O,Sl⟩ _ ⟨ok,dc,V8,fD,OL,rfl⟩;obtain⟨bl,rfl,Da,CF,rfl⟩:=OL.pos bj;have q1:=ok.idx;have aa:i.toNat<t.ag.length:=(by omega)
 have E:t.pg i=(t.ag[i.toNat]'aa):=vI q1;have po:=v.fR _ (jK q1);have CG:=ok.high;rw[E] at po CG;refine cM [1,2,5,6] ?_;refine aR 4 ?_ (h:=by exact(dO 1 (h:=by first|exact .l (j:=pre.length) bj bj|exact .r (j:=pre.length) bj bj)));refine aR 0 ?_ (h:=by exact(cW (mk:=Op.load 3) rfl ot (jk (k:=1) (d:=ae i) (i:=pre.length) eM rfl rfl rfl isAgg3 bj (by simp[cI]))));refine bH ?_;refine aB 3 ?_;refine bV (dO 5 (h:=by first|exact .l (j:=i.toNat) (Int.toNat_of_nonneg q1.1).symm aa|exact .r (j:=i.toNat) (Int.toNat_of_nonneg q1.1).symm aa)) ?_;refine aH 1 ?_;refine OD.alloc (ds:=[_,_,_,_,_]) ap rfl rfl zeroValue146 rfl (fun b7=>?_);refine aO 0 [_,_,_,_,_] sizeOf146 ?_;refine an 45 [1,2,5,7] ?_;refine cL [1,2,5,7,24] (ab7 (t.ag[i.toNat]'aa) k) ?_;refine av ?_ ?_<;>intro aL bB
 ·exact absurd aL (by intro e;have e:=of_decide_eq_true e;rw[CG] at e;exact e.2 (dc.2 e.1))
 refine af [1,2,5,7,33] ?_;refine av ?_ ?_<;>intro aY cD
 ·obtain rfl:=ace ok (by rw[E];exact aY);have aW:pre++[i]=jo t k h t.root:=(by rw[←V8];rfl)
  refine af [4] ?_;refine aM [⟨bl,3,O*1,flatMap cI (pre++[i])⟩] ?_;rw[←aW];exact⟨_,_,rfl,(bQ (g:=cI) (ls:=pre++[i]) Da CF)⟩
 obtain⟨dd,rfl⟩:=acf ok (by rw[E];exact aY);have ok0:=ok;obtain⟨_,fA,hh,akm,qZ⟩:=ok0;obtain⟨d1,d2⟩:=down (p:=t.pg i) (by rw[E];exact po) fA hh dc;have j8:=qZ _ d1;rw[←ua d1] at j8;have M1:=d2;have aho:pre++[i]++jo t k dd ((t.pg i).kids.getD (aN (t.pg i) k) 0)=jo t k h t.root:=(by rw[←V8,append_assoc];rfl)
 have rj:=J0 (G:=G) (t.pg i) k (by rw[E];exact po.ke) (by rw[E];have:=po.eO;omega);have I:aN (t.ag[i.toNat]'aa) k<(t.ag[i.toNat]'aa).kids.length:=(by rw[←E];exact d1)
 have alg:VP Tryz.prog G 91 [.agg (cP (t.ag[i.toNat]'aa)),au 1 cB k] (ae (aN (t.ag[i.toNat]'aa) k:Nat)):=(by rw[←E];exact rj)
 have Z:(t.pg i).kids.getD (aN (t.pg i) k) 0=(t.ag[i.toNat]'aa).kids[aN (t.ag[i.toNat]'aa) k]'I:=(by rw[E];exact ua I)
 refine CD.skip ?_;refine iv 10 (ax (take 2 _)) ?_ (fun _ h=>(Sublist.map _ (take_sublist _ _)).subset h);refine aD 0 rfl bI ?_;refine aD 1 rfl (dX 2) ?_;refine aD 2 rfl (ee 0) ?_;refine aD 3 rfl (Mm 0 [_,_,_,_,_]) ?_;refine aD 4 rfl bI ?_;refine dZ.later rfl ?_;refine AD.one (i:=5) aC ?_;refine qq call91 (alg) ?_;refine dj 6 rfl (dO 1 (h:=by first|exact .l (j:=aN (t.ag[i.toNat]'aa) k) rfl I|exact .r (j:=aN (t.ag[i.toNat]'aa) k) rfl I)) ?_;refine AD.one (i:=7) aC ?_;refine at_ rfl fa ?_;refine AD.one (i:=8) aC ?_;refine nJ (cq 0 [_]) [.int .i64 0] [_] zeroValue3 runUnderlying70 sizeOf3 (fun Zb=>?_);refine nK 0 43 1 1 ?_;refine AD.one (i:=9) aC ?_;refine bD.eL (ls:=(pre++[i])) (new:=[(t.ag[i.toNat]'aa).kids[aN (t.ag[i.toNat]'aa) k]'I]) (Sq:=[⟨bl,3,O*1,flatMap cI (pre++[i])⟩]) eM nT rfl ap rfl rfl underlying70 acg rfl w7 ot (bQ (g:=cI) (ls:=pre++[i]) Da CF) (dI (A:=[_,_])) ot bj wg iB (fun OY M2 alh ali=>?_);refine AD.perm (ez (S1:=[⟨OY,3,M2*1,flatMap cI ((pre++[i])++[(t.ag[i.toNat]'aa).kids[aN (t.ag[i.toNat]'aa) k]'I])⟩]) (A:=[_,_])) ?_;refine fB ?_;refine bp [1,2,5] ?_
 refine⟨(dd,((t.pg i).kids.getD (aN (t.pg i) k) 0),(iM lo (t.pg i) (aN (t.pg i) k)),(iw (t.pg i) (aN (t.pg i) k)),(pre++[i]),(some ⟨OY,0,none⟩),M2,[⟨OY,3,M2*1,flatMap cI ((pre++[i])++[(t.ag[i.toNat]'aa).kids[aN (t.ag[i.toNat]'aa) k]'I])⟩]),_,cr,(aJ (h:=by repeat (first|exact trivial|refine⟨(by (repeat (first|exact fP|(apply gi;focus (first|rfl|(simp;done)|(congr 2;omega)|(apply eP;rw[Z])|(apply eP;simp;done)))|(apply fU;focus rfl)));done),?_⟩))),j8,M1,aho,iB,(bn.cast (bQ alh ali) (by rw[Z])),rfl⟩
theorem afO(t:aG)(h:Nat)(v:Valid t h)(k:K):VP Tryz.prog G 89 [.agg (cT t),au 1 cB k] (.list 1 ((jo t k h t.root).flatMap cI) (jo t k h t.root).length):=(Uv t h v k).xJ eM

def gl(t:aG)(k:K)(h:Nat):Bool:=nA (t.pg (aI t k h t.root)).keys k
theorem E4{h:Nat}(v:Valid t h)(k:K):gl t k h=true↔Cr t k h:=by
 unfold gl nA Cr;have hl:=(v.leaf k).2;have fD:aN (t.pg (aI t k h t.root)) k=gP (t.pg (aI t k h t.root)).keys k:=(by unfold aN;rw[if_pos hl])
 rw[fD,decide_eq_true_iff,List.getElem?_eq_some_iff]
theorem Uw(hl:p.leaf=true)(ha:aN p k<p.keys.length):decide (p.keys[aN p k]=k)=nA p.keys k:=by
 unfold nA;have fD:aN p k=gP p.keys k:=(by unfold aN;rw[if_pos hl])
 simp only[fD] at ha ⊢;rw[getElem?_eq_getElem ha];simp
theorem Ux(hl:p.leaf=true)(ha:¬aN p k<p.keys.length):false=nA p.keys k:=by
 unfold nA;have fD:aN p k=gP p.keys k:=(by unfold aN;rw[if_pos hl])
 rw[fD] at ha;rw[getElem?_eq_none w4];rfl
theorem afP{h:Nat}{i:Int}:∃(hn:(jo t k h i).length-1<(jo t k h i).length),(jo t k h i)[(jo t k h i).length-1]=aI t k h i:=by
 have h1:=Q5 t k h i;rw[getLast?_eq_getElem?] at h1;exact List.getElem?_eq_some_iff.1 h1
theorem SZ(hp:eN p n)(k:K):aN p k≤p.keys.length:=by
 unfold aN;split
 ·exact zo _ _
 exact BW _ _
theorem FG(t:aG)(k:K):∀(h:Nat) (i:Int),(jo t k h i).length=h+1
 | 0,i=>rfl
 | h+1,i=>by rw[jo,length_cons,FG t k h]
theorem qK(t:aG)(h:Nat)(v:Valid t h)(k:K)(dJ:k.length≤maxLen)(U:(jo t k h t.root).length≤1000000):VP Tryz.prog G 87 [.agg (cT t),au 1 cB k] (.dD [ae (aI t k h t.root),ae (aN (t.pg (aI t k h t.root)) k:Nat),bG (gl t k h)]):=by
 refine VC.body func87 rfl ntmps87 aQ fun X0 w0 bf=>?_;unfold cT;have c8:=dV;have rj:=afO (G:=G) t h v k;unfold cT at rj;obtain⟨gC,Z⟩:=afP (t:=t) (k:=k) (h:=h) (i:=t.root);obtain⟨q1,L8⟩:=v.leaf k;have aa:(aI t k h t.root).toNat<t.ag.length:=(by omega)
 have I:t.pg (aI t k h t.root)=(t.ag[(aI t k h t.root).toNat]'aa):=vI q1;have po:=v.fR _ (jK q1);have OX:=v.n9;have W8:(jo t k h t.root).length≤1000000:=U;have alj:=J0 (G:=G) (t.pg (aI t k h t.root)) k po.ke (by have:=po.eO;omega);have alk:VP Tryz.prog G 91 [.agg (cP (t.ag[(aI t k h t.root).toNat]'aa)),au 1 cB k] (ae (aN (t.ag[(aI t k h t.root).toNat]'aa) k:Nat)):=(by rw[←I];exact alj)
 have alm:∀x∈(t.ag[(aI t k h t.root).toNat]'aa).keys,x.length≤maxLen:=fun x hx=>by rw[←I] at hx;have:=(po.lJ x hx).2;omega
 have E:(t.ag[(aI t k h t.root).toNat]'aa).leaf=true:=(by rw[←I];exact L8)
 have O:gl t k h=nA (t.ag[(aI t k h t.root).toNat]'aa).keys k:=(by unfold gl;rw[I])
 have mb:=po.eO;have aln:=(SZ po k)
 rw[I] at mb aln;refine cf ?_;refine OD.box (ds:=[_,_]) ap rfl rfl ot rfl rfl (fun b2=>?_);refine an 42 [1,2] ?_;refine cL [1,2,7] (rj) ?_;refine cM [1,2,4] ?_;refine aR 4 ?_ (h:=by exact(dO 1 (h:=by first|exact .l (j:=(jo t k h t.root).length-1) w4 gC|exact .r (j:=(jo t k h t.root).length-1) w4 gC)));refine aR 0 ?_ (h:=by exact(cW (mk:=Op.load 3) rfl ot (rJ (d:=ae (aI t k h t.root)) (i:=(jo t k h t.root).length-1) eM isAgg3 gC (by rw[Z];rfl))));refine bH ?_;refine aB 5 ?_;refine OD.alloc (ds:=[_,_,_,_,_]) ap rfl rfl zeroValue146 rfl (fun b8=>?_);refine aO 0 [_,_,_,_,_] sizeOf146 ?_;refine an 42 [1,4,8] ?_;refine cL [1,4,5,8] (alk) ?_;refine aB 8 ?_;refine bY 33 (fun alo aiW=>?_) (fun alo aiW=>?_)
 ·refine aH 6 ?_;refine OD.iC iJ rfl rfl rfl call133 (V6 ((t.ag[(aI t k h t.root).toNat]'aa).keys[aN (t.ag[(aI t k h t.root).toNat]'aa) k]'w4) k (alm _ (getElem_mem _)) dJ) ⟨ot,ot,trivial⟩ ?_;refine an 42 [4,5,6] ?_;refine aM [] ?_;rw[O,I];first|exact⟨by rw[Uw E w4],rfl⟩|exact⟨by rw[←Ux E w4],rfl⟩
 refine bp [4,5,6] ?_;refine aM [] ?_;rw[O,I];first|exact⟨by rw[Uw E w4],rfl⟩|exact⟨by rw[←Ux E w4],rfl⟩

end Go.Proofs.YtkgmonfgofobaaaGreatDoor.Tw
namespace Go.Proofs.YtkgmonfgofobaaaGreatDoor.Tw
open List
open Go.Proofs.Tryz
open Go.RowKit V Tr Pk
abbrev nf(ls:List Int)(ad:Option Addr)(cap:Nat)(S:List ah):Prop:=bn 3 1 (ls.flatMap cI) ls.length ad cap S
abbrev nW(ls:List K)(ad:Option Addr)(cap:Nat)(S:List ah):Prop:=bn 90 1 (ls.flatMap cK) ls.length ad cap S
variable {G:List (Nat×List Value)}
theorem ach:(Tryz.prog.info? 5).map (fun i=>(i.zero,i.size,i.bytes))=some (some (.int .u8 0),1,1):=by kernel_rfl
theorem mq(a:List UInt8)(ha:a.length≤1000000):VP Tryz.prog G 90 [au 1 cB a] (au 1 cB a):=by
 refine VC.body func90 rfl ntmps90 aQ fun X0 w0 bf=>?_;have c8:=dV;refine af [0] ?_;refine aB 1 ?_;refine OD.Aa ap rfl rfl ot bP underlying90 (fun O rZ=>?_);refine an 8 [0,4] ?_;refine av ?_ ?_<;>intro aL bB
 ·exact Yo
 refine cf ?_;refine OD.Ab ap rfl rfl runUnderlying90 sizeOf5 (fun b5=>?_);refine aH 1 ?_;refine OD.pQ (ls:=([]:List UInt8)) (new:=a) (Sq:=[⟨b5,5,0*1,[]⟩]) pX xz ap rfl rfl underlying90 ach rfl w7 runUnderlying90 sizeOf5 ot (.inr ⟨b5,rfl,Nat.le_refl _,Nat.zero_le _,rfl⟩) (dI (A:=[])) ot iB iB (fun E I S7 qp=>?_);exact z139
theorem aci:(Tryz.prog.info? 3).map (fun i=>(i.zero,i.size,i.bytes))=some (some (.int .i64 0),1,8):=by kernel_rfl
theorem rD(a:List Int)(ha:a.length≤1000000):VC Tryz.prog G 131 [au 1 cI a] [] (fun r S=>∃ad cap,r=aP ad a.length cap∧nf a ad cap S):=by
 refine VC.body func131 rfl ntmps131 aQ fun X0 w0 bf=>?_;have c8:=dV;refine af [0] ?_;refine aB 1 ?_;refine OD.Aa ap rfl rfl ot bP underlying70 (fun O rZ=>?_);refine an 8 [0,4] ?_;refine av ?_ ?_<;>intro aL bB
 ·exact HS
 refine cf ?_;refine OD.Ab ap rfl rfl runUnderlying70 sizeOf3 (fun b5=>?_);refine aH 1 ?_;refine OD.pQ (ls:=([]:List Int)) (new:=a) (Sq:=[⟨b5,3,0*1,[]⟩]) eM nT ap rfl rfl underlying70 aci rfl w7 runUnderlying70 sizeOf3 ot (.inr ⟨b5,rfl,Nat.le_refl _,Nat.zero_le _,rfl⟩) (dI (A:=[])) ot iB iB (fun E I S7 qp=>?_);exact HT
theorem aaU:(Tryz.prog.info? 90).map (fun i=>(i.zero,i.size,i.bytes))=some (some (.slice none 0 0),1,24):=by kernel_rfl
theorem wP(a:List K)(ha:a.length≤1000000):VC Tryz.prog G 140 [au 1 cK a] [] (fun r S=>∃ad cap,r=aP ad a.length cap∧nW a ad cap S):=by
 refine VC.body func140 rfl ntmps140 aQ fun X0 w0 bf=>?_;have c8:=dV;refine af [0] ?_;refine aB 1 ?_;refine OD.Aa ap rfl rfl ot bP underlying144 (fun O rZ=>?_);refine an 8 [0,4] ?_;refine av ?_ ?_<;>intro aL bB
 ·exact HS
 refine cf ?_;refine OD.Ab ap rfl rfl runUnderlying144 sizeOf90 (fun b5=>?_);refine aH 1 ?_;refine OD.pQ (ls:=([]:List K)) (new:=a) (Sq:=[⟨b5,90,0*1,[]⟩]) gw pZ ap rfl rfl underlying144 aaU rfl w7 runUnderlying144 sizeOf90 ot (.inr ⟨b5,rfl,Nat.le_refl _,Nat.zero_le _,rfl⟩) (dI (A:=[])) ot iB iB (fun E I S7 qp=>?_);exact HT

end Go.Proofs.YtkgmonfgofobaaaGreatDoor.Tw
