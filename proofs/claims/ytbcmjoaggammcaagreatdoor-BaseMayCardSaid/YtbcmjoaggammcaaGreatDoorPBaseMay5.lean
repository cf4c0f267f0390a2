/-
  What the proof of BaseMay leans on, part 5 of 8: walks of the program's functions at the level of values, and plain facts of what they compute.
-/
import Derived.Test.YtbcmjoaggammcaaGreatDoorPBaseMay4
set_option linter.unusedVariables false
set_option linter.unusedSimpArgs false
set_option maxRecDepth 100000
set_option maxHeartbeats 4000000
namespace Go.Proofs.YtbcmjoaggammcaaGreatDoor.Ex
open List
open Go.Proofs.Tryz
open Go.RowKit V Pk Vl Cd
variable {i:Nat} {a b:Vl} {p:Vl→Prop}
def wr(n:Int):Int:=IntKind.i64.wrap n
theorem age(n:Int):-9223372036854775808≤wr n∧wr n≤9223372036854775807:=by unfold wr;rw[IntKind.wrap_i64];omega
def p8(b:Bool):Vl:=if b=true then ⟨1,1,⟨#[]⟩⟩ else ⟨1,0,⟨#[]⟩⟩
def iC(a b:Vl)(i:Nat):Vl:=if i=0 then a else b
theorem Hr(a b:Vl)(h:i<2):(([.v (.int .i64 a.k),.v (.int .i64 a.n),.v (.string a.s),.v (.int .i64 b.k),.v (.int .i64 b.n),.v (.string b.s)]:List D).drop (i*3)).take 3=[.v (.int .i64 (iC a b i).k),.v (.int .i64 (iC a b i).n),.v (.string (iC a b i).s)]:=by
 match i,h with
 | 0,_|1,_=>rfl
def kV(a b:Vl)(d:Int):Vl×Int :=
 if (a.k≠1∧a.k≠0)∨(b.k≠1∧b.k≠0) then (bQ,4) else if a.k=1∧a.n=d then (a,0) else if b.k=1∧b.n=d then (b,0) else if a.k=0∨b.k=0 then (bQ,0) else (a,0)
theorem ID(h:∀j,j<i→p (iC a b j))(hi:2≤i):p a∧p b:=⟨h 0 w4,h 1 w4⟩
theorem D8(h:∀j,j<i→p (iC a b j))(h1:p (iC a b i)):∀j,j<i+1→p (iC a b j):=fun j hj=>by
 by_cases e:j=i
 ·subst e;exact h1
 exact h j w4
theorem ZU{d:Int}(hi:i<2)(h1:(iC a b i).k≠1)(h2:(iC a b i).k≠0):kV a b d=(bQ,4):=by
 unfold kV;match i,hi with
 | 0,_=>rw[if_pos (.inl ⟨h1,h2⟩)]
 | 1,_=>rw[if_pos (.inr ⟨h1,h2⟩)]
theorem ZV{d:Int}(hi:i<2)(hg:¬((a.k≠1∧a.k≠0)∨(b.k≠1∧b.k≠0)))(h0:∀j,j<i→¬((iC a b j).k=1∧(iC a b j).n=d))(h1:(iC a b i).k=1)(h2:(iC a b i).n=d):kV a b d=(iC a b i,0):=by
 unfold kV;rw[if_neg hg];match i,hi with
 | 0,_=>rw[if_pos ⟨h1,h2⟩];rfl
 | 1,_=>rw[if_neg (show ¬(a.k=1∧a.n=d) from h0 0 w4),if_pos (show b.k=1∧b.n=d from⟨h1,h2⟩)];rfl
def oZ(k a b:Int):Int×Bool :=
 if k=8 then (wr (a+b),decide (wr (a+b)<a)==decide (b<0)) else if k=9 then (wr (a-b),decide (wr (a-b)>a)==decide (b<0))
 else (wr (a*b),a==0||(wr ((wr (a*b)).tdiv a)==b && !(a == -1&&b == -9223372036854775808)))
def qM(a b:Vl):Bool:=a.k==0||b.k==0
def ic(k:Int)(a b:Vl):Vl×Int :=
 if mw a b≠0 then (bQ,mw a b) else if k=3 then kV a b 0 else if k=4 then kV a b 1
 else if k=6∨k=7 then (if qM a b=true then (bQ,0) else if a.k≠b.k then (bQ,4) else (p8 ((fk a b==0&&k==6)||(decide (fk a b<0)&&k==7)),0))
 else if k=8∨k=9∨k=10 then (if (a.k≠2∧a.k≠0)∨(b.k≠2∧b.k≠0) then (bQ,4) else if qM a b=true then (bQ,0) else if (oZ k a.n b.n).2=true then (⟨2,(oZ k a.n b.n).1,⟨#[]⟩⟩,0) else (bQ,5))
 else (bQ,2)
def tP(k:Int)(a:Vl):Vl×Int :=
 if cA a≠0 then (bQ,cA a) else if k=11 then (p8 (a.k==0),0)
 else if k=5 then (if a.k=0 then (a,0) else if a.k=1 then (p8 (a.n==0),0) else (bQ,4)) else (bQ,2)
def mL(r:Vl×Int):D:=.dz [.agg (cV r.1),.v (.int .i64 r.2)]
variable {G:List (Nat×List Value)}
theorem sV(b:Bool):VP Tryz.prog G 177 [.v (.bool b)] (.agg (cV (p8 b))):=by
 refine VC.body func177 rfl ntmps177 aO fun X0 w0 aZ=>?_;refine bX ?_;refine OD.alloc (ds:=[_,_,_]) an rfl rfl zeroValue30 rfl (fun b2=>?_);refine aj 6 [0,2] ?_;refine ae [2,3] ?_;refine aq (fun az aH=>?_) (fun az aH=>?_)
 ·refine aC 1 ?_;refine aN 0 [_,_,_] sizeOf30 ?_;refine aj 6 [2] ?_;refine aJ [] ?_;refine⟨?_,rfl⟩;unfold p8;simp_all[cV]
 refine aC 1 ?_;refine aN 0 [_,_,_] sizeOf30 ?_;refine aj 6 [2] ?_;refine aJ [] ?_;refine⟨?_,rfl⟩;unfold p8;simp_all[cV]
theorem RS(a b:Vl):VP Tryz.prog G 179 [.agg (cV a),.agg (cV b)] (.v (.bool (qM a b))):=by
 refine VC.body func179 rfl ntmps179 aO fun X0 w0 aZ=>?_;unfold cV;refine bX ?_;refine OD.box (ds:=[_,_,_]) an rfl rfl ot rfl rfl (fun b2=>?_);refine OD.box (ds:=[_,_,_]) an rfl rfl ot rfl rfl (fun b3=>?_);refine aj 13 [2,3] ?_;refine aC 4 ?_;refine bS 8 (fun I E=>?_) (fun I E=>?_)
 ·refine bf [4] ?_;refine eJ ?_;refine⟨vb ?_,rfl⟩;unfold qM;simp_all
 refine bf [4] ?_;refine eJ ?_;refine⟨vb ?_,rfl⟩;unfold qM;simp_all
theorem Qk(a b:Vl)(d:Int):VP Tryz.prog G 178 [.agg (cV a),.agg (cV b),.v (.int .i64 d)] (mL (kV a b d)):=by
 refine VC.body func178 rfl ntmps178 aO fun X0 w0 aZ=>?_;unfold mL cV;have nf:=RS (G:=G) a b;unfold cV at nf;refine bX ?_;refine OD.box (ds:=[_,_,_]) an rfl rfl ot rfl rfl (fun b3=>?_);refine OD.box (ds:=[_,_,_]) an rfl rfl ot rfl rfl (fun b4=>?_);refine OD.alloc (ds:=[_,_,_]) an rfl rfl zeroValue30 rfl (fun b6=>?_);refine aj 50 [2,3,4,6] ?_;refine cN [2,3,4,6,14,15] ?_;refine aQ 2 ?_ (h:=by exact(DI (pl:=[(0,_),(1,_)]) (ds:=[_,_,_,_,_,_]) rfl zeroValue252 runUnderlying252 sizeOf30 ⟨rfl,ot,rfl,ot,trivial⟩ rfl rfl));refine bH ?_;refine eB [2,3,4,6,14] (fun aW _ (i:Nat) aK=>(i≤2)∧(∀j,j<i→¬((iC a b j).k≠1∧(iC a b j).k≠0))∧aK=(⟨50,(15,.v (.int .i64 (i:Nat)))::aW,[⟨b6,30,3,[.v (.int .i64 0),.v (.int .i64 0),.v (.string ⟨#[]⟩)]⟩,⟨b4,30,3,[.v (.int .i64 b.k),.v (.int .i64 b.n),.v (.string b.s)]⟩,⟨b3,30,3,[.v (.int .i64 a.k),.v (.int .i64 a.n),.v (.string a.s)]⟩]⟩:St)) (fun (i:Nat)=>2-i) 0 ⟨(Nat.zero_le _),(fun j hj=>absurd hj (Nat.not_lt_zero _)),rfl⟩ ?_;rintro i _ ⟨hi,fa,rfl⟩;refine ae [2,3,4,6,14,15,16] ?_;refine aq (fun az aH=>?_) (fun az aH=>?_)
 ·have aa:i<2:=(by omega)
  refine bX ?_;refine bN (G2 (j:=i) rfl ot ot runUnderlying252 sizeOf30 isAgg30 rfl aa (Hr a b aa)) ?_;refine OD.alloc (ds:=[_,_,_]) an rfl rfl zeroValue30 rfl (fun b9=>?_);refine aN 0 [_,_,_] sizeOf30 ?_;refine aj 50 [2,3,4,6,9,14,15] ?_;refine aC 4 ?_;refine bS 21 (fun qj I=>?_) (fun qj I=>?_)
  ·refine bf [2,3,4,6,14,15,25] ?_;refine aq (fun aG aV=>?_) (fun aG aV=>?_)
   ·have aT:kV a b d=(bQ,4):=ZU aa (by simp_all) (by simp_all);refine aC 1 ?_;refine aN 1 [_,_,_] sizeOf30 ?_;refine aj 50 [6,7] ?_;exact n8
   exact Wg
  refine bf [2,3,4,6,14,15,25] ?_;refine fL ?_;exact Wg
 have Ci:=ID (p:=fun v=>¬(v.k≠1∧v.k≠0)) fa w4;have hg:¬((a.k≠1∧a.k≠0)∨(b.k≠1∧b.k≠0)):=fun h=>h.elim Ci.1 Ci.2;clear fa hi;refine cN [2,3,4,6,30,31] ?_;refine aQ 2 ?_ (h:=by exact(DI (pl:=[(0,_),(1,_)]) (ds:=[_,_,_,_,_,_]) rfl zeroValue252 runUnderlying252 sizeOf30 ⟨rfl,ot,rfl,ot,trivial⟩ rfl rfl));refine bH ?_;refine eB [2,3,4,6,30] (fun aW _ (i:Nat) aK=>(i≤2)∧(∀j,j<i→¬((iC a b j).k=1∧(iC a b j).n=d))∧aK=(⟨50,(31,.v (.int .i64 (i:Nat)))::aW,[⟨b6,30,3,[.v (.int .i64 0),.v (.int .i64 0),.v (.string ⟨#[]⟩)]⟩,⟨b4,30,3,[.v (.int .i64 b.k),.v (.int .i64 b.n),.v (.string b.s)]⟩,⟨b3,30,3,[.v (.int .i64 a.k),.v (.int .i64 a.n),.v (.string a.s)]⟩]⟩:St)) (fun (i:Nat)=>2-i) 0 ⟨(Nat.zero_le _),(fun j hj=>absurd hj (Nat.not_lt_zero _)),rfl⟩ ?_;rintro i _ ⟨Z,JX,rfl⟩;refine ae [2,3,4,6,30,31,32] ?_;refine aq (fun aY bz=>?_) (fun aY bz=>?_)
 ·have aa:i<2:=(by omega)
  refine bX ?_;refine bN (G2 (j:=i) rfl ot ot runUnderlying252 sizeOf30 isAgg30 rfl aa (Hr a b aa)) ?_;refine OD.alloc (ds:=[_,_,_]) an rfl rfl zeroValue30 rfl (fun kK=>?_);refine aN 0 [_,_,_] sizeOf30 ?_;refine aj 50 [2,3,4,6,11,30,31] ?_;refine aC 4 ?_;refine bS 37 (fun U O=>?_) (fun U O=>?_)
  ·refine bf [2,3,4,6,11,30,31,42] ?_;refine aq (fun bC bY=>?_) (fun bC bY=>?_)
   ·have aT:kV a b d=(iC a b i,0):=ZV aa hg JX (by simp_all) (by simp_all);refine aC 1 ?_;refine aN 1 [_,_,_] sizeOf30 ?_;refine aj 50 [6,7] ?_;exact n8
   exact z85
  refine bf [2,3,4,6,11,30,31,42] ?_;refine fL ?_;exact z85
 have E:=ID (p:=fun v=>¬(v.k=1∧v.n=d)) JX w4;refine cL [3,6,47] (nf) ?_;refine aq (fun cy de=>?_) (fun cy de=>?_)
 ·have aT:kV a b d=(bQ,0):=(by unfold kV;rw[if_neg hg,if_neg E.1,if_neg E.2,if_pos (by unfold qM at cy;simpa using cy)])
  refine aC 1 ?_;refine aN 0 [_,_,_] sizeOf30 ?_;refine aj 50 [6,7] ?_;exact n8
 have aT:kV a b d=(a,0):=(by unfold kV;rw[if_neg hg,if_neg E.1,if_neg E.2,if_neg (by unfold qM at cy;simpa using cy)])
 refine aC 1 ?_;refine aN 0 [_,_,_] sizeOf30 ?_;refine aj 50 [6,7] ?_;exact ue
theorem aby(k a b:Int):VP Tryz.prog G 180 [.v (.int .i64 k),.v (.int .i64 a),.v (.int .i64 b)] (.dz [.v (.int .i64 (oZ k a b).1),.v (.bool (oZ k a b).2)]):=by
 refine VC.body func180 rfl ntmps180 aO fun X0 w0 aZ=>?_;refine ae [0,1,2] ?_;refine ae [1,2,11] ?_;refine ae [1,2,11,12] ?_;refine aq (fun az aH=>?_) (fun az aH=>?_)
 ·refine cN [1,2,8] ?_;refine aQ 2 ?_ (h:=by exact(cZ (r:=.int .i64 (wr (a+b))) rfl ot ot (j3 rfl)));exact Wi
 refine ae [1,2,24] ?_;refine aq (fun aG aV=>?_) (fun aG aV=>?_)
 ·refine cN [1,2,9] ?_;refine aQ 2 ?_ (h:=by exact(cZ (r:=.int .i64 (wr (a-b))) rfl ot ot (fZ rfl)));exact Wi
 refine cN [1,2,10] ?_;refine aQ 2 ?_ (h:=by exact(cZ (r:=.int .i64 (wr (a*b))) rfl ot ot (IJ rfl)));refine bH ?_;refine aC 4 ?_;refine bS 42 (fun qQ E=>?_) (fun qQ E=>?_)
 ·refine bf [6,7] ?_;refine Ma ?_;refine⟨?_,rfl⟩;unfold oZ;simp_all
 refine aD 2 ?_;refine OD.still gL rfl (cZ (r:=.int .i64 (wr ((wr (a*b)).tdiv a))) rfl ot ot (acH (by simpa using qQ) rfl)) ?_;refine aD 3 ?_;refine bS 48 (fun U I=>?_) (fun U I=>?_)
 ·refine aD 3 ?_;refine bS 51 (fun Z O=>?_) (fun Z O=>?_)
  ·refine aj 58 [6,7] ?_;refine aJ [] ?_;refine⟨?_,rfl⟩;unfold oZ;simp_all
  refine aj 58 [6,7] ?_;refine aJ [] ?_;refine⟨?_,rfl⟩;unfold oZ;simp_all
 refine aj 58 [6,7] ?_;refine aJ [] ?_;refine⟨?_,rfl⟩;unfold oZ;simp_all
theorem aeV(k:Int)(a:Vl):VP Tryz.prog G 158 [.v (.int .i64 k),.agg (cV a)] (mL (tP k a)):=by
 refine VC.body func158 rfl ntmps158 aO fun X0 w0 aZ=>?_;unfold mL;have eY:=Vl.oX (G:=G) a;unfold cV at eY;unfold cV;refine bX ?_;refine OD.box (ds:=[_,_,_]) an rfl rfl ot rfl rfl (fun b3=>?_);refine OD.alloc (ds:=[_,_,_]) an rfl rfl zeroValue30 rfl (fun b4=>?_);refine aj 35 [0,3,4] ?_;refine cL [0,3,4,6] (eY) ?_;refine ae [0,3,4,6,10] ?_;refine aq (fun az aH=>?_) (fun az aH=>?_)
 ·refine aC 2 ?_;exact Cl
 refine ae [3,4,13] ?_;refine ae [3,4,13,14] ?_;refine aq (fun aG aV=>?_) (fun aG aV=>?_)
 ·refine aC 3 ?_;refine dR call177 (sV _) ?_;exact Cl
 refine ae [3,4,20] ?_;refine aq (fun aY bz=>?_) (fun aY bz=>?_)
 ·refine ae [3,4,23] ?_;refine ae [3,4,23,24] ?_;refine aq (fun bC bY=>?_) (fun bC bY=>?_)
  ·refine aC 1 ?_;exact Cl
  refine ae [3,4,27] ?_;refine aq (fun cy de=>?_) (fun cy de=>?_)
  ·refine aC 3 ?_;refine dR call177 (sV _) ?_;exact Cl
  refine aC 1 ?_;exact Cl
 refine aC 1 ?_;refine aN 0 [_,_,_] sizeOf30 ?_;refine aj 35 [4,5] ?_;refine aJ [] ?_;refine⟨?_,rfl⟩;unfold tP;simp_all[bQ]
theorem acC{k:Int}(h0:mw a b=0)(hk:k=8∨k=9∨k=10)(hi:i<2)(h1:(iC a b i).k≠2)(h2:(iC a b i).k≠0):ic k a b=(bQ,4):=by
 unfold ic;rw[if_neg (by simp[h0]),if_neg w4,if_neg w4,if_neg w4,if_pos hk];match i,hi with
 | 0,_=>rw[if_pos (.inl ⟨h1,h2⟩)]
 | 1,_=>rw[if_pos (.inr ⟨h1,h2⟩)]
theorem Om{k:Int}(h0:mw a b=0)(hk:k=8∨k=9∨k=10)(hg:¬((a.k≠2∧a.k≠0)∨(b.k≠2∧b.k≠0))) :
  ic k a b=if qM a b=true then (bQ,0) else if (oZ k a.n b.n).2=true then (⟨2,(oZ k a.n b.n).1,⟨#[]⟩⟩,0) else (bQ,5):=by
 unfold ic;rw[if_neg (by simp[h0]),if_neg w4,if_neg w4,if_neg w4,if_pos hk,if_neg hg]
theorem aeW(k:Int)(a b:Vl)(oa:a.Ok)(ob:b.Ok):VP Tryz.prog G 159 [.v (.int .i64 k),.agg (cV a),.agg (cV b)] (mL (ic k a b)):=by
 refine VC.body func159 rfl ntmps159 aO fun X0 w0 aZ=>?_;unfold mL;have nZ:=Cd.RG (G:=G) a b;have nf:=RS (G:=G) a b;have mF:=Qk (G:=G) a b 0;have jP:=Qk (G:=G) a b 1;have eY:=Cd.N7 (G:=G) a b oa ob;have xy:=aby (G:=G) k a.n b.n;unfold mL at mF jP;unfold cV at nZ nf mF jP eY;unfold cV;refine bX ?_;refine OD.box (ds:=[_,_,_]) an rfl rfl ot rfl rfl (fun b4=>?_);refine OD.box (ds:=[_,_,_]) an rfl rfl ot rfl rfl (fun b5=>?_);refine OD.alloc (ds:=[_,_,_]) an rfl rfl zeroValue30 rfl (fun b6=>?_);refine aj 106 [0,4,5,6] ?_;refine cL [0,4,5,6,8] (nZ) ?_;refine ae [0,4,5,6,8,18] ?_;refine aq (fun az aH=>?_) (fun az aH=>?_)
 ·have nY:mw a b≠0:=(by simpa using az)
  have aT:ic k a b=(bQ,mw a b):=(by unfold ic;rw[if_pos nY])
  refine aC 2 ?_;exact z7
 have nY:mw a b=0:=(by simpa using az)
 refine ae [0,4,5,6,21] ?_;refine ae [0,4,5,6,21,22] ?_;refine aq (fun aG aV=>?_) (fun aG aV=>?_)
 ·have aT:ic k a b=kV a b 0:=(by unfold ic;rw[if_neg (by simp[nY]),if_pos w4])
  refine aC 2 ?_;refine dR call178 (mF) ?_;refine aD 2 ?_;exact z7
 refine ae [0,4,5,6,21,29] ?_;refine aq (fun aY bz=>?_) (fun aY bz=>?_)
 ·have aT:ic k a b=kV a b 1:=(by unfold ic;rw[if_neg (by simp[nY]),if_neg w4,if_pos w4])
  refine aC 2 ?_;refine dR call178 (jP) ?_;refine aD 2 ?_;exact z7
 refine ae [0,4,5,6,21,36] ?_;refine aq (fun bC bY=>?_) (fun bC bY=>?_)
 ·refine eC ?_;exact Uy
 refine cj [0,4,5,6,21,36] ?_;refine aq (fun cy de=>?_) (fun cy de=>?_)
 ·exact Uy
 refine ae [0,4,5,6,21,67] ?_;refine aq (fun eL gg=>?_) (fun eL gg=>?_)
 ·refine eC ?_;exact z6
 refine ae [0,4,5,6,21,67] ?_;refine aq (fun kY E=>?_) (fun kY E=>?_)
 ·refine eC ?_;exact z6
 refine cj [0,4,5,6,67] ?_;refine aq (fun O I=>?_) (fun O I=>?_)
 ·exact z6
 have aT:ic k a b=(bQ,2):=(by unfold ic;rw[if_neg (by simp[nY]),if_neg w4,if_neg w4,if_neg w4,if_neg w4])
 refine aC 1 ?_;refine aN 0 [_,_,_] sizeOf30 ?_;refine aj 106 [6,7] ?_;refine aJ [] ?_;rw[aT];first|exact⟨rfl,rfl⟩|(refine⟨?_,rfl⟩;clear aT eY xy mF jP nZ nf;generalize (fk a b==0)=z1 at *;generalize (decide (fk a b<0))=z2 at *;subst_vars;simp_all;done)

end Go.Proofs.YtbcmjoaggammcaaGreatDoor.Ex
namespace Go.Proofs.YtbcmjoaggammcaaGreatDoor.Ex
open List
open Go.Proofs.Tryz
open Go.RowKit V Pk Vl Go.Proofs.YtbcmjoaggammcaaGreatDoor.Nm Pc
variable {a b:Vl} {l:List cu} {row:List Vl} {ops:List aX}
def fR(l:List cu)(row:List Vl)(o:aX)(a b:Vl):Vl×Int :=
 if bP o.k=1 then tP o.k a else if bP o.k=2 then ic o.k a b else if o.k=2 then (row.getD (bM l o.nm).toNat bQ,0) else (o.v,0)
def uZ(l:List cu)(row:List Vl)(ops:List aX):Vl×Int:=jt bQ (fR l row) ops []
def fj(l:List cu)(row:List Vl)(ops:List aX):Vl×Int :=
 if dW l row≠0 then (bQ,dW l row) else if (ec l ops).2≠0 then (bQ,(ec l ops).2) else uZ l row ops
theorem tJ:bQ.Ok:=⟨by decide,by decide,by decide,by decide,Nat.zero_le _⟩
theorem Ql(b:Bool):(p8 b).Ok:=by unfold p8;split<;>exact⟨by decide,by decide,by decide,by decide,Nat.zero_le _⟩
theorem ok_int{n:Int}(h:-9223372036854775808≤n∧n≤9223372036854775807):(⟨2,n,⟨#[]⟩⟩:Vl).Ok:=⟨by show -9223372036854775808≤(2:Int);decide,by show(2:Int)≤_;decide,h.1,h.2,Nat.zero_le _⟩
theorem abz{d:Int}(oa:a.Ok)(ob:b.Ok):(kV a b d).1.Ok:=by
 unfold kV;repeat' split
 all_goals first|exact tJ|exact oa|exact ob
theorem ok_two{k:Int}(oa:a.Ok)(ob:b.Ok):(ic k a b).1.Ok:=by
 unfold ic;repeat' split
 all_goals first|exact tJ|exact abz oa ob|exact Ql _|skip
 unfold oZ;repeat' split
 all_goals exact ok_int (age _)
theorem ok_one{k:Int}(oa:a.Ok):(tP k a).1.Ok:=by
 unfold tP;repeat' split
 all_goals first|exact tJ|exact oa|exact Ql _
theorem RT(hr:∀v∈row,v.Ok){o:aX}(ho:o.v.Ok)(oa:a.Ok)(ob:b.Ok):(fR l row o a b).1.Ok:=by
 unfold fR;split
 ·exact ok_one oa
 split
 ·exact ok_two oa ob
 split
 ·show(row.getD _ bQ).Ok;rw[getD_eq_getElem?_getD];cases h:row[(bM l o.nm).toNat]? with
  | none=>exact tJ
  | some v=>exact hr v (mem_of_getElem? h)
 exact ho
theorem IZ{st:List Vl}(h:∀v∈st,v.Ok)(j:Nat):(st.getD j bQ).Ok:=by
 rw[getD_eq_getElem?_getD];cases hj:st[j]? with
 | none=>exact tJ
 | some v=>exact h v (mem_of_getElem? hj)
theorem AX{st:List Vl}(h:∀v∈st,v.Ok)(k:Int):(fb bQ k st).Ok:=by unfold fb;split;exact IZ h _;exact tJ
theorem AY{st:List Vl}(h:∀v∈st,v.Ok)(k:Int):(eW bQ k st).Ok:=by unfold eW;split;exact IZ h _;exact tJ
theorem OQ{α:Type}{z:α}{f:aX→α→α→α × Int}:∀{l:List aX} {st:List α},(jt z f l st).2=0→∀o∈l,∃a b,(f o a b).2=0
 | [],_,_,o,ho=>by cases ho
 | x::r,st,h,o,ho=>by
  rw[jt] at h;split at h
  ·rename_i hne;exact absurd h hne
  rename_i he;rcases mem_cons.1 ho with rfl|ho
  ·exact⟨_,_,Classical.not_not.1 he⟩
  exact OQ h o ho
theorem OR(h:(tI l ops).2=0):∀o∈ops,o.k=2→0≤bM l o.nm:=fun o ho hk=>by
 obtain⟨a,b,he⟩:=OQ h o ho;unfold iR at he;rw[if_neg w4,if_pos hk] at he;unfold uP at he;split at he
 ·cases he
 omega
theorem IN(h:dW l row=0):row.length=l.length:=by
 unfold dW at h;split at h
 ·rename_i h1;exact absurd h h1
 split at h
 ·cases h
 omega
theorem EI(h:(ec l ops).2=0):fB l=0∧iG ops=0∧ec l ops=tI l ops:=by
 unfold ec at h ⊢;split at h
 ·rename_i h1;exact absurd h h1
 rename_i h1;split at h
 ·rename_i h2;exact absurd h h2
 rename_i h2;exact⟨Classical.not_not.1 h1,Classical.not_not.1 h2,by rw[if_neg h1,if_neg h2]⟩
variable {G:List (Nat×List Value)}
theorem HC(l:List cu)(hl:l.length≤6)(row:List Vl)(ry:row.length=l.length)(o:aX)(I:o.k=2→0≤bM l o.nm)(a b a' b':Vl)(ha:a=a')(hb:b=b')(oa:a.Ok)(ob:b.Ok)(br bc:Nat):VC Tryz.prog G 156 [.agg (cO o),.agg (cV a'),.agg (cV b'),.v (.pointer (some ⟨br,0,none⟩)),.v (.pointer (some ⟨bc,0,none⟩))] [⟨br,27,1,[.list 3 (row.flatMap cV) row.length]⟩,⟨bc,38,1,[.list 2 (l.flatMap cC) l.length]⟩] (fun r S=>r=mL (fR l row o a b)∧S=[⟨br,27,1,[.list 3 (row.flatMap cV) row.length]⟩,⟨bc,38,1,[.list 2 (l.flatMap cC) l.length]⟩]):=by
 refine VC.body func156 rfl ntmps156 aO fun X0 w0 aZ=>?_;subst ha hb;have mG:=aeV (G:=G) o.k a;have E:=aeW (G:=G) o.k a b oa ob;unfold mL at mG E ⊢;unfold cV at mG E;unfold cO cV;have U:=vZ (fun c:cu=>c.n.toList==o.nm.toList) l;have O:bM l o.nm=dM (fun c:cu=>c.n.toList==o.nm.toList) l:=rfl;rw[←O] at U;clear O;refine bX ?_;refine OD.box (ds:=[_,_,_,_,_]) an rfl rfl ot rfl rfl (fun b5=>?_);refine OD.box (ds:=[_,_,_]) an rfl rfl ot rfl rfl (fun b6=>?_);refine OD.box (ds:=[_,_,_]) an rfl rfl ot rfl rfl (fun b7=>?_);refine OD.alloc (ds:=[_,_,_]) an rfl rfl zeroValue30 rfl (fun b8=>?_);refine aj 42 [3,4,5,6,7,8] ?_;refine cL [3,4,5,6,7,8,12] (Ej o.k) ?_;refine ae [3,4,5,6,7,8,12,13] ?_;refine aq (fun az aH=>?_) (fun az aH=>?_)
 ·have aT:fR l row o a b=tP o.k a:=(by unfold fR;rw[if_pos w4])
  refine aC 3 ?_;refine dR call158 (mG) ?_;refine aD 2 ?_;exact KA
 refine ae [3,4,5,6,7,8,21] ?_;refine aq (fun aG aV=>?_) (fun aG aV=>?_)
 ·have aT:fR l row o a b=ic o.k a b:=(by unfold fR;rw[if_neg w4,if_pos w4])
  refine aC 4 ?_;refine dR call159 (E) ?_;refine aD 2 ?_;exact KA
 refine ae [3,4,5,8,32] ?_;refine aq (fun aY bz=>?_) (fun aY bz=>?_)
 ·have fq:o.k=2:=(by omega)
  have az:=I fq;have Z:(bM l o.nm).toNat<row.length:=(by omega)
  have aT:fR l row o a b=(row[(bM l o.nm).toNat],0):=(by unfold fR;rw[if_neg w4,if_neg w4,if_pos fq,getD_eq_getElem?_getD,getElem?_eq_getElem Z];rfl)
  refine CD.seq ?_;refine l8 7 [8,39] ?_;refine cU (pY l hl o.nm) ?_;refine bH ?_;exact KA
 have aT:fR l row o a b=(o.v,0):=(by unfold fR;rw[if_neg w4,if_neg w4,if_neg w4])
 refine aC 2 ?_;refine aN 0 [_,_,_] sizeOf30 ?_;refine aj 42 [8,9] ?_;exact Wq
theorem YC:(Tryz.prog.info? 30).map (fun i=>(i.zero,i.size,i.bytes))=some (some (.agg #[.int .i64 0,.int .i64 0,.string ⟨#[]⟩]),3,32):=by kernel_rfl
theorem abA(l:List cu)(hl:l.length≤6)(row:List Vl)(ry:row.length=l.length)(BQ:∀v∈row,v.Ok)(ops:List aX)(fM:∀o∈ops,o.v.Ok)(E:∀o∈ops,o.k=2→0≤bM l o.nm)(pM:ops.length≤40)(hx:fD 0 ops=0)(br bc:Nat):VC Tryz.prog G 155 [.list 5 (ops.flatMap cO) ops.length,.ek (.func 156) [.v (.pointer (some ⟨br,0,none⟩)),.v (.pointer (some ⟨bc,0,none⟩))]] [⟨br,27,1,[.list 3 (row.flatMap cV) row.length]⟩,⟨bc,38,1,[.list 2 (l.flatMap cC) l.length]⟩] (fun r S=>r=mL (uZ l row ops)∧S=[⟨br,27,1,[.list 3 (row.flatMap cV) row.length]⟩,⟨bc,38,1,[.list 2 (l.flatMap cC) l.length]⟩]):=by
 refine VC.body func155 rfl ntmps155 aO fun X0 w0 aZ=>?_;unfold mL;refine bX ?_;refine OD.alloc (ds:=[_,_,_]) an rfl rfl zeroValue30 rfl (fun b4=>?_);refine aj 64 [0,1,4] ?_;refine bX ?_;refine OD.alloc (ds:=[_,_,_]) an rfl rfl zeroValue30 rfl (fun b6=>?_);refine OD.perm (AL (k:=2) (k':=2) rfl rfl) ?_;refine aj 64 [0,1,4,6] ?_;refine bX ?_;refine bf [0,1,4,6,7] ?_;refine ae [1,4,6,7,16,17,18] ?_;refine CD.block ?_
 refine mJ (fun (I:Nat×List Vl×Option Addr×Nat×List ag) aK=>match I with|(i,st,O,jS,Sh)=>(i≤ops.length)∧(st.length≤i)∧(fD ((st.length:Nat):Int) (ops.drop i)=0)∧(uZ l row ops=jt bQ (fR l row) (ops.drop i) st)∧(∀v∈st,v.Ok)∧(bw 30 3 ((st).flatMap cV) (st).length O jS Sh)∧aK=(⟨64,[(1,.ek (.func 156) [.v (.pointer (some ⟨br,0,none⟩)),.v (.pointer (some ⟨bc,0,none⟩))]),(4,.v (.pointer (some ⟨b4,0,none⟩))),(6,.v (.pointer (some ⟨b6,0,none⟩))),(7,.v (.slice O (st).length jS)),(16,.list 5 (ops.flatMap cO) ops.length),(17,.v (.int .i64 (ops.length:Nat))),(18,.v (.int .i64 (i:Nat)))],(⟨br,27,1,[.list 3 (row.flatMap cV) row.length]⟩::⟨bc,38,1,[.list 2 (l.flatMap cC) l.length]⟩::⟨b6,30,3,[.v (.int .i64 0),.v (.int .i64 0),.v (.string ⟨#[]⟩)]⟩::⟨b4,30,3,[.v (.int .i64 0),.v (.int .i64 0),.v (.string ⟨#[]⟩)]⟩::Sh)⟩:St)) (fun (I:Nat×List Vl×Option Addr×Nat×List ag)=>match I with|(i,st,O,jS,Sh)=>ops.length-i) (0,[],none,0,[]) ⟨(Nat.zero_le _),(Nat.zero_le _),hx,rfl,(fun v U=>by cases U),(bw.cast iw kJ),rfl⟩ (aM (h:=by repeat (first|exact trivial|refine⟨F2,?_⟩))) ?_;rintro⟨i,st,O,jS,Sh⟩ _ ⟨hi,fy,hex,hinv,aS,nD,rfl⟩;refine ae [1,4,6,7,16,17,18,19] ?_;refine aq (fun az aH=>?_) (fun az aH=>?_)
 ·have aa:i<ops.length:=(by omega)
  obtain⟨he,xT⟩:=OP aa hex;obtain⟨ri,UZ,xU,qp⟩:=vW he;have CL:=s9 ops[i].k;have sF:(st.take (st.length-(bP ops[i].k).toNat)++[(fR l row ops[i] (fb bQ ops[i].k st) (eW bQ ops[i].k st)).1]).length=st.length+1-(bP ops[i].k).toNat:=(by rw[length_append,length_take,length_singleton];omega)
  have nE:fD (((st.take (st.length-(bP ops[i].k).toNat)++[(fR l row ops[i] (fb bQ ops[i].k st) (eW bQ ops[i].k st)).1]).length:Nat):Int) (ops.drop (i+1))=0:=(by rw[sF,show(((st.length+1-(bP ops[i].k).toNat:Nat)):Int)=(st.length:Int)+(1-bP ops[i].k) by omega];exact xT)
  have ag4:∀v∈st.take (st.length-(bP ops[i].k).toNat)++[(fR l row ops[i] (fb bQ ops[i].k st) (eW bQ ops[i].k st)).1],v.Ok:=fun v U=>by rcases mem_append.1 U with U|U;exact aS v (mem_of_mem_take U);rw[mem_singleton] at U;rw[U];exact RT BQ (fM _ (getElem_mem aa)) (AX aS _) (AY aS _)
  refine aC 2 ?_;refine OD.alloc (ds:=[_,_,_,_,_]) an rfl rfl zeroValue61 rfl (fun b9=>?_);refine aN 0 [_,_,_,_,_] sizeOf61 ?_;refine aj 64 [1,4,6,7,9,16,17,18] ?_;refine bX ?_;refine OD.alloc (ds:=[_,_,_]) an rfl rfl zeroValue30 rfl (fun kL=>?_);refine OD.alloc (ds:=[_,_,_]) an rfl rfl zeroValue30 rfl (fun kK=>?_);refine aj 64 [1,4,6,7,9,10,11,16,17,18] ?_;refine cL [1,4,6,7,9,10,11,12,16,17,18] (Ej ops[i].k) ?_;refine ae [1,4,6,7,9,10,11,12,13,16,17,18] ?_;refine ae [1,4,6,7,9,10,11,12,13,16,17,18,30] ?_;refine aq (fun aG aV=>?_) (fun aG aV=>?_)
  ·obtain⟨bh,rfl,wJ,wu,rfl⟩:=nD.pos w4;have uu:(st.length-(bP ops[i].k).toNat)<st.length:=(by omega)
   have ha:fb bQ ops[i].k st=st[(st.length-(bP ops[i].k).toNat)]:=(by unfold fb;rw[if_pos w4,getD_eq_getElem?_getD,getElem?_eq_getElem uu];rfl)
   refine dL 2 ?_;refine bN (c9 3 (h:=by first|exact .l (j:=(st.length-(bP ops[i].k).toNat)) w4 w4|exact .r (j:=(st.length-(bP ops[i].k).toNat)) w4 w4)) ?_;refine bN (cJ (mk:=Op.load 30) rfl ot (dJ (k:=7) fh rfl rfl rfl isAgg30 sizeOf30 uu)) ?_;refine aN 1 [_,_,_] sizeOf30 ?_;refine aj 64 [1,4,6,7,9,10,11,12,13,16,17,18] ?_;refine ae [1,4,6,7,9,10,11,13,16,17,18,36] ?_;refine aq (fun aY bz=>?_) (fun aY bz=>?_)
   ·have Z:(st.length-(bP ops[i].k).toNat)+1<st.length:=(by omega)
    have hb:eW bQ ops[i].k st=st[(st.length-(bP ops[i].k).toNat)+1]:=(by unfold eW;rw[if_pos w4,getD_eq_getElem?_getD,getElem?_eq_getElem Z];rfl)
    refine dL 3 ?_;refine bN (c9 3 (h:=by first|exact .l (j:=(st.length-(bP ops[i].k).toNat)+1) w4 w4|exact .r (j:=(st.length-(bP ops[i].k).toNat)+1) w4 w4)) ?_;refine bN (cJ (mk:=Op.load 30) rfl ot (dJ (k:=7) fh rfl rfl rfl isAgg30 sizeOf30 Z)) ?_;refine aN 0 [_,_,_] sizeOf30 ?_;refine aj 64 [1,4,6,7,9,10,11,13,16,17,18] ?_;refine aC 4 ?_;refine OD.j4 (f:=156) (args:=[_,_,_]) (all:=[_,_,_,_,_]) (Sf:=[⟨br,27,1,[.list 3 (row.flatMap cV) row.length]⟩,⟨bc,38,1,[.list 2 (l.flatMap cC) l.length]⟩]) an rfl rfl ot call156 (HC l hl row ry ops[i] (E _ (getElem_mem aa)) _ _ (st[(st.length-(bP ops[i].k).toNat)]) (st[(st.length-(bP ops[i].k).toNat)+1]) ha hb (AX aS _) (AY aS _) br bc) rfl ⟨ot,ot,ot,trivial⟩ (AL (k:=3) (k':=3) rfl rfl) ?_;exact UC
   have hb:eW bQ ops[i].k st=bQ:=(by unfold eW;rw[if_neg w4])
   refine aC 4 ?_;refine OD.j4 (f:=156) (args:=[_,_,_]) (all:=[_,_,_,_,_]) (Sf:=[⟨br,27,1,[.list 3 (row.flatMap cV) row.length]⟩,⟨bc,38,1,[.list 2 (l.flatMap cC) l.length]⟩]) an rfl rfl ot call156 (HC l hl row ry ops[i] (E _ (getElem_mem aa)) _ _ (st[(st.length-(bP ops[i].k).toNat)]) (bQ) ha hb (AX aS _) (AY aS _) br bc) rfl ⟨ot,ot,ot,trivial⟩ (AL (k:=3) (k':=3) rfl rfl) ?_;exact UC
  have ha:fb bQ ops[i].k st=bQ:=(by unfold fb;rw[if_neg w4])
  refine ae [1,4,6,7,9,10,11,13,16,17,18,36] ?_;refine aq (fun aY bz=>?_) (fun aY bz=>?_)
  ·exact absurd aY (by simp at *;omega)
  have hb:eW bQ ops[i].k st=bQ:=(by unfold eW;rw[if_neg w4])
  refine aC 4 ?_;refine OD.j4 (f:=156) (args:=[_,_,_]) (all:=[_,_,_,_,_]) (Sf:=[⟨br,27,1,[.list 3 (row.flatMap cV) row.length]⟩,⟨bc,38,1,[.list 2 (l.flatMap cC) l.length]⟩]) an rfl rfl ot call156 (HC l hl row ry ops[i] (E _ (getElem_mem aa)) _ _ (bQ) (bQ) ha hb (AX aS _) (AY aS _) br bc) rfl ⟨ot,ot,ot,trivial⟩ (AL (k:=3) (k':=3) rfl rfl) ?_;rintro _ _ ⟨rfl,rfl⟩;refine aD 3 ?_;refine OD.alloc (ds:=[_,_,_]) an rfl rfl zeroValue30 rfl (fun zY=>?_);refine aN 0 [_,_,_] sizeOf30 ?_;refine aj 64 [1,4,6,7,13,14,15,16,17,18] ?_;refine ae [1,4,6,7,13,14,15,16,17,18,51] ?_;refine aq (fun bC bY=>?_) (fun bC bY=>?_)
  ·exact V0
  have hz:(fR l row ops[i] (fb bQ ops[i].k st) (eW bQ ops[i].k st)).2=0:=(by simpa using bC)
  refine CD.skip ?_;refine CD.u7 (k:=(st.length-(bP ops[i].k).toNat)) (ls:=(st)) (Sq:=Sh) fh w4 nD (dx (A:=[_,_,_,_,_,_,_,_])) (fun Bz Bf=>?_);exact z5
 have h1:=Qj w4 hex;have U5:0<st.length:=(by omega)
 obtain⟨bh,rfl,wJ,wu,rfl⟩:=nD.pos w4;have aT:=hinv.trans (Qi w4);have kM:st.getD 0 bQ=st[0]:=(by rw[getD_eq_getElem?_getD,getElem?_eq_getElem U5];rfl)
 rw[kM] at aT;refine aC 1 ?_;refine bN (pV (mk:=Op.indexAddr 27) rfl ot bJ Lr) ?_;refine bN (cJ (mk:=Op.load 30) rfl ot (dJ (k:=4) fh rfl rfl rfl isAgg30 sizeOf30 U5)) ?_;refine aN 3 [_,_,_] sizeOf30 ?_;refine aj 64 [4,5] ?_;exact Wq
theorem adi(l:List cu)(hl:l.length≤6)(row:List Vl)(O:row.length=l.length)(E:∀v∈row,v.Ok)(ops:List aX)(fM:∀o∈ops,o.v.Ok)(I:∀o∈ops,o.k=2→0≤bM l o.nm)(hx:iG ops=0):VP Tryz.prog G 127 [.list 2 (l.flatMap cC) l.length,.list 3 (row.flatMap cV) row.length,.list 5 (ops.flatMap cO) ops.length] (mL (uZ l row ops)):=by
 refine VC.body func127 rfl ntmps127 aO fun X0 w0 aZ=>?_;obtain⟨U,gp⟩:=v7 hx;have fI:=fun br bc=>abA (G:=G) l hl row O E ops fM I U gp br bc;unfold mL at fI ⊢;generalize uZ l row ops=q at fI ⊢;skip;refine bX ?_;refine OD.box (ds:=[_]) an rfl rfl ot rfl rfl (fun b3=>?_);refine OD.box (ds:=[_]) an rfl rfl ot rfl rfl (fun b4=>?_);refine OD.alloc (ds:=[_,_,_]) an rfl rfl zeroValue30 rfl (fun b6=>?_);refine aj 13 [2,3,4,6] ?_;refine aC 1 ?_;refine bN (oW (ds:=[_,_]) rfl ⟨ot,ot,trivial⟩) ?_;refine OD.call an rfl rfl rfl call155 (fI b4 b3) ⟨ot,ot,trivial⟩ (AL (k:=1) (k':=1) rfl rfl) ?_;rintro _ _ ⟨rfl,rfl⟩;refine aD 2 ?_;refine aN 2 [_,_,_] sizeOf30 ?_;refine aj 13 [6,7] ?_;exact z51
theorem RU(hm:(3,marksC)∈G)(hw:(2,wordsC)∈G)(ht:(0,typesC)∈G)(l:List cu)(hl:l.length≤6)(aS:∀c∈l,c.n.size≤maxLen)(row:List Vl)(Z:row.length≤1000)(E:∀v∈row,v.Ok)(ops:List aX)(ho:∀o∈ops,o.nm.size≤maxLen)(fM:∀o∈ops,o.v.Ok):VP Tryz.prog G 92 [.list 2 (l.flatMap cC) l.length,.list 3 (row.flatMap cV) row.length,.list 5 (ops.flatMap cO) ops.length] (mL (fj l row ops)):=by
 refine VC.body func92 rfl ntmps92 aO fun X0 w0 aZ=>?_;have dy:maxLen=9223372036854775807:=rfl;have U:=JB hm hw ht l w4 aS row w4;have I:=IY hm hw ht l hl aS ops ho;unfold pB at I;unfold mL;refine bX ?_;refine OD.alloc (ds:=[_,_,_]) an rfl rfl zeroValue30 rfl (fun b6=>?_);refine aj 34 [0,1,2,6] ?_;refine cL [0,1,2,6,8] (U) ?_;refine ae [0,1,2,6,8,15] ?_;refine aq (fun az aH=>?_) (fun az aH=>?_)
 ·have h0:dW l row≠0:=(by simpa using az)
  have aT:fj l row ops=(bQ,dW l row):=(by unfold fj;rw[if_pos h0])
  refine aC 2 ?_;refine aN 0 [_,_,_] sizeOf30 ?_;refine aj 34 [6,7] ?_;exact n8
 have h0:dW l row=0:=(by simpa using az)
 refine cL [0,1,2,6,10] (I) ?_;refine ae [0,1,2,6,10,25] ?_;refine aq (fun aG aV=>?_) (fun aG aV=>?_)
 ·have h1:(ec l ops).2≠0:=(by simpa using aG)
  have aT:fj l row ops=(bQ,(ec l ops).2):=(by unfold fj;rw[if_neg (by simp[h0]),if_pos h1])
  refine aC 2 ?_;refine aN 0 [_,_,_] sizeOf30 ?_;refine aj 34 [6,7] ?_;exact n8
 have h1:(ec l ops).2=0:=(by simpa using aG)
 obtain⟨k1,k2,k3⟩:=EI h1;have aT:fj l row ops=uZ l row ops:=(by unfold fj;rw[if_neg (by simp[h0]),if_neg (by simp[h1])])
 have O:=adi (G:=G) l hl row (IN h0) E ops fM (OR (by rw[←k3];exact h1)) k2;unfold mL at O;refine aC 3 ?_;refine dR call127 (O) ?_;refine aD 2 ?_;refine aN 0 [_,_,_] sizeOf30 ?_;refine aj 34 [6,7] ?_;exact ue

end Go.Proofs.YtbcmjoaggammcaaGreatDoor.Ex
namespace Go.Proofs.YtbcmjoaggammcaaGreatDoor.Pc
open List
open Go.Proofs.Tryz
open Go.RowKit V Pk Vl Go.Proofs.YtbcmjoaggammcaaGreatDoor.Nm
variable {G:List (Nat×List Value)}
def dH:List cu:=[⟨⟨#[105,100]⟩,2⟩,⟨⟨#[110]⟩,2⟩,⟨⟨#[115]⟩,3⟩,⟨⟨#[98]⟩,1⟩]
def p9(n:Int):Vl:=if dX n 3=2 then bQ else ⟨1,dX n 3,⟨#[]⟩⟩
def FP(n:Int):Vl:=⟨2,n,⟨#[]⟩⟩
theorem agf:cM ⟨#[105,100]⟩=0:=sS (l:=[105,100]) w7 w7 w7
theorem aiw:cM ⟨#[110]⟩=0:=sS (l:=[110]) w7 w7 w7
theorem aix:cM ⟨#[115]⟩=0:=sS (l:=[115]) w7 w7 w7
theorem aiy:cM ⟨#[98]⟩=0:=sS (l:=[98]) w7 w7 w7
theorem IC:fB dH=0:=by
 simp[fB,dH,qJ,mU,agf,aiw,aix,aiy,vU]
theorem acB:∀c∈dH,c.n.size≤maxLen:=fun c hc=>by
 have h:c.n.size≤2:=by
  simp only[dH,mem_cons,not_mem_nil,or_false] at hc;rcases hc with rfl|rfl|rfl|rfl
  ·exact Nat.le_refl 2
  ·exact Nat.le_succ 1
  ·exact Nat.le_succ 1
  exact Nat.le_succ 1
 exact Nat.le_trans h w7
theorem aeX(n:Int):cA (FP n)=0:=by
 unfold cA;rw[if_neg (show ¬(FP n).k=0 by show ¬(2:Int)=0;decide),if_neg (show ¬(FP n).k=1 by show ¬(2:Int)=1;decide),if_pos (show(FP n).k=2 from rfl),if_neg (fun h=>h rfl)]
theorem Fk:cA bQ=0:=by decide
theorem OS:VP Tryz.prog G 24 [] (.list 2 (dH.flatMap cC) dH.length):=by
 refine VC.body func24 rfl ntmps24 aO fun X0 w0 aZ=>?_;refine ae [] ?_;refine aC 4 ?_;refine ee (bZ 0 [_,_,_,_]) [.string ⟨#[]⟩,.int .i64 0,.string ⟨#[]⟩,.int .i64 0,.string ⟨#[]⟩,.int .i64 0,.string ⟨#[]⟩,.int .i64 0] [_,_,_,_,_,_,_,_] zeroValue111 runUnderlying38 sizeOf111 (fun b5=>?_);refine OD.perm (dV (S1:=[⟨b5,111,4*2,flatMap cC ([⟨⟨#[105,100]⟩,2⟩,⟨⟨#[110]⟩,2⟩,⟨⟨#[115]⟩,3⟩,⟨⟨#[98]⟩,1⟩])⟩]) (A:=[])) ?_;refine aj 6 [0] ?_;refine CD.gP (t:=0) (Sq:=[⟨b5,111,4*2,flatMap cC ([⟨⟨#[105,100]⟩,2⟩,⟨⟨#[110]⟩,2⟩,⟨⟨#[115]⟩,3⟩,⟨⟨#[98]⟩,1⟩])⟩]) lk (bI (g:=cC) (sz:=2) (e:=111) (ls:=[⟨⟨#[105,100]⟩,2⟩,⟨⟨#[110]⟩,2⟩,⟨⟨#[115]⟩,3⟩,⟨⟨#[98]⟩,1⟩]) (Nat.le_refl _) (show 4≤maxLen by decide)) (cq lm _) (dx (A:=[])) ?_;exact z51

end Go.Proofs.YtbcmjoaggammcaaGreatDoor.Pc
namespace Go.Proofs.YtbcmjoaggammcaaGreatDoor.Ex
open List
open Go.Proofs.Tryz
open Go.RowKit V Pk Vl Go.Proofs.YtbcmjoaggammcaaGreatDoor.Nm Pc
variable {k:Int} {a b:Vl} {l:List cu} {row:List Vl} {o:aX} {α:Type} {ks:List Int}
theorem G7(b:Bool):cA (p8 b)=0:=by cases b<;>decide
theorem ZW(n:Int):cA ⟨2,n,⟨#[]⟩⟩=0:=aeX n
theorem EJ(h:¬(k=8∨k=9∨k=10)):wM k=1:=if_neg h
theorem adj(h:k=8∨k=9∨k=10):wM k=2:=if_pos h
theorem Ic(b:Bool):(p8 b).k=1:=by cases b<;>rfl
theorem D0{v:Vl}(h:iH v=0):cA v=0:=by
 unfold iH at h;split at h
 ·cases h
 exact h
def jC(k:Int)(v:Vl):Prop:=cA v=0∧(v.k=k∨v.k=0)
theorem A9:jC 0 bQ:=⟨Fk,.inl rfl⟩
structure y5 (l:List cu) (o:aX):Prop where
 nm:o.nm.size≤maxLen
 ok:o.v.Ok
 ck:cA o.v=0
 k1:1≤o.k
 k2:o.k≤11
 Xi:o.k=2→0≤bM l o.nm
def Fl(l:List cu)(row:List Vl):Prop:=∀i:Nat,jC (l.getD i ⟨⟨#[]⟩,0⟩).k (row.getD i bQ)
theorem y6{a b:Int}(h:ru a b=true):a=b∨a=0:=by
 unfold ru at h;simpa using h
theorem YV{d:Int}(ha:cA a=0)(hb:cA b=0)(h1:a.k=1∨a.k=0)(h2:b.k=1∨b.k=0):(kV a b d).2=0∧jC 1 (kV a b d).1:=by
 unfold kV;rw[if_neg w4];split
 ·exact⟨rfl,ha,h1⟩
 split
 ·exact⟨rfl,hb,h2⟩
 split
 ·exact⟨rfl,Fk,.inr rfl⟩
 exact⟨rfl,ha,h1⟩
theorem adk(ha:cA a=0)(hb:cA b=0):Cd.mw a b=0:=by unfold Cd.mw;rw[ha,hb];rfl
theorem ZX(h:Cd.mw a b=0)(hk:k=3∨k=4):∃d,ic k a b=kV a b d:=by
 unfold ic;rw[if_neg (by simp[h])];rcases hk with rfl|rfl
 ·exact⟨0,if_pos rfl⟩
 exact⟨1,by rw[if_neg w7,if_pos rfl]⟩
theorem abB(h:Cd.mw a b=0)(hk:k=6∨k=7):ic k a b=if qM a b=true then (bQ,0) else if a.k≠b.k then (bQ,4) else (p8 ((Cd.fk a b==0&&k==6)||(decide (Cd.fk a b<0)&&k==7)),0):=by
 unfold ic;rw[if_neg (by simp[h]),if_neg w4,if_neg w4,if_pos hk]
theorem ZY(hr:Fl l row)(ho:y5 l o){a b:Int}{E vb:Vl}(ha:jC a E)(hb:jC b vb)(h:(iR l o a b).2=0) :
  (fR l row o E vb).2=5∨((fR l row o E vb).2=0∧jC (iR l o a b).1 (fR l row o E vb).1):=by
 have k1:=ho.k1;have k2:=ho.k2;obtain⟨ca,ka⟩:=ha;obtain⟨cb,kb⟩:=hb;have O:=adk ca cb;unfold iR at h ⊢;by_cases e1:o.k=1
 ·rw[if_pos e1];have:fR l row o E vb=(o.v,0):=(by unfold fR bP;rw[if_neg w4,if_neg (by rw[if_pos (.inl e1)];omega),if_neg w4]<;>(try rw[if_pos (.inl e1)];omega))
  rw[this];exact .inr ⟨rfl,ho.ck,.inl rfl⟩
 rw[if_neg e1] at h ⊢;by_cases e2:o.k=2
 ·rw[if_pos e2] at h ⊢;have hp:bP o.k=0:=(by unfold bP;rw[if_pos (.inr e2)])
  have hc:=ho.Xi e2;have:fR l row o E vb=(row.getD (bM l o.nm).toNat bQ,0):=(by unfold fR;rw[if_neg w4,if_neg w4,if_pos e2])
  rw[this];unfold uP;rw[if_neg w4];exact .inr ⟨rfl,hr _⟩
 rw[if_neg e2] at h ⊢;have aS:okF o.k a b=true:=by
  by_cases hk:okF o.k a b=true
  ·exact hk
  rw[if_neg hk] at h;cases h
 rw[if_pos aS];unfold okF at aS;by_cases I:o.k=5∨o.k=11
 ·have hp:bP o.k=1:=(by unfold bP;rw[if_neg w4,if_pos I])
  have he:fR l row o E vb=tP o.k E:=(by unfold fR;rw[if_pos hp])
  rw[he];unfold tP;rw[if_neg (by simp[ca])];rcases I with I|I
  ·have U:¬(o.k=3∨o.k=4):=(by omega)
   have Z:¬o.k=11:=(by omega)
   rw[if_neg U,if_pos I] at aS;have hi:=y6 aS;rw[if_neg Z,if_pos I,EJ w4];by_cases z:E.k=0
   ·rw[if_pos z];exact .inr ⟨rfl,ca,.inr z⟩
   rw[if_neg z,if_pos w4];exact .inr ⟨rfl,G7 _,.inl (Ic _)⟩
  rw[if_pos I,EJ w4];exact .inr ⟨rfl,G7 _,.inl (Ic _)⟩
 have hp:bP o.k=2:=(by unfold bP;rw[if_neg w4,if_neg I])
 have he:fR l row o E vb=ic o.k E vb:=(by unfold fR;rw[if_neg w4,if_pos hp])
 rw[he];by_cases e3:o.k=3∨o.k=4
 ·rw[if_pos e3,Bool.and_eq_true] at aS;have i1:=y6 aS.1;have i2:=y6 aS.2;obtain⟨d,hd⟩:=ZX O e3;rw[hd,EJ w4];exact .inr (YV ca cb w4 w4)
 have n5:¬o.k=5:=(by omega)
 rw[if_neg e3,if_neg n5] at aS;by_cases e6:o.k=6∨o.k=7
 ·rw[if_pos e6,Bool.or_eq_true] at aS;rw[abB O e6,EJ w4];by_cases hn:qM E vb=true
  ·rw[if_pos hn];exact .inr ⟨rfl,Fk,.inr rfl⟩
  rw[if_neg hn];unfold qM at hn;simp only[Bool.or_eq_true,beq_iff_eq,not_or] at hn;have kZ:E.k=vb.k:=by
   rcases aS with aS|aS
   ·have:=y6 aS;omega
   have:b=0:=(by simpa using aS)
   omega
  rw[if_neg (by simpa using kZ)];exact .inr ⟨rfl,G7 _,.inl (Ic _)⟩
 have e8:o.k=8∨o.k=9∨o.k=10:=(by omega)
 rw[if_neg e6,if_pos e8,Bool.and_eq_true] at aS;have i1:=y6 aS.1;have i2:=y6 aS.2;rw[Om O e8 w4,adj e8];split
 ·exact .inr ⟨rfl,Fk,.inr rfl⟩
 split
 ·exact .inr ⟨rfl,ZW _,.inl rfl⟩
 exact .inl rfl
theorem I0{z:α}{f:aX→α→α→α × Int}{r:List aX}{st:List α}(h:(f o (fb z o.k st) (eW z o.k st)).2=0):jt z f (o::r) st=jt z f r (st.take (st.length-(bP o.k).toNat)++[(f o (fb z o.k st) (eW z o.k st)).1]):=by
 rw[jt,if_neg (by rw[h];simp)]
theorem Ie{z:α}{f:aX→α→α→α × Int}{r:List aX}{st:List α}(h:(f o (fb z o.k st) (eW z o.k st)).2≠0):jt z f (o::r) st=(z,(f o (fb z o.k st) (eW z o.k st)).2):=by
 rw[jt,if_pos h]
def BR(ks:List Int)(vs:List Vl):Prop:=ks.length=vs.length∧∀i:Nat,jC (ks.getD i 0) (vs.getD i bQ)
theorem Qm(z x:α)(l:List α)(n i:Nat)(hn:n≤l.length):(l.take n++[x]).getD i z=if i<n then l.getD i z else if i=n then x else z:=by
 have hl:(l.take n).length=n:=(by rw[length_take];omega)
 by_cases h1:i<n
 ·rw[if_pos h1,getD_eq_getElem?_getD,getD_eq_getElem?_getD,getElem?_append_left w4,getElem?_take,if_pos h1]
 rw[if_neg h1,getD_eq_getElem?_getD,getElem?_append_right w4,hl];by_cases h2:i=n
 ·rw[if_pos h2,h2,Nat.sub_self];rfl
 rw[if_neg h2,getElem?_eq_none (by rw[length_singleton];omega)];rfl
theorem adm{vs:List Vl}(h:BR ks vs){v:Vl}(hr:jC k v){n:Nat}(hn:n≤ks.length):BR (ks.take n++[k]) (vs.take n++[v]):=by
 have hl:=h.1;refine⟨by simp only[length_append,length_take,length_singleton];omega,fun i=>?_⟩;rw[Qm _ _ _ _ _ hn,Qm _ _ _ _ _ w4];split
 ·exact h.2 i
 split
 ·exact hr
 exact A9
theorem adn{vs:List Vl}(h:BR ks vs)(k:Int):jC (fb 0 k ks) (fb bQ k vs)∧jC (eW 0 k ks) (eW bQ k vs):=by
 have hl:=h.1;unfold fb eW;rw[hl];refine⟨?_,?_⟩
 ·split
  ·exact h.2 _
  exact A9
 split
 ·exact h.2 _
 exact A9
theorem OT{l:List cu}{row:List Vl}(hr:Fl l row):∀(ops:List aX),(∀o∈ops,y5 l o)→∀(ks:List Int) (vs:List Vl),BR ks vs→(jt 0 (iR l) ops ks).2=0 →
  (jt bQ (fR l row) ops vs).2=5∨((jt bQ (fR l row) ops vs).2=0∧jC (jt 0 (iR l) ops ks).1 (jt bQ (fR l row) ops vs).1)
 | [],_,ks,vs,h,_=>.inr ⟨rfl,h.2 0⟩
 | o::r,hg,ks,vs,h,h0=>by
  obtain⟨hA,hB⟩:=adn h o.k;by_cases hm:(iR l o (fb 0 o.k ks) (eW 0 o.k ks)).2=0
  ·rw[I0 hm] at h0 ⊢;rcases ZY hr (hg o mem_cons_self) hA hB hm with h5|⟨hz,E⟩
   ·rw[Ie (by rw[h5];decide)];exact .inl h5
   rw[I0 hz];have:=adm h E (n:=ks.length-(bP o.k).toNat) (Nat.sub_le _ _);rw[show vs.length-(bP o.k).toNat=ks.length-(bP o.k).toNat by rw[h.1]];exact OT hr r (fun x hx=>hg x (mem_cons_of_mem _ hx)) _ _ this h0
  rw[Ie hm] at h0;exact absurd h0 hm
theorem abC(ho:y5 l o)(a b:Int):(iR l o a b).2=0∨(iR l o a b).2=4:=by
 unfold iR;split
 ·exact .inl rfl
 split
 ·rename_i h2;have:=ho.Xi h2;unfold uP;rw[if_neg w4];exact .inl rfl
 split
 ·exact .inl rfl
 exact .inr rfl
theorem Qn{l:List cu}:∀(ops:List aX),(∀o∈ops,y5 l o)→∀ks,(jt 0 (iR l) ops ks).2=0∨(jt 0 (iR l) ops ks).2=4
 | [],_,ks=>.inl rfl
 | o::r,hg,ks=>by
  rw[jt];split
  ·rename_i hne;rcases abC (hg o mem_cons_self) (fb 0 o.k ks) (eW 0 o.k ks) with h|h
   ·exact absurd h hne
   exact .inr h
  exact Qn r (fun x hx=>hg x (mem_cons_of_mem _ hx)) _
theorem adp:BR [] []:=⟨rfl,fun i=>by rw[getD_nil,getD_nil];exact A9⟩
theorem ZZ{ops:List aX}(hl:fB l=0)(hw:dW l row=0)(hr:Fl l row)(hg:∀o∈ops,y5 l o)(hx:iG ops=0) :
  ec l ops=tI l ops∧((ec l ops).2=0∨(ec l ops).2=4)∧((ec l ops).2=4→fj l row ops=(bQ,4)) ∧
  ((ec l ops).2=0→fj l row ops=uZ l row ops∧((fj l row ops).2=5∨((fj l row ops).2=0∧jC (ec l ops).1 (fj l row ops).1))):=by
 have hk:ec l ops=tI l ops:=(by unfold ec;rw[if_neg (by simp[hl]),if_neg (by simp[hx])])
 refine⟨hk,by rw[hk];exact Qn ops hg [],fun h4=>?_,fun h0=>?_⟩
 ·unfold fj;rw[if_neg (by simp[hw]),if_pos y9,h4]
 have he:fj l row ops=uZ l row ops:=(by unfold fj;rw[if_neg (by simp[hw]),if_neg (by simp[h0])])
 refine⟨he,?_⟩;rw[he,hk];exact OT hr ops hg [] [] adp (by rw[hk] at h0;exact h0)
/-! ### Ops of twigs, the columns and rows of the statements -/

end Go.Proofs.YtbcmjoaggammcaaGreatDoor.Ex
namespace Go.Proofs.YtbcmjoaggammcaaGreatDoor.Pc
open List
open Go.Proofs.Tryz
open Go.RowKit V Pk Vl Go.Proofs.YtbcmjoaggammcaaGreatDoor.Nm
abbrev TypesTab(w:World):Prop:=Tab.mv w 0 typesC

end Go.Proofs.YtbcmjoaggammcaaGreatDoor.Pc
namespace Go.Proofs.YtbcmjoaggammcaaGreatDoor.Ex





open List
open Go.Proofs.Tryz
open Go.RowKit V Pk Vl Go.Proofs.YtbcmjoaggammcaaGreatDoor.Nm Pc Cd
open Go.Lib (compareBytes)
variable {ops:List aX} {k:List UInt8}
def nl(ops:List aX)(i:Nat):Int:=(ops.getD i (qH 0)).k
def iI(ops:List aX):Nat→Int→Nat
 | 0,_=>0
 | i+1,need=>if need+(bP (nl ops i)-1)>0 then iI ops i (need+(bP (nl ops i)-1)) else i
theorem uL{i:Nat}(h:i<ops.length):nl ops i=ops[i].k:=by unfold nl;rw[getD_eq_getElem?_getD,getElem?_eq_getElem h];rfl
theorem Ty{h h':Int}{o:aX}(he:e9 h o=0)(hp:bP o.k≤h'):e9 h' o=0:=by
 unfold e9 at he ⊢;split at he
 ·cases he
 rename_i q1;rw[if_neg q1];split at he
 ·rename_i h2;exact absurd he h2
 rename_i q2;rw[if_neg q2];split at he
 ·cases he
 rename_i E;rw[if_neg E];split at he
 ·rename_i h4;exact absurd he h4.2
 rename_i I;rw[if_neg I,if_neg w4]
theorem HD{n:Nat}{h:Int}(hn:n<ops.length)(e:runs 0 (ops.take (n+1))=some h):∃h',runs 0 (ops.take n)=some h'∧e9 h' ops[n]=0∧h=h'+(1-bP ops[n].k):=by
 rw[take_succ_eq_append_getElem hn,yc] at e;cases hr:runs 0 (ops.take n) with
 | none=>rw[hr] at e;cases e
 | some h' =>
  rw[hr,Option.bind_some,runs] at e;split at e
  ·rename_i he;rw[runs] at e;cases e;exact⟨h',rfl,he,rfl⟩
  cases e
theorem Qo{ops:List aX}:∀(n:Nat) (need h:Int),n≤ops.length→runs 0 (ops.take n)=some h→1≤need→need≤h →
  iI ops n need<n∧runs 0 (ops.take (iI ops n need))=some (h-need)∧∀k:Int,0≤k→runs k ((ops.take n).drop (iI ops n need))=some (k+need)
 | 0,need,h,_,e,h1,h2=>by rw[List.take_zero,runs] at e;cases e;omega
 | n+1,need,h,hn,e,h1,h2=>by
  have aa:n<ops.length:=(by omega)
  obtain⟨h',e1,e2,U⟩:=HD aa e;have I:=s9 ops[n].k;have ri:=(vW e2).1;have E:∀m,m≤n→(ops.take (n+1)).drop m=(ops.take n).drop m++[ops[n]]:=fun m hm=>by
   rw[take_succ_eq_append_getElem aa,drop_append,show m-(ops.take n).length=0 by rw[length_take];omega,drop_zero]
  rw[iI,uL aa];by_cases hc:need+(bP ops[n].k-1)>0
  ·rw[if_pos hc];obtain⟨q1,q2,O⟩:=Qo n (need+(bP ops[n].k-1)) h' w4 e1 w4 w4;refine⟨by omega,by rw[q2];congr 1;omega,fun k hk=>?_⟩;rw[E _ w4,yc,O k hk,Option.bind_some,runs,if_pos (Ty e2 w4),runs];congr 1;omega
  rw[if_neg hc];refine⟨by omega,by rw[e1];congr 1;omega,fun k hk=>?_⟩;rw[E n (Nat.le_refl _),drop_of_length_le oH,nil_append,runs,if_pos (Ty e2 w4),runs];congr 1;omega
def lS(key:ByteArray)(o:aX):Bool:=o.k==2&&o.nm.toList==key.toList
def gE(o:aX):Bool:=o.k==1 && !(o.v.k==0)
abbrev kR:=List UInt8×List UInt8
variable {b:kR}
def nV(k:List UInt8)(b:kR):kR:=if compareBytes k b.1>0 then (k,b.2) else b
def rP(k:List UInt8)(b:kR):kR:=if b.2.length=0∨compareBytes k b.2<0 then (b.1,k) else b
def u5(kc:Int)(eq not:Bool)(k:List UInt8)(b:kR):kR :=
 bif eq||(kc==0)!=not then rP k (bif eq||(kc==0)==not then nV k b else b) else bif eq||(kc==0)==not then nV k b else b
def zo(ops:List aX):List UInt8:=(fS [(ops.getD (dM gE (ops.take 2)).toNat (qH 0)).v]).1
def mQ(key:ByteArray)(ops:List aX)(not:Bool)(b:kR):kR :=
 if ops.length≠3∨(not=true∧nl ops (ops.length-1)≠7)∨(nl ops (ops.length-1)≠6∧nl ops (ops.length-1)≠7) then b
 else if dM (lS key) (ops.take 2)<0∨dM gE (ops.take 2)<0 then b
 else u5 (dM (lS key) (ops.take 2)) (nl ops (ops.length-1)==6) not (zo ops) b
def fV(key:ByteArray):Nat→List aX→kR→kR
 | 0,_,b=>b
 | f+1,ops,b =>
  if nl ops (ops.length-1)=3 then fV key f ((ops.take (ops.length-1)).drop (iI ops (ops.length-1) 1)) (fV key f (ops.take (iI ops (ops.length-1) 1)) b)
  else if nl ops (ops.length-1)=5 then mQ key (ops.take (ops.length-1)) true b
  else mQ key ops false b
variable {G:List (Nat×List Value)} {m:Int}
theorem Z0(ops:List aX)(pM:ops.length≤40)(n:Nat)(hn:n≤ops.length)(h:Int)(hr:runs 0 (ops.take n)=some h)(h1:1≤h):VP Tryz.prog G 169 [.list 5 (ops.flatMap cO) ops.length,.v (.int .i64 (n:Nat))] (.v (.int .i64 (iI ops n 1:Nat))):=by
 refine VC.body func169 rfl ntmps169 aO fun X0 w0 aZ=>?_;refine ae [0,1] ?_;refine ae [0,5] ?_;refine ae [0,5,6] ?_;refine eB [0] (fun aW _ (E:Nat×Int) aK=>match E with|(i,need)=>(i≤n)∧(0≤need)∧(need≤1+2*((n:Int)-i))∧((need=0∧iI ops n 1=i)∨(1≤need∧iI ops n 1=iI ops i need∧∃h,runs 0 (ops.take i)=some h∧need≤h))∧aK=(⟨22,(5,.v (.int .i64 (i:Nat)))::(6,.v (.int .i64 need))::aW,[]⟩:St)) (fun (E:Nat×Int)=>match E with|(i,need)=>i) (n,1) ⟨(Nat.le_refl _),w7,w4,(.inr ⟨by decide,rfl,h,hr,h1⟩),rfl⟩ ?_;rintro⟨i,need⟩ _ ⟨hi,gC,W0,hinv,rfl⟩;refine ae [0,5,6,9] ?_;refine aq (fun az aH=>?_) (fun az aH=>?_)
 ·obtain⟨hz,_⟩|⟨gi,I,h2,e1,e2⟩:=hinv
  ·omega
  have M1:0<i:=(by rcases Nat.eq_zero_or_pos i with rfl|h;rw[List.take_zero,runs] at e1;cases e1;omega;exact h)
  have O:-9223372036854775808≤((i-1:Nat):Int):=(by omega)
  have U:((i-1:Nat):Int)≤9223372036854775807:=(by omega)
  have jU:(i:Int)-1=((i-1:Nat):Int):=(by omega)
  have aa:i-1<ops.length:=(by omega)
  have CL:=s9 ops[i-1].k;obtain⟨h3,e3,e4,e5⟩:=HD aa (by rw[show i-1+1=i by omega];exact e1);have ri:=(vW e4).1;have Z:iI ops i need=if need+(bP ops[i-1].k-1)>0 then iI ops (i-1) (need+(bP ops[i-1].k-1)) else i-1:=by obtain⟨j,rfl⟩:∃j,i=j+1:=⟨i-1,by omega⟩;rw[iI,uL w4];rfl
  have nE:(need+(bP ops[i-1].k-1)=0∧iI ops n 1=i-1)∨(1≤need+(bP ops[i-1].k-1)∧iI ops n 1=iI ops (i-1) (need+(bP ops[i-1].k-1))∧∃h,runs 0 (ops.take (i-1))=some h∧need+(bP ops[i-1].k-1)≤h):=(by (by_cases hc:need+(bP ops[i-1].k-1)>0);exact .inr ⟨by omega,by rw[I,Z,if_pos hc],h3,e3,by omega⟩;exact .inl ⟨by omega,by rw[I,Z,if_neg hc]⟩)
  refine cN [0,5,6] ?_;refine aQ 1 ?_ (h:=by exact(cZ rfl ot bJ (fZ (r:=((i-1:Nat):Int)) (by rw[jU];exact wrap_i64 O U))));refine bH ?_;refine gW [0,5,6] ?_;refine cU (Ej ops[i-1].k) ?_;refine bH ?_;refine⟨((i-1),(need+(bP ops[i-1].k-1))),_,cx,aM,w4,w4,w4,nE,rfl⟩
 have aT:iI ops n 1=i:=(by rcases hinv with ⟨_,h⟩|⟨h,_⟩;exact h;omega)
 refine ae [4] ?_;exact ue
theorem OU(ls:List aX)(g:Nat)(E:List D)(S:List ag)(p:aX→Bool)(fi:∀args w,(callFunc g args).run Tryz.prog w = .ok (.enter g args) w)(hp:∀x∈ls,VC Tryz.prog G g (.agg (cO x)::E) S (fun r S'=>r = .v (.bool (p x))∧S'=S))(hlen:ls.length≤1000000):VC Tryz.prog G 170 [.list 5 (ls.flatMap cO) ls.length,.ek (.func g) E] S (fun r S'=>r = .v (.int .i64 (dM p ls))∧S'=S):=by
 refine VC.body func170 rfl ntmps170 aO fun X0 w0 aZ=>?_;unfold cO at hp;exact VJ
theorem Z1(o:aX)(nm:ByteArray)(b:Nat):VC Tryz.prog G 171 [.agg (cO o),.v (.pointer (some ⟨b,0,none⟩))] [⟨b,9,1,[.v (.string nm)]⟩] (fun r S=>r = .v (.bool (lS nm o))∧S=[⟨b,9,1,[.v (.string nm)]⟩]):=by
 refine VC.body func171 rfl ntmps171 aO fun X0 w0 aZ=>?_;unfold cO lS;refine bX ?_;refine OD.box (ds:=[_,_,_,_,_]) an rfl rfl ot rfl rfl (fun b2=>?_);refine aj 13 [1,2] ?_;refine aC 4 ?_;refine bS 7 (fun I E=>?_) (fun I E=>?_)
 ·refine bf [3] ?_;refine aJ [⟨b,9,1,[.v (.string nm)]⟩] ?_;first|exact⟨rfl,rfl⟩|(refine⟨vb ?_,rfl⟩;simp_all)
 refine bf [3] ?_;refine aJ [⟨b,9,1,[.v (.string nm)]⟩] ?_;first|exact⟨rfl,rfl⟩|(refine⟨vb ?_,rfl⟩;simp_all)
theorem Z2(o:aX):VC Tryz.prog G 172 [.agg (cO o)] [] (fun r S=>r = .v (.bool (gE o))∧S=[]):=by
 refine VC.body func172 rfl ntmps172 aO fun X0 w0 aZ=>?_;unfold cO gE;refine bX ?_;refine OD.box (ds:=[_,_,_,_,_]) an rfl rfl ot rfl rfl (fun b1=>?_);refine aj 12 [1] ?_;refine aC 4 ?_;refine bS 6 (fun I E=>?_) (fun I E=>?_)
 ·refine bf [2] ?_;refine eJ ?_;first|exact⟨rfl,rfl⟩|(refine⟨vb ?_,rfl⟩;simp_all;done)|(refine⟨vb ?_,rfl⟩;simp_all;rfl)
 refine bf [2] ?_;refine eJ ?_;first|exact⟨rfl,rfl⟩|(refine⟨vb ?_,rfl⟩;simp_all;done)|(refine⟨vb ?_,rfl⟩;simp_all;rfl)
theorem Q6(a b:List UInt8):VP Tryz.prog G 35 [.list 1 (a.flatMap cB) a.length,.list 1 (b.flatMap cB) b.length] (.v (.int .i64 (compareBytes a b))):=by
 exact UI
theorem Z3:(Tryz.prog.info? 5).map (fun i=>(i.zero,i.size,i.bytes))=some (some (.int .u8 0),1,1):=by kernel_rfl
theorem HW(a:List UInt8)(ha:a.length≤1000):VP Tryz.prog G 59 [.list 1 (a.flatMap cB) a.length] (.list 1 (a.flatMap cB) a.length):=by
 refine VC.body func59 rfl ntmps59 aO fun X0 w0 aZ=>?_;have dy:maxLen=9223372036854775807:=rfl;refine ae [0] ?_;refine aC 1 ?_;refine OD.yT an rfl rfl ot bJ underlying49 (fun O xD=>?_);refine aj 8 [0,4] ?_;refine aq (fun az aH=>?_) (fun az aH=>?_)
 ·exact Wl
 refine bX ?_;refine OD.yU an rfl rfl runUnderlying49 sizeOf5 (fun b5=>?_);refine aD 1 ?_;refine OD.oV (ls:=([]:List UInt8)) (new:=a) (Sq:=[⟨b5,5,0*1,[]⟩]) o9 wm an rfl rfl underlying49 Z3 rfl w7 runUnderlying49 sizeOf5 ot (.inr ⟨b5,rfl,Nat.le_refl _,Nat.zero_le _,rfl⟩) (dx (A:=[])) ot gU gU (fun E I S7 pH=>?_);exact UJ
theorem EE(l:List Vl):(fS l).1.length≤100:=by
 unfold fS;split
 ·simp
 split
 ·simp
 split
 ·simp
 simpa using by omega
theorem adq(hk:k.length≤100)(h1:b.1.length≤100)(h2:b.2.length≤100):(nV k b).1.length≤100∧(nV k b).2.length≤100:=by unfold nV;split<;>exact⟨by assumption,by assumption⟩
theorem Qp(hk:k.length≤100)(h1:b.1.length≤100)(h2:b.2.length≤100):(rP k b).1.length≤100∧(rP k b).2.length≤100:=by unfold rP;split<;>exact⟨by assumption,by assumption⟩
theorem adr{E:Int}{eq not:Bool}(hk:k.length≤100)(h1:b.1.length≤100)(h2:b.2.length≤100):(u5 E eq not k b).1.length≤100∧(u5 E eq not k b).2.length≤100:=by
 unfold u5;have q1:=adq hk h1 h2;have q2:=Qp hk h1 h2;have I:=Qp hk q1.1 q1.2;cases(eq||(E==0)!=not)<;>cases(eq||(E==0)==not)
 ·exact⟨h1,h2⟩
 ·exact q1
 ·exact q2
 exact I
theorem yo{key:ByteArray}{not:Bool}(h1:b.1.length≤100)(h2:b.2.length≤100):(mQ key ops not b).1.length≤100∧(mQ key ops not b).2.length≤100:=by
 unfold mQ;split
 ·exact⟨h1,h2⟩
 split
 ·exact⟨h1,h2⟩
 exact adr (EE _) h1 h2
theorem I1(key:ByteArray):∀(f:Nat) (ops:List aX) (b:kR),b.1.length≤100→b.2.length≤100→(fV key f ops b).1.length≤100∧(fV key f ops b).2.length≤100
 | 0,_,b,h1,h2=>⟨h1,h2⟩
 | f+1,ops,b,h1,h2=>by
  rw[fV];split
  ·have q:=I1 key f (ops.take (iI ops (ops.length-1) 1)) b h1 h2;exact I1 key f _ _ q.1 q.2
  split
  ·exact yo h1 h2
  exact yo h1 h2
theorem Ek(h:runs 0 ops=some 1):1≤ops.length:=by
 cases ops with
 | nil=>rw[runs] at h;cases h
 | cons=>simp
theorem Qq(h:runs 0 ops=some 1):∃(hn:ops.length-1<ops.length),runs 0 (ops.take (ops.length-1))=some (bP ops[ops.length-1].k):=by
 have hp:=Ek h;have aa:ops.length-1<ops.length:=(by omega)
 refine⟨aa,?_⟩;obtain⟨h',e1,e2,E⟩:=HD aa (by rw[show ops.length-1+1=ops.length by omega,take_length];exact h);rw[e1];congr 1;omega
theorem ads(h:runs 0 ops=some 1)(hk:nl ops (ops.length-1)=3):iI ops (ops.length-1) 1<ops.length-1∧runs 0 (ops.take (iI ops (ops.length-1) 1))=some 1∧runs 0 ((ops.take (ops.length-1)).drop (iI ops (ops.length-1) 1))=some 1∧runs 0 (ops.take (ops.length-1))=some 2:=by
 obtain⟨hn,e⟩:=Qq h;rw[uL hn] at hk;rw[hk] at e;obtain⟨q1,q2,E⟩:=Qo (ops.length-1) 1 2 w4 e w7 w7;exact⟨q1,q2,E 0 w7,e⟩
variable {key:ByteArray}
theorem aeY{ls:List aX}{j:Nat}(h:j<ls.length):((ls.flatMap cO).drop (j*5+1)).take 3=cV ls[j].v:=by
 rw[←drop_drop,uG mO,drop_eq_getElem_cons h,flatMap_cons];rfl
theorem abD(hG:(1,[Value.int .i64 m])∈G)(key:ByteArray)(f:Nat)(hf:f≤40)(IH:∀(ops:List aX) (lo hi:List UInt8),ops.length≤f→runs 0 ops=some 1→(∀o∈ops,o.v.Ok)→lo.length≤100→hi.length≤100→∀b0,VC Tryz.prog G 146 [.v (.pointer (some ⟨b0,0,none⟩)),.v (.string key),.list 5 (ops.flatMap cO) ops.length] [⟨b0,224,2,[.list 1 (lo.flatMap cB) lo.length,.list 1 (hi.flatMap cB) hi.length]⟩] (fun r S=>r = .dz []∧S=[⟨b0,224,2,[.list 1 ((fV key f ops (lo,hi)).1.flatMap cB) (fV key f ops (lo,hi)).1.length,.list 1 ((fV key f ops (lo,hi)).2.flatMap cB) (fV key f ops (lo,hi)).2.length]⟩]))(ops:List aX)(lo hi:List UInt8)(hl:ops.length≤f+1)(pM:ops.length≤40)(hr:runs 0 ops=some 1)(aS:∀o∈ops,o.v.Ok)(eT:lo.length≤100)(eu:hi.length≤100)(b0:Nat):VC Tryz.prog G 146 [.v (.pointer (some ⟨b0,0,none⟩)),.v (.string key),.list 5 (ops.flatMap cO) ops.length] [⟨b0,224,2,[.list 1 (lo.flatMap cB) lo.length,.list 1 (hi.flatMap cB) hi.length]⟩] (fun r S=>r = .dz []∧S=[⟨b0,224,2,[.list 1 ((fV key (f+1) ops (lo,hi)).1.flatMap cB) (fV key (f+1) ops (lo,hi)).1.length,.list 1 ((fV key (f+1) ops (lo,hi)).2.flatMap cB) (fV key (f+1) ops (lo,hi)).2.length]⟩]):=by
 refine VC.body func146 rfl ntmps146 aO fun X0 w0 aZ=>?_;have hp0:=Ek hr;obtain⟨gi,Xj⟩:=Qq hr;have I:=uL gi;have dy:maxLen=9223372036854775807:=rfl;have CL:=s9 ops[ops.length-1].k;refine bX ?_;refine OD.box (ds:=[_]) an rfl rfl ot rfl rfl (fun b4=>?_);refine aj 155 [0,2,4] ?_;refine cN [0,2,4,6] ?_;refine aQ 2 ?_ (h:=by exact(cZ rfl ot bJ (fZ (r:=((ops.length-1:Nat):Int)) (by rw[show((ops.length:Nat):Int)-1=((ops.length-1:Nat):Int) by omega];exact wrap_i64 w4 w4))));refine bH ?_;refine ae [0,2,4,6,22] ?_;refine aq (fun az aH=>?_) (fun az aH=>?_)
 ·have lJ:nl ops (ops.length-1)=3:=(by rw[I];omega)
  obtain⟨CU,Ww,hm3,hm4⟩:=ads hr lJ;have aT:(fV key (f+1) ops (lo,hi))=fV key f ((ops.take (ops.length-1)).drop (iI ops (ops.length-1) 1)) (fV key f (ops.take (iI ops (ops.length-1) 1)) (lo,hi)):=(by rw[fV,if_pos lJ])
  have CV:=I1 key f (ops.take (iI ops (ops.length-1) 1)) (lo,hi) eT eu;refine cL [0,2,4,6,7] (Z0 ops w4 (ops.length-1) w4 2 hm4 w7) ?_;refine CD.seq ?_;refine l8 5 [0,2,4,6,7,26,27,30] ?_;refine aQ 4 ?_ (h:=by exact(ei (l:=0) rfl ot trivial ⟨_,ot⟩ F6));refine jR ?_;refine OD.call an rfl rfl rfl call146 (IH (ops.take (iI ops (ops.length-1) 1)) (lo) (hi) (by simp only[length_drop,length_take];omega) Ww (fun o ho=>aS o (mem_of_mem_take ho)) w4 w4 b0) ⟨ot,ot,ot,trivial⟩ (jX (k:=1) rfl) ?_;rintro _ _ ⟨rfl,rfl⟩;refine aj 155 [0,2,4,6,7] ?_;refine CD.seq ?_;refine l8 6 [32,33,37] ?_;refine aQ 5 ?_ (h:=by exact(ei (l:=(iI ops (ops.length-1) 1)) (h:=(ops.length-1)) rfl ot ⟨_,ot⟩ ⟨_,ot⟩ (aeI mO (fun h=>by cases h) (fun h=>by cases h) runUnderlying40 sizeOf61 w4 w4)));refine jR ?_;refine OD.call an rfl rfl rfl call146 (IH ((ops.take (ops.length-1)).drop (iI ops (ops.length-1) 1)) ((fV key f (ops.take (iI ops (ops.length-1) 1)) (lo,hi)).1) ((fV key f (ops.take (iI ops (ops.length-1) 1)) (lo,hi)).2) (by simp only[length_drop,length_take];omega) hm3 (fun o ho=>aS o (mem_of_mem_take (mem_of_mem_drop ho))) w4 w4 b0) ⟨ot,ot,ot,trivial⟩ (jX (k:=0) rfl) ?_;rintro _ _ ⟨rfl,rfl⟩;refine aj 155 [] ?_;exact VY
 have lJ:¬nl ops (ops.length-1)=3:=(by rw[I];omega)
 refine ae [0,2,4,6,8] ?_;refine CD.cut (fun aK=>∃(bn:List aX),∃(nt:Bool),((fV key (f+1) ops (lo,hi))=mQ key bn nt (lo,hi))∧(1≤bn.length)∧(bn.length≤40)∧(∀o∈bn,o.v.Ok)∧(bn.length-1<bn.length)∧aK=(⟨155,[(0,.v (.pointer (some ⟨b0,0,none⟩))),(2,.list 5 (bn.flatMap cO) bn.length),(4,.v (.pointer (some ⟨b4,0,none⟩))),(6,.v (.int .i64 ((bn.length-1):Nat))),(8,.v (.bool nt))],[⟨b4,9,1,[.v (.string key)]⟩,⟨b0,224,2,[.list 1 (lo.flatMap cB) lo.length,.list 1 (hi.flatMap cB) hi.length]⟩]⟩:St)) ?_ ?_
 ·refine ae [0,2,4,6,8,45] ?_;refine aq (fun aG aV=>?_) (fun aG aV=>?_)
  ·have U:nl ops (ops.length-1)=5:=(by rw[I];simpa using aG)
   have ir:2≤ops.length:=(by rw[←I,U] at Xj;have:=Ek Xj;rw[length_take] at this;omega)
   have sR:(fV key (f+1) ops (lo,hi))=mQ key (ops.take (ops.length-1)) true (lo,hi):=(by rw[fV,if_neg lJ,if_pos U])
   have oG:(ops.take (ops.length-1)).length=(ops.length-1):=(by rw[length_take];omega)
   refine cN [0,2,4,6,8] ?_;refine aQ 2 ?_ (h:=by exact(ei (l:=0) rfl ot trivial ⟨_,ot⟩ F6));refine bH ?_;refine gW [0,2,4,6,8] ?_;refine aQ 1 ?_ (h:=by exact(cZ rfl ot bJ (fZ (r:=((ops.length-1-1:Nat):Int)) (by rw[show((ops.length-1:Nat):Int)-1=((ops.length-1-1:Nat):Int) by omega];exact wrap_i64 w4 w4))));refine bH ?_;refine⟨_,(aM (h:=by repeat (first|exact trivial|refine⟨(by (repeat (first|exact fw|(apply fP;focus (first|rfl|(rw[oG];done)|(rw[aG];done)))|(apply fA;focus rfl)));done),?_⟩))),(ops.take (ops.length-1)),true,sR,w4,w4,(fun o ho=>aS o (mem_of_mem_take ho)),w4,rfl⟩
  have U:¬nl ops (ops.length-1)=5:=(by rw[I];simpa using aG)
  have sR:(fV key (f+1) ops (lo,hi))=mQ key ops false (lo,hi):=(by rw[fV,if_neg lJ,if_neg U])
  refine CD.skip ?_;refine⟨_,(aM (h:=by repeat (first|exact trivial|refine⟨(by (repeat (first|exact fw|(apply fP;focus (first|rfl|(rw[oG];done)|(rw[aG];done)))|(apply fA;focus rfl)));done),?_⟩))),ops,false,sR,hp0,pM,aS,gi,rfl⟩
 rintro _ ⟨bn,nt,aT,n9,aoz,jE,u6,rfl⟩;refine jJ [0,2,4,6,8] (fun aW rz aK=>(¬(bn.length≠3∨(nt=true∧bn[bn.length-1].k≠7)∨(bn[bn.length-1].k≠6∧bn[bn.length-1].k≠7)))∧aK=(⟨155,aW,rz⟩:St)) ?_ ?_
 ·refine aC 3 ?_;refine bS 53 (fun KT J4=>?_) (fun KT J4=>?_)
  ·refine bf [0,2,4,6,8,79] ?_;refine eC ?_;exact z37
  refine aD 2 ?_;refine bS 55 (fun tN agh=>?_) (fun tN agh=>?_)
  ·refine aD 9 ?_;refine bS 64 (fun K0 J7=>?_) (fun K0 J7=>?_)
   ·refine bf [0,2,4,6,8,79] ?_;refine eC ?_;exact z37
   refine aD 7 ?_;exact VU
  refine xG 6 ?_;refine aD 10 ?_;exact VU
 rintro _ ⟨rW,rfl⟩;refine aC 1 ?_;refine bN (ei (l:=0) (h:=2) rfl ot trivial ⟨_,bJ⟩ F6) ?_;refine bN (oW (ds:=[_]) rfl ⟨ot,trivial⟩) ?_;refine OD.call an rfl rfl rfl call170 (OU (bn.take 2) 171 [.v (.pointer (some ⟨b4,0,none⟩))] _ (lS key) call171 (fun h _=>Z1 h key b4) oH) ⟨ot,ot,trivial⟩ (jX (k:=0) rfl) ?_;rintro _ SS2 ⟨rfl,E⟩;rw[E];clear E;refine aj 155 [0,2,6,8,9] ?_;refine aC 1 ?_;refine bN (ei (l:=0) (h:=2) rfl ot trivial ⟨_,bJ⟩ F6) ?_;refine OD.call an rfl rfl rfl call170 (OU (bn.take 2) 172 [] [] gE call172 (fun h _=>Z2 h) oH) ⟨ot,sW,trivial⟩ (eN _) ?_;rintro _ SS2 ⟨rfl,E⟩;rw[E];clear E;refine aj 155 [0,2,6,8,9,10] ?_;refine aC 3 ?_;refine bS 89 (fun aiz agi=>?_) (fun aiz agi=>?_)
 ·refine bf [0,2,6,8,9,10,92] ?_;refine eC ?_;exact UG
 refine bf [0,2,6,8,9,10,92] ?_;refine aq (fun bC bY=>?_) (fun bC bY=>?_)
 ·exact UG
 have aY:¬((dM (lS key) (bn.take 2))<0∨(dM gE (bn.take 2))<0):=(by first|omega|(simp_all;omega)|simp_all)
 have hLb:=vZ gE (bn.take 2);have Gs:bn.length=3:=(by omega)
 rw[length_take] at hLb;have O:(dM gE (bn.take 2)).toNat<bn.length:=(by omega)
 have ME:zo bn=(fS [bn[(dM gE (bn.take 2)).toNat].v]).1:=(by unfold zo;rw[getD_eq_getElem?_getD,getElem?_eq_getElem O];rfl)
 have TT:(fV key (f+1) ops (lo,hi))=u5 (dM (lS key) (bn.take 2)) (bn[bn.length-1].k==6) nt (fS [bn[(dM gE (bn.take 2)).toNat].v]).1 (lo,hi):=(by rw[aT];unfold mQ;rw[uL u6,if_neg rW,if_neg aY,ME])
 have xV:=aeL hG [bn[(dM gE (bn.take 2)).toNat].v] gU (fun v hv=>by rw[mem_singleton] at hv;rw[hv];exact jE _ (getElem_mem O));have dS:=EE [bn[(dM gE (bn.take 2)).toNat].v];unfold KL A8 at xV;refine cN [0,2,6,8,9,11] ?_;refine aQ 2 ?_ (h:=by exact(c9 5 (h:=by first|exact .l (j:=(dM gE (bn.take 2)).toNat) w4 O|exact .r (j:=(dM gE (bn.take 2)).toNat) w4 O)));refine aQ 1 ?_ (h:=by exact(cJ (mk:=Op.load 30) rfl ot (qb isAgg30 sizeOf30 rfl (aeY O))));refine cU (xV) ?_;refine bH ?_;refine ae [0,8,9,11,13] ?_;refine jJ [0,8,9,11,13] (fun aW _ aK=>∃(b1:kR),(b1=(bif (bn[bn.length-1].k==6)||(((dM (lS key) (bn.take 2))==0)==nt) then nV (fS [bn[(dM gE (bn.take 2)).toNat].v]).1 (lo,hi) else (lo,hi)))∧(b1.1.length≤100)∧(b1.2.length≤100)∧aK=(⟨155,aW,[⟨b0,224,2,[.list 1 (b1.1.flatMap cB) b1.1.length,.list 1 (b1.2.flatMap cB) b1.2.length]⟩]⟩:St)) ?_ ?_
 ·refine aC 2 ?_;refine bS 110 (fun JT Z=>?_) (fun JT Z=>?_)
  ·refine bf [0,8,9,11,13,115] ?_;refine eC ?_;exact VO
  refine aD 3 ?_;refine OD.still gL rfl (cZ rfl ot ot (Eb underlying4)) ?_;refine aj 155 [0,8,9,11,13,115] ?_;refine aq (fun cy de=>?_) (fun cy de=>?_)
  ·exact VO
  have Ck:(lo,hi)=(bif (bn[bn.length-1].k==6)||(((dM (lS key) (bn.take 2))==0)==nt) then nV (fS [bn[(dM gE (bn.take 2)).toNat].v]).1 (lo,hi) else (lo,hi)):=(by rw[JT,cy];rfl)
  refine CD.skip ?_;refine⟨_,aM,(lo,hi),Ck,(by first|exact dS|exact eT),eu,rfl⟩
 rintro _ ⟨b1,iV,aoA,aoB,rfl⟩;refine aC 2 ?_;refine bS 129 (fun JS aeZ=>?_) (fun JS aeZ=>?_)
 ·refine bf [0,11,134] ?_;refine eC ?_;exact VG
 refine aD 3 ?_;refine OD.still gL rfl (cZ rfl ot ot (PO underlying4)) ?_;refine aj 155 [0,11,134] ?_;refine aq (fun eS fW=>?_) (fun eS fW=>?_)
 ·exact VG
 have L0:((bn[bn.length-1].k==6) || !(((dM (lS key) (bn.take 2))==0)==nt))=false:=(by rw[JS,eS];rfl)
 have sH:(fV key (f+1) ops (lo,hi))=b1:=(by rw[TT];unfold u5;rw[show((bn[bn.length-1].k==6)||((dM (lS key) (bn.take 2))==0)!=nt)=false from L0,←iV];rfl)
 refine aJ [⟨b0,_,_,_⟩] ?_;refine⟨rfl,?_⟩;first|rw[sH]|rw[aT]
theorem Tz(hG:(1,[Value.int .i64 m])∈G)(key:ByteArray):∀(f:Nat),f≤40→∀(ops:List aX) (lo hi:List UInt8),ops.length≤f→runs 0 ops=some 1→(∀o∈ops,o.v.Ok)→lo.length≤100→hi.length≤100→∀b0,VC Tryz.prog G 146 [.v (.pointer (some ⟨b0,0,none⟩)),.v (.string key),.list 5 (ops.flatMap cO) ops.length] [⟨b0,224,2,[.list 1 (lo.flatMap cB) lo.length,.list 1 (hi.flatMap cB) hi.length]⟩] (fun r S=>r = .dz []∧S=[⟨b0,224,2,[.list 1 ((fV key f ops (lo,hi)).1.flatMap cB) (fV key f ops (lo,hi)).1.length,.list 1 ((fV key f ops (lo,hi)).2.flatMap cB) (fV key f ops (lo,hi)).2.length]⟩]):=by
 intro f;induction f with
 | zero =>
  intro _ ops lo hi hl hr;have:=Ek hr;omega
 | succ f IH =>
  intro hf ops lo hi hl hr aS eT eu b0;exact abD hG key f w4 (IH w4) ops lo hi hl w4 hr aS eT eu b0
def iE(l:List cu)(ops:List aX):kR×Int :=
 if fB l≠0 then (([],[]),fB l) else if ops.length=0 then (([],[]),0) else if (ec l ops).2≠0 then (([],[]),(ec l ops).2)
 else if (ec l ops).1≠1∧(ec l ops).1≠0 then (([],[]),4) else (fV (l.getD 0 ⟨⟨#[]⟩,0⟩).n ops.length ops ([],[]),0)
def M2(r:kR×Int):D:=.dz [A8 r.1.1,A8 r.1.2,.v (.int .i64 r.2)]
theorem abE{l:List cu}(h:fB l=0):0<l.length:=by
 unfold fB at h;split at h
 ·cases h
 omega
theorem YW(h:iG ops=0):runs 0 ops=some 1:=by
  obtain⟨_,h0⟩:=v7 h;have key:∀(l:List aX) (k:Int),fD k l=0→runs k l=some 1:=by
    intro l;induction l with
    | nil => intro k h; rw[fD] at h; split at h; · rename_i e; rw[runs, e]
             · cases h
    | cons o r ih =>
      intro k h;rw[fD] at h;split at h
      · rename_i e;rw[runs,if_pos e];exact ih _ h
      rename_i e;exact absurd h e
  exact key ops 0 h0
theorem Z4(hm:(3,marksC)∈G)(hw:(2,wordsC)∈G)(ht:(0,typesC)∈G)(hG:(1,[Value.int .i64 m])∈G)(l:List cu)(hl:l.length≤6)(I:∀c∈l,c.n.size≤maxLen)(ops:List aX)(ho:∀o∈ops,o.nm.size≤maxLen)(aS:∀o∈ops,o.v.Ok):VP Tryz.prog G 121 [.list 2 (l.flatMap cC) l.length,.list 5 (ops.flatMap cO) ops.length] (M2 (iE l ops)):=by
 refine VC.body func121 rfl ntmps121 aO fun X0 w0 aZ=>?_;have dy:maxLen=9223372036854775807:=rfl;have eY:=EH hm hw ht l w4 I;have Z:=IY hm hw ht l hl I ops ho;unfold pB at Z;unfold M2 A8;refine ae [0,1] ?_;refine cL [0,1,7] (eY) ?_;refine ae [0,1,7,13] ?_;refine aq (fun az aH=>?_) (fun az aH=>?_)
 ·have h0:fB l≠0:=(by simpa using az)
  have aT:iE l ops=(([],[]),fB l):=(by unfold iE;rw[if_pos h0])
  exact z119
 have h0:¬fB l≠0:=(by simpa using az)
 have E:=abE (Classical.not_not.1 h0);refine ae [0,1,17] ?_;refine aq (fun aG aV=>?_) (fun aG aV=>?_)
 ·have h1:ops.length=0:=(by simpa using aG)
  have aT:iE l ops=(([],[]),0):=(by unfold iE;rw[if_neg h0,if_pos h1])
  exact z119
 have h1:¬ops.length=0:=(by simpa using aG)
 refine cL [0,1,6,8] (Z) ?_;refine ae [0,1,6,8,25] ?_;refine aq (fun aY bz=>?_) (fun aY bz=>?_)
 ·have h2:(ec l ops).2≠0:=(by simpa using aY)
  have aT:iE l ops=(([],[]),(ec l ops).2):=(by unfold iE;rw[if_neg h0,if_neg h1,if_pos h2])
  exact z119
 have h2:¬(ec l ops).2≠0:=(by simpa using aY)
 obtain⟨k1,k2,k3⟩:=EI (Classical.not_not.1 h2);have sR:=YW k2;obtain⟨pM,_⟩:=v7 k2;refine aC 3 ?_;refine bS 29 (fun aiA O=>?_) (fun aiA O=>?_)
 ·refine bf [0,1,32] ?_;refine aq (fun bC bY=>?_) (fun bC bY=>?_)
  ·have h3:(ec l ops).1≠1∧(ec l ops).1≠0:=(by simp_all)
   have aT:iE l ops=(([],[]),4):=(by unfold iE;rw[if_neg h0,if_neg h1,if_neg h2,if_pos h3])
   exact z119
  have h3:¬((ec l ops).1≠1∧(ec l ops).1≠0):=(by simp_all)
  have aT:iE l ops=(fV l[0].n ops.length ops ([],[]),0):=(by unfold iE;rw[if_neg h0,if_neg h1,if_neg h2,if_neg h3,getD_eq_getElem?_getD,getElem?_eq_getElem E];rfl)
  refine aC 1 ?_;refine OD.box (ds:=[_,_]) an rfl rfl ot rfl rfl (fun U=>?_);refine OD.wk (Wk.UX (k:=0) (sz:=1) (sz':=1) rfl) ?_;refine aj 50 [0,1,9] ?_;refine aC 2 ?_;refine bN (pV (mk:=Op.indexAddr 38) rfl ot bJ (by first|exact s8 runUnderlying38 sizeOf111 (j:=0) rfl E|exact tv runUnderlying38 sizeOf111 (j:=0) rfl E)) ?_;refine aD 3 ?_;refine OD.call an rfl rfl rfl call146 (Tz hG l[0].n ops.length pM ops [] [] (Nat.le_refl _) sR aS (Nat.zero_le _) (Nat.zero_le _) U) ⟨ot,ot,ot,trivial⟩ (jX (k:=0) rfl) ?_;rintro _ _ ⟨rfl,rfl⟩;refine aj 50 [9] ?_;refine ae [4,5,6] ?_;exact n8
 refine bf [0,1,32] ?_;refine fL ?_;have h3:¬((ec l ops).1≠1∧(ec l ops).1≠0):=(by simp_all)
 have aT:iE l ops=(fV l[0].n ops.length ops ([],[]),0):=(by unfold iE;rw[if_neg h0,if_neg h1,if_neg h2,if_neg h3,getD_eq_getElem?_getD,getElem?_eq_getElem E];rfl)
 refine aC 1 ?_;refine OD.box (ds:=[_,_]) an rfl rfl ot rfl rfl (fun U=>?_);refine OD.wk (Wk.UX (k:=0) (sz:=1) (sz':=1) rfl) ?_;refine aj 50 [0,1,9] ?_;refine aC 2 ?_;refine bN (pV (mk:=Op.indexAddr 38) rfl ot bJ (by first|exact s8 runUnderlying38 sizeOf111 (j:=0) rfl E|exact tv runUnderlying38 sizeOf111 (j:=0) rfl E)) ?_;refine aD 3 ?_;refine OD.call an rfl rfl rfl call146 (Tz hG l[0].n ops.length pM ops [] [] (Nat.le_refl _) sR aS (Nat.zero_le _) (Nat.zero_le _) U) ⟨ot,ot,ot,trivial⟩ (jX (k:=0) rfl) ?_;rintro _ _ ⟨rfl,rfl⟩;refine aj 50 [9] ?_;refine ae [4,5,6] ?_;exact ue

end Go.Proofs.YtbcmjoaggammcaaGreatDoor.Ex
namespace Go.Proofs.YtbcmjoaggammcaaGreatDoor.Tr
open List
open Go.Proofs.Tryz
open Go.Lib (compareBytes)
/-! ### The order of keys -/
variable {i j:Nat}
abbrev K:=List UInt8
variable {a b c k low:K}
theorem GH(a b:UInt8)(x y:K):compareBytes (a::x) (b::y)=if a<b then -1 else if b<a then 1 else compareBytes x y:=by rw[compareBytes]
theorem u8{a b:UInt8}:a<b↔a.toNat<b.toNat:=UInt8.lt_iff_toNat_lt
theorem xW:∀(x y:K),(compareBytes x y = -1∧compareBytes y x=1)∨(compareBytes x y=0∧x=y)∨(compareBytes x y=1∧compareBytes y x = -1)
 | [],[]=>.inr (.inl ⟨rfl,rfl⟩)
 | [],_::_=>.inl ⟨rfl,rfl⟩
 | _::_,[]=>.inr (.inr ⟨rfl,rfl⟩)
 | a::x,b::y=>by
  rw[GH,GH];by_cases h1:a<b
  ·have h2:¬b<a:=(by rw[u8] at h1 ⊢;omega)
   rw[if_pos h1,if_neg h2,if_pos h1];exact .inl ⟨rfl,rfl⟩
  by_cases h2:b<a
  ·rw[if_neg h1,if_pos h2,if_pos h2];exact .inr (.inr ⟨rfl,rfl⟩)
  rw[if_neg h1,if_neg h2,if_neg h2,if_neg h1];have qx:a=b:=by
   apply UInt8.toNat_inj.1;rw[u8] at h1 h2;omega
  subst qx;rcases xW x y with h|⟨h,e⟩|h
  ·exact .inl h
  ·exact .inr (.inl ⟨h,by rw[e]⟩)
  exact .inr (.inr h)
theorem T3:∀(x y z:K),compareBytes x y = -1→compareBytes y z = -1→compareBytes x z = -1
 | [],[],_,h,_=>by cases h
 | _::_,[],_,h,_=>by cases h
 | _,_::_,[],_,h=>by cases h
 | [],_::_,_::_,_,_=>rfl
 | a::x,b::y,c::z,h1,h2=>by
  rw[GH] at h1 h2 ⊢;by_cases p:a<b
  ·by_cases q:b<c
   ·rw[if_pos (by rw[u8] at p q ⊢;omega)]
   rw[if_neg q] at h2;by_cases r:c<b
   ·rw[if_pos r] at h2;cases h2
   rw[if_pos (by rw[u8] at p q r ⊢;omega)]
  rw[if_neg p] at h1;by_cases p':b<a
  ·rw[if_pos p'] at h1;cases h1
  rw[if_neg p'] at h1;by_cases q:b<c
  ·rw[if_pos (by rw[u8] at p p' q ⊢;omega)]
  rw[if_neg q] at h2;by_cases r:c<b
  ·rw[if_pos r] at h2;cases h2
  rw[if_neg r] at h2;rw[if_neg (by rw[u8] at p p' q r ⊢;omega),if_neg (by rw[u8] at p p' q r ⊢;omega)];exact T3 x y z h1 h2
def bF(a b:K):Prop:=compareBytes a b<0
instance (a b:K):Decidable (bF a b):=inferInstanceAs (Decidable (_<_))
theorem I2:bF a b↔compareBytes a b = -1:=by
 unfold bF;rcases xW a b with ⟨h,_⟩|⟨h,_⟩|⟨h,_⟩<;>rw[h]<;>decide
theorem S8:0<compareBytes a b↔bF b a:=by
 unfold bF;rcases xW a b with ⟨h,h'⟩|⟨h,rfl⟩|⟨h,h'⟩
 ·rw[h,h'];decide
 ·rw[h]
 rw[h,h'];decide
theorem JD(a:K):¬bF a []:=by
 unfold bF;cases a with
 | nil=>decide
 | cons x y=>show ¬(1:Int)<0;decide
theorem jA(a:K):¬bF a a:=fun h=>by
 rcases xW a a with ⟨h1,h2⟩|⟨h1,_⟩|⟨h1,h2⟩
 ·omega
 ·unfold bF at h;omega
 omega
theorem lU(h1:bF a b)(h2:bF b c):bF a c:=I2.2 (T3 a b c (I2.1 h1) (I2.1 h2))
theorem yK(h:bF a b):¬bF b a:=fun h'=>jA a (lU h h')
theorem yL(a b:K):bF a b∨a=b∨bF b a:=by
 unfold bF;rcases xW a b with ⟨h,_⟩|⟨_,h⟩|⟨_,h⟩
 ·exact .inl w4
 ·exact .inr (.inl h)
 exact .inr (.inr w4)
theorem tH:compareBytes a b=0↔a=b:=⟨fun h=>by
 rcases xW a b with ⟨h1,_⟩|⟨_,h1⟩|⟨h1,_⟩
 ·omega
 ·exact h1
 ·omega,fun h=>by
 subst h;rcases xW a a with ⟨h1,h2⟩|⟨h1,_⟩|⟨h1,h2⟩
 ·omega
 ·exact h1
 omega⟩
theorem NW(h1:¬bF b a)(h2:bF b c):bF a c:=by
 rcases yL a b with h|rfl|h
 ·exact lU h h2
 ·exact h2
 exact absurd h h1
theorem Yz(h1:bF a b)(h2:¬bF c b):bF a c:=by
 rcases yL b c with h|rfl|h
 ·exact lU h1 h
 ·exact h1
 exact absurd h h2
theorem T4(h1:¬bF b a)(h2:¬bF c b):¬bF c a:=fun h=>by
 rcases yL a b with h'|rfl|h'
 ·exact h2 (lU h h')
 ·exact h2 h
 exact h1 h'
theorem qE{α β:Type}{l:List α}{f g:α→List β}(h:∀a∈l,f a=g a):l.flatMap f=l.flatMap g:=by
 induction l with
 | nil=>rfl
 | cons a r ih=>rw[flatMap_cons,flatMap_cons,h a mem_cons_self,ih fun x hx=>h x (mem_cons_of_mem _ hx)]
/-! ### Pages and trees -/
structure cR where
 leaf:Bool
 keys:List K
 kids:List Int
 high:K
 next:Int
variable {p:cR}
def aiB:cR:=⟨false,[],[],[],0⟩
structure aE where
 af:List cR
 root:Int
def aE.pg(t:aE)(i:Int):cR:=t.af.getD i.toNat aiB
def pC:aE:=⟨[⟨true,[],[],[],-1⟩],0⟩
structure ez (p:cR) (many:Int):Prop where
 eK:p.keys.length≤4
 hlen:p.high.length≤100
 wK:-1≤p.next
 wv:p.next<many
 wL:p.next<0↔p.high=[]
 leaf:p.leaf=true→p.kids.length=p.keys.length
 node:p.leaf=false→p.kids.length=p.keys.length+1∧p.keys≠[]
 kW:∀k∈p.keys,1≤k.length∧k.length≤100
 qe:p.high≠[]→∀k∈p.keys,bF k p.high
 jG:p.keys.Pairwise bF
 aB:∀n∈p.kids,0≤n
 vc:p.leaf=false→∀n∈p.kids,n<many
theorem ez.more{m E:Int}(h:ez p m)(hm:m≤E):ez p E :=
 ⟨h.eK,h.hlen,h.wK,by have:=h.wv;omega,h.wL,h.leaf,h.node,h.kW,h.qe,h.jG,h.aB,fun hl n hn=>by have:=h.vc hl n hn;omega⟩
def gY(low:K)(p:cR)(j:Nat):K:=if j=0 then low else p.keys.getD (j-1) []
def gH(p:cR)(j:Nat):K:=p.keys.getD j p.high
def dQ(t:aE):Nat→Int→K→K→Prop
 | 0,i,low,high=>(0≤i∧i<t.af.length)∧(t.pg i).leaf=true∧(t.pg i).high=high∧∀k∈(t.pg i).keys,¬bF k low
 | h+1,i,low,high=>(0≤i∧i<t.af.length)∧(t.pg i).leaf=false∧(t.pg i).high=high∧(∀k∈(t.pg i).keys,¬bF k low) ∧
  ∀j (hj:j<(t.pg i).kids.length),dQ t h (t.pg i).kids[j] (gY low (t.pg i) j) (gH (t.pg i) j)
def ids(t:aE):Nat→Int→List Int
 | 0,i=>[i]
 | h+1,i=>i::(t.pg i).kids.flatMap (ids t h)
def cz(t:aE):Nat→Int→List Int
 | 0,i=>[i]
 | d+1,i=>(t.pg i).kids.flatMap (cz t d)
def eX(p:cR):List (K×Int):=p.keys.zip p.kids
def dY(t:aE):Nat→Int→List (K×Int)
 | 0,i=>eX (t.pg i)
 | h+1,i=>(t.pg i).kids.flatMap (dY t h)
def eZ(t:aE):List Int→Int→Prop
 | [],_=>True
 | [i],e=>(t.pg i).next=e
 | i::j::r,e=>(t.pg i).next=j∧eZ t (j::r) e
structure Valid (t:aE) (h:Nat):Prop where
 pos:1≤t.af.length
 mY:t.af.length≤4000
 page:∀p∈t.af,ez p t.af.length
 ok:dQ t h t.root [] []
 zq:(ids t h t.root).Nodup
 all:(ids t h t.root).length=t.af.length
 oS:∀d,d≤h→eZ t (cz t d t.root) (-1)
theorem dQ.idx{t:aE}:∀{h:Nat} {i:Int} {low high:K},dQ t h i low high→0≤i∧i<t.af.length
 | 0,_,_,_,h=>h.1
 | _+1,_,_,_,h=>h.1
theorem dQ.high{t:aE}:∀{h:Nat} {i:Int} {low high:K},dQ t h i low high→(t.pg i).high=high
 | 0,_,_,_,h=>h.2.2.1
 | _+1,_,_,_,h=>h.2.2.1
theorem u0{t:aE}{i:Int}(h:0≤i∧i<t.af.length):t.pg i=t.af[i.toNat]'w4:=by
 unfold aE.pg;rw[getD_eq_getElem?_getD,getElem?_eq_getElem w4];rfl
theorem jr{t:aE}{i:Int}(h:0≤i∧i<t.af.length):t.pg i∈t.af:=by rw[u0 h];exact getElem_mem _
theorem sU{t:aE}(h:Nat)(i:Int):i∈ids t h i:=by cases h<;>simp[ids]
theorem frame{t u:aE}:∀(h:Nat) (i:Int),(∀j∈ids t h i,u.pg j=t.pg j)→ids u h i=ids t h i∧dY u h i=dY t h i∧∀d,d≤h→cz u d i=cz t d i
 | 0,i,hp=>by
  have h0:=hp i (sU 0 i);refine⟨rfl,by unfold dY;rw[h0],fun d hd=>?_⟩;obtain rfl:d=0:=(by omega)
  rfl
 | h+1,i,hp=>by
  have h0:=hp i (sU _ i);have hs:∀j∈(t.pg i).kids,ids u h j=ids t h j∧dY u h j=dY t h j∧∀d,d≤h→cz u d j=cz t d j:=fun j hj=>frame h j fun x hx=>hp x (by
   rw[ids];exact mem_cons_of_mem _ (mem_flatMap.2 ⟨j,hj,hx⟩))
  refine⟨?_,?_,fun d hd=>?_⟩
  ·rw[ids,ids,h0];congr 1;exact qE (fun j hj=>(hs j hj).1)
  ·rw[dY,dY,h0];exact qE (fun j hj=>(hs j hj).2.1)
  cases d with
  | zero=>rfl
  | succ d=>rw[cz,cz,h0];exact qE (fun j hj=>(hs j hj).2.2 d w4)
theorem dQ.frame{t u:aE}(hl:t.af.length≤u.af.length):∀{h:Nat} {i:Int} {low high:K},dQ t h i low high→(∀j∈ids t h i,u.pg j=t.pg j)→dQ u h i low high
 | 0,i,low,high,⟨q1,q2,E,I⟩,hp=>by
  have h0:=hp i (sU 0 i);exact⟨⟨q1.1,by omega⟩,by rw[h0];exact q2,by rw[h0];exact E,by rw[h0];exact I⟩
 | h+1,i,low,high,⟨q1,q2,E,I,O⟩,hp=>by
  have h0:=hp i (sU _ i);refine⟨⟨q1.1,by omega⟩,by rw[h0];exact q2,by rw[h0];exact E,by rw[h0];exact I,?_⟩;rw[h0];exact fun j hj=>dQ.frame hl (O j hj) fun x hx=>hp x (by rw[ids];exact mem_cons_of_mem _ (mem_flatMap.2 ⟨_,getElem_mem hj,hx⟩))
theorem dQ.ids{t:aE}:∀{h:Nat} {i:Int} {low high:K},dQ t h i low high→∀j∈Tr.ids t h i,0≤j∧j<t.af.length
 | 0,i,low,high,q,j,hj=>by
  rw[Tr.ids,mem_singleton] at hj;subst hj;exact q.1
 | h+1,i,low,high,⟨q1,q2,I,O,E⟩,j,hj=>by
  rw[Tr.ids] at hj;rcases mem_cons.1 hj with rfl|hj
  ·exact q1
  obtain⟨x,hx,hj⟩:=mem_flatMap.1 hj;obtain⟨n,hn,rfl⟩:=mem_iff_getElem.1 hx;exact dQ.ids (E n hn) j hj

theorem J8{α:Type}{p:α→Bool}:∀{l:List α} {i:Nat} (h:i<(l.takeWhile p).length),∃(h':i<l.length),p l[i]=true
 | a::r,i,h=>by
  rw[takeWhile_cons] at h;by_cases ha:p a=true
  ·rw[if_pos ha] at h;cases i with
   | zero=>exact⟨by simp,ha⟩
   | succ i =>
    obtain⟨h',q⟩:=J8 (l:=r) (i:=i) oJ;exact⟨by simpa using h',by simpa using q⟩
  rw[if_neg ha] at h;simp at h
theorem JE{α:Type}{p:α→Bool}:∀{l:List α} (h:(l.takeWhile p).length<l.length),p l[(l.takeWhile p).length]=false
 | a::r,h=>by
  by_cases ha:p a=true
  ·have e:((a::r).takeWhile p).length=(r.takeWhile p).length+1:=(by rw[takeWhile_cons,if_pos ha];rfl)
   have h2:(r.takeWhile p).length<r.length:=(by rw[e] at h;simpa using h)
   have:=JE (l:=r) h2;simp only[e,getElem_cons_succ];exact this
  have e:((a::r).takeWhile p).length=0:=(by rw[takeWhile_cons,if_neg ha];rfl)
  simp only[e,getElem_cons_zero];simpa using ha
theorem T5{α:Type}(p:α→Bool)(l:List α):(l.takeWhile p).length≤l.length:=(takeWhile_sublist p).length_le
def gl(keys:List K)(k:K):Nat:=(keys.takeWhile fun x=>decide (bF x k)).length
def my(keys:List K)(k:K):Nat:=(keys.takeWhile fun x=>decide (¬bF k x)).length
def aL(p:cR)(k:K):Nat:=if p.leaf=true then gl p.keys k else my p.keys k
theorem AN{keys:List K}(h:i<gl keys k):∃(h':i<keys.length),bF keys[i] k:=by
 obtain⟨h',q⟩:=J8 h;exact⟨h',by simpa using q⟩
theorem AB{keys:List K}(h:gl keys k<keys.length):¬bF keys[gl keys k] k:=by
 exact of_decide_eq_false (JE h)
theorem yp(keys:List K)(k:K):gl keys k≤keys.length:=T5 _ _
theorem If{keys:List K}(h:i<my keys k):∃(h':i<keys.length),¬bF k keys[i]:=by
 obtain⟨h',q⟩:=J8 h;exact⟨h',by simpa using q⟩
theorem HE{keys:List K}(h:my keys k<keys.length):bF k keys[my keys k]:=by
 exact Classical.not_not.1 (of_decide_eq_false (JE h))
theorem AO(keys:List K)(k:K):my keys k≤keys.length:=T5 _ _
theorem mN{keys:List K}(h:keys.Pairwise bF)(E:i<j)(hj:j<keys.length):bF keys[i] keys[j]:=pairwise_iff_getElem.1 h i j w4 hj E
theorem EY(h:j<p.keys.length):gH p j=p.keys[j]:=by unfold gH;rw[getD_eq_getElem?_getD,getElem?_eq_getElem h];rfl
theorem I3(h:p.keys.length≤j):gH p j=p.high:=by unfold gH;rw[getD_eq_getElem?_getD,getElem?_eq_none h];rfl
theorem EK(h:0<j)(h':j-1<p.keys.length):gY low p j=p.keys[j-1]:=by unfold gY;rw[if_neg w4,getD_eq_getElem?_getD,getElem?_eq_getElem h'];rfl
def lg(low high k:K):Prop:=¬bF k low∧(high≠[]→bF k high)
theorem tr(k:K):lg [] [] k:=⟨JD k,fun h=>absurd rfl h⟩
theorem down{n:Int}(hp:ez p n)(hl:p.leaf=false){high:K}(E:p.high=high)(hk:lg low high k):aL p k<p.kids.length∧lg (gY low p (aL p k)) (gH p (aL p k)) k:=by
 have e:aL p k=my p.keys k:=(by unfold aL;rw[if_neg (by rw[hl];decide)])
 have I:=AO p.keys k;rw[e];refine⟨by rw[(hp.node hl).1];omega,?_,?_⟩
 ·rcases Nat.eq_zero_or_pos (my p.keys k) with h0|h0
  ·rw[h0];exact hk.1
  obtain⟨h',q⟩:=If (keys:=p.keys) (k:=k) (i:=my p.keys k-1) w4;rw[EK h0 h'];exact q
 intro hne;by_cases aa:my p.keys k<p.keys.length
 ·rw[EY aa];exact HE aa
 rw[I3 w4] at hne ⊢;rw[E] at hne ⊢;exact hk.2 hne
def aI(t:aE)(k:K):Nat→Int→Int
 | 0,i=>i
 | h+1,i=>aI t k h ((t.pg i).kids.getD (aL (t.pg i) k) 0)
def iS(t:aE)(k:K):Nat→Int→List Int
 | 0,i=>[i]
 | h+1,i=>i::iS t k h ((t.pg i).kids.getD (aL (t.pg i) k) 0)
theorem OV(t:aE)(k:K):∀(h:Nat) (i:Int),(iS t k h i).getLast?=some (aI t k h i)
 | 0,i=>rfl
 | h+1,i=>by
  have:=OV t k h ((t.pg i).kids.getD (aL (t.pg i) k) 0);rw[iS,aI,getLast?_cons,this];rfl
theorem vX(t:aE):∀(h:Nat) (i:Int),dY t h i=(cz t h i).flatMap fun l=>eX (t.pg l)
 | 0,i=>by simp[dY,cz]
 | h+1,i=>by
  rw[dY,cz,flatMap_assoc];exact qE fun j _=>vX t h j
theorem zip_fst{α β:Type}:∀{a:List α} {b:List β},b.length=a.length→(a.zip b).map Prod.fst=a
 | [],_,_=>by simp
 | x::a,[],h=>by simp at h
 | x::a,y::b,h=>by simp[zip_fst (a:=a) (b:=b) oJ]
theorem Qr{x:K×Int}(h:x∈eX p):x.1∈p.keys:=(of_mem_zip h).1
theorem s6(h:j<p.kids.length):p.kids.getD j 0=p.kids[j]:=by rw[getD_eq_getElem?_getD,getElem?_eq_getElem h];rfl
variable {t:aE} {n:Int}
theorem YX(hp:ez p n)(hl:p.leaf=false){high:K}(I:p.high=high)(E:∀k∈p.keys,¬bF k low)(hj:j<p.kids.length)(hk:lg (gY low p j) (gH p j) k):lg low high k:=by
 have hn:=(hp.node hl).1;refine⟨?_,fun hne=>?_⟩
 ·rcases Nat.eq_zero_or_pos j with rfl|h0
  ·exact hk.1
  rw[EK h0 w4] at hk;exact T4 (E _ (getElem_mem _)) hk.1
 by_cases aa:j<p.keys.length
 ·rw[EY aa] at hk;have hm:=getElem_mem aa;have h2:=hk.2 (by intro e;have:=(hp.kW _ hm).1;rw[e] at this;simp at this);exact lU h2 (by rw[←I];exact hp.qe (by rw[I];exact hne) _ hm)
 rw[I3 w4,I] at hk;exact hk.2 hne
theorem HF(hp:ez p n)(hl:p.leaf=false)(I:i<j)(hj:j<p.kids.length)(ha:lg (gY low p i) (gH p i) a)(hb:lg (gY low p j) (gH p j) b):bF a b:=by
 have hn:=(hp.node hl).1;have E:i<p.keys.length:=(by omega)
 rw[EY E] at ha;have h1:=ha.2 (by intro e;have:=(hp.kW _ (getElem_mem E)).1;rw[e] at this;simp at this);rw[EK w4 w4] at hb;refine Yz h1 ?_;refine T4 ?_ hb.1;rcases Nat.lt_or_ge i (j-1) with h|h
 ·exact yK (mN hp.jG h w4)
 have:j-1=i:=(by omega)
 simp only[this];exact jA _
theorem I4(hp:∀p∈t.af,ez p n):∀{h:Nat} {i:Int} {low high:K},dQ t h i low high→(dY t h i).Pairwise (fun x y=>bF x.1 y.1)∧∀x∈dY t h i,lg low high x.1
 | 0,i,low,high,ok=>by
  obtain⟨q1,q2,E,I⟩:=ok;have po:=hp _ (jr q1);rw[dY];refine⟨?_,fun x hx=>⟨I _ (Qr hx),fun hne=>by rw[←E] at hne ⊢;exact po.qe hne _ (Qr hx)⟩⟩;have h1:((eX (t.pg i)).map Prod.fst).Pairwise bF:=(by unfold eX;rw[zip_fst (po.leaf q2)];exact po.jG)
  exact pairwise_map.1 h1
 | h+1,i,low,high,ok=>by
  obtain⟨q1,q2,E,I,O⟩:=ok;have po:=hp _ (jr q1);rw[dY];have hk:∀j (hj:j<(t.pg i).kids.length),(dY t h (t.pg i).kids[j]).Pairwise (fun x y=>bF x.1 y.1)∧∀x∈dY t h (t.pg i).kids[j],lg (gY low (t.pg i) j) (gH (t.pg i) j) x.1:=fun j hj=>I4 hp (O j hj);refine⟨pairwise_flatMap.2 ⟨fun a ha=>?_,?_⟩,fun x hx=>?_⟩
  ·obtain⟨j,hj,rfl⟩:=mem_iff_getElem.1 ha;exact(hk j hj).1
  ·refine pairwise_iff_getElem.2 fun a b ha hb qx x hx y hy=>?_;exact HF po q2 qx hb ((hk a ha).2 x hx) ((hk b hb).2 y hy)
  obtain⟨c,hc,hx⟩:=mem_flatMap.1 hx;obtain⟨j,hj,rfl⟩:=mem_iff_getElem.1 hc;exact YX po q2 E I hj ((hk j hj).2 x hx)
theorem AP(hp:∀p∈t.af,ez p n){k:K}:∀{h:Nat} {i:Int} {low high:K},dQ t h i low high→lg low high k →
  ∃pre post lo hi,cz t h i=pre++aI t k h i::post∧(∀l∈pre,∀x∈eX (t.pg l),bF x.1 k)∧(∀l∈post,∀x∈eX (t.pg l),bF k x.1)∧dQ t 0 (aI t k h i) lo hi∧lg lo hi k
 | 0,i,low,high,ok,hk=>⟨[],[],low,high,rfl,(fun _ h=>by cases h),(fun _ h=>by cases h),ok,hk⟩
 | h+1,i,low,high,ok,hk=>by
  obtain⟨q1,q2,I,O,E⟩:=ok;have po:=hp _ (jr q1);obtain⟨d1,d2⟩:=down po q2 I hk;obtain⟨pre,post,lo,hi,e,h1,h2,h3,h4⟩:=AP hp (E _ d1) d2;have hm:∀j (hj:j<(t.pg i).kids.length),∀l∈cz t h (t.pg i).kids[j],∀x∈eX (t.pg l),lg (gY low (t.pg i) j) (gH (t.pg i) j) x.1:=fun j hj l hl x hx =>
   (I4 hp (E j hj)).2 x (by rw[vX];exact mem_flatMap.2 ⟨l,hl,hx⟩)
  refine⟨((t.pg i).kids.take (aL (t.pg i) k)).flatMap (cz t h)++pre,post++((t.pg i).kids.drop (aL (t.pg i) k+1)).flatMap (cz t h),lo,hi,?_,?_,?_,?_,h4⟩
  ·rw[cz];conv=>lhs;rw[←take_append_drop (aL (t.pg i) k) (t.pg i).kids]
   rw[drop_eq_getElem_cons d1,flatMap_append,flatMap_cons,e,aI,s6 d1];simp
  ·intro l hl x hx;rcases mem_append.1 hl with hl|hl
   ·obtain⟨c,hc,hl⟩:=mem_flatMap.1 hl;obtain⟨j,hj,rfl⟩:=mem_iff_getElem.1 hc;rw[length_take] at hj;rw[getElem_take] at hl;exact HF po q2 (show j<aL (t.pg i) k by omega) d1 (hm j w4 l hl x hx) d2
   exact h1 l hl x hx
  ·intro l hl x hx;rcases mem_append.1 hl with hl|hl
   ·exact h2 l hl x hx
   obtain⟨c,hc,hl⟩:=mem_flatMap.1 hl;obtain⟨j,hj,rfl⟩:=mem_iff_getElem.1 hc;rw[length_drop] at hj;rw[getElem_drop] at hl;exact HF po q2 (show aL (t.pg i) k<aL (t.pg i) k+1+j by omega) w4 d2 (hm _ w4 l hl x hx)
  rw[aI,s6 d1];exact h3
theorem Z5(hp:∀p∈t.af,ez p n){h:Nat}{i:Int}{high:K}(ok:dQ t h i low high)(hk:lg low high k) :
  ∃pre post,cz t h i=pre++aI t k h i::post∧(dY t h i).filter (fun x=>decide (¬bF x.1 k))=(eX (t.pg (aI t k h i))).drop (aL (t.pg (aI t k h i)) k)++post.flatMap fun l=>eX (t.pg l):=by
 obtain⟨pre,post,lo,hi,e,h1,h2,h3,h4⟩:=AP hp ok hk;refine⟨pre,post,e,?_⟩;have po:=hp _ (jr h3.1);rw[vX,e,flatMap_append,flatMap_cons,filter_append,filter_append];rw[filter_eq_nil_iff.2 (by
  intro x hx;obtain⟨l,hl,hx⟩:=mem_flatMap.1 hx;simpa using h1 l hl x hx),nil_append]
 congr 1
 ·have fF:=h3.2.1;rw[show aL (t.pg (aI t k h i)) k=gl (t.pg (aI t k h i)).keys k by unfold aL;rw[if_pos fF]];generalize I:t.pg (aI t k h i)=p at *;have E:=take_append_drop (gl p.keys k) (eX p);conv=>lhs;rw[←E]
  have hlen:=po.leaf fF;rw[filter_append,filter_eq_nil_iff.2 (by
   intro x hx;obtain⟨j,hj,rfl⟩:=mem_iff_getElem.1 hx;rw[length_take] at hj;obtain⟨h',q⟩:=AN (keys:=p.keys) (k:=k) (i:=j) w4;rw[getElem_take];simpa[eX] using q),nil_append,filter_eq_self.2]
  intro x hx;obtain⟨j,hj,rfl⟩:=mem_iff_getElem.1 hx;rw[length_drop] at hj;have fH:(eX p).length=p.keys.length:=(by unfold eX;rw[length_zip,hlen,Nat.min_self])
  have hd:gl p.keys k<p.keys.length:=(by omega)
  have he:=AB hd;rw[getElem_drop];have:¬bF p.keys[gl p.keys k+j] k:=by
   rcases Nat.eq_zero_or_pos j with rfl|h0
   ·exact he
   exact fun aa=>he (lU (mN po.jG w4 w4) aa)
  simpa[eX] using this
 rw[filter_eq_self.2];intro x hx;obtain⟨l,hl,hx⟩:=mem_flatMap.1 hx;simpa using yK (h2 l hl x hx)

end Go.Proofs.YtbcmjoaggammcaaGreatDoor.Tr
namespace Go.Proofs.YtbcmjoaggammcaaGreatDoor.Tr
open List
open Go.Proofs.Tryz
open Go.Lib (compareBytes)
variable {α:Type} {i n:Int} {p:cR} {up low:K} {h:Nat}
def gF(l:List α)(i:Nat)(x:α):List α:=l.take i++x::l.drop i
def aE.set(t:aE)(i:Int)(p:cR):aE:={t with af:=t.af.set i.toNat p}
variable {t:aE}
def bB(p:cR)(up:K)(aB:Int):cR :=
 {p with keys:=gF p.keys (aL p up) up,kids:=gF p.kids (if p.leaf=true then aL p up else aL p up+1) aB}
def iX(p:cR):K:=p.keys.getD 2 []
def bp(p:cR)(n:Int):cR:={leaf:=p.leaf,keys:=p.keys.take 2,kids:=p.kids.take (if p.leaf=true then 2 else 3),high:=iX p,next:=n}
def bu(p:cR):cR:={leaf:=p.leaf,keys:=p.keys.drop (if p.leaf=true then 2 else 3),kids:=p.kids.drop (if p.leaf=true then 2 else 3),high:=p.high,next:=p.next}
def qT(t:aE)(i:Int)(up:K)(aB:Int):aE×Option (K×Int) :=
 if (bB (t.pg i) up aB).keys.length≤4 then (t.set i (bB (t.pg i) up aB),none)
 else (⟨(t.af.set i.toNat (bp (bB (t.pg i) up aB) t.af.length))++[bu (bB (t.pg i) up aB)],t.root⟩,some (iX (bB (t.pg i) up aB),t.af.length))
def gm(t:aE)(k:K)(row:Int):Nat→Int→aE×Option (K×Int)
 | 0,i=>qT t i k row
 | h+1,i=>match gm t k row h ((t.pg i).kids.getD (aL (t.pg i) k) 0) with
  | (t',none)=>(t',none)
  | (t',some (up,aB))=>qT t' i up aB
def agj(r:aE×Option (K×Int)):aE:=match r with
 | (t,none)=>t
 | (t,some (up,aB))=>⟨t.af++[⟨false,[up],[t.root,aB],[],-1⟩],t.af.length⟩
theorem nN(t:aE)(i:Int)(p:cR):(t.set i p).af.length=t.af.length:=by simp[aE.set]
theorem AR(h:0≤i∧i<t.af.length)(p:cR):(t.set i p).pg i=p:=by
 unfold aE.pg aE.set;rw[getD_eq_getElem?_getD,getElem?_set_self w4];rfl
theorem vN{j:Int}(hi:0≤i)(hj:0≤j)(h:i≠j)(p:cR):(t.set i p).pg j=t.pg j:=by
 unfold aE.pg aE.set;rw[getD_eq_getElem?_getD,getD_eq_getElem?_getD,getElem?_set_ne w4]
theorem yf(l:List α){i:Nat}(h:i≤l.length)(x:α):(gF l i x).length=l.length+1:=by unfold gF;simp;omega
theorem uC{l:List α}{i:Nat}{x y:α}:y∈gF l i x↔y=x∨y∈l:=by
 unfold gF;conv=>rhs;rw[←take_append_drop i l]
 simp only[mem_append,mem_cons];constructor
 ·rintro(h|h|h)
  ·exact .inr (.inl h)
  ·exact .inl h
  exact .inr (.inr h)
 rintro(h|h|h)
 ·exact .inr (.inl h)
 ·exact .inl h
 exact .inr (.inr h)
theorem Z6{β:Type}{a:List α}{b:List β}(h:b.length=a.length){i:Nat}(hi:i≤a.length)(x:α)(y:β):(gF a i x).zip (gF b i y)=gF (a.zip b) i (x,y):=by
 unfold gF;rw[zip_append (by simp[h]),zip_cons_cons];have h1:(a.zip b).take i=(a.take i).zip (b.take i):=take_zipWith;have h2:(a.zip b).drop i=(a.drop i).zip (b.drop i):=drop_zipWith;rw[h1,h2]
theorem Ig(hp:ez p n)(hn:up∉p.keys):(∀j (hj:j<p.keys.length),j<aL p up→bF p.keys[j] up)∧(∀j (hj:j<p.keys.length),aL p up≤j→bF up p.keys[j])∧aL p up≤p.keys.length:=by
 unfold aL;split
 ·refine⟨fun j hj h=>(AN h).2,fun j hj h=>?_,yp _ _⟩;have aa:gl p.keys up<p.keys.length:=(by omega)
  have h1:=AB aa;have h2:¬bF p.keys[j] up:=by
   rcases Nat.lt_or_ge (gl p.keys up) j with h'|h'
   ·exact fun E=>h1 (lU (mN hp.jG h' hj) E)
   have:gl p.keys up=j:=(by omega)
   subst this;exact h1
  rcases yL p.keys[j] up with h|h|h
  ·exact absurd h h2
  ·exact absurd (h ▸ getElem_mem hj) hn
  exact h
 refine⟨fun j hj h=>?_,fun j hj h=>?_,AO _ _⟩
 ·have h2:=(If h).2;rcases yL p.keys[j] up with h|h|h
  ·exact h
  ·exact absurd (h ▸ getElem_mem hj) hn
  exact absurd h h2
 have aa:my p.keys up<p.keys.length:=(by omega)
 have h1:=HE aa;rcases Nat.lt_or_ge (my p.keys up) j with h'|h'
 ·exact lU h1 (mN hp.jG h' hj)
 have:my p.keys up=j:=(by omega)
 subst this;exact h1
theorem abF(hp:ez p n)(hn:up∉p.keys):(gF p.keys (aL p up) up).Pairwise bF:=by
 obtain⟨h1,h2,h3⟩:=Ig hp hn;unfold gF;have hr:=hp.jG;conv at hr=>rw[←take_append_drop (aL p up) p.keys]
 rw[pairwise_append] at hr;rw[pairwise_append,pairwise_cons];refine⟨hr.1,⟨fun y hy=>?_,hr.2.1⟩,fun x hx y hy=>?_⟩
 ·obtain⟨j,hj,rfl⟩:=mem_iff_getElem.1 hy;rw[length_drop] at hj;rw[getElem_drop];exact h2 _ w4 w4
 rcases mem_cons.1 hy with rfl|hy
 ·obtain⟨j,hj,rfl⟩:=mem_iff_getElem.1 hx;rw[length_take] at hj;rw[getElem_take];exact h1 _ w4 w4
 exact hr.2.2 x hx y hy
structure wo (p:cR) (many:Int):Prop where
 eK:p.keys.length≤5
 hlen:p.high.length≤100
 wK:-1≤p.next
 wv:p.next<many
 wL:p.next<0↔p.high=[]
 leaf:p.leaf=true→p.kids.length=p.keys.length
 node:p.leaf=false→p.kids.length=p.keys.length+1∧p.keys≠[]
 kW:∀k∈p.keys,1≤k.length∧k.length≤100
 qe:p.high≠[]→∀k∈p.keys,bF k p.high
 jG:p.keys.Pairwise bF
 aB:∀n∈p.kids,0≤n
 vc:p.leaf=false→∀n∈p.kids,n<many
theorem wo.ok(h:wo p n)(hl:p.keys.length≤4):ez p n:=⟨hl,h.hlen,h.wK,h.wv,h.wL,h.leaf,h.node,h.kW,h.qe,h.jG,h.aB,h.vc⟩
theorem Ih(hp:ez p n){aB:Int}(hn:up∉p.keys)(U:1≤up.length∧up.length≤100)(Z:p.high≠[]→bF up p.high)(hk:0≤aB)(O:p.leaf=false→aB<n):wo (bB p up aB) n:=by
 obtain⟨_,_,h3⟩:=Ig hp hn;have hf:=hp.eK;refine⟨?_,hp.hlen,hp.wK,hp.wv,hp.wL,fun hl=>?_,fun hl=>?_,fun k I=>?_,fun hne k I=>?_,abF hp hn,fun m hm=>?_,fun hl m hm=>?_⟩
 ·show(gF _ _ _).length≤5;rw[yf _ h3];omega
 ·have E:p.leaf=true:=hl;show(gF _ _ _).length=(gF _ _ _).length;rw[if_pos E,yf _ h3,yf _ (by rw[hp.leaf E];exact h3),hp.leaf E]
 ·have E:p.leaf=false:=hl;refine⟨?_,?_⟩
  ·show(gF _ _ _).length=(gF _ _ _).length+1;rw[if_neg (by rw[E];decide),yf _ h3,yf _ (by rw[(hp.node E).1];omega),(hp.node E).1]
  show gF _ _ _≠[];intro e;have:=congrArg length e;rw[yf _ h3] at this;simp at this
 ·rcases uC.1 I with rfl|h
  ·exact U
  exact hp.kW k h
 ·rcases uC.1 I with rfl|h
  ·exact Z hne
  exact hp.qe hne k h
 ·rcases uC.1 hm with rfl|h
  ·exact hk
  exact hp.aB m h
 rcases uC.1 hm with rfl|h
 ·exact O hl
 exact hp.vc hl m h
theorem yM(h:p.keys.length=5):iX p=p.keys[2]:=by unfold iX;rw[getD_eq_getElem?_getD,getElem?_eq_getElem w4];rfl
theorem TA(hp:wo p n)(h5:p.keys.length=5)(h0:0≤n):ez (bp p n) (n+1):=by
 have U:=yM h5;have I:iX p∈p.keys:=(by rw[U];exact getElem_mem _)
 refine⟨?_,(hp.kW _ I).2,by show -1≤n;omega,by show n<n+1;omega,?_,fun hl=>?_,fun hl=>?_,fun k hk=>hp.kW k (mem_of_mem_take hk),fun _ k hk=>?_,hp.jG.sublist (take_sublist _ _),fun x hx=>hp.aB x (mem_of_mem_take hx),fun hl x hx=>?_⟩
 ·show(p.keys.take 2).length≤4;rw[length_take];omega
 ·show n<0↔iX p=[];have:=(hp.kW _ I).1;exact⟨fun h=>by omega,fun h=>by rw[h] at this;simp at this⟩
 ·have E:p.leaf=true:=hl;show(p.kids.take (if p.leaf=true then 2 else 3)).length=(p.keys.take 2).length;rw[if_pos E,length_take,length_take,hp.leaf E]
 ·have E:p.leaf=false:=hl;refine⟨?_,?_⟩
  ·show(p.kids.take (if p.leaf=true then 2 else 3)).length=(p.keys.take 2).length+1;rw[if_neg (by rw[E];decide),length_take,length_take,(hp.node E).1];omega
  show p.keys.take 2≠[];intro e;have:=congrArg length e;rw[length_take,h5] at this;cases this
 ·have O:k∈p.keys.take 2:=hk;obtain⟨j,hj,rfl⟩:=mem_iff_getElem.1 O;rw[length_take] at hj;show bF (p.keys.take 2)[j] (iX p);rw[getElem_take,U];exact mN hp.jG w4 w4
 have E:p.leaf=false:=hl;have:=hp.vc E x (mem_of_mem_take hx);omega
theorem RV{m:Int}(hp:wo p n)(h5:p.keys.length=5)(hm:n≤m):ez (bu p) m:=by
 refine⟨?_,hp.hlen,hp.wK,by have:=hp.wv;show p.next<m;omega,hp.wL,fun hl=>?_,fun hl=>?_,fun k hk=>hp.kW k (mem_of_mem_drop hk),fun hne k hk=>hp.qe hne k (mem_of_mem_drop hk),hp.jG.sublist (drop_sublist _ _),fun x hx=>hp.aB x (mem_of_mem_drop hx),fun hl x hx=>?_⟩
 ·show(p.keys.drop _).length≤4;rw[length_drop];split<;>omega
 ·have E:p.leaf=true:=hl;show(p.kids.drop _).length=(p.keys.drop _).length;rw[length_drop,length_drop,hp.leaf E]
 ·have E:p.leaf=false:=hl;refine⟨?_,?_⟩
  ·show(p.kids.drop _).length=(p.keys.drop _).length+1;rw[length_drop,length_drop,(hp.node E).1,if_neg (by rw[E];decide)];omega
  show p.keys.drop _≠[];intro e;have:=congrArg length e;rw[length_drop,if_neg (by rw[E];decide)] at this;simp at this;omega
 have E:p.leaf=false:=hl;have:=hp.vc E x (mem_of_mem_drop hx);omega

def je(t:aE)(h:Nat):K→List Int→List K→K→Prop
 | low,c::cs,ks,high=>match cs,ks with
  | [],[]=>dQ t h c low high
  | _::_,k::ks=>dQ t h c low k∧je t h k cs ks high
  | _,_=>False
 | _,[],_,_=>False
theorem AS{high:K}{c:Int}:je t h low [c] [] high↔dQ t h c low high:=by rw[je]
theorem pS{high k:K}{c d:Int}{cs:List Int}{ks:List K}:je t h low (c::d::cs) (k::ks) high↔dQ t h c low k∧je t h k (d::cs) ks high:=by rw[je]
theorem Ii{t:aE}{h:Nat}{high:K}:∀{kids:List Int} {keys:List K} {low:K},kids.length=keys.length+1 →
  ((∀j (hj:j<kids.length),dQ t h kids[j] (if j=0 then low else keys.getD (j-1) []) (keys.getD j high))↔je t h low kids keys high)
 | [],keys,low,e=>by simp at e
 | [c],[],low,e=>by
  rw[AS];constructor
  ·intro q;exact q 0 bq
  intro q j hj;obtain rfl:j=0:=(by simpa using hj)
  exact q
 | [c],k::ks,low,e=>by simp at e
 | c::d::cs,[],low,e=>by simp at e
 | c::d::cs,k::ks,low,e=>by
  rw[pS,←Ii (kids:=d::cs) (keys:=ks) (low:=k) (by simpa using e)];constructor
  ·intro q;refine⟨q 0 bq,fun j hj=>?_⟩;have:=q (j+1) (by simpa using hj);rw[if_neg w4] at this;simp only[getElem_cons_succ,Nat.add_sub_cancel,getD_cons_succ] at this;cases j with
   | zero=>exact this
   | succ j=>exact this
  rintro⟨q0,q⟩ j hj;cases j with
  | zero=>exact q0
  | succ j =>
   have:=q j (by simpa using hj);rw[if_neg w4];simp only[getElem_cons_succ,Nat.add_sub_cancel,getD_cons_succ];cases j with
   | zero=>exact this
   | succ j=>exact this
theorem AZ{high:K}(hp:ez (t.pg i) n):dQ t (h+1) i low high↔(0≤i∧i<t.af.length)∧(t.pg i).leaf=false∧(t.pg i).high=high∧(∀k∈(t.pg i).keys,¬bF k low)∧je t h low (t.pg i).kids (t.pg i).keys high:=by
 constructor
 ·rintro⟨q1,q2,E,O,I⟩;refine⟨q1,q2,E,O,?_⟩;rw[←Ii (hp.node q2).1];intro j hj;have:=I j hj;unfold gY gH at this;rw[E] at this;exact this
 rintro⟨q1,q2,E,O,I⟩;refine⟨q1,q2,E,O,?_⟩;rw[←Ii (hp.node q2).1] at I;intro j hj;have:=I j hj;unfold gY gH;rw[E];exact this
theorem Qs{t u:aE}{h:Nat}{high:K}:∀{kids:List Int} {keys:List K} {low:K},je t h low kids keys high→(∀c∈kids,∀lo hi,dQ t h c lo hi→dQ u h c lo hi)→je u h low kids keys high
 | [],keys,low,q,_=>by simp[je] at q
 | [c],[],low,q,f=>by rw[AS] at q ⊢;exact f c bq _ _ q
 | [c],k::ks,low,q,f=>by simp[je] at q
 | c::d::cs,[],low,q,f=>by simp[je] at q
 | c::d::cs,k::ks,low,q,f=>by
  rw[pS] at q ⊢;exact⟨f c bq _ _ q.1,Qs q.2 fun x hx=>f x (by simp at hx ⊢;exact .inr hx)⟩
theorem Qt{t u:aE}{h:Nat}{high up:K}{aB:Int}:∀(j:Nat) {kids:List Int} {keys:List K} {low:K} (hj:j<kids.length),je t h low kids keys high →
  (∀c∈kids.eraseIdx j,∀lo hi,dQ t h c lo hi→dQ u h c lo hi) →
  (dQ u h kids[j] (if j=0 then low else keys.getD (j-1) []) up)→dQ u h aB up (keys.getD j high)→je u h low (gF kids (j+1) aB) (gF keys j up) high
 | 0,[],keys,low,hj,q,f,q1,q2=>by simp at hj
 | 0,[c],[],low,hj,q,f,q1,q2=>by
  show je u h low [c,aB] [up] high;rw[pS,AS];exact⟨q1,q2⟩
 | 0,[c],k::ks,low,hj,q,f,q1,q2=>by simp[je] at q
 | 0,c::d::cs,[],low,hj,q,f,q1,q2=>by simp[je] at q
 | 0,c::d::cs,k::ks,low,hj,q,f,q1,q2=>by
  show je u h low (c::aB::d::cs) (up::k::ks) high;rw[pS,pS];rw[pS] at q;exact⟨q1,q2,Qs q.2 fun x hx=>f x (by simpa using hx)⟩
 | j+1,[],keys,low,hj,q,f,q1,q2=>by simp at hj
 | j+1,[c],keys,low,hj,q,f,q1,q2=>by simp at hj
 | j+1,c::d::cs,[],low,hj,q,f,q1,q2=>by simp[je] at q
 | j+1,c::d::cs,k::ks,low,hj,q,f,q1,q2=>by
  rw[pS] at q;have e1:gF (c::d::cs) (j+1+1) aB=c::gF (d::cs) (j+1) aB:=rfl;have e2:gF (k::ks) (j+1) up=k::gF ks j up:=rfl;rw[e1,e2];have E:=Qt (t:=t) (u:=u) (up:=up) (aB:=aB) j (kids:=d::cs) (keys:=ks) (low:=k) (by simpa using hj) q.2 (fun x hx=>f x (by rw[eraseIdx_cons_succ];exact mem_cons_of_mem _ hx)) (by
   have:=q1;rw[if_neg w4] at this;simp only[getElem_cons_succ,Nat.add_sub_cancel] at this;cases j with
   | zero=>exact this
   | succ j=>exact this) (by simpa using q2)
  have I:gF (d::cs) (j+1) aB=d::gF cs j aB:=rfl;rw[I] at E ⊢;rw[pS];exact⟨f c (by rw[eraseIdx_cons_succ];simp) _ _ q.1,E⟩
theorem Oc{t:aE}{h:Nat}{high:K}:∀(m:Nat) {kids:List Int} {keys:List K} {low:K} (hm:m<keys.length),je t h low kids keys high→je t h low (kids.take (m+1)) (keys.take m) keys[m]∧je t h keys[m] (kids.drop (m+1)) (keys.drop (m+1)) high
 | 0,c::d::cs,k::ks,low,hm,q=>by
  rw[pS] at q;exact⟨AS.2 q.1,q.2⟩
 | m+1,c::d::cs,k::ks,low,hm,q=>by
  rw[pS] at q;obtain⟨q1,q2⟩:=Oc m (kids:=d::cs) (keys:=ks) (by simpa using hm) q.2;refine⟨?_,q2⟩;have e:(c::d::cs).take (m+1+1)=c::d::cs.take m:=rfl;rw[e];show je t h low (c::d::cs.take m) (k::ks.take m) _;rw[pS];exact⟨q.1,q1⟩
 | _,_,[],_,hm,_=>by simp at hm
 | _,[],_::_,_,_,q=>by simp[je] at q
 | _,[c],_::_,_,_,q=>by simp[je] at q
/-! ### Pages that lead to one another -/
theorem A3{t:aE}{e:Int}:∀{a b:List Int},eZ t (a++b) e↔eZ t a (b.headD e)∧eZ t b e
 | [],b=>by simp[eZ]
 | [i],[]=>by simp[eZ]
 | [i],j::b=>by simp[eZ]
 | i::j::a,b=>by
  have:=A3 (t:=t) (e:=e) (a:=j::a) (b:=b);show(t.pg i).next=j∧eZ t (j::a++b) e↔((t.pg i).next=j∧eZ t (j::a) (b.headD e))∧eZ t b e;rw[this,and_assoc]
theorem yg{t u:aE}:∀{a:List Int} {e:Int},(∀j∈a,(u.pg j).next=(t.pg j).next)→eZ t a e→eZ u a e
 | [],e,_,_=>trivial
 | [i],e,f,h=>by show(u.pg i).next=e;rw[f i bq];exact h
 | i::j::a,e,f,h=>⟨by rw[f i bq];exact h.1,yg (fun x hx=>f x (mem_cons_of_mem _ hx)) h.2⟩
theorem EZ{t:aE}{n:Int}(hp:∀p∈t.af,ez p n):∀{h:Nat} {i:Int} {low high:K},dQ t h i low high→∀d,d≤h→cz t d i≠[]
 | 0,i,low,high,ok,d,hd=>by
  obtain rfl:d=0:=(by omega)
  simp[cz]
 | h+1,i,low,high,ok,d,hd=>by
  cases d with
  | zero=>simp[cz]
  | succ d =>
   obtain⟨q1,q2,I,O,E⟩:=ok;have po:=hp _ (jr q1);have hl:=(po.node q2).1;have h0:0<(t.pg i).kids.length:=(by omega)
   have:=EZ hp (E 0 h0) d w4;rw[cz];intro e;rw[flatMap_eq_nil_iff] at e;exact this (e _ (getElem_mem h0))
theorem rL{t:aE}:∀(h:Nat) (i:Int) (d:Nat),d≤h→∀x∈cz t d i,x∈ids t h i
 | 0,i,d,hd,x,hx=>by
  obtain rfl:d=0:=(by omega)
  exact hx
 | h+1,i,0,hd,x,hx=>by
  have:x=i:=(by simpa[cz] using hx)
  subst this;exact sU _ _
 | h+1,i,d+1,hd,x,hx=>by
  rw[cz] at hx;obtain⟨c,hc,hx⟩:=mem_flatMap.1 hx;rw[ids];exact mem_cons_of_mem _ (mem_flatMap.2 ⟨c,hc,rL h c d w4 x hx⟩)
theorem D2{a b:List α}(h:a≠[])(e:α):(a++b).headD e=a.headD e:=by
 cases a with
 | nil=>exact absurd rfl h
 | cons x r=>rfl

def nB(t:aE)(h:Nat)(i:Int):Option (K×Int)→List Int
 | none=>ids t h i
 | some (_,aB)=>ids t h i++ids t h aB
def Fm(t:aE)(h:Nat)(i:Int):Option (K×Int)→List (K×Int)
 | none=>dY t h i
 | some (_,aB)=>dY t h i++dY t h aB
def sc(t:aE)(d:Nat)(i:Int):Option (K×Int)→List Int
 | none=>cz t d i
 | some (_,aB)=>cz t d i++cz t d aB
def nG(t:aE)(h:Nat)(i:Int)(low high:K):Option (K×Int)→Prop
 | none=>dQ t h i low high
 | some (up,aB)=>(1≤up.length∧up.length≤100)∧bF low up∧(high≠[]→bF up high)∧dQ t h i low up∧dQ t h aB up high
structure og (t u:aE) (h:Nat) (i:Int) (low high:K) (k:K) (row:Int) (r:Option (K×Int)):Prop where
 le:t.af.length≤u.af.length
 more:u.af.length≤t.af.length+(h+1)
 root:u.root=t.root
 page:∀p∈u.af,ez p u.af.length
 out:∀j:Int,0≤j→j<t.af.length→j∉ids t h i→u.pg j=t.pg j
 ok:nG u h i low high r
 sub:∀x∈nB u h i r,x∈ids t h i∨(t.af.length:Int)≤x
 nodup:(nB u h i r).Nodup
 Xk:(nB u h i r).length+t.af.length=(ids t h i).length+u.af.length
 dY:∀x,x∈Fm u h i r↔x=(k,row)∨x∈dY t h i
 oS:∀d,d≤h→∀e,eZ t (cz t d i) e→eZ u (sc u d i r) e∧(sc u d i r).headD e=(cz t d i).headD e
/-! ### One page set, one page added -/
def jg(t:aE)(i:Int)(a b:cR):aE:=⟨(t.af.set i.toNat a)++[b],t.root⟩
theorem oY(t:aE)(i:Int)(a b:cR):(jg t i a b).af.length=t.af.length+1:=by simp[jg]
theorem OW(h:0≤i∧i<t.af.length)(a b:cR):(jg t i a b).pg i=a:=by
 unfold aE.pg jg;rw[getD_eq_getElem?_getD,getElem?_append_left vn,getElem?_set_self w4];rfl
theorem Qu(t:aE)(i:Int)(a b:cR):(jg t i a b).pg t.af.length=b:=by
 unfold aE.pg jg;rw[getD_eq_getElem?_getD,getElem?_append_right vn,length_set];simp
theorem Od{j:Int}(hi:0≤i)(hj:0≤j∧j<t.af.length)(h:i≠j)(a b:cR):(jg t i a b).pg j=t.pg j:=by
 unfold aE.pg jg;rw[getD_eq_getElem?_getD,getD_eq_getElem?_getD,getElem?_append_left vn,getElem?_set_ne w4]
theorem HG{q:cR}(hp:∀p∈t.af,ez p n)(hq:ez q n):∀p∈(t.set i q).af,ez p n:=fun p h=>by
 rcases mem_or_eq_of_mem_set h with h|rfl
 ·exact hp p h
 exact hq
theorem Oe{a b:cR}{m:Int}(hp:∀p∈t.af,ez p n)(hm:n≤m)(ha:ez a m)(hb:ez b m):∀p∈(jg t i a b).af,ez p m:=fun p h=>by
 unfold jg at h;rcases mem_append.1 h with h|h
 ·rcases mem_or_eq_of_mem_set h with h|rfl
  ·exact(hp p h).more hm
  exact ha
 rw[mem_singleton] at h;subst h;exact hb
theorem Ij{aB:Int}(h:(bB (t.pg i) up aB).keys.length≤4):qT t i up aB=(t.set i (bB (t.pg i) up aB),none):=by unfold qT;rw[if_pos h]
theorem HH{aB:Int}(h:¬(bB (t.pg i) up aB).keys.length≤4):qT t i up aB=(jg t i (bp (bB (t.pg i) up aB) t.af.length) (bu (bB (t.pg i) up aB)),some (iX (bB (t.pg i) up aB),(t.af.length:Int))):=by unfold qT;rw[if_neg h];rfl
theorem RW{q:cR}(hr:q.keys.Pairwise bF)(h5:q.keys.length=5)(hl:∀k∈q.keys,¬bF k low):bF low (iX q)∧(∀k∈q.keys.drop 2,¬bF k (iX q)):=by
 rw[yM h5];refine⟨NW (hl _ (getElem_mem (by omega:0<q.keys.length))) (mN hr w4 w4),fun k hk=>?_⟩;obtain⟨j,hj,rfl⟩:=mem_iff_getElem.1 hk;rw[length_drop] at hj;rw[getElem_drop];rcases Nat.eq_zero_or_pos j with rfl|h0
 ·exact jA _
 exact yK (mN hr w4 w4)
/-! ### A leaf -/
theorem abG(hp:∀p∈t.af,ez p t.af.length){high:K}(ok:dQ t 0 i low high){k:K}{row:Int}(hk:lg low high k)(hn:∀x∈dY t 0 i,x.1≠k)(hl:1≤k.length∧k.length≤100)(hr:0≤row):og t (qT t i k row).1 0 i low high k row (qT t i k row).2:=by
 obtain⟨q1,q2,O,q4⟩:=ok;have po:=hp _ (jr q1);have U:k∉(t.pg i).keys:=fun hm=>by
  obtain⟨j,hj,e⟩:=mem_iff_getElem.1 hm;have hlen:=po.leaf q2;refine hn ((t.pg i).keys[j],(t.pg i).kids[j]'w4) ?_ e;show _∈eX (t.pg i);unfold eX;exact mem_iff_getElem.2 ⟨j,by rw[length_zip];omega,by rw[getElem_zip]⟩
 have hf:wo (bB (t.pg i) k row) t.af.length:=Ih po U hl (fun hne=>hk.2 (by rw[←O];exact hne) |> fun h=>by rw[O];exact h) hr (fun h=>by rw[q2] at h;cases h);have fH:=(Ig po U).2.2;have hE:eX (bB (t.pg i) k row)=gF (eX (t.pg i)) (aL (t.pg i) k) (k,row):=by
  show(gF _ _ _).zip (gF _ _ _)=_;rw[if_pos q2];exact Z6 (po.leaf q2) fH k row
 have E:∀x∈(bB (t.pg i) k row).keys,¬bF x low:=fun x hx=>by
  rcases uC.1 hx with rfl|h
  ·exact hk.1
  exact q4 x h
 by_cases h4:(bB (t.pg i) k row).keys.length≤4
 ·rw[Ij h4];have Z:=AR q1 (bB (t.pg i) k row);refine⟨by rw[nN];omega,by rw[nN];omega,rfl,by rw[nN];exact HG hp (hf.ok h4),fun j h0 hj hne=>?_,?_,fun x hx=>.inl hx,?_,by rw[nN];rfl,fun x=>?_,fun d hd e hs=>?_⟩
  ·exact vN q1.1 h0 (by intro e;subst e;simp[ids] at hne) _
  ·exact⟨by rw[nN];exact q1,by rw[Z];exact q2,by rw[Z];exact O,by rw[Z];exact E⟩
  ·show[i].Nodup;simp
  ·show x∈eX ((t.set i _).pg i)↔_;rw[Z,hE,uC];rfl
  obtain rfl:d=0:=(by omega)
  refine⟨?_,rfl⟩;show((t.set i _).pg i).next=e;rw[Z];exact hs
 have h5:(bB (t.pg i) k row).keys.length=5:=(by have:=hf.eK;omega)
 rw[HH h4];have I:(bB (t.pg i) k row).leaf=true:=q2;have ea:=OW q1 (bp (bB (t.pg i) k row) t.af.length) (bu (bB (t.pg i) k row));have eb:=Qu t i (bp (bB (t.pg i) k row) t.af.length) (bu (bB (t.pg i) k row));obtain⟨u1,u2⟩:=RW hf.jG h5 E;have CW:iX (bB (t.pg i) k row)∈(bB (t.pg i) k row).keys:=(by rw[yM h5];exact getElem_mem _)
 have gG:eX (bp (bB (t.pg i) k row) t.af.length)++eX (bu (bB (t.pg i) k row))=eX (bB (t.pg i) k row):=by
  show((bB (t.pg i) k row).keys.take 2).zip ((bB (t.pg i) k row).kids.take (if (bB (t.pg i) k row).leaf=true then 2 else 3))++((bB (t.pg i) k row).keys.drop (if (bB (t.pg i) k row).leaf=true then 2 else 3)).zip ((bB (t.pg i) k row).kids.drop (if (bB (t.pg i) k row).leaf=true then 2 else 3))=_;rw[if_pos I,←zip_append (by rw[length_take,length_take,hf.leaf I]),take_append_drop,take_append_drop];rfl
 refine⟨by rw[oY];omega,by rw[oY];omega,rfl,?_,fun j h0 hj hne=>?_,⟨hf.kW _ CW,u1,fun hne=>hf.qe (by show(t.pg i).high≠[];rw[O];exact hne) _ CW |> fun h=>by rw[←O];exact h,?_,?_⟩,fun x hx=>?_,?_,by rw[oY];show[i,(t.af.length:Int)].length+_=[i].length+_;simp;omega,fun x=>?_,fun d hd e hs=>?_⟩
 ·rw[oY];exact Oe hp w4 (TA hf h5 w4) (RV hf h5 w4)
 ·exact Od q1.1 ⟨h0,hj⟩ (by intro e;subst e;simp[ids] at hne) _ _
 ·exact⟨by rw[oY];omega,by rw[ea];exact I,by rw[ea];rfl,by rw[ea];exact fun x hx=>E x (mem_of_mem_take hx)⟩
 ·refine⟨by rw[oY];omega,by rw[eb];exact I,by rw[eb];exact O,?_⟩;rw[eb];show ∀x∈(bB (t.pg i) k row).keys.drop (if (bB (t.pg i) k row).leaf=true then 2 else 3),_;rw[if_pos I];exact u2
 ·have oK:x∈[i,(t.af.length:Int)]:=hx;simp only[mem_cons,not_mem_nil,or_false] at oK;rcases oK with rfl|rfl
  ·exact .inl (by simp[ids])
  exact .inr (Int.le_refl _)
 ·show[i,(t.af.length:Int)].Nodup;simp;omega
 ·show x∈eX ((jg t i _ _).pg i)++eX ((jg t i _ _).pg _)↔_;rw[ea,eb,gG,hE,uC];rfl
 obtain rfl:d=0:=(by omega)
 refine⟨?_,rfl⟩;show((jg t i _ _).pg i).next=_∧((jg t i _ _).pg _).next=e;rw[ea,eb];exact⟨rfl,hs⟩

end Go.Proofs.YtbcmjoaggammcaaGreatDoor.Tr

namespace Go.Proofs.YtbcmjoaggammcaaGreatDoor.Tr
open List
open Go.Proofs.Tryz
open Go.Lib (compareBytes)
variable {α:Type} {A B:List Int} {v:aE}
theorem I5{keys:List K}(hr:keys.Pairwise bF){up:K}{j:Nat}(hj:j≤keys.length)(h1:∀(h:0<j),¬bF up (keys[j-1]'w4))(h2:∀(h:j<keys.length),bF up keys[j]):my keys up=j:=by
 have E:=AO keys up;rcases Nat.lt_trichotomy (my keys up) j with h|h|h
 ·exfalso;have aa:my keys up<keys.length:=(by omega)
  have h3:=HE aa;have h4:=h1 w4;rcases Nat.lt_or_ge (my keys up) (j-1) with h5|h5
  ·exact h4 (lU h3 (mN hr h5 w4))
  have:my keys up=j-1:=(by omega)
  simp only[this] at h3;exact h4 h3
 ·exact h
 exact absurd (h2 w4) (If h).2
theorem NX{l:List α}{j:Nat}(hj:j<l.length)(x:α):gF l (j+1) x=l.take j++l[j]::x::l.drop (j+1):=by
 unfold gF;rw[take_succ_eq_append_getElem hj,append_assoc];rfl
theorem uE{l:List α}{j:Nat}(hj:j<l.length):l=l.take j++l[j]::l.drop (j+1):=by
 conv=>lhs;rw[←take_append_drop j l,drop_eq_getElem_cons hj]
theorem YA{l:List α}{j:Nat}{x:α}(h:x∈l.eraseIdx j):x∈l.take j∨x∈l.drop (j+1):=by
 rw[eraseIdx_eq_take_drop_succ] at h;exact mem_append.1 h
variable {t:aE}
theorem vO{h:Nat}{i:Int}{j:Nat}(hj:j<(t.pg i).kids.length)(hn:(ids t (h+1) i).Nodup):(ids t h (t.pg i).kids[j]).Nodup∧i∉ids t h (t.pg i).kids[j]∧(∀x∈(t.pg i).kids.take j++(t.pg i).kids.drop (j+1),(∀y∈ids t h x,y∉ids t h (t.pg i).kids[j])∧i∉ids t h x) ∧
  (((t.pg i).kids.take j).flatMap (ids t h)++((t.pg i).kids.drop (j+1)).flatMap (ids t h)).Nodup∧i∉((t.pg i).kids.take j).flatMap (ids t h)++((t.pg i).kids.drop (j+1)).flatMap (ids t h):=by
 rw[ids,nodup_cons] at hn;obtain⟨h0,hn⟩:=hn;have hs:=uE hj;rw[hs,flatMap_append,flatMap_cons] at hn h0;simp only[mem_append,not_or] at h0;rw[nodup_append] at hn;obtain⟨n1,n2,n3⟩:=hn;rw[nodup_append] at n2;obtain⟨n4,n5,n6⟩:=n2;refine⟨n4,h0.2.1,fun x hx=>?_,?_,?_⟩
 ·rcases mem_append.1 hx with hx|hx
  ·exact⟨fun y hy hc=>n3 y (mem_flatMap.2 ⟨x,hx,hy⟩) y (mem_append_left _ hc) rfl,fun hi=>h0.1 (mem_flatMap.2 ⟨x,hx,hi⟩)⟩
  exact⟨fun y hy hc=>n6 y hc y (mem_flatMap.2 ⟨x,hx,hy⟩) rfl,fun hi=>h0.2.2 (mem_flatMap.2 ⟨x,hx,hi⟩)⟩
 ·rw[nodup_append];exact⟨n1,n5,fun a ha b hb=>n3 a ha b (mem_append_right _ hb)⟩
 simp only[mem_append,not_or];exact⟨h0.1,h0.2.2⟩
theorem HI{f g:Int→List α}{c aB:Int}(hA:∀x∈A,f x=g x)(E:∀x∈B,f x=g x):(A++c::aB::B).flatMap f=A.flatMap g++(f c++f aB)++B.flatMap g:=by
 rw[flatMap_append,flatMap_cons,flatMap_cons,qE hA,qE E];simp
theorem Il{f g:Int→List α}{c:Int}(hA:∀x∈A,f x=g x)(E:∀x∈B,f x=g x):(A++c::B).flatMap f=A.flatMap g++f c++B.flatMap g:=by
 rw[flatMap_append,flatMap_cons,qE hA,qE E];simp

structure jo (t u:aE) (h:Nat) (i:Int) (low high:K) (j:Nat) (k:K) (row:Int) (r:Option (K×Int)):Prop where
 hp:∀p∈t.af,ez p t.af.length
 ok:dQ t (h+1) i low high
 nd:(ids t (h+1) i).Nodup
 hj:j<(t.pg i).kids.length
 hk:lg (gY low (t.pg i) j) (gH (t.pg i) j) k
 ins:og t u h ((t.pg i).kids.getD j 0) (gY low (t.pg i) j) (gH (t.pg i) j) k row r
section
variable {u:aE} {h:Nat} {i:Int} {low high:K} {j:Nat} {k:K} {row:Int} {r:Option (K×Int)}
theorem jo.aB(m:jo t u h i low high j k row r):(t.pg i).kids.getD j 0=(t.pg i).kids[j]'m.hj:=s6 m.hj
theorem jo.same(m:jo t u h i low high j k row r):u.pg i=t.pg i:=by
 have:=(vO m.hj m.nd).2.1;exact m.ins.out i m.ok.idx.1 m.ok.idx.2 (by rw[m.aB];exact this)
structure nP (u v:aE) (i:Int):Prop where
 le:u.af.length≤v.af.length
 pg:∀x:Int,0≤x→x<u.af.length→x≠i→v.pg x=u.pg x
theorem jo.others(m:jo t u h i low high j k row r)(ha:nP u v i):∀x∈(t.pg i).kids.take j++(t.pg i).kids.drop (j+1),∀y∈ids t h x,v.pg y=t.pg y:=fun x hx y hy=>by
 obtain⟨h1,h2⟩:=(vO m.hj m.nd).2.2.1 x hx;have I:y≠i:=fun e=>h2 (e ▸ hy);have E:0≤y∧y<t.af.length:=by
  have hm:y∈ids t (h+1) i:=by
   rw[ids];refine mem_cons_of_mem _ (mem_flatMap.2 ⟨x,?_,hy⟩);rcases mem_append.1 hx with hx|hx
   ·exact mem_of_mem_take hx
   exact mem_of_mem_drop hx
  exact m.ok.ids y hm
 have O:=m.ins.le;rw[ha.pg y E.1 w4 I,m.ins.out y E.1 E.2 (by rw[m.aB];exact h1 y hy)]
theorem jo.below(m:jo t u h i low high j k row r)(ha:nP u v i):∀y∈nB u h ((t.pg i).kids[j]'m.hj) r,0≤y→y<u.af.length→v.pg y=u.pg y:=fun y hy h0 hl=>by
 refine ha.pg y h0 hl fun e=>?_;have hs:=m.ins.sub y (by rw[m.aB];exact hy);rw[m.aB] at hs;rcases hs with hs|hs
 ·exact(vO m.hj m.nd).2.1 (e ▸ hs)
 have:=m.ok.idx;omega
theorem jo.qa(m:jo t u h i low high j k row r)(ha:nP u v i){x:Int}(hx:x∈(t.pg i).kids.take j++(t.pg i).kids.drop (j+1)):ids v h x=ids t h x∧dY v h x=dY t h x∧∀d,d≤h→cz v d x=cz t d x:=frame h x (m.others ha x hx)
theorem jo.RX(m:jo t u h i low high j k row r)(ha:nP u v i){x:Int}(hx:x∈(t.pg i).kids.take j++(t.pg i).kids.drop (j+1)){lo hi:K}(aS:dQ t h x lo hi):dQ v h x lo hi:=by
 have:=m.ins.le;have:=ha.le;exact aS.frame w4 (m.others ha x hx)
theorem jo.Qv(m:jo t u h i low high j k row r):(((t.pg i).kids.take j).flatMap (ids t h)++nB u h ((t.pg i).kids[j]'m.hj) r++((t.pg i).kids.drop (j+1)).flatMap (ids t h)).Nodup∧i∉((t.pg i).kids.take j).flatMap (ids t h)++nB u h ((t.pg i).kids[j]'m.hj) r++((t.pg i).kids.drop (j+1)).flatMap (ids t h):=by
 obtain⟨a1,a2,a3,a4,a5⟩:=vO m.hj m.nd;have hnd:=m.ins.nodup;have E:=m.ins.sub;rw[m.aB] at hnd E;have aa:∀x∈(t.pg i).kids.take j++(t.pg i).kids.drop (j+1),∀y∈ids t h x,y<t.af.length:=fun x hx y hy=>by
  refine(m.ok.ids y ?_).2;rw[ids];refine mem_cons_of_mem _ (mem_flatMap.2 ⟨x,?_,hy⟩);rcases mem_append.1 hx with hx|hx
  ·exact mem_of_mem_take hx
  exact mem_of_mem_drop hx
 have I:∀x∈(t.pg i).kids.take j++(t.pg i).kids.drop (j+1),∀y∈ids t h x,y∉nB u h ((t.pg i).kids[j]'m.hj) r:=fun x hx y hy hm=>by
  rcases E y hm with hs|hs
  ·exact(a3 x hx).1 y hy hs
  have:=aa x hx y hy;omega
 have O:i∉nB u h ((t.pg i).kids[j]'m.hj) r:=fun hm=>by
  rcases E i hm with hs|hs
  ·exact a2 hs
  have:=m.ok.idx;omega
 rw[nodup_append] at a4;obtain⟨b1,b2,b3⟩:=a4;refine⟨?_,?_⟩
 ·rw[nodup_append,nodup_append];refine⟨⟨b1,hnd,fun a ha b hb e=>?_⟩,b2,fun a ha b hb e=>?_⟩
  ·obtain⟨x,hx,ha⟩:=mem_flatMap.1 ha;subst e;exact I x (mem_append_left _ hx) a ha hb
  obtain⟨x,hx,jz⟩:=mem_flatMap.1 hb;subst e;rcases mem_append.1 ha with ha|ha
  ·exact b3 a ha a hb rfl
  exact I x (mem_append_right _ hx) a jz ha
 simp only[mem_append,not_or] at a5 ⊢;exact⟨⟨a5.1,O⟩,a5.2⟩
theorem jo.TB(m:jo t u h i low high j k row r):(((t.pg i).kids.take j).flatMap (ids t h)++nB u h ((t.pg i).kids[j]'m.hj) r++((t.pg i).kids.drop (j+1)).flatMap (ids t h)).length+1+t.af.length=(ids t (h+1) i).length+u.af.length:=by
 have hc:=m.ins.Xk;rw[m.aB] at hc;have e:(ids t (h+1) i).length=1+((((t.pg i).kids.take j).flatMap (ids t h)).length+((ids t h ((t.pg i).kids[j]'m.hj)).length+(((t.pg i).kids.drop (j+1)).flatMap (ids t h)).length)):=by
  rw[ids];conv=>lhs;rw[uE m.hj]
  rw[length_cons,flatMap_append,flatMap_cons,length_append,length_append];omega
 rw[e,length_append,length_append];omega
theorem jo.Tb(m:jo t u h i low high j k row r):∀x∈((t.pg i).kids.take j).flatMap (ids t h)++nB u h ((t.pg i).kids[j]'m.hj) r++((t.pg i).kids.drop (j+1)).flatMap (ids t h),x∈ids t (h+1) i∨(t.af.length:Int)≤x:=fun x hx=>by
 have E:=m.ins.sub;rw[m.aB] at E;have up:∀c∈(t.pg i).kids,∀y∈ids t h c,y∈ids t (h+1) i:=fun c hc y hy=>by rw[ids];exact mem_cons_of_mem _ (mem_flatMap.2 ⟨c,hc,hy⟩)
 rcases mem_append.1 hx with hx|hx
 ·rcases mem_append.1 hx with hx|hx
  ·obtain⟨c,hc,hx⟩:=mem_flatMap.1 hx;exact .inl (up c (mem_of_mem_take hc) x hx)
  rcases E x hx with hs|hs
  ·exact .inl (up _ (getElem_mem _) x hs)
  exact .inr hs
 obtain⟨c,hc,hx⟩:=mem_flatMap.1 hx;exact .inl (up c (mem_of_mem_drop hc) x hx)
theorem jo.I6(m:jo t u h i low high j k row r)(x:K×Int):x∈((t.pg i).kids.take j).flatMap (dY t h)++Fm u h ((t.pg i).kids[j]'m.hj) r++((t.pg i).kids.drop (j+1)).flatMap (dY t h)↔x=(k,row)∨x∈dY t (h+1) i:=by
 have he:=m.ins.dY x;rw[m.aB] at he;have e:dY t (h+1) i=((t.pg i).kids.take j).flatMap (dY t h)++(dY t h ((t.pg i).kids[j]'m.hj)++((t.pg i).kids.drop (j+1)).flatMap (dY t h)):=by
  rw[dY];conv=>lhs;rw[uE m.hj]
  rw[flatMap_append,flatMap_cons]
 rw[e];simp only[mem_append,he];constructor
 ·rintro((h|h|h)|h)
  ·exact .inr (.inl h)
  ·exact .inl h
  ·exact .inr (.inr (.inl h))
  exact .inr (.inr (.inr h))
 rintro(h|h|h|h)
 ·exact .inl (.inr (.inl h))
 ·exact .inl (.inl h)
 ·exact .inl (.inr (.inr h))
 exact .inr h
theorem jo.JF(m:jo t u h i low high j k row r)(ha:nP u v i){d:Nat}(hd:d≤h){e:Int}(hs:eZ t (cz t (d+1) i) e) :
  eZ v (((t.pg i).kids.take j).flatMap (cz t d)++sc u d ((t.pg i).kids[j]'m.hj) r++((t.pg i).kids.drop (j+1)).flatMap (cz t d)) e∧(((t.pg i).kids.take j).flatMap (cz t d)++sc u d ((t.pg i).kids[j]'m.hj) r++((t.pg i).kids.drop (j+1)).flatMap (cz t d)).headD e=(cz t (d+1) i).headD e:=by
 have hl:cz t (d+1) i=((t.pg i).kids.take j).flatMap (cz t d)++(cz t d ((t.pg i).kids[j]'m.hj)++((t.pg i).kids.drop (j+1)).flatMap (cz t d)):=by
  rw[cz];conv=>lhs;rw[uE m.hj]
  rw[flatMap_append,flatMap_cons]
 rw[hl] at hs ⊢;rw[A3,A3] at hs;obtain⟨s1,s2,s3⟩:=hs;obtain⟨g1,g2⟩:=m.ins.oS d hd _ (by rw[m.aB];exact s2);rw[m.aB] at g1 g2;obtain⟨_,_,_,_,O⟩:=m.ok;have hne:cz t d ((t.pg i).kids[j]'m.hj)≠[]:=EZ m.hp (O j m.hj) d hd;have fr:∀x∈(t.pg i).kids.take j++(t.pg i).kids.drop (j+1),∀y∈cz t d x,(v.pg y).next=(t.pg y).next:=fun x hx y hy=>by rw[m.others ha x hx y (rL h x d hd y hy)]
 have U:∀y∈sc u d ((t.pg i).kids[j]'m.hj) r,(v.pg y).next=(u.pg y).next:=fun y hy=>by
  have aS:=m.ins.ok;rw[m.aB] at aS;cases r with
  | none =>
   have hi:=rL h _ d hd y hy;have hb:=dQ.ids aS y hi;rw[m.below ha y hi hb.1 hb.2]
  | some q =>
   obtain⟨up,aB⟩:=q;obtain⟨_,_,_,o1,o2⟩:=aS;rcases mem_append.1 hy with hy|hy
   ·have hi:=rL h _ d hd y hy;have hb:=o1.ids y hi;rw[m.below ha y (mem_append_left _ hi) hb.1 hb.2]
   have hi:=rL h _ d hd y hy;have hb:=o2.ids y hi;rw[m.below ha y (mem_append_right _ hi) hb.1 hb.2]
 have E:sc u d ((t.pg i).kids[j]'m.hj) r≠[]:=fun e0=>by
  have aS:=m.ins.ok;rw[m.aB] at aS;cases r with
  | none=>exact EZ m.ins.page aS d hd e0
  | some q =>
   obtain⟨up,aB⟩:=q;exact EZ m.ins.page aS.2.2.2.1 d hd (append_eq_nil_iff.1 e0).1
 have I:=yg (u:=v) (fun y hy=>by obtain⟨x,hx,hy⟩:=mem_flatMap.1 hy;exact fr x (mem_append_left _ hx) y hy) s1;have Z:=yg (u:=v) (fun y hy=>by obtain⟨x,hx,hy⟩:=mem_flatMap.1 hy;exact fr x (mem_append_right _ hx) y hy) s3;have g1':=yg (u:=v) U g1;have hh:∀e':Int,(sc u d ((t.pg i).kids[j]'m.hj) r).headD e'=(cz t d ((t.pg i).kids[j]'m.hj)).headD e':=fun e'=>by
  cases h1:sc u d ((t.pg i).kids[j]'m.hj) r with
  | nil=>exact absurd h1 E
  | cons a b =>
   cases h2:cz t d ((t.pg i).kids[j]'m.hj) with
   | nil=>exact absurd h2 hne
   | cons a' b'=>rw[h1,h2] at g2;exact g2
 rw[append_assoc];refine⟨?_,?_⟩
 ·rw[A3,A3];refine⟨?_,g1',Z⟩;rw[D2 E,hh];rw[D2 hne] at I;exact I
 cases hA:((t.pg i).kids.take j).flatMap (cz t d) with
 | cons a b=>rfl
 | nil=>rw[nil_append,nil_append,D2 E,D2 hne,hh]
end
end Go.Proofs.YtbcmjoaggammcaaGreatDoor.Tr

namespace Go.Proofs.YtbcmjoaggammcaaGreatDoor.Tr
open List
open Go.Proofs.Tryz
open Go.Lib (compareBytes)
variable {t u:aE} {h:Nat} {i:Int} {low high:K} {j:Nat} {k:K} {row:Int}
theorem Z7{α:Type}{l:List α}{j E:Nat}(I:E<l.length)(hne:E≠j):l[E]∈l.take j++l.drop (j+1):=by
 rcases Nat.lt_or_ge E j with h|h
 ·exact mem_append_left _ (mem_iff_getElem.2 ⟨E,by rw[length_take];omega,by rw[getElem_take]⟩)
 refine mem_append_right _ (mem_iff_getElem.2 ⟨E-(j+1),by rw[length_drop];omega,?_⟩);rw[getElem_drop];congr 1;omega
theorem Im(m:jo t u h i low high j k row none):og t u (h+1) i low high k row none:=by
 have E:nP u u i:=⟨Nat.le_refl _,fun _ _ _ _=>rfl⟩
 have I:=m.same;have Ak:=m.ok.idx;obtain⟨q1,q2,q3,q4,q5⟩:=m.ok;have aS:dQ u h ((t.pg i).kids[j]'m.hj) (gY low (t.pg i) j) (gH (t.pg i) j):=(by have:=m.ins.ok;rw[m.aB] at this;exact this)
 have py:ids u (h+1) i=i::(((t.pg i).kids.take j).flatMap (ids t h)++nB u h ((t.pg i).kids[j]'m.hj) none++((t.pg i).kids.drop (j+1)).flatMap (ids t h)):=by
  rw[ids,I];conv=>lhs;rw[uE m.hj]
  rw[Il (fun x hx=>(m.qa E (mem_append_left _ hx)).1) (fun x hx=>(m.qa E (mem_append_right _ hx)).1)];rfl
 have O:dY u (h+1) i=((t.pg i).kids.take j).flatMap (dY t h)++Fm u h ((t.pg i).kids[j]'m.hj) none++((t.pg i).kids.drop (j+1)).flatMap (dY t h):=by
  rw[dY,I];conv=>lhs;rw[uE m.hj]
  rw[Il (fun x hx=>(m.qa E (mem_append_left _ hx)).2.1) (fun x hx=>(m.qa E (mem_append_right _ hx)).2.1)];rfl
 have U:∀d,d≤h→cz u (d+1) i=((t.pg i).kids.take j).flatMap (cz t d)++sc u d ((t.pg i).kids[j]'m.hj) none++((t.pg i).kids.drop (j+1)).flatMap (cz t d):=fun d hd=>by
  rw[cz,I];conv=>lhs;rw[uE m.hj]
  rw[Il (fun x hx=>(m.qa E (mem_append_left _ hx)).2.2 d hd) (fun x hx=>(m.qa E (mem_append_right _ hx)).2.2 d hd)];rfl
 have hle:=m.ins.le;have T6:=m.ins.more;have Z:=m.Qv;refine⟨hle,by omega,m.ins.root,m.ins.page,fun x h0 hx hne=>?_,?_,?_,?_,?_,?_,?_⟩
 ·refine m.ins.out x h0 hx fun hm=>hne ?_;rw[m.aB] at hm;rw[ids];exact mem_cons_of_mem _ (mem_flatMap.2 ⟨_,getElem_mem _,hm⟩)
 ·refine⟨⟨Ak.1,by omega⟩,by rw[I];exact q2,by rw[I];exact q3,by rw[I];exact q4,?_⟩;rw[I];intro j' iM;by_cases e:j'=j
  ·subst e;exact aS
  exact m.RX E (Z7 iM e) (q5 j' iM)
 ·intro x hx;have oK:x∈ids u (h+1) i:=hx;exact Uv
 ·show(ids u (h+1) i).Nodup;rw[py,nodup_cons];exact⟨Z.2,Z.1⟩
 ·show(ids u (h+1) i).length+_=_;rw[py,length_cons];exact m.TB
 ·intro x;show x∈dY u (h+1) i↔_;rw[O];exact m.I6 x
 intro d hd e hs;cases d with
 | zero=>exact⟨by show(u.pg i).next=e;rw[I];exact hs,rfl⟩
 | succ d =>
  show eZ u (cz u (d+1) i) e∧(cz u (d+1) i).headD e=_;rw[U d w4];exact m.JF E w4 hs
theorem jo.place{up:K}{aB:Int}(m:jo t u h i low high j k row (some (up,aB))):aL (t.pg i) up=j∧up∉(t.pg i).keys∧lg low high up∧bF low up:=by
 obtain⟨q1,q2,I,O,Z⟩:=m.ok;have po:=m.hp _ (jr q1);have hn:=(po.node q2).1;have aS:=m.ins.ok;rw[m.aB] at aS;obtain⟨o1,o2,o3,o4,o5⟩:=aS;have U:=m.hj;have eT:∀(h0:0<j),bF ((t.pg i).keys[j-1]'w4) up:=fun h0=>by rw[EK h0 w4] at o2;exact o2
 have eu:∀(hl:j<(t.pg i).keys.length),bF up (t.pg i).keys[j]:=fun hl=>by
  rw[EY hl] at o3;exact o3 (by intro e;have:=(po.kW _ (getElem_mem hl)).1;rw[e] at this;simp at this)
 have fH:aL (t.pg i) up=j:=by
  unfold aL;rw[if_neg (by rw[q2];decide)];exact I5 po.jG w4 (fun h0=>yK (eT h0)) eu
 have E:bF low up:=by
  rcases Nat.eq_zero_or_pos j with h0|h0
  ·rw[h0] at o2;exact o2
  exact NW (O _ (getElem_mem (by omega:j-1<_))) (eT h0)
 refine⟨fH,fun hm=>?_,⟨yK E,fun hne=>?_⟩,E⟩
 ·obtain⟨a,ha,e⟩:=mem_iff_getElem.1 hm;rcases Nat.lt_or_ge a j with h1|h1
  ·have h2:=eT w4;rcases Nat.lt_or_ge a (j-1) with h3|h3
   ·have:=lU (mN po.jG h3 w4) h2;rw[e] at this;exact jA _ this
   have:a=j-1:=(by omega)
   subst this;rw[e] at h2;exact jA _ h2
  have h2:=eu w4;rcases Nat.lt_or_ge j a with h3|h3
  ·have:=lU h2 (mN po.jG h3 ha);rw[e] at this;exact jA _ this
  have:a=j:=(by omega)
  subst this;rw[e] at h2;exact jA _ h2
 by_cases hl:j<(t.pg i).keys.length
 ·exact lU (eu hl) (by rw[←I];exact po.qe (by rw[I];exact hne) _ (getElem_mem hl))
 rw[I3 w4,I] at o3;exact o3 hne
theorem abH{up:K}{aB:Int}(m:jo t u h i low high j k row (some (up,aB))):og t (qT u i up aB).1 (h+1) i low high k row (qT u i up aB).2:=by
 obtain⟨p1,p2,p3,p4⟩:=m.place;have es:=m.same;have Ak:=m.ok.idx;have aS:=m.ins.ok;rw[m.aB] at aS;obtain⟨o1,o2,o3,o4,o5⟩:=aS;obtain⟨q1,q2,q3,q4,q5⟩:=m.ok;have hle:=m.ins.le;have T6:=m.ins.more;have O:0≤i∧i<u.af.length:=⟨Ak.1,by omega⟩
 have Xl:=m.hp _ (jr q1);have po:ez (t.pg i) u.af.length:=Xl.more w4;have hn:=(po.node q2).1;have lM:=m.hj;have hf:wo (bB (t.pg i) up aB) u.af.length:=Ih po p2 o1 (by rw[q3];exact p3.2) o5.idx.1 (fun _=>o5.idx.2);have I:(bB (t.pg i) up aB).kids=(t.pg i).kids.take j++((t.pg i).kids[j]'m.hj)::aB::(t.pg i).kids.drop (j+1):=by
  show gF _ (if (t.pg i).leaf=true then _ else _) aB=_;rw[if_neg (by rw[q2];decide),p1];exact NX m.hj aB
 have agk:(bB (t.pg i) up aB).keys=gF (t.pg i).keys j up:=by
  show gF _ _ _=_;rw[p1]
 have U:∀x∈(bB (t.pg i) up aB).keys,¬bF x low:=fun x hx=>by
  rcases uC.1 hx with rfl|h
  ·exact p3.1
  exact q4 x h
 have hKT:je t h low (t.pg i).kids (t.pg i).keys high:=(AZ Xl).1 m.ok |>.2.2.2.2
 -- what is below,in any tree that ane
 have below:∀{v:aE},nP u v i→(∀x,x∈ids u h ((t.pg i).kids[j]'m.hj)++ids u h aB→v.pg x=u.pg x):=fun E x hx=>by
  refine m.below E x hx ?_ ?_
  ·rcases mem_append.1 hx with hx|hx
   ·exact(o4.ids x hx).1
   exact(o5.ids x hx).1
  rcases mem_append.1 hx with hx|hx
  ·exact(o4.ids x hx).2
  exact(o5.ids x hx).2
 have M3:∀{v:aE},nP u v i→_:=fun {v} E=>frame (t:=u) (u:=v) h ((t.pg i).kids[j]'m.hj) (fun x hx=>below E x (mem_append_left _ hx));have M4:∀{v:aE},nP u v i→_:=fun {v} E=>frame (t:=u) (u:=v) h aB (fun x hx=>below E x (mem_append_right _ hx));have Xm:∀{v:aE},nP u v i→je v h low (bB (t.pg i) up aB).kids (bB (t.pg i) up aB).keys high:=fun {v} E=>by
  have e1:(bB (t.pg i) up aB).kids=gF (t.pg i).kids (j+1) aB:=(by rw[I];exact(NX m.hj aB).symm)
  rw[e1,agk];refine Qt j m.hj hKT (fun c hc lo hi aS=>m.RX E ?_ aS) ?_ ?_
  ·rcases YA hc with hc|hc
   ·exact mem_append_left _ hc
   exact mem_append_right _ hc
  ·have:=o4.frame E.le (fun x hx=>below E x (mem_append_left _ hx));unfold gY at this;exact this
  have:=o5.frame E.le (fun x hx=>below E x (mem_append_right _ hx));unfold gH at this;rw[q3] at this;exact this
 have U6:∀{v:aE},nP u v i→(bB (t.pg i) up aB).kids.flatMap (ids v h)=((t.pg i).kids.take j).flatMap (ids t h)++nB u h ((t.pg i).kids[j]'m.hj) (some (up,aB))++((t.pg i).kids.drop (j+1)).flatMap (ids t h):=fun {v} E=>by
  rw[I,HI (fun x hx=>(m.qa E (mem_append_left _ hx)).1) (fun x hx=>(m.qa E (mem_append_right _ hx)).1),(M3 E).1,(M4 E).1];rfl
 have Z:∀{v:aE},nP u v i→(bB (t.pg i) up aB).kids.flatMap (dY v h)=((t.pg i).kids.take j).flatMap (dY t h)++Fm u h ((t.pg i).kids[j]'m.hj) (some (up,aB))++((t.pg i).kids.drop (j+1)).flatMap (dY t h):=fun {v} E=>by
  rw[I,HI (fun x hx=>(m.qa E (mem_append_left _ hx)).2.1) (fun x hx=>(m.qa E (mem_append_right _ hx)).2.1),(M3 E).2.1,(M4 E).2.1];rfl
 have U7:∀{v:aE},nP u v i→∀d,d≤h→(bB (t.pg i) up aB).kids.flatMap (cz v d)=((t.pg i).kids.take j).flatMap (cz t d)++sc u d ((t.pg i).kids[j]'m.hj) (some (up,aB))++((t.pg i).kids.drop (j+1)).flatMap (cz t d):=fun {v} E d hd=>by
  rw[I,HI (fun x hx=>(m.qa E (mem_append_left _ hx)).2.2 d hd) (fun x hx=>(m.qa E (mem_append_right _ hx)).2.2 d hd),(M3 E).2.2 d hd,(M4 E).2.2 d hd];rfl
 have vB:=m.Qv;have BS:=m.TB;have U8:∀x:Int,0≤x→x<t.af.length→x∉ids t (h+1) i→u.pg x=t.pg x∧x≠i:=fun x h0 hx hne=>by
  refine⟨m.ins.out x h0 hx fun hm=>hne ?_,fun e=>hne (by rw[e];exact sU _ _)⟩;rw[m.aB] at hm;rw[ids];exact mem_cons_of_mem _ (mem_flatMap.2 ⟨_,getElem_mem _,hm⟩)
 by_cases h4:(bB (u.pg i) up aB).keys.length≤4
 ·rw[Ij h4];rw[es] at h4 ⊢;have ep:=AR O (bB (t.pg i) up aB);have E:nP u (u.set i (bB (t.pg i) up aB)) i:=⟨by rw[nN];omega,fun x h0 hx hne=>vN O.1 h0 (Ne.symm hne) _⟩
  have py:ids (u.set i (bB (t.pg i) up aB)) (h+1) i=i::(((t.pg i).kids.take j).flatMap (ids t h)++nB u h ((t.pg i).kids[j]'m.hj) (some (up,aB))++((t.pg i).kids.drop (j+1)).flatMap (ids t h)):=(by rw[ids,ep,U6 E])
  refine⟨by rw[nN];omega,by rw[nN];omega,m.ins.root,by rw[nN];exact HG m.ins.page (hf.ok h4),fun x h0 hx hne=>?_,?_,fun x hx=>?_,?_,?_,fun x=>?_,fun d hd e hs=>?_⟩
  ·obtain⟨e1,e2⟩:=U8 x h0 hx hne;rw[E.pg x h0 w4 e2,e1]
  ·show dQ _ (h+1) i low high;refine(AZ (n:=u.af.length) (by rw[ep];exact hf.ok h4)).2 ?_;rw[ep];exact⟨by rw[nN];exact O,q2,q3,U,Xm E⟩
  ·have oK:x∈ids (u.set i (bB (t.pg i) up aB)) (h+1) i:=hx;exact Uv
  ·show(ids _ (h+1) i).Nodup;rw[py,nodup_cons];exact⟨vB.2,vB.1⟩
  ·show(ids _ (h+1) i).length+_=_;rw[py,length_cons,nN];exact BS
  ·show x∈dY _ (h+1) i↔_;rw[dY,ep,Z E];exact m.I6 x
  cases d with
  | zero=>exact⟨by show((u.set i _).pg i).next=e;rw[ep];exact hs,rfl⟩
  | succ d =>
   show eZ _ (cz _ (d+1) i) e∧(cz _ (d+1) i).headD e=_;rw[cz,ep,U7 E d w4];exact m.JF E w4 hs
 have h5:(bB (t.pg i) up aB).keys.length=5:=(by rw[es] at h4;have:=hf.eK;omega)
 rw[HH h4];rw[es] at h4 ⊢;have CX:(bB (t.pg i) up aB).leaf=false:=q2;have ea:=OW O (bp (bB (t.pg i) up aB) u.af.length) (bu (bB (t.pg i) up aB));have eb:=Qu u i (bp (bB (t.pg i) up aB) u.af.length) (bu (bB (t.pg i) up aB));have E:nP u (jg u i (bp (bB (t.pg i) up aB) u.af.length) (bu (bB (t.pg i) up aB))) i:=⟨by rw[oY];omega,fun x h0 hx hne=>Od O.1 ⟨h0,hx⟩ (Ne.symm hne) _ _⟩
 obtain⟨u1,u2⟩:=RW hf.jG h5 U;have CW:iX (bB (t.pg i) up aB)∈(bB (t.pg i) up aB).keys:=(by rw[yM h5];exact getElem_mem _)
 have eT:=TA hf h5 w4;have eu:=RV (m:=u.af.length+1) hf h5 w4;have Ae:=Oc 2 w4 (Xm E);rw[←yM h5] at Ae;have GI:(bp (bB (t.pg i) up aB) u.af.length).kids=(bB (t.pg i) up aB).kids.take 3:=by
  show(bB (t.pg i) up aB).kids.take (if _ then _ else _)=_;rw[if_neg (by rw[CX];decide)]
 have GJ:(bu (bB (t.pg i) up aB)).kids=(bB (t.pg i) up aB).kids.drop 3:=by
  show(bB (t.pg i) up aB).kids.drop (if _ then _ else _)=_;rw[if_neg (by rw[CX];decide)]
 have ehy:(bu (bB (t.pg i) up aB)).keys=(bB (t.pg i) up aB).keys.drop 3:=by
  show(bB (t.pg i) up aB).keys.drop (if _ then _ else _)=_;rw[if_neg (by rw[CX];decide)]
 have parts:∀{α:Type} (f:Int→List α),((bB (t.pg i) up aB).kids.take 3).flatMap f++((bB (t.pg i) up aB).kids.drop 3).flatMap f=(bB (t.pg i) up aB).kids.flatMap f:=fun f=>by rw[←flatMap_append,take_append_drop]
 have py:nB (jg u i (bp (bB (t.pg i) up aB) u.af.length) (bu (bB (t.pg i) up aB))) (h+1) i (some (iX (bB (t.pg i) up aB),(u.af.length:Int)))=(i::((bB (t.pg i) up aB).kids.take 3).flatMap (ids (jg u i (bp (bB (t.pg i) up aB) u.af.length) (bu (bB (t.pg i) up aB))) h))++((u.af.length:Int)::((bB (t.pg i) up aB).kids.drop 3).flatMap (ids (jg u i (bp (bB (t.pg i) up aB) u.af.length) (bu (bB (t.pg i) up aB))) h)):=by
  show ids _ (h+1) i++ids _ (h+1) _=_;rw[ids,ids,ea,eb,GI,GJ]
 have pid:=(parts (ids (jg u i (bp (bB (t.pg i) up aB) u.af.length) (bu (bB (t.pg i) up aB))) h)).trans (U6 E);have aiC:∀x∈((t.pg i).kids.take j).flatMap (ids t h)++nB u h ((t.pg i).kids[j]'m.hj) (some (up,aB))++((t.pg i).kids.drop (j+1)).flatMap (ids t h),x<u.af.length:=fun x hx=>by
  rcases mem_append.1 hx with hx|hx
  ·rcases mem_append.1 hx with hx|hx
   ·obtain⟨c,hc,hx⟩:=mem_flatMap.1 hx;obtain⟨a,ha,rfl⟩:=mem_iff_getElem.1 (mem_of_mem_take hc);have:=(q5 a ha).ids x hx;omega
   rcases mem_append.1 hx with hx|hx
   ·exact(o4.ids x hx).2
   exact(o5.ids x hx).2
  obtain⟨c,hc,hx⟩:=mem_flatMap.1 hx;obtain⟨a,ha,rfl⟩:=mem_iff_getElem.1 (mem_of_mem_drop hc);have:=(q5 a ha).ids x hx;omega
 refine⟨by rw[oY];omega,by rw[oY];omega,m.ins.root,?_,fun x h0 hx hne=>?_,⟨hf.kW _ CW,u1,fun hne=>?_,?_,?_⟩,fun x hx=>?_,?_,?_,fun x=>?_,fun d hd e hs=>?_⟩
 ·rw[oY];exact Oe m.ins.page w4 eT eu
 ·obtain⟨e1,e2⟩:=U8 x h0 hx hne;rw[E.pg x h0 w4 e2,e1]
 ·have:=hf.qe (by show(t.pg i).high≠[];rw[q3];exact hne) _ CW;rw[←q3];exact this
 ·refine(AZ (n:=(u.af.length:Int)+1) (by rw[ea];exact eT)).2 ?_;rw[ea,GI];exact⟨by rw[oY];omega,CX,rfl,fun x hx=>U x (mem_of_mem_take hx),Ae.1⟩
 ·refine(AZ (n:=(u.af.length:Int)+1) (by rw[eb];exact eu)).2 ?_;rw[eb,GJ,ehy];refine⟨by rw[oY];omega,CX,q3,fun x hx=>u2 x ?_,Ae.2⟩;rw[show 3=2+1 from rfl,←drop_drop] at hx;exact mem_of_mem_drop hx
 ·rw[py] at hx;have fa:x=i∨x=(u.af.length:Int)∨x∈((bB (t.pg i) up aB).kids.take 3).flatMap (ids (jg u i (bp (bB (t.pg i) up aB) u.af.length) (bu (bB (t.pg i) up aB))) h)++((bB (t.pg i) up aB).kids.drop 3).flatMap (ids (jg u i (bp (bB (t.pg i) up aB) u.af.length) (bu (bB (t.pg i) up aB))) h):=by
   rcases mem_append.1 hx with hx|hx
   ·rcases mem_cons.1 hx with h|h
    ·exact .inl h
    exact .inr (.inr (mem_append_left _ h))
   rcases mem_cons.1 hx with h|h
   ·exact .inr (.inl h)
   exact .inr (.inr (mem_append_right _ h))
  rw[pid] at fa;rcases fa with rfl|rfl|hx
  ·exact .inl (sU _ _)
  ·exact .inr w4
  exact m.Tb x hx
 ·rw[py];have hnd:=vB.1;rw[←pid,nodup_append] at hnd;have pJ:=vB.2;rw[←pid] at pJ;simp only[mem_append,not_or] at pJ;have jQ:∀x∈((bB (t.pg i) up aB).kids.take 3).flatMap (ids (jg u i (bp (bB (t.pg i) up aB) u.af.length) (bu (bB (t.pg i) up aB))) h)++((bB (t.pg i) up aB).kids.drop 3).flatMap (ids (jg u i (bp (bB (t.pg i) up aB) u.af.length) (bu (bB (t.pg i) up aB))) h),x<u.af.length:=fun x hx=>aiC x (by rw[←pid];exact hx);rw[nodup_append,nodup_cons,nodup_cons];refine⟨⟨pJ.1,hnd.1⟩,⟨fun hm=>?_,hnd.2.1⟩,fun a ha b hb e=>?_⟩
  ·have:=jQ _ (mem_append_right _ hm);omega
  subst e;rcases mem_cons.1 ha with rfl|ha
  ·rcases mem_cons.1 hb with hb|hb
   ·omega
   exact pJ.2 hb
  rcases mem_cons.1 hb with rfl|hb
  ·have:=jQ _ (mem_append_left _ ha);omega
  exact hnd.2.2 a ha a hb rfl
 ·rw[py,oY];have:=congrArg length pid;rw[length_append] at this;rw[length_append,length_cons,length_cons];omega
 ·show x∈dY _ (h+1) i++dY _ (h+1) _↔_;rw[dY,dY,ea,eb,GI,GJ,parts,Z E];exact m.I6 x
 cases d with
 | zero =>
  refine⟨?_,rfl⟩;show((jg u i _ _).pg i).next=_∧((jg u i _ _).pg _).next=e;rw[ea,eb];exact⟨rfl,hs⟩
 | succ d =>
  show eZ _ (cz _ (d+1) i++cz _ (d+1) _) e∧(cz _ (d+1) i++cz _ (d+1) _).headD e=_;rw[cz,cz,ea,eb,GI,GJ,parts,U7 E d w4];exact m.JF E w4 hs
theorem E0:∀{h:Nat} {t:aE} (hp:∀p∈t.af,ez p t.af.length) {i:Int} {low high:K} (ok:dQ t h i low high) (nd:(ids t h i).Nodup) {k:K} {row:Int} (hk:lg low high k) (hn:∀x∈dY t h i,x.1≠k) (hl:1≤k.length∧k.length≤100) (hr:0≤row),og t (gm t k row h i).1 h i low high k row (gm t k row h i).2
 | 0,t,hp,i,low,high,ok,nd,k,row,hk,hn,hl,hr=>abG hp ok hk hn hl hr
 | h+1,t,hp,i,low,high,ok,nd,k,row,hk,hn,hl,hr=>by
  obtain⟨q1,q2,O,Z,U⟩:=id ok;have po:=hp _ (jr q1);obtain⟨d1,d2⟩:=down po q2 O hk;have E:=(vO d1 nd).1;have I:=E0 (h:=h) hp (U _ d1) E d2 (fun x hx=>hn x LO) hl hr;rw[←s6 d1] at I;rw[gm];generalize gm t k row h ((t.pg i).kids.getD (aL (t.pg i) k) 0)=R at I;obtain⟨u,r⟩:=R;have m:jo t u h i low high (aL (t.pg i) k) k row r:=⟨hp,ok,nd,d1,d2,I⟩
  cases r with
  | none=>exact Im m
  | some q=>obtain⟨up,aB⟩:=q;exact abH m

end Go.Proofs.YtbcmjoaggammcaaGreatDoor.Tr
namespace Go.Proofs.YtbcmjoaggammcaaGreatDoor.Tr
open List
open Go.Proofs.Tryz
open Go.Lib (compareBytes)
variable {t:aE} {h:Nat} {k:K} {row:Int}
variable {p:cR}
def kI(t:aE)(h:Nat):List (K×Int):=dY t h t.root
def gz(t:aE)(h:Nat)(k:K)(row:Int):aE:=agj (gm t k row h t.root)
def iP(u:aE)(up:K)(aB:Int):aE:=⟨u.af++[⟨false,[up],[u.root,aB],[],-1⟩],u.af.length⟩
theorem s7(u:aE)(up:K)(aB:Int):(iP u up aB).af.length=u.af.length+1:=by simp[iP]
theorem abI(u:aE)(up:K)(aB:Int):(iP u up aB).pg u.af.length=⟨false,[up],[u.root,aB],[],-1⟩:=by
 unfold aE.pg iP;rw[getD_eq_getElem?_getD,getElem?_append_right w4];simp
theorem abJ{u:aE}{x:Int}(hx:0≤x∧x<u.af.length)(up:K)(aB:Int):(iP u up aB).pg x=u.pg x:=by
 unfold aE.pg iP;rw[getD_eq_getElem?_getD,getD_eq_getElem?_getD,getElem?_append_left w4]
theorem Valid.range(v:Valid t h):0≤t.root∧t.root<t.af.length:=v.ok.idx
theorem Qw(hp:∀p∈t.af,ez p t.af.length):∀{h:Nat} {i:Int} {low high:K},dQ t h i low high→h+1≤(ids t h i).length
 | 0,_,_,_,_=>by simp[ids]
 | h+1,i,low,high,⟨q1,q2,I,O,E⟩=>by
  have po:=hp _ (jr q1);have hn:=(po.node q2).1;have h0:0<(t.pg i).kids.length:=(by omega)
  have:=Qw hp (E 0 h0);rw[ids,length_cons,uE h0,flatMap_append,flatMap_cons,length_append,length_append];omega
theorem Valid.high(v:Valid t h):h<t.af.length:=by
 have:=Qw v.page v.ok;rw[v.all] at this;omega
theorem Z8(v:Valid t h)(hn:∀x∈kI t h,x.1≠k)(hl:1≤k.length∧k.length≤100)(hr:0≤row)(hm:t.af.length+(h+2)≤4000) :
  ∃h',(h≤h'∧h'≤h+1)∧Valid (gz t h k row) h'∧(t.af.length≤(gz t h k row).af.length∧(gz t h k row).af.length≤t.af.length+(h+2))∧∀x,x∈kI (gz t h k row) h'↔x=(k,row)∨x∈kI t h:=by
 have I:=E0 v.page v.ok v.zq (tr k) hn hl hr;unfold gz;generalize gm t k row h t.root=R at I;obtain⟨u,r⟩:=R;have hle:t.af.length≤u.af.length:=I.le;have T6:u.af.length≤t.af.length+(h+1):=I.more;have O:(nB u h t.root r).length+t.af.length=(ids t h t.root).length+u.af.length:=I.Xk;rw[v.all] at O;have aoC:=v.pos;have E:u.root=t.root:=I.root;cases r with
 | none =>
  refine⟨h,⟨Nat.le_refl _,by omega⟩,⟨by show 1≤u.af.length;omega,by show u.af.length≤4000;omega,I.page,?_,?_,?_,fun d hd=>?_⟩,⟨hle,by show u.af.length≤_;omega⟩,fun x=>?_⟩
  ·show dQ u h u.root [] [];rw[E];exact I.ok
  ·show(ids u h u.root).Nodup;rw[E];exact I.nodup
  ·show(ids u h u.root).length=u.af.length;rw[E];have:(ids u h t.root).length+t.af.length=t.af.length+u.af.length:=O;omega
  ·show eZ u (cz u d u.root) (-1);rw[E];exact(I.oS d hd (-1) (v.oS d hd)).1
  show x∈dY u h u.root↔_;rw[E];exact I.dY x
 | some q =>
  obtain⟨up,aB⟩:=q;obtain⟨o1,o2,o3,o4,o5⟩:(1≤up.length∧up.length≤100)∧bF [] up∧(([]:K)≠[]→bF up [])∧dQ u h t.root [] up∧dQ u h aB up []:=I.ok;have ho:∀x∈ids u h t.root++ids u h aB,(iP u up aB).pg x=u.pg x:=fun x hx=>by
   refine abJ ?_ up aB;rcases mem_append.1 hx with hx|hx
   ·exact o4.ids x hx
   exact o5.ids x hx
  have f1:=frame (t:=u) (u:=iP u up aB) h t.root (fun x hx=>ho x (mem_append_left _ hx));have f2:=frame (t:=u) (u:=iP u up aB) h aB (fun x hx=>ho x (mem_append_right _ hx));have g1:dQ (iP u up aB) h t.root [] up:=o4.frame (by rw[s7];omega) (fun x hx=>ho x (mem_append_left _ hx));have g2:dQ (iP u up aB) h aB up []:=o5.frame (by rw[s7];omega) (fun x hx=>ho x (mem_append_right _ hx));have U:=abI u up aB;rw[E] at U;have hnd:=I.nodup;have py:ids (iP u up aB) (h+1) u.af.length=(u.af.length:Int)::(ids u h t.root++ids u h aB):=by
   rw[ids,U];show _::([t.root,aB].flatMap (ids (iP u up aB) h))=_;rw[flatMap_cons,flatMap_cons,flatMap_nil,append_nil,f1.1,f2.1]
  have Z:ez (⟨false,[up],[t.root,aB],[],-1⟩:cR) (u.af.length+1:Nat):=by
   have i1:=o4.idx;have i2:=o5.idx;refine⟨by simp,by simp,by simp,by simp;omega,by simp,(fun h=>by cases h),fun _=>⟨rfl,by simp⟩,fun x hx=>?_,fun h=>absurd rfl h,by simp,fun x hx=>?_,fun _ x hx=>?_⟩
   ·have:x=up:=(by simpa using hx)
    subst this;exact o1
   ·have:x=t.root∨x=aB:=(by simpa using hx)
    rcases this with rfl|rfl
    ·exact i1.1
    exact i2.1
   have:x=t.root∨x=aB:=(by simpa using hx)
   rcases this with rfl|rfl<;>omega
  refine⟨h+1,⟨by omega,by omega⟩,⟨?_,?_,?_,?_,?_,?_,fun d hd=>?_⟩,⟨?_,?_⟩,fun x=>?_⟩
  ·show 1≤(iP u up aB).af.length;rw[s7];omega
  ·show(iP u up aB).af.length≤4000;rw[s7];omega
  ·show ∀p∈(iP u up aB).af,ez p (iP u up aB).af.length;rw[s7];intro p hp;rcases mem_append.1 hp with hp|hp
   ·have zU:ez p u.af.length:=I.page p hp;exact zU.more w4
   rw[mem_singleton] at hp;subst hp;rw[E];exact Z
  ·show dQ (iP u up aB) (h+1) u.af.length [] [];refine(AZ (n:=(u.af.length+1:Nat)) (by rw[U];exact Z)).2 ?_;rw[U];refine⟨by rw[s7];omega,rfl,rfl,fun x _=>JD x,?_⟩;rw[pS,AS];exact⟨g1,g2⟩
  ·show(ids (iP u up aB) (h+1) u.af.length).Nodup;rw[py,nodup_cons];refine⟨fun hm=>?_,hnd⟩;rcases mem_append.1 hm with hm|hm
   ·have:=o4.ids _ hm;omega
   have:=o5.ids _ hm;omega
  ·show(ids (iP u up aB) (h+1) u.af.length).length=(iP u up aB).af.length;rw[py,s7,length_cons];have:(ids u h t.root++ids u h aB).length+t.af.length=t.af.length+u.af.length:=O;omega
  ·show eZ (iP u up aB) (cz (iP u up aB) d u.af.length) (-1);cases d with
   | zero=>show((iP u up aB).pg u.af.length).next = -1;rw[U]
   | succ d =>
    rw[cz,U];show eZ _ ([t.root,aB].flatMap (cz (iP u up aB) d)) (-1);rw[flatMap_cons,flatMap_cons,flatMap_nil,append_nil,f1.2.2 d w4,f2.2.2 d w4];refine yg (fun x hx=>?_) (I.oS d w4 (-1) (v.oS d w4)).1;have oK:x∈cz u d t.root++cz u d aB:=hx;rw[ho x ?_];rcases mem_append.1 oK with oK|oK
    ·exact mem_append_left _ (rL h _ d w4 x oK)
    exact mem_append_right _ (rL h _ d w4 x oK)
  ·show t.af.length≤(iP u up aB).af.length;rw[s7];omega
  ·show(iP u up aB).af.length≤_;rw[s7];omega
  show x∈dY (iP u up aB) (h+1) u.af.length↔_;rw[dY,U];show x∈[t.root,aB].flatMap (dY (iP u up aB) h)↔_;rw[flatMap_cons,flatMap_cons,flatMap_nil,append_nil,f1.2.1,f2.2.1];exact I.dY x
theorem OX:Valid pC 0:=by
 refine⟨by decide,by decide,fun p hp=>?_,⟨by decide,rfl,rfl,fun k hk=>by cases hk⟩,by simp[ids],rfl,fun d hd=>?_⟩
 ·have:p=⟨true,[],[],[],-1⟩:=(by simpa[pC] using hp)
  subst this;exact⟨by simp,by simp,by simp,by simp[pC],by simp,fun _=>rfl,(fun h=>by cases h),(fun k hk=>by cases hk),(fun h=>absurd rfl h),by simp,(fun n hn=>by cases hn),(fun h=>by cases h)⟩
 obtain rfl:d=0:=(by omega)
 rfl
theorem abK:kI pC 0=[]:=rfl
/-! ### Found -/
theorem El(hl:p.kids.length=p.keys.length){a:Nat}(ha:a<p.keys.length):(eX p)[a]'(by unfold eX;rw[length_zip];omega)=(p.keys[a],p.kids[a]'w4):=by unfold eX;rw[getElem_zip]
theorem AE(hl:p.kids.length=p.keys.length){x:K×Int}:x∈eX p↔∃a,∃(ha:a<p.keys.length),x=(p.keys[a],p.kids[a]'w4):=by
 constructor
 ·intro h;obtain⟨a,ha,e⟩:=mem_iff_getElem.1 h;have E:a<p.keys.length:=(by unfold eX at ha;rw[length_zip] at ha;omega)
  exact⟨a,E,by rw[←e,El hl E]⟩
 rintro⟨a,ha,rfl⟩;exact mem_iff_getElem.2 ⟨a,by unfold eX;rw[length_zip];omega,El hl ha⟩
def Bb(t:aE)(k:K)(h:Nat):Prop:=∃(ha:aL (t.pg (aI t k h t.root)) k<(t.pg (aI t k h t.root)).keys.length),(t.pg (aI t k h t.root)).keys[aL (t.pg (aI t k h t.root)) k]=k
theorem Valid.leaf(v:Valid t h)(k:K):(0≤aI t k h t.root∧aI t k h t.root<t.af.length)∧(t.pg (aI t k h t.root)).leaf=true:=by
 obtain⟨_,_,_,_,_,_,_,h3,_⟩:=AP v.page v.ok (tr k);exact⟨h3.1,h3.2.1⟩
theorem found(v:Valid t h)(k:K)(row:Int):(k,row)∈kI t h↔∃(ha:aL (t.pg (aI t k h t.root)) k<(t.pg (aI t k h t.root)).keys.length),(t.pg (aI t k h t.root)).keys[aL (t.pg (aI t k h t.root)) k]=k∧(t.pg (aI t k h t.root)).kids.getD (aL (t.pg (aI t k h t.root)) k) 0=row:=by
 obtain⟨pre,post,lo,hi,e,h1,h2,h3,h4⟩:=AP v.page v.ok (tr k);have po:=v.page _ (jr h3.1);have fF:=h3.2.1;have hlen:=po.leaf fF;unfold kI;rw[vX,e,flatMap_append,flatMap_cons];generalize I:t.pg (aI t k h t.root)=p at *;have fH:aL p k=gl p.keys k:=(by unfold aL;rw[if_pos fF])
 rw[fH];simp only[mem_append];constructor
 ·rintro(hx|hx|hx)
  ·obtain⟨l,hl,hx⟩:=mem_flatMap.1 hx;exact absurd (h1 l hl _ hx) (jA k)
  ·obtain⟨a,ha,e2⟩:=(AE hlen).1 hx;injection e2 with E O
   have:gl p.keys k=a:=by
    rcases Nat.lt_trichotomy (gl p.keys k) a with h5|h5|h5
    ·exfalso;have:=AB (keys:=p.keys) (k:=k) w4;have h6:=mN po.jG h5 ha;rw[←E] at h6;exact this h6
    ·exact h5
    have:=(AN h5).2;rw[←E] at this;exact absurd this (jA k)
   subst this;exact⟨ha,E.symm,by rw[getD_eq_getElem?_getD,getElem?_eq_getElem w4];exact O.symm⟩
  obtain⟨l,hl,hx⟩:=mem_flatMap.1 hx;exact absurd (h2 l hl _ hx) (jA k)
 rintro⟨ha,e1,e2⟩;refine .inr (.inl ((AE hlen).2 ⟨_,ha,?_⟩));rw[getD_eq_getElem?_getD,getElem?_eq_getElem w4] at e2;rw[e1];congr 1;exact e2.symm
theorem AF(v:Valid t h)(k:K):Bb t k h↔∃row,(k,row)∈kI t h:=by
 constructor
 ·rintro⟨ha,e⟩;exact⟨_,(found v k _).2 ⟨ha,e,rfl⟩⟩
 rintro⟨row,hr⟩;obtain⟨ha,e,_⟩:=(found v k row).1 hr;exact⟨ha,e⟩
/-! ### Taken out -/
def ke(p:cR)(a:Nat):cR:={p with keys:=p.keys.eraseIdx a,kids:=p.kids.eraseIdx a}
def gA(t:aE)(h:Nat)(k:K):aE:=t.set (aI t k h t.root) (ke (t.pg (aI t k h t.root)) (aL (t.pg (aI t k h t.root)) k))
theorem ae0{n:Int}(hp:ez p n)(hl:p.leaf=true){a:Nat}(ha:a<p.keys.length):ez (ke p a) n:=by
 have hlen:=hp.leaf hl;refine⟨?_,hp.hlen,hp.wK,hp.wv,hp.wL,fun _=>?_,fun h=>?_,fun k hk=>hp.kW k ((eraseIdx_sublist _ _).subset hk),fun hne k hk=>hp.qe hne k ((eraseIdx_sublist _ _).subset hk),hp.jG.sublist (eraseIdx_sublist _ _),fun x hx=>hp.aB x ((eraseIdx_sublist _ _).subset hx),fun h=>?_⟩
 ·show(p.keys.eraseIdx a).length≤4;rw[length_eraseIdx_of_lt ha];have:=hp.eK;omega
 ·show(p.kids.eraseIdx a).length=(p.keys.eraseIdx a).length;rw[length_eraseIdx_of_lt ha,length_eraseIdx_of_lt w4,hlen]
 ·have:p.leaf=false:=h;rw[hl] at this;cases this
 have:p.leaf=false:=h;rw[hl] at this;cases this
theorem OY{α β:Type}:∀{a:List α} {b:List β} {n:Nat},(a.eraseIdx n).zip (b.eraseIdx n)=(a.zip b).eraseIdx n
 | [],_,n=>by simp
 | _::_,[],n=>by cases n<;>simp
 | x::a,y::b,0=>by simp
 | x::a,y::b,n+1=>by simp[OY (a:=a) (b:=b) (n:=n)]
theorem Qx{q:cR}{l:Int}(hq:q.leaf=true)(hh:q.high=(t.pg l).high)(hx:q.next=(t.pg l).next)(hl:0≤l∧l<t.af.length)(fF:(t.pg l).leaf=true)(E:∀k∈q.keys,k∈(t.pg l).keys):∀{h:Nat} {i:Int} {low high:K},dQ t h i low high →
  dQ (t.set l q) h i low high∧ids (t.set l q) h i=ids t h i∧∀d,d≤h→cz (t.set l q) d i=cz t d i
 | 0,i,low,high,⟨q1,q2,I,O⟩=>by
  refine⟨?_,rfl,fun d hd=>by cases Nat.le_zero.1 hd;rfl⟩;by_cases e:l=i
  ·subst e;rw[dQ,AR hl,nN];exact⟨q1,hq,by rw[hh];exact I,fun k hk=>O k (E k hk)⟩
  rw[dQ,vN hl.1 q1.1 e,nN];exact⟨q1,q2,I,O⟩
 | h+1,i,low,high,⟨q1,q2,I,O,q5⟩=>by
  have e:l≠i:=fun e=>by rw[e,q2] at fF;cases fF
  have U:=vN (t:=t) hl.1 q1.1 e q;have Z:=fun j (hj:j<(t.pg i).kids.length)=>Qx hq hh hx hl fF E (q5 j hj);refine⟨?_,?_,fun d hd=>?_⟩
  ·rw[dQ,U,nN];exact⟨q1,q2,I,O,fun j hj=>(Z j hj).1⟩
  ·rw[ids,ids,U];congr 1;refine qE fun c hc=>?_;obtain⟨j,hj,rfl⟩:=mem_iff_getElem.1 hc;exact(Z j hj).2.1
  cases d with
  | zero=>rfl
  | succ d =>
   rw[cz,cz,U];refine qE fun c hc=>?_;obtain⟨j,hj,rfl⟩:=mem_iff_getElem.1 hc;exact(Z j hj).2.2 d w4
theorem Z9(v:Valid t h)(ht:Bb t k h):Valid (gA t h k) h∧(gA t h k).af.length=t.af.length∧∀x,x∈kI (gA t h k) h↔x∈kI t h∧x.1≠k:=by
 obtain⟨ha,hk⟩:=ht;obtain⟨hl,fF⟩:=v.leaf k;have po:=v.page _ (jr hl);have hq:=ae0 po fF ha;have hlen:=po.leaf fF;have S:=fun {i:Int} {low high:K} (ok:dQ t h i low high)=>Qx (t:=t) (q:=ke (t.pg (aI t k h t.root)) (aL (t.pg (aI t k h t.root)) k)) (l:=aI t k h t.root) fF rfl rfl hl fF (fun k hk=>(eraseIdx_sublist _ _).subset hk) ok;obtain⟨s1,s2,s3⟩:=S v.ok;have E:(gA t h k).af.length=t.af.length:=nN _ _ _;refine⟨⟨by rw[E];exact v.pos,by rw[E];exact v.mY,?_,s1,?_,?_,fun d hd=>?_⟩,E,fun x=>?_⟩
 ·rw[E];exact HG v.page hq
 ·show(ids (gA t h k) h t.root).Nodup;unfold gA;rw[s2];exact v.zq
 ·show(ids (gA t h k) h t.root).length=_;rw[E];unfold gA;rw[s2];exact v.all
 ·show eZ (gA t h k) (cz (gA t h k) d t.root) (-1);unfold gA;rw[s3 d hd];refine yg (fun y hy=>?_) (v.oS d hd);have I:=v.ok.ids y (rL h _ d hd y hy);by_cases e:aI t k h t.root=y
  ·rw[←e,AR hl];rfl
  rw[vN hl.1 I.1 e]
 obtain⟨pre,post,lo,hi,e,h1,h2,h3,h4⟩:=AP v.page v.ok (tr k);have hlv:(cz t h t.root).Nodup→aI t k h t.root∉pre∧aI t k h t.root∉post:=fun hn=>by
  rw[e,nodup_append,nodup_cons] at hn;exact⟨fun hm=>hn.2.2 _ hm _ (mem_cons_self) rfl,hn.2.1.1⟩
 have eT:∀y∈pre,eX ((gA t h k).pg y)=eX (t.pg y)∨y=aI t k h t.root:=fun y hy=>by
  by_cases e':aI t k h t.root=y
  ·exact .inr e'.symm
  left;have I:=v.ok.ids y (rL h _ h (Nat.le_refl _) y (by rw[e];exact mem_append_left _ hy));unfold gA;rw[vN hl.1 I.1 e']
 have ri:∀y∈post,eX ((gA t h k).pg y)=eX (t.pg y)∨y=aI t k h t.root:=fun y hy=>by
  by_cases e':aI t k h t.root=y
  ·exact .inr e'.symm
  left;have I:=v.ok.ids y (rL h _ h (Nat.le_refl _) y (by rw[e];exact mem_append_right _ (mem_cons_of_mem _ hy)));unfold gA;rw[vN hl.1 I.1 e']
 have Z:(k,(t.pg (aI t k h t.root)).kids.getD (aL (t.pg (aI t k h t.root)) k) 0)∈eX (t.pg (aI t k h t.root)):=(AE hlen).2 ⟨_,ha,by rw[hk,getD_eq_getElem?_getD,getElem?_eq_getElem w4];rfl⟩;have aiD:aI t k h t.root∉pre:=fun hm=>absurd (h1 _ hm _ Z) (jA k);have agl:aI t k h t.root∉post:=fun hm=>absurd (h2 _ hm _ Z) (jA k);have ed:eX ((gA t h k).pg (aI t k h t.root))=(eX (t.pg (aI t k h t.root))).eraseIdx (aL (t.pg (aI t k h t.root)) k):=by
  unfold gA;rw[AR hl];exact OY
 have fe:∀{A:List Int},(∀y∈A,eX ((gA t h k).pg y)=eX (t.pg y)∨y=aI t k h t.root)→aI t k h t.root∉A→A.flatMap (fun l=>eX ((gA t h k).pg l))=A.flatMap (fun l=>eX (t.pg l)):=fun {A} hA hn=>qE fun y hy=>(hA y hy).resolve_right fun e'=>hn (e' ▸ hy);have O:∀x:K×Int,x∈(eX (t.pg (aI t k h t.root))).eraseIdx (aL (t.pg (aI t k h t.root)) k)↔x∈eX (t.pg (aI t k h t.root))∧x.1≠k:=fun x=>by
  rw[mem_eraseIdx_iff_getElem];constructor
  ·rintro⟨a,Xn,hne,rfl⟩;refine⟨getElem_mem _,fun hc=>hne ?_⟩;have U:a<(t.pg (aI t k h t.root)).keys.length:=(by unfold eX at Xn;rw[length_zip] at Xn;omega)
   rw[El hlen U] at hc;have hc:(t.pg (aI t k h t.root)).keys[a]=k:=hc;rcases Nat.lt_trichotomy a (aL (t.pg (aI t k h t.root)) k) with h5|h5|h5
   ·have:=mN po.jG h5 ha;rw[hc,hk] at this;exact absurd this (jA k)
   ·exact h5
   have:=mN po.jG h5 U;rw[hc,hk] at this;exact absurd this (jA k)
  rintro⟨hx,hne⟩;obtain⟨a,U,rfl⟩:=(AE hlen).1 hx;refine⟨a,by unfold eX;rw[length_zip];omega,fun e'=>hne ?_,El hlen U⟩;subst e';exact hk
 show x∈dY (gA t h k) h t.root↔x∈dY t h t.root∧_;rw[vX,vX];have aiE:cz (gA t h k) h t.root=cz t h t.root:=s3 h (Nat.le_refl _);rw[aiE,e,flatMap_append,flatMap_cons,flatMap_append,flatMap_cons,fe eT aiD,fe ri agl,ed];simp only[mem_append,O];constructor
 ·rintro(hx|hx|hx)
  ·refine⟨.inl hx,fun hc=>?_⟩;obtain⟨l,lO,hx⟩:=mem_flatMap.1 hx;have:=h1 l lO x hx;rw[hc] at this;exact jA k this
  ·exact⟨.inr (.inl hx.1),hx.2⟩
  refine⟨.inr (.inr hx),fun hc=>?_⟩;obtain⟨l,lO,hx⟩:=mem_flatMap.1 hx;have:=h2 l lO x hx;rw[hc] at this;exact jA k this
 rintro⟨hx|hx|hx,hne⟩
 ·exact .inl hx
 ·exact .inr (.inl ⟨hx,hne⟩)
 exact .inr (.inr hx)

end Go.Proofs.YtbcmjoaggammcaaGreatDoor.Tr
namespace Go.Proofs.YtbcmjoaggammcaaGreatDoor.Tr
open List
open Go.Proofs.Tryz
open Go.Lib (compareBytes)
def sg(lv:List (List Int))(n:Nat):List (List Int):=lv++replicate (n-lv.length) []
def kp(lv:List (List Int))(level:Nat)(i:Int):List (List Int):=(sg lv (level+1)).set level ((sg lv (level+1)).getD level []++[i])
abbrev jq:=List Int×List (List Int)
def lA(go:Int→K→K→jq→Option (Nat×jq))(low:K)(p:cR):List Int→Nat→Option Nat→jq→Option (Nat×jq)
 | [],_,deep,s=>deep.map fun d=>(d,s)
 | c::cs,k,deep,s=>match go c (gY low p k) (gH p k) s with
  | none=>none
  | some (d,s')=>if deep=none∨deep=some d then lA go low p cs (k+1) (some d) s' else none
def jh(t:aE):Nat→Int→K→K→Nat→jq→Option (Nat×jq)
 | 0,_,_,_,_,_=>none
 | f+1,i,low,high,level,s =>
  if i∈s.1 then none
  else if (t.pg i).high≠high∨(∃k,(t.pg i).keys.head?=some k∧bF k low) then none
  else if (t.pg i).leaf=true then some (level,(s.1++[i],kp s.2 level i))
  else lA (fun c lo hi s=>jh t f c lo hi (level+1) s) low (t.pg i) (t.pg i).kids 0 none (s.1++[i],kp s.2 level i)
def uI(t:aE):Prop:=∀p∈t.af,ez p t.af.length
open Classical in
noncomputable def gq(t:aE):Int :=
 if t.af.length<1∨t.af.length>4000∨t.root<0∨t.root≥t.af.length then 11
 else if ¬uI t then 11
 else match jh t (t.af.length+1) t.root [] [] 0 ([],[]) with
  | none=>11
  | some (_,s)=>if s.1.length≠t.af.length then 11 else if ∀l∈s.2,eZ t l (-1) then 0 else 11
theorem Qy(lv:List (List Int))(n:Nat):(sg lv n).length=max lv.length n:=by unfold sg;rw[length_append,length_replicate];omega
theorem I7(lv:List (List Int))(n m:Nat):(sg lv n).getD m []=lv.getD m []:=by
 unfold sg;rw[getD_eq_getElem?_getD,getD_eq_getElem?_getD];rcases Nat.lt_or_ge m lv.length with h|h
 ·rw[getElem?_append_left h]
 rw[getElem?_append_right h,getElem?_eq_none h,getElem?_replicate];split<;>rfl
theorem Io(lv:List (List Int))(level:Nat)(i:Int):(kp lv level i).length=max lv.length (level+1):=by unfold kp;rw[length_set,Qy]
theorem EL(lv:List (List Int))(level:Nat)(i:Int)(m:Nat):(kp lv level i).getD m []=lv.getD m []++(if m=level then [i] else []):=by
 unfold kp;rw[getD_eq_getElem?_getD];by_cases e:m=level
 ·subst e;rw[getElem?_set_self (by rw[Qy];omega),I7,if_pos rfl];rfl
 rw[getElem?_set_ne (fun h=>e h.symm),if_neg e,append_nil,←getD_eq_getElem?_getD,I7]
def wG(t:aE)(h level:Nat)(i:Int)(m:Nat):List Int:=if level≤m∧m≤level+h then cz t (m-level) i else []
variable {t:aE}
theorem Qz {h level:Nat} {low:K} {p:cR} (go:Int→K→K→jq→Option (Nat×jq))
  (O:∀(c:Int) (lo hi:K) (s:jq),dQ t h c lo hi→(∀x∈ids t h c,x∉s.1)→(ids t h c).Nodup→∃lv,go c lo hi s=some (level+1+h,(s.1++ids t h c,lv))∧lv.length=max s.2.length (level+1+h+1)∧∀m,lv.getD m []=s.2.getD m []++wG t h (level+1) c m) :
  ∀(cs:List Int) (k:Nat) (deep:Option Nat) (s:jq),(∀j (hj:j<cs.length),dQ t h cs[j] (gY low p (k+j)) (gH p (k+j)))→(cs.flatMap (ids t h)).Nodup→(∀x∈cs.flatMap (ids t h),x∉s.1)→(deep=none∨deep=some (level+1+h))→(cs≠[]∨deep≠none) →
   ∃lv,lA go low p cs k deep s=some (level+1+h,(s.1++cs.flatMap (ids t h),lv))∧lv.length=(if cs=[] then s.2.length else max s.2.length (level+1+h+1))∧∀m,lv.getD m []=s.2.getD m []++(if level+1≤m∧m≤level+1+h then cs.flatMap (cz t (m-(level+1))) else [])
 | [],k,deep,s,_,_,_,hd,hne=>by
  rcases hd with rfl|rfl
  ·rcases hne with h|h<;>exact absurd rfl h
  exact⟨s.2,by simp[lA],by simp,fun m=>by split<;>simp⟩
 | c::cs,k,deep,s,aS,hnd,E,hd,_=>by
  rw[flatMap_cons] at hnd E;rw[nodup_append] at hnd;obtain⟨n1,n2,n3⟩:=hnd;obtain⟨I,e1,l1,m1⟩:=O c (gY low p k) (gH p k) s (aS 0 bq) (fun x hx=>E x (mem_append_left _ hx)) n1;obtain⟨U,e2,l2,m2⟩:=Qz go O cs (k+1) (some (level+1+h)) (s.1++ids t h c,I) (fun j hj=>by
   have:=aS (j+1) (by simpa using hj);simp only[getElem_cons_succ] at this;rw[show k+1+j=k+(j+1) by omega];exact this) n2 (fun x hx hm=>by
    rcases mem_append.1 hm with hm|hm
    ·exact E x (mem_append_right _ hx) hm
    exact n3 x hm x hx rfl) (.inr rfl) (.inr bq)
  refine⟨U,?_,?_,fun m=>?_⟩
  ·rw[lA,e1];show(if deep=none∨deep=some (level+1+h) then _ else _)=_;rw[if_pos hd,e2,flatMap_cons,append_assoc]
  ·rw[l2];show(if cs=[] then I.length else max I.length _)=_;rw[l1,if_neg (cons_ne_nil c cs)];split<;>omega
  rw[m2,m1];unfold wG;split
  ·rw[flatMap_cons,append_assoc]
  simp
theorem TC(hp:∀p∈t.af,ez p t.af.length):∀{h f:Nat} {i:Int} {low high:K} {level:Nat} {s:jq},h<f→dQ t h i low high→(∀x∈ids t h i,x∉s.1)→(ids t h i).Nodup →
  ∃lv,jh t f i low high level s=some (level+h,(s.1++ids t h i,lv))∧lv.length=max s.2.length (level+h+1)∧∀m,lv.getD m []=s.2.getD m []++wG t h level i m
 | h,0,_,_,_,_,_,hf,_,_,_=>by omega
 | 0,f+1,i,low,high,level,s,hf,ok,E,hnd=>by
  obtain⟨q1,q2,O,U⟩:=ok;refine⟨kp s.2 level i,?_,Io _ _ _,fun m=>?_⟩
  ·rw[jh,if_neg (E i (sU 0 i)),if_neg,if_pos q2];rfl;rintro(h|⟨k,hk,aa⟩)
   ·exact h O
   exact U k (mem_of_mem_head? hk) aa
  rw[EL];unfold wG;congr 1;by_cases e:m=level
  ·subst e;rw[if_pos rfl,if_pos ⟨Nat.le_refl _,Nat.le_refl _⟩,Nat.sub_self];rfl
  rw[if_neg e,if_neg w4]
 | h+1,f+1,i,low,high,level,s,hf,ok,E,hnd=>by
  obtain⟨q1,q2,O,U,Z⟩:=ok;have po:=hp _ (jr q1);have I:(t.pg i).kids≠[]:=fun e=>by have:=(po.node q2).1;rw[e] at this;simp at this
  rw[ids,nodup_cons] at hnd;rw[ids] at E;obtain⟨lv,e,l,mm⟩:=Qz (t:=t) (h:=h) (level:=level) (low:=low) (p:=t.pg i) (fun c lo hi s=>jh t f c lo hi (level+1) s)
   (fun c lo hi s ok hd hn=>TC hp (h:=h) (f:=f) (level:=level+1) w4 ok hd hn) (t.pg i).kids 0 none (s.1++[i],kp s.2 level i) (fun j hj=>by rw[Nat.zero_add];exact Z j hj) hnd.2 (fun x hx hm=>by
    rcases mem_append.1 hm with hm|hm
    ·exact E x (mem_cons_of_mem _ hx) hm
    rw[mem_singleton] at hm;subst hm;exact hnd.1 hx) (.inl rfl) (.inl I)
  refine⟨lv,?_,?_,fun m=>?_⟩
  ·rw[jh,if_neg (E i mem_cons_self),if_neg,if_neg (by rw[q2];decide),e,ids]
   ·simp;omega
   rintro(h|⟨k,hk,aa⟩)
   ·exact h O
   exact U k (mem_of_mem_head? hk) aa
  ·rw[l,if_neg I];show max (kp s.2 level i).length _=_;rw[Io];omega
  rw[mm];show(kp s.2 level i).getD m []++_=_;rw[EL];unfold wG;rw[append_assoc];congr 1;by_cases e1:m=level
  ·subst e1;rw[if_pos rfl,if_neg w4,if_pos ⟨Nat.le_refl _,by omega⟩,Nat.sub_self];rfl
  rw[if_neg e1,nil_append];by_cases e2:level+1≤m∧m≤level+1+h
  ·rw[if_pos e2,if_pos w4];obtain⟨d,rfl⟩:∃d,m=level+1+d:=⟨m-(level+1),by omega⟩
   rw[show level+1+d-(level+1)=d by omega,show level+1+d-level=d+1 by omega,cz]
  rw[if_neg e2,if_neg w4]
open Classical in
theorem Ip{h:Nat}(v:Valid t h):gq t=0:=by
 have hr:=v.range;have E:=v.pos;have hm:=v.mY;unfold gq;rw[if_neg w4,if_neg (by exact fun hn=>hn v.page)];obtain⟨lv,e,l,I⟩:=TC v.page (f:=t.af.length+1) (level:=0) (s:=([],[])) (by have:=v.high;omega) v.ok (fun x _ hx=>by cases hx) v.zq;rw[e];show(if ([]++ids t h t.root).length≠t.af.length then _ else if ∀l∈lv,eZ t l (-1) then (0:Int) else 11)=0;rw[if_neg (by rw[nil_append,v.all];simp),if_pos];intro x hx;obtain⟨m,sP,rfl⟩:=mem_iff_getElem.1 hx;have:=I m;rw[getD_eq_getElem?_getD,getElem?_eq_getElem sP] at this;have e2:lv[m]=wG t h 0 t.root m:=(by simpa using this)
 rw[e2];unfold wG;rw[l] at sP;rw[if_pos (by simp at sP;omega),Nat.sub_zero];exact v.oS m (by simp at sP;omega)

end Go.Proofs.YtbcmjoaggammcaaGreatDoor.Tr
namespace Go.Proofs.YtbcmjoaggammcaaGreatDoor.Tw
open List
open Go.Proofs.Tryz
open Go.RowKit V Tr Pk
open Go.Lib (compareBytes)
variable {l hi k:K} {p:cR} {n many:Int} {i:Nat} {t:aE}
def cK(k:K):List D:=[.list 1 (k.flatMap cB) k.length]
theorem gb(k:K):(cK k).length=1:=rfl
theorem pc(k:K):(cK k).all V.one=true:=rfl
def cI(n:Int):List D:=[.v (.int .i64 n)]
theorem ey(n:Int):(cI n).length=1:=rfl
theorem nr(n:Int):(cI n).all V.one=true:=rfl
def cP(p:cR):List D:=[.v (.bool p.leaf),.list 1 (p.keys.flatMap cK) p.keys.length,.list 1 (p.kids.flatMap cI) p.kids.length,.list 1 (p.high.flatMap cB) p.high.length,.v (.int .i64 p.next)]
theorem E1(p:cR):(cP p).length=5:=rfl
theorem ae1(p:cR):(cP p).all V.one=true:=rfl
def cT(t:aE):List D:=[.list 5 (t.af.flatMap cP) t.af.length,.v (.int .i64 t.root)]
def nX(k:K):Bool:=decide (0<k.length∧k.length≤100)
def uU(p:cR)(i:Nat):Prop:=∀(h:i<p.keys.length),nX p.keys[i]=true∧(∀(h0:0<i),bF (p.keys[i-1]'w4) p.keys[i])∧(p.high≠[]→bF p.keys[i] p.high)
theorem abL{l:List K}(h:∀i (hi:i<l.length) (h0:0<i),bF (l[i-1]'w4) l[i]):l.Pairwise bF:=by
 refine pairwise_iff_getElem.2 fun i j hi hj E=>?_;obtain⟨d,rfl⟩:∃d,j=i+1+d:=⟨j-(i+1),by omega⟩
 induction d with
 | zero=>have:=h (i+1) hj w4;simpa using this
 | succ d ih =>
  have h1:=ih w4 w4;have h2:=h (i+1+(d+1)) hj w4;exact lU h1 (by simpa using h2)
theorem Q7(h:ez p n)(i:Nat):uU p i:=fun hi=>by
 have hm:=getElem_mem hi;have:=h.kW _ hm;exact⟨by unfold nX;simp;omega,fun h0=>mN h.jG w4 hi,fun hne=>h.qe hne _ hm⟩
theorem Jp(h:decide ((l.length:Int)>0)=true):l≠[]:=fun e=>by rw[e] at h;cases h
theorem len_nil(h:decide ((l.length:Int)>0)=false):l=[]:=by
 have:=of_decide_eq_false h;exact length_eq_zero_iff.1 w4
theorem T7(h:decide ((hi.length:Int)>0)=true):decide (compareBytes k hi≥0)=decide (hi≠[]∧¬bF k hi):=by
 have:=Jp h;unfold bF;simp[this]
theorem T8(h:decide ((hi.length:Int)>0)=false):false=decide (hi≠[]∧¬bF k hi):=by simp[len_nil h]
variable {G:List (Nat×List Value)}
theorem we(a b:K):VP Tryz.prog G 35 [.list 1 (a.flatMap cB) a.length,.list 1 (b.flatMap cB) b.length] (.v (.int .i64 (compareBytes a b))):=by
 exact UI
theorem T9(a b:K)(ha:a.length≤maxLen)(hb:b.length≤maxLen):VP Tryz.prog G 57 [.list 1 (a.flatMap cB) a.length,.list 1 (b.flatMap cB) b.length] (.v (.bool (decide (a=b)))):=by
 refine VC.body func57 rfl ntmps57 aO fun X0 w0 aZ=>?_;refine ae [0,1] ?_;refine cN [4] ?_;refine aQ 1 ?_ (h:=by exact Cz);refine aQ 1 ?_ (h:=by exact Cz);refine bH ?_;refine aJ [] ?_;refine⟨vb ?_,rfl⟩;rw[ByteArray.toList_eq,ByteArray.toList_eq];show(a==b)=decide (a=b);by_cases h:a=b<;>simp[h]
theorem yN(k:K):VP Tryz.prog G 54 [.list 1 (k.flatMap cB) k.length] (.v (.bool (nX k))):=by
 refine VC.body func54 rfl ntmps54 aO fun X0 w0 aZ=>?_;refine ae [0] ?_;refine aC 4 ?_;refine bS 6 (fun I E=>?_) (fun I E=>?_)
 ·refine bf [2] ?_;refine eJ ?_;refine⟨vb ?_,rfl⟩;unfold nX;first|(simp_all;done)|(simp_all;omega)
 refine bf [2] ?_;refine eJ ?_;refine⟨vb ?_,rfl⟩;unfold nX;first|(simp_all;done)|(simp_all;omega)
theorem aaa(p:cR)(k:K):VP Tryz.prog G 100 [.agg (cP p),.list 1 (k.flatMap cB) k.length] (.v (.bool (decide (p.high≠[]∧¬bF k p.high)))):=by
 refine VC.body func100 rfl ntmps100 aO fun X0 w0 aZ=>?_;unfold cP;refine bX ?_;refine OD.box (ds:=[_,_,_,_,_]) an rfl rfl ot rfl rfl (fun b2=>?_);refine aj 16 [1,2] ?_;refine aC 5 ?_;refine bS 9 (fun E I=>?_) (fun E I=>?_)
 ·refine aD 3 ?_;refine OD.gI gL rfl rfl rfl call35 (we k p.high) ⟨ot,ot,trivial⟩ ?_;refine aj 16 [4] ?_;refine aJ [] ?_;refine⟨vb ?_,rfl⟩;first|exact T7 E|exact T8 E
 refine bf [4] ?_;refine eJ ?_;refine⟨vb ?_,rfl⟩;first|exact T7 E|exact T8 E
theorem Ua{a:Int}(h:(decide (a<0)!=((l.length:Int)==0))=false):a<0↔l=[]:=by
 have h:decide (a<0)=((l.length:Int)==0):=(by simpa using h)
 rw[←length_eq_zero_iff];constructor
 ·intro q;rw[decide_eq_true q] at h;have:=beq_iff_eq.1 h.symm;omega
 intro q;rw[q] at h;exact of_decide_eq_true h
theorem afC{a:Int}(h:a<0↔l=[]):(!(decide (a<0)==((l.length:Int)==0)))=false:=by
 rw[←length_eq_zero_iff] at h;by_cases q:a<0
 ·rw[decide_eq_true q,h.1 q];rfl
 rw[decide_eq_false q];have:¬l.length=0:=fun e=>q (h.2 e);simp;exact fun e=>this (by rw[e];rfl)
open Classical in
noncomputable def Bm(p:cR)(many:Int):Bool:=decide (ez p many)
open Classical in
theorem D9(h:¬ez p many):false=Bm p many:=(decide_eq_false h).symm
open Classical in
theorem aab(h:ez p many):true=Bm p many:=(decide_eq_true h).symm
theorem acE(h:ez p n)(hi:i<p.kids.length):0≤p.kids[i]∧(p.leaf=false→p.kids[i]<n):=⟨h.aB _ (getElem_mem hi),fun hl=>h.vc hl _ (getElem_mem hi)⟩
theorem abM(f1:p.keys.length≤4)(f2:p.high.length≤100)(f3:-1≤p.next)(f4:p.next<many)(I:(p.next<0↔p.high=[]))(f6:(p.leaf=true→p.kids.length=p.keys.length))(E:(p.leaf=false→p.kids.length=p.keys.length+1∧p.keys.length≠0))(hk:∀j,j<p.keys.length→uU p j)(hc:∀j (hj:j<p.kids.length),0≤p.kids[j]∧(p.leaf=false→p.kids[j]<many)):ez p many:=by
 refine⟨f1,f2,f3,f4,I,f6,fun h=>⟨(E h).1,fun e=>(E h).2 (by rw[e];rfl)⟩,fun k h=>?_,fun hne k h=>?_,abL fun i hi h0=>(hk i hi hi).2.1 h0,fun n h=>?_,fun hl n h=>?_⟩
 ·obtain⟨i,hi,rfl⟩:=mem_iff_getElem.1 h;have:=(hk i hi hi).1;unfold nX at this;have:=of_decide_eq_true this;omega
 ·obtain⟨i,hi,rfl⟩:=mem_iff_getElem.1 h;exact(hk i hi hi).2.2 hne
 ·obtain⟨i,hi,rfl⟩:=mem_iff_getElem.1 h;exact(hc i hi).1
 obtain⟨i,hi,rfl⟩:=mem_iff_getElem.1 h;exact(hc i hi).2 hl
theorem adt(p:cR)(many:Int)(dS:p.keys.length≤maxLen)(fp:p.kids.length≤maxLen):VP Tryz.prog G 36 [.agg (cP p),.v (.int .i64 many)] (.v (.bool (Bm p many))):=by
 refine VC.body func36 rfl ntmps36 aO fun X0 w0 aZ=>?_;unfold cP;have dy:maxLen=9223372036854775807:=rfl;refine bX ?_;refine OD.box (ds:=[_,_,_,_,_]) an rfl rfl ot rfl rfl (fun b2=>?_);refine aj 132 [1,2] ?_;refine aC 5 ?_;refine bS 13 (fun aiF Z=>?_) (fun aiF Z=>?_)
 ·exact z124
 refine aD 6 ?_;refine bS 19 (fun KS agm=>?_) (fun KS agm=>?_)
 ·exact z124
 refine aD 5 ?_;refine bS 24 (fun aiG agn=>?_) (fun aiG agn=>?_)
 ·exact z124
 refine aD 6 ?_;refine bS 30 (fun aiH ago=>?_) (fun aiH ago=>?_)
 ·exact z124
 refine aD 7 ?_;refine OD.still gL rfl (cZ rfl ot ot (PO underlying4)) ?_;refine aj 132 [1,2,39] ?_;refine aq (fun az aH=>?_) (fun az aH=>?_)
 ·refine ae [4] ?_;refine aJ [] ?_;exact Gc
 refine CD.skip ?_;refine jJ [1,2] (fun aW I aK=>(p.keys.length≤4)∧(p.high.length≤100)∧(-1≤p.next)∧(p.next<many)∧((p.next<0↔p.high=[]))∧((p.leaf=true→p.kids.length=p.keys.length))∧((p.leaf=false→p.kids.length=p.keys.length+1∧p.keys.length≠0))∧aK=(⟨132,aW,I⟩:St)) ?_ ?_
 ·refine aC 3 ?_;refine bS 42 (fun qQ agp=>?_) (fun qQ agp=>?_)
  ·refine aD 9 ?_;refine bS 51 (fun aiI agq=>?_) (fun aiI agq=>?_)
   ·exact UM
   refine aD 4 ?_;refine bS 55 (fun tN E=>?_) (fun tN E=>?_)
   ·exact absurd tN (by rw[qQ];decide)
   refine bf [1,2,71] ?_;refine fL ?_;refine CD.skip ?_;refine⟨_,aM,w4,w4,w4,w4,(Ua az),(fun _=>by omega),(fun h=>absurd qQ (by rw[h];decide)),rfl⟩
  refine xG 7 ?_;refine aD 6 ?_;refine bS 55 (fun tN E=>?_) (fun tN E=>?_)
  ·refine aD 9 ?_;refine bS 64 (fun K0 J7=>?_) (fun K0 J7=>?_)
   ·exact UM
   refine bf [1,2,71] ?_;refine aq (fun aG aV=>?_) (fun aG aV=>?_)
   ·refine ae [4] ?_;refine eJ ?_;exact Gc
   refine CD.skip ?_;refine⟨_,aM,w4,w4,w4,w4,(Ua az),(fun h=>absurd qQ (by rw[h];decide)),(fun _=>⟨by omega,by omega⟩),rfl⟩
  exact absurd tN (by rw[qQ];decide)
 rintro _ ⟨f1,f2,f3,f4,f5,f6,f7,rfl⟩;refine ae [1,2,73,74,75] ?_;refine eB [1,2,73,74] (fun aW I (i:Nat) aK=>(i≤p.keys.length)∧(∀j,j<i→uU p j)∧aK=(⟨132,(75,.v (.int .i64 (i:Nat)))::aW,I⟩:St)) (fun (i:Nat)=>p.keys.length-i) 0 ⟨(Nat.zero_le _),(fun j h=>by omega),rfl⟩ ?_;rintro i _ ⟨hi,xA,rfl⟩;refine ae [1,2,73,74,75,76] ?_;refine aq (fun aY bz=>?_) (fun aY bz=>?_)
 ·have aa:i<p.keys.length:=(by omega)
  refine ae [1,2,5,6,73,74,75] ?_;refine aC 1 ?_;refine dR call54 (yN p.keys[i]) ?_;refine aD 2 ?_;refine bS 83 (fun wN agr=>?_) (fun wN agr=>?_)
  ·refine aj 132 [1,2,73,74,75,110] ?_;refine eC ?_;exact VW
  refine aD 3 ?_;refine bS 86 (fun aiJ ags=>?_) (fun aiJ ags=>?_)
  ·refine aD 4 ?_;refine bN (c9 1 (h:=by first|exact .l (j:=i-1) w4 w4|exact .r (j:=i-1) w4 w4)) ?_;refine aD 2 ?_;refine OD.gI gL rfl rfl rfl call35 (we (p.keys[i-1]'w4) p.keys[i]) ⟨ot,ot,trivial⟩ ?_;refine aD 4 ?_;refine bS 98 (fun zb Fp=>?_) (fun zb Fp=>?_)
   ·refine aj 132 [1,2,73,74,75,110] ?_;refine eC ?_;exact VW
   refine aD 5 ?_;exact VN
  refine xG 9 ?_;refine aD 8 ?_;exact VN
 have agt:∀j,j<p.keys.length→uU p j:=fun j hj=>xA j w4;refine ae [1,2,113,114,115] ?_;refine eB [1,2,113,114] (fun aW I (i:Nat) aK=>(i≤p.kids.length)∧(∀j (_:j<i) (hj:j<p.kids.length),0≤p.kids[j]∧(p.leaf=false→p.kids[j]<many))∧aK=(⟨132,(115,.v (.int .i64 (i:Nat)))::aW,I⟩:St)) (fun (i:Nat)=>p.kids.length-i) 0 ⟨(Nat.zero_le _),(fun j h=>by omega),rfl⟩ ?_;rintro i _ ⟨jU,jP,rfl⟩;refine ae [1,2,113,114,115,116] ?_;refine aq (fun cy de=>?_) (fun cy de=>?_)
 ·have aa:i<p.kids.length:=(by omega)
  refine ae [1,2,8,113,114,115] ?_;refine aC 3 ?_;refine bS 121 (fun JW O=>?_) (fun JW O=>?_)
  ·refine bf [1,2,113,114,115,130] ?_;refine eC ?_;exact Wa
  refine aD 4 ?_;refine bS 125 (fun E9 U=>?_) (fun E9 U=>?_)
  ·refine bf [1,2,113,114,115,130] ?_;refine aq (fun dO eo=>?_) (fun dO eo=>?_)
   ·exact Wa
   exact V6
  refine bf [1,2,113,114,115,130] ?_;refine fL ?_;exact V6
 refine ae [4] ?_;refine aJ [] ?_;refine⟨vb (aab (abM f1 f2 f3 f4 f5 f6 f7 agt fun j hj=>jP j w4 hj)),rfl⟩

def mP(keys:List K)(k:K):Bool:=decide (keys[gl keys k]?=some k)
theorem abN{keys:List K}(hi:i≤keys.length)(h1:∀m (hm:m<keys.length),m<i→bF keys[m] k)(h2:∀m (hm:m<keys.length),i≤m→¬bF keys[m] k):gl keys k=i:=by
 have E:=yp keys k;rcases Nat.lt_trichotomy (gl keys k) i with h|h|h
 ·have aa:gl keys k<keys.length:=(by omega)
  exact absurd (h1 _ aa h) (AB aa)
 ·exact h
 obtain⟨h',q⟩:=AN h;exact absurd q (h2 _ h' (Nat.le_refl _))
theorem aac{keys:List K}(hr:keys.Pairwise bF)(k:K):my keys k=if mP keys k=true then gl keys k+1 else gl keys k:=by
 have E:=yp keys k;split
 ·rename_i hf;unfold mP at hf;have hf:=of_decide_eq_true hf;obtain⟨aa,he⟩:=List.getElem?_eq_some_iff.1 hf;refine I5 hr w4 (fun _=>?_) (fun h=>?_)
  ·show ¬bF k (keys[gl keys k+1-1]'w4);simp only[Nat.add_sub_cancel,he];exact jA k
  have:=mN hr (Nat.lt_succ_self (gl keys k)) h;rw[he] at this;exact this
 rename_i hf;refine I5 hr E (fun h0=>?_) (fun h=>?_)
 ·exact yK (AN (by omega:gl keys k-1<gl keys k)).2
 have h1:=AB h;rcases yL keys[gl keys k] k with h2|h2|h2
 ·exact absurd h2 h1
 ·exfalso;apply hf;unfold mP;rw[getElem?_eq_getElem h,h2];simp
 exact h2
theorem Bn{a:Nat}:((a:Nat):Int).fdiv (2 ^ min (1:Int).toNat IntKind.u64.bits)=((a/2:Nat):Int):=by
 rw[show min (1:Int).toNat IntKind.u64.bits=1 from rfl,Int.fdiv_eq_ediv_of_nonneg _ w7];rfl
theorem TD{keys:List K}(hd:gl keys k=i)(hi:i<keys.length):(D.dz [.v (.int .i64 (i:Nat)),.v (.bool (compareBytes keys[i] k==0))]) = .dz [.v (.int .i64 (gl keys k:Nat)),.v (.bool (mP keys k))]∧([]:List ag)=[]:=by
 subst hd;refine⟨?_,rfl⟩;have:(compareBytes keys[gl keys k] k==0)=mP keys k:=by
  unfold mP;rw[getElem?_eq_getElem hi];by_cases h:keys[gl keys k]=k
  ·have:=tH.2 h;rw[this];simp[h]
  have:¬compareBytes keys[gl keys k] k=0:=fun e=>h (tH.1 e);simp[h,this]
 rw[this]
theorem RY{keys:List K}(hd:gl keys k=i)(hi:keys.length≤i):(D.dz [.v (.int .i64 (i:Nat)),.v (.bool false)]) = .dz [.v (.int .i64 (gl keys k:Nat)),.v (.bool (mP keys k))]∧([]:List ag)=[]:=by
 subst hd;refine⟨?_,rfl⟩;have:mP keys k=false:=(by unfold mP;rw[getElem?_eq_none hi];rfl)
 rw[this]
theorem aad(keys:List K)(k:K)(hr:keys.Pairwise bF)(hl:keys.length≤1000):VP Tryz.prog G 101 [.list 1 (keys.flatMap cK) keys.length,.list 1 (k.flatMap cB) k.length,.ek (.func 35) []] (.dz [.v (.int .i64 (gl keys k:Nat)),.v (.bool (mP keys k))]):=by
 refine VC.body func101 rfl ntmps101 aO fun X0 w0 aZ=>?_;have dy:maxLen=9223372036854775807:=rfl;refine ae [0,1,2] ?_;refine ae [0,1,2,8] ?_;refine ae [0,1,2,8,9,10] ?_;refine eB [0,1,2,8] (fun aW _ (I:Nat×Nat) aK=>match I with|(i,j)=>(i≤j)∧(j≤keys.length)∧(∀m (hm:m<keys.length),m<i→bF keys[m] k)∧(∀m (hm:m<keys.length),j≤m→¬bF keys[m] k)∧aK=(⟨49,(9,.v (.int .i64 (i:Nat)))::(10,.v (.int .i64 (j:Nat)))::aW,[]⟩:St)) (fun (I:Nat×Nat)=>match I with|(i,j)=>j-i) (0,keys.length) ⟨(Nat.zero_le _),(Nat.le_refl _),(fun m hm h=>by omega),(fun m hm h=>by omega),rfl⟩ ?_;rintro⟨i,j⟩ _ ⟨Xo,hjn,h1,h2,rfl⟩;refine ae [0,1,2,8,9,10,17] ?_;refine aq (fun az aH=>?_) (fun az aH=>?_)
 ·have aa:i<j:=(by omega)
  have E:((i+j)/2)<keys.length:=(by omega)
  refine cN [0,1,2,8,9,10,11] ?_;refine aQ 2 ?_ (h:=by exact(cZ rfl ot ot (j3 (r:=((i+j:Nat):Int)) zM)));refine aQ 0 ?_ (h:=by exact(oo rfl ot (oq (r:=((i+j:Nat):Int)) runUnderlying3 runUnderlying211 (IntWalk.u64_in _ w4))));refine aQ 0 ?_ (h:=by exact(cZ rfl ot bJ (yD w7 Bn)));refine aQ 0 ?_ (h:=by exact(oo rfl ot (oq (r:=((((i+j)/2):Nat):Int)) runUnderlying211 runUnderlying3 (wrap_i64 w4 w4))));refine bH ?_;refine aC 6 ?_;refine OD.j4 (f:=35) (args:=[_,_]) (all:=[_,_]) (Sf:=[]) an rfl rfl ot call35 (we (keys[((i+j)/2)]'E) k) rfl ⟨ot,ot,trivial⟩ (eN _) ?_;rintro _ _ ⟨rfl,rfl⟩;refine aj 49 [0,1,2,8,9,10,11,31] ?_;refine aq (fun aG aV=>?_) (fun aG aV=>?_)
  ·have hc:bF (keys[((i+j)/2)]'E) k:=of_decide_eq_true aG;have Z:∀m (hm:m<keys.length),m<((i+j)/2)+1→bF keys[m] k:=fun m hm h=>by (rcases Nat.lt_or_ge m ((i+j)/2) with q|q);exact lU (mN hr q E) hc;(have:m=((i+j)/2):=by omega);subst this;exact hc
   refine cj [0,1,2,8,9,10] ?_;refine⟨((((i+j)/2)+1),j),_,cx,aM,w4,w4,(fun m hm h=>by rcases Nat.lt_or_ge m i with q|q;exact h1 m hm q;exact Z m hm w4),h2,rfl⟩
  have hc:¬bF (keys[((i+j)/2)]'E) k:=of_decide_eq_false aG;have O:∀m (hm:m<keys.length),((i+j)/2)≤m→¬bF keys[m] k:=fun m hm h hh=>by (rcases Nat.lt_or_ge ((i+j)/2) m with q|q);exact hc (lU (mN hr q hm) hh);(have:m=((i+j)/2):=by omega);subst this;exact hc hh
  refine cj [0,1,2,8,9,10] ?_;refine⟨(i,((i+j)/2)),_,cx,aM,w4,w4,h1,O,rfl⟩
 obtain rfl:i=j:=(by omega)
 have hd:=abN hjn h1 h2;refine aC 5 ?_;refine bS 39 (fun aiK U=>?_) (fun aiK U=>?_)
 ·refine aD 6 ?_;refine OD.j4 (f:=35) (args:=[_,_]) (all:=[_,_]) (Sf:=[]) gL rfl rfl ot call35 (we (keys[i]'w4) k) rfl ⟨ot,ot,trivial⟩ (eN _) ?_;rintro _ _ ⟨rfl,rfl⟩;refine aj 49 [6,7] ?_;refine aJ [] ?_;first|exact TD hd w4|exact RY hd w4
 refine bf [6,7] ?_;refine Ma ?_;first|exact TD hd w4|exact RY hd w4
theorem Iq(p:cR)(k:K)(hr:p.keys.Pairwise bF)(hl:p.keys.length≤1000):VP Tryz.prog G 56 [.agg (cP p),.list 1 (k.flatMap cB) k.length] (.v (.int .i64 (aL p k:Nat))):=by
 refine VC.body func56 rfl ntmps56 aO fun X0 w0 aZ=>?_;unfold cP;have dy:maxLen=9223372036854775807:=rfl;have I:=yp p.keys k;have Wo:=aac hr k;refine bX ?_;refine OD.box (ds:=[_,_,_,_,_]) an rfl rfl ot rfl rfl (fun b2=>?_);refine aj 23 [1,2] ?_;refine cL [2,5,6] (aad p.keys k hr hl) ?_;refine aC 2 ?_;refine bS 15 (fun BE E=>?_) (fun BE E=>?_)
 ·refine bf [5,19] ?_;refine aq (fun az aH=>?_) (fun az aH=>?_)
  ·refine cj [5] ?_;exact z91
  exact z91
 refine bf [5,19] ?_;refine fL ?_;refine ae [4] ?_;refine eJ ?_;refine⟨vi ?_,rfl⟩;unfold aL;first|(rw[BE] at Wo;cases fF:p.leaf<;>simp_all;done)|(simp_all;done)|(simp_all;omega)

theorem aae{d:Nat}{i:Int}{lo:K}(ok:dQ t d i lo hi)(h:(t.pg i).leaf=true):d=0:=by
 cases d with
 | zero=>rfl
 | succ d=>obtain⟨_,q2,_⟩:=ok;rw[q2] at h;cases h
theorem aaf{d:Nat}{i:Int}{lo:K}(ok:dQ t d i lo hi)(h:(t.pg i).leaf=false):∃d',d=d'+1:=by
 cases d with
 | zero=>obtain⟨_,q2,_⟩:=ok;rw[q2] at h;cases h
 | succ d=>exact⟨d,rfl⟩
theorem aag:(Tryz.prog.info? 3).map (fun i=>(i.zero,i.size,i.bytes))=some (some (.int .i64 0),1,8):=by kernel_rfl
theorem RZ(t:aE)(h:Nat)(v:Valid t h)(k:K):VC Tryz.prog G 55 [.agg (cT t),.list 1 (k.flatMap cB) k.length] [] (gh cI 3 1 (iS t k h t.root)):=by
 refine VC.body func55 rfl ntmps55 aO fun X0 w0 aZ=>?_;unfold cT;have dy:maxLen=9223372036854775807:=rfl;have hval:=v;have eu:=v.high;have M5:=v.mY;refine bX ?_;refine OD.box (ds:=[_,_]) an rfl rfl ot rfl rfl (fun b2=>?_);refine aj 45 [1,2] ?_;refine aC 2 ?_;refine ee (bZ 0 [_]) [.int .i64 0] [_] zeroValue3 runUnderlying91 sizeOf3 (fun kL=>?_);refine OD.perm (dV (S1:=[⟨kL,3,1*1,flatMap cI ([t.root])⟩]) (A:=[_])) ?_;refine aj 45 [1,2,5] ?_;refine CD.block ?_
 refine mJ (fun (U:Nat×Int×K×K×List Int×Option Addr×Nat×List ag) aK=>match U with|(d,i,lo,hi,pre,GK,O,Sl)=>(dQ t d i lo hi)∧(lg lo hi k)∧(pre++iS t k d i=iS t k h t.root)∧(pre.length+d≤h)∧(bw 3 1 (((pre++[i])).flatMap cI) ((pre++[i])).length GK O Sl)∧aK=(⟨45,[(1,.list 1 (k.flatMap cB) k.length),(2,.v (.pointer (some ⟨b2,0,none⟩))),(5,.v (.slice GK ((pre++[i])).length O))],(⟨b2,46,2,[.list 5 (t.af.flatMap cP) t.af.length,.v (.int .i64 t.root)]⟩::Sl)⟩:St)) (fun (U:Nat×Int×K×K×List Int×Option Addr×Nat×List ag)=>match U with|(d,i,lo,hi,pre,GK,O,Sl)=>d) (h,t.root,[],[],[],(some ⟨kL,0,none⟩),1,[⟨kL,3,1*1,flatMap cI ([t.root])⟩]) ⟨v.ok,(tr k),(nil_append _),bq,(bw.cast (bI (g:=cI) (sz:=1) (e:=3) (ls:=[t.root]) (Nat.le_refl _) (show 1≤maxLen by decide)) kJ),rfl⟩ (aM (h:=by repeat (first|exact trivial|refine⟨(by (repeat (first|exact fw|(apply fP;focus (first|rfl|(simp;done)|(congr 2;omega)|(apply eE;rw[Z])|(apply eE;simp;done)))|(apply fA;focus rfl)));done),?_⟩))) ?_;rintro⟨d,i,lo,hi,pre,GK,O,Sl⟩ _ ⟨ok,jV,Ub,fH,MT,rfl⟩;obtain⟨bl,rfl,BU,Bo,rfl⟩:=MT.pos bq;have q1:=ok.idx;have aa:i.toNat<t.af.length:=(by omega)
 have E:t.pg i=(t.af[i.toNat]'aa):=u0 q1;have po:=v.page _ (jr q1);have Bp:=ok.high;rw[E] at po Bp;refine cN [1,2,5,6] ?_;refine aQ 4 ?_ (h:=by exact(c9 1 (h:=by first|exact .l (j:=pre.length) bq bq|exact .r (j:=pre.length) bq bq)));refine aQ 0 ?_ (h:=by exact(cJ (mk:=Op.load 3) rfl ot (iO (k:=1) (d:=.v (.int .i64 i)) (i:=pre.length) ey rfl rfl rfl isAgg3 bq (by simp[cI]))));refine bH ?_;refine aC 3 ?_;refine bN (c9 5 (h:=by first|exact .l (j:=i.toNat) (Int.toNat_of_nonneg q1.1).symm aa|exact .r (j:=i.toNat) (Int.toNat_of_nonneg q1.1).symm aa)) ?_;refine aD 1 ?_;refine OD.alloc (ds:=[_,_,_,_,_]) an rfl rfl zeroValue93 rfl (fun b7=>?_);refine aN 0 [_,_,_,_,_] sizeOf93 ?_;refine aj 45 [1,2,5,7] ?_;refine cL [1,2,5,7,24] (aaa (t.af[i.toNat]'aa) k) ?_;refine aq (fun az aH=>?_) (fun az aH=>?_)
 ·exact absurd az (by intro e;have e:=of_decide_eq_true e;rw[Bp] at e;exact e.2 (jV.2 e.1))
 refine ae [1,2,5,7,33] ?_;refine aq (fun aG aV=>?_) (fun aG aV=>?_)
 ·obtain rfl:=aae ok (by rw[E];exact aG);have aT:pre++[i]=iS t k h t.root:=(by rw[←Ub];rfl)
  refine ae [4] ?_;refine aJ [⟨bl,3,O*1,flatMap cI (pre++[i])⟩] ?_;rw[←aT];exact⟨_,_,rfl,(bI (g:=cI) (ls:=pre++[i]) BU Bo)⟩
 obtain⟨dd,rfl⟩:=aaf ok (by rw[E];exact aG);have ok0:=ok;obtain⟨_,fF,hh,ahS,pD⟩:=ok0;obtain⟨d1,d2⟩:=down (p:=t.pg i) (by rw[E];exact po) fF hh jV;have jE:=pD _ d1;rw[←s6 d1] at jE;have K1:=d2;have ae2:pre++[i]++iS t k dd ((t.pg i).kids.getD (aL (t.pg i) k) 0)=iS t k h t.root:=(by rw[←Ub,append_assoc];rfl)
 have qq:=Iq (G:=G) (t.pg i) k (by rw[E];exact po.jG) (by rw[E];have:=po.eK;omega);have I:aL (t.af[i.toNat]'aa) k<(t.af[i.toNat]'aa).kids.length:=(by rw[←E];exact d1)
 have aiL:VP Tryz.prog G 56 [.agg (cP (t.af[i.toNat]'aa)),.list 1 (k.flatMap cB) k.length] (.v (.int .i64 (aL (t.af[i.toNat]'aa) k:Nat))):=(by rw[←E];exact qq)
 have Z:(t.pg i).kids.getD (aL (t.pg i) k) 0=(t.af[i.toNat]'aa).kids[aL (t.af[i.toNat]'aa) k]'I:=(by rw[E];exact s6 I)
 refine CD.skip ?_;refine fK 10 (ap (take 2 _)) ?_ (fun _ h=>(Sublist.map _ (take_sublist _ _)).subset h);refine ax 0 rfl bj ?_;refine ax 1 rfl (c8 2) ?_;refine ax 2 rfl (dB 0) ?_;refine ax 3 rfl (BD 0 [_,_,_,_,_]) ?_;refine ax 4 rfl bj ?_;refine dm.later rfl ?_;refine AD.one (i:=5) ay ?_;refine jv call56 (aiL) ?_;refine cr 6 rfl (c9 1 (h:=by first|exact .l (j:=aL (t.af[i.toNat]'aa) k) rfl I|exact .r (j:=aL (t.af[i.toNat]'aa) k) rfl I)) ?_;refine AD.one (i:=7) ay ?_;refine at_ rfl eU ?_;refine AD.one (i:=8) ay ?_;refine jj (bZ 0 [_]) [.int .i64 0] [_] zeroValue3 runUnderlying91 sizeOf3 (fun Xf=>?_);refine jk 0 43 1 1 ?_;refine AD.one (i:=9) ay ?_;refine bg.dZ (ls:=(pre++[i])) (new:=[(t.af[i.toNat]'aa).kids[aL (t.af[i.toNat]'aa) k]'I]) (Sq:=[⟨bl,3,O*1,flatMap cI (pre++[i])⟩]) ey nr rfl an rfl rfl underlying91 aag rfl w7 ot (bI (g:=cI) (ls:=pre++[i]) BU Bo) (dx (A:=[_,_])) ot bq vp gU (fun M6 K2 aiM aiN=>?_);refine AD.perm (dV (S1:=[⟨M6,3,K2*1,flatMap cI ((pre++[i])++[(t.af[i.toNat]'aa).kids[aL (t.af[i.toNat]'aa) k]'I])⟩]) (A:=[_,_])) ?_;refine eA ?_;refine bf [1,2,5] ?_
 refine⟨(dd,((t.pg i).kids.getD (aL (t.pg i) k) 0),(gY lo (t.pg i) (aL (t.pg i) k)),(gH (t.pg i) (aL (t.pg i) k)),(pre++[i]),(some ⟨M6,0,none⟩),K2,[⟨M6,3,K2*1,flatMap cI ((pre++[i])++[(t.af[i.toNat]'aa).kids[aL (t.af[i.toNat]'aa) k]'I])⟩]),_,cx,(aM (h:=by repeat (first|exact trivial|refine⟨(by (repeat (first|exact fw|(apply fP;focus (first|rfl|(simp;done)|(congr 2;omega)|(apply eE;rw[Z])|(apply eE;simp;done)))|(apply fA;focus rfl)));done),?_⟩))),jE,K1,ae2,gU,(bw.cast (bI aiM aiN) (by rw[Z])),rfl⟩
theorem adu(t:aE)(h:Nat)(v:Valid t h)(k:K):VP Tryz.prog G 55 [.agg (cT t),.list 1 (k.flatMap cB) k.length] (.list 1 ((iS t k h t.root).flatMap cI) (iS t k h t.root).length):=(RZ t h v k).given ey

def gZ(t:aE)(k:K)(h:Nat):Bool:=mP (t.pg (aI t k h t.root)).keys k
theorem DO{h:Nat}(v:Valid t h)(k:K):gZ t k h=true↔Bb t k h:=by
 unfold gZ mP Bb;have hl:=(v.leaf k).2;have fH:aL (t.pg (aI t k h t.root)) k=gl (t.pg (aI t k h t.root)).keys k:=(by unfold aL;rw[if_pos hl])
 rw[fH,decide_eq_true_iff,List.getElem?_eq_some_iff]
theorem R3(hl:p.leaf=true)(ha:aL p k<p.keys.length):decide (p.keys[aL p k]=k)=mP p.keys k:=by
 unfold mP;have fH:aL p k=gl p.keys k:=(by unfold aL;rw[if_pos hl])
 simp only[fH] at ha ⊢;rw[getElem?_eq_getElem ha];simp
theorem R4(hl:p.leaf=true)(ha:¬aL p k<p.keys.length):false=mP p.keys k:=by
 unfold mP;have fH:aL p k=gl p.keys k:=(by unfold aL;rw[if_pos hl])
 rw[fH] at ha;rw[getElem?_eq_none w4];rfl
theorem adw{h:Nat}{i:Int}:∃(hn:(iS t k h i).length-1<(iS t k h i).length),(iS t k h i)[(iS t k h i).length-1]=aI t k h i:=by
 have h1:=OV t k h i;rw[getLast?_eq_getElem?] at h1;exact List.getElem?_eq_some_iff.1 h1
theorem QA(hp:ez p n)(k:K):aL p k≤p.keys.length:=by
 unfold aL;split
 ·exact yp _ _
 exact AO _ _
theorem Em(t:aE)(k:K):∀(h:Nat) (i:Int),(iS t k h i).length=h+1
 | 0,i=>rfl
 | h+1,i=>by rw[iS,length_cons,Em t k h]
theorem pY(t:aE)(h:Nat)(v:Valid t h)(k:K)(dS:k.length≤maxLen)(U:(iS t k h t.root).length≤1000000):VP Tryz.prog G 33 [.agg (cT t),.list 1 (k.flatMap cB) k.length] (.dz [.v (.int .i64 (aI t k h t.root)),.v (.int .i64 (aL (t.pg (aI t k h t.root)) k:Nat)),.v (.bool (gZ t k h))]):=by
 refine VC.body func33 rfl ntmps33 aO fun X0 w0 aZ=>?_;unfold cT;have dy:maxLen=9223372036854775807:=rfl;have qq:=adu (G:=G) t h v k;unfold cT at qq;obtain⟨fY,Z⟩:=adw (t:=t) (k:=k) (h:=h) (i:=t.root);obtain⟨q1,J9⟩:=v.leaf k;have aa:(aI t k h t.root).toNat<t.af.length:=(by omega)
 have I:t.pg (aI t k h t.root)=(t.af[(aI t k h t.root).toNat]'aa):=u0 q1;have po:=v.page _ (jr q1);have M5:=v.mY;have U9:(iS t k h t.root).length≤1000000:=U;have aiO:=Iq (G:=G) (t.pg (aI t k h t.root)) k po.jG (by have:=po.eK;omega);have aiP:VP Tryz.prog G 56 [.agg (cP (t.af[(aI t k h t.root).toNat]'aa)),.list 1 (k.flatMap cB) k.length] (.v (.int .i64 (aL (t.af[(aI t k h t.root).toNat]'aa) k:Nat))):=(by rw[←I];exact aiO)
 have aiQ:∀x∈(t.af[(aI t k h t.root).toNat]'aa).keys,x.length≤maxLen:=fun x hx=>by rw[←I] at hx;have:=(po.kW x hx).2;omega
 have E:(t.af[(aI t k h t.root).toNat]'aa).leaf=true:=(by rw[←I];exact J9)
 have O:gZ t k h=mP (t.af[(aI t k h t.root).toNat]'aa).keys k:=(by unfold gZ;rw[I])
 have mB:=po.eK;have aiR:=(QA po k)
 rw[I] at mB aiR;refine bX ?_;refine OD.box (ds:=[_,_]) an rfl rfl ot rfl rfl (fun b2=>?_);refine aj 42 [1,2] ?_;refine cL [1,2,7] (qq) ?_;refine cN [1,2,4] ?_;refine aQ 4 ?_ (h:=by exact(c9 1 (h:=by first|exact .l (j:=(iS t k h t.root).length-1) w4 fY|exact .r (j:=(iS t k h t.root).length-1) w4 fY)));refine aQ 0 ?_ (h:=by exact(cJ (mk:=Op.load 3) rfl ot (pZ (d:=.v (.int .i64 (aI t k h t.root))) (i:=(iS t k h t.root).length-1) ey isAgg3 fY (by rw[Z];rfl))));refine bH ?_;refine aC 5 ?_;refine OD.alloc (ds:=[_,_,_,_,_]) an rfl rfl zeroValue93 rfl (fun b8=>?_);refine aN 0 [_,_,_,_,_] sizeOf93 ?_;refine aj 42 [1,4,8] ?_;refine cL [1,4,5,8] (aiP) ?_;refine aC 8 ?_;refine bS 33 (fun aiS agu=>?_) (fun aiS agu=>?_)
 ·refine aD 6 ?_;refine OD.gI gL rfl rfl rfl call57 (T9 ((t.af[(aI t k h t.root).toNat]'aa).keys[aL (t.af[(aI t k h t.root).toNat]'aa) k]'w4) k (aiQ _ (getElem_mem _)) dS) ⟨ot,ot,trivial⟩ ?_;refine aj 42 [4,5,6] ?_;refine aJ [] ?_;rw[O,I];first|exact⟨by rw[R3 E w4],rfl⟩|exact⟨by rw[←R4 E w4],rfl⟩
 refine bf [4,5,6] ?_;refine aJ [] ?_;rw[O,I];first|exact⟨by rw[R3 E w4],rfl⟩|exact⟨by rw[←R4 E w4],rfl⟩

end Go.Proofs.YtbcmjoaggammcaaGreatDoor.Tw
namespace Go.Proofs.YtbcmjoaggammcaaGreatDoor.Tw
open List
open Go.Proofs.Tryz
open Go.RowKit V Tr Pk
abbrev lD(ls:List Int)(ad:Option Addr)(cap:Nat)(S:List ag):Prop:=bw 3 1 (ls.flatMap cI) ls.length ad cap S
abbrev oD(ls:List K)(ad:Option Addr)(cap:Nat)(S:List ag):Prop:=bw 49 1 (ls.flatMap cK) ls.length ad cap S
variable {G:List (Nat×List Value)}
theorem aah:(Tryz.prog.info? 5).map (fun i=>(i.zero,i.size,i.bytes))=some (some (.int .u8 0),1,1):=by kernel_rfl
theorem jL(a:List UInt8)(ha:a.length≤1000000):VP Tryz.prog G 59 [.list 1 (a.flatMap cB) a.length] (.list 1 (a.flatMap cB) a.length):=by
 refine VC.body func59 rfl ntmps59 aO fun X0 w0 aZ=>?_;have dy:maxLen=9223372036854775807:=rfl;refine ae [0] ?_;refine aC 1 ?_;refine OD.yT an rfl rfl ot bJ underlying49 (fun O xD=>?_);refine aj 8 [0,4] ?_;refine aq (fun az aH=>?_) (fun az aH=>?_)
 ·exact Wl
 refine bX ?_;refine OD.yU an rfl rfl runUnderlying49 sizeOf5 (fun b5=>?_);refine aD 1 ?_;refine OD.oV (ls:=([]:List UInt8)) (new:=a) (Sq:=[⟨b5,5,0*1,[]⟩]) o9 wm an rfl rfl underlying49 aah rfl w7 runUnderlying49 sizeOf5 ot (.inr ⟨b5,rfl,Nat.le_refl _,Nat.zero_le _,rfl⟩) (dx (A:=[])) ot gU gU (fun E I S7 pH=>?_);exact UJ
theorem aai:(Tryz.prog.info? 3).map (fun i=>(i.zero,i.size,i.bytes))=some (some (.int .i64 0),1,8):=by kernel_rfl
theorem nJ(a:List Int)(ha:a.length≤1000000):VC Tryz.prog G 114 [.list 1 (a.flatMap cI) a.length] [] (fun r S=>∃ad cap,r = .v (.slice ad a.length cap)∧lD a ad cap S):=by
 refine VC.body func114 rfl ntmps114 aO fun X0 w0 aZ=>?_;have dy:maxLen=9223372036854775807:=rfl;refine ae [0] ?_;refine aC 1 ?_;refine OD.yT an rfl rfl ot bJ underlying91 (fun O xD=>?_);refine aj 8 [0,4] ?_;refine aq (fun az aH=>?_) (fun az aH=>?_)
 ·exact Gk
 refine bX ?_;refine OD.yU an rfl rfl runUnderlying91 sizeOf3 (fun b5=>?_);refine aD 1 ?_;refine OD.oV (ls:=([]:List Int)) (new:=a) (Sq:=[⟨b5,3,0*1,[]⟩]) ey nr an rfl rfl underlying91 aai rfl w7 runUnderlying91 sizeOf3 ot (.inr ⟨b5,rfl,Nat.le_refl _,Nat.zero_le _,rfl⟩) (dx (A:=[])) ot gU gU (fun E I S7 pH=>?_);exact Gm
theorem YY:(Tryz.prog.info? 49).map (fun i=>(i.zero,i.size,i.bytes))=some (some (.slice none 0 0),1,24):=by kernel_rfl
theorem vP(a:List K)(ha:a.length≤1000000):VC Tryz.prog G 145 [.list 1 (a.flatMap cK) a.length] [] (fun r S=>∃ad cap,r = .v (.slice ad a.length cap)∧oD a ad cap S):=by
 refine VC.body func145 rfl ntmps145 aO fun X0 w0 aZ=>?_;have dy:maxLen=9223372036854775807:=rfl;refine ae [0] ?_;refine aC 1 ?_;refine OD.yT an rfl rfl ot bJ underlying90 (fun O xD=>?_);refine aj 8 [0,4] ?_;refine aq (fun az aH=>?_) (fun az aH=>?_)
 ·exact Gk
 refine bX ?_;refine OD.yU an rfl rfl runUnderlying90 sizeOf49 (fun b5=>?_);refine aD 1 ?_;refine OD.oV (ls:=([]:List K)) (new:=a) (Sq:=[⟨b5,49,0*1,[]⟩]) gb pc an rfl rfl underlying90 YY rfl w7 runUnderlying90 sizeOf49 ot (.inr ⟨b5,rfl,Nat.le_refl _,Nat.zero_le _,rfl⟩) (dx (A:=[])) ot gU gU (fun E I S7 pH=>?_);exact Gm

end Go.Proofs.YtbcmjoaggammcaaGreatDoor.Tw
