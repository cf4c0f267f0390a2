/-
  What the proof of InsertBad leans on, part 5 of 8: walks of the program's functions at the level of values, and plain facts of what they compute.
-/
import Derived.Test.YtbcmjoaggammcaaGreatDoorPInsertBad4
set_option linter.unusedVariables false
set_option linter.unusedSimpArgs false
set_option maxRecDepth 100000
set_option maxHeartbeats 4000000
namespace Go.Proofs.YtbcmjoaggammcaaGreatDoor.Ex
open List
open Go.Proofs.Tryz
open Go.RowKit V Pk Vl Cd
variable {i:Nat} {a b:Vl} {p:Vl→Prop}
def wr(n:Int):Int:=IntKind.i64.wrap n
theorem afH(n:Int):-9223372036854775808≤wr n∧wr n≤9223372036854775807:=by unfold wr;rw[IntKind.wrap_i64];omega
def pR(b:Bool):Vl:=if b=true then ⟨1,1,⟨#[]⟩⟩ else ⟨1,0,⟨#[]⟩⟩
def iw(a b:Vl)(i:Nat):Vl:=if i=0 then a else b
theorem G6(a b:Vl)(h:i<2):(([.v (.int .i64 a.k),.v (.int .i64 a.n),.v (.string a.s),.v (.int .i64 b.k),.v (.int .i64 b.n),.v (.string b.s)]:List D).drop (i*3)).take 3=[.v (.int .i64 (iw a b i).k),.v (.int .i64 (iw a b i).n),.v (.string (iw a b i).s)]:=by
 match i,h with
 | 0,_|1,_=>rfl
def kO(a b:Vl)(d:Int):Vl×Int :=
 if (a.k≠1∧a.k≠0)∨(b.k≠1∧b.k≠0) then (bE,4) else if a.k=1∧a.n=d then (a,0) else if b.k=1∧b.n=d then (b,0) else if a.k=0∨b.k=0 then (bE,0) else (a,0)
theorem Ig(h:∀j,j<i→p (iw a b j))(hi:2≤i):p a∧p b:=⟨h 0 w4,h 1 w4⟩
theorem DY(h:∀j,j<i→p (iw a b j))(h1:p (iw a b i)):∀j,j<i+1→p (iw a b j):=fun j hj=>by
 by_cases e:j=i
 ·subst e;exact h1
 exact h j w4
theorem Zg{d:Int}(hi:i<2)(h1:(iw a b i).k≠1)(h2:(iw a b i).k≠0):kO a b d=(bE,4):=by
 unfold kO;match i,hi with
 | 0,_=>rw[if_pos (.inl ⟨h1,h2⟩)]
 | 1,_=>rw[if_pos (.inr ⟨h1,h2⟩)]
theorem Zh{d:Int}(hi:i<2)(hg:¬((a.k≠1∧a.k≠0)∨(b.k≠1∧b.k≠0)))(h0:∀j,j<i→¬((iw a b j).k=1∧(iw a b j).n=d))(h1:(iw a b i).k=1)(h2:(iw a b i).n=d):kO a b d=(iw a b i,0):=by
 unfold kO;rw[if_neg hg];match i,hi with
 | 0,_=>rw[if_pos ⟨h1,h2⟩];rfl
 | 1,_=>rw[if_neg (show ¬(a.k=1∧a.n=d) from h0 0 w4),if_pos (show b.k=1∧b.n=d from⟨h1,h2⟩)];rfl
def oS(k a b:Int):Int×Bool :=
 if k=8 then (wr (a+b),decide (wr (a+b)<a)==decide (b<0)) else if k=9 then (wr (a-b),decide (wr (a-b)>a)==decide (b<0))
 else (wr (a*b),a==0||(wr ((wr (a*b)).tdiv a)==b && !(a == -1&&b == -9223372036854775808)))
def qD(a b:Vl):Bool:=a.k==0||b.k==0
def gW(k:Int)(a b:Vl):Vl×Int :=
 if mg a b≠0 then (bE,mg a b) else if k=3 then kO a b 0 else if k=4 then kO a b 1
 else if k=6∨k=7 then (if qD a b=true then (bE,0) else if a.k≠b.k then (bE,4) else (pR ((gj a b==0&&k==6)||(decide (gj a b<0)&&k==7)),0))
 else if k=8∨k=9∨k=10 then (if (a.k≠2∧a.k≠0)∨(b.k≠2∧b.k≠0) then (bE,4) else if qD a b=true then (bE,0) else if (oS k a.n b.n).2=true then (⟨2,(oS k a.n b.n).1,⟨#[]⟩⟩,0) else (bE,5))
 else (bE,2)
def s9(k:Int)(a:Vl):Vl×Int :=
 if dL a≠0 then (bE,dL a) else if k=11 then (pR (a.k==0),0)
 else if k=5 then (if a.k=0 then (a,0) else if a.k=1 then (pR (a.n==0),0) else (bE,4)) else (bE,2)
def mD(r:Vl×Int):D:=.dz [.agg (cV r.1),.v (.int .i64 r.2)]
variable {G:List (Nat×List Value)}
theorem qu(b:Bool):VP Tryz.prog G 177 [.v (.bool b)] (.agg (cV (pR b))):=by
 refine VC.body func177 rfl ntmps177 aO fun X0 w0 aX=>?_;refine bX ?_;refine OD.alloc (ds:=[_,_,_]) an rfl rfl zeroValue30 rfl (fun b2=>?_);refine aj 6 [0,2] ?_;refine ae [2,3] ?_;refine aq (fun az aG=>?_) (fun az aG=>?_)
 ·refine aC 1 ?_;refine aN 0 [_,_,_] sizeOf30 ?_;refine aj 6 [2] ?_;refine aJ [] ?_;refine⟨?_,rfl⟩;unfold pR;simp_all[cV]
 refine aC 1 ?_;refine aN 0 [_,_,_] sizeOf30 ?_;refine aj 6 [2] ?_;refine aJ [] ?_;refine⟨?_,rfl⟩;unfold pR;simp_all[cV]
theorem Rh(a b:Vl):VP Tryz.prog G 179 [.agg (cV a),.agg (cV b)] (.v (.bool (qD a b))):=by
 refine VC.body func179 rfl ntmps179 aO fun X0 w0 aX=>?_;unfold cV;refine bX ?_;refine OD.box (ds:=[_,_,_]) an rfl rfl ot rfl rfl (fun b2=>?_);refine OD.box (ds:=[_,_,_]) an rfl rfl ot rfl rfl (fun b3=>?_);refine aj 13 [2,3] ?_;refine aC 4 ?_;refine bS 8 (fun I E=>?_) (fun I E=>?_)
 ·refine aZ [4] ?_;refine eA ?_;refine⟨vb ?_,rfl⟩;unfold qD;simp_all
 refine aZ [4] ?_;refine eA ?_;refine⟨vb ?_,rfl⟩;unfold qD;simp_all
theorem PO(a b:Vl)(d:Int):VP Tryz.prog G 178 [.agg (cV a),.agg (cV b),.v (.int .i64 d)] (mD (kO a b d)):=by
 refine VC.body func178 rfl ntmps178 aO fun X0 w0 aX=>?_;unfold mD cV;have mT:=Rh (G:=G) a b;unfold cV at mT;refine bX ?_;refine OD.box (ds:=[_,_,_]) an rfl rfl ot rfl rfl (fun b3=>?_);refine OD.box (ds:=[_,_,_]) an rfl rfl ot rfl rfl (fun b4=>?_);refine OD.alloc (ds:=[_,_,_]) an rfl rfl zeroValue30 rfl (fun b6=>?_);refine aj 50 [2,3,4,6] ?_;refine cM [2,3,4,6,14,15] ?_;refine aP 2 ?_ (h:=by exact(Dy (pl:=[(0,_),(1,_)]) (ds:=[_,_,_,_,_,_]) rfl zeroValue252 runUnderlying252 sizeOf30 ⟨rfl,ot,rfl,ot,trivial⟩ rfl rfl));refine bM ?_;refine eI [2,3,4,6,14] (fun aV _ (i:Nat) aK=>(i≤2)∧(∀j,j<i→¬((iw a b j).k≠1∧(iw a b j).k≠0))∧aK=(⟨50,(15,.v (.int .i64 (i:Nat)))::aV,[⟨b6,30,3,[.v (.int .i64 0),.v (.int .i64 0),.v (.string ⟨#[]⟩)]⟩,⟨b4,30,3,[.v (.int .i64 b.k),.v (.int .i64 b.n),.v (.string b.s)]⟩,⟨b3,30,3,[.v (.int .i64 a.k),.v (.int .i64 a.n),.v (.string a.s)]⟩]⟩:St)) (fun (i:Nat)=>2-i) 0 ⟨(Nat.zero_le _),(fun j hj=>absurd hj (Nat.not_lt_zero _)),rfl⟩ ?_;rintro i _ ⟨hi,eY,rfl⟩;refine ae [2,3,4,6,14,15,16] ?_;refine aq (fun az aG=>?_) (fun az aG=>?_)
 ·have aa:i<2:=(by omega)
  refine bX ?_;refine bJ (GP (j:=i) rfl ot ot runUnderlying252 sizeOf30 isAgg30 rfl aa (G6 a b aa)) ?_;refine OD.alloc (ds:=[_,_,_]) an rfl rfl zeroValue30 rfl (fun b9=>?_);refine aN 0 [_,_,_] sizeOf30 ?_;refine aj 50 [2,3,4,6,9,14,15] ?_;refine aC 4 ?_;refine bS 21 (fun qb I=>?_) (fun qb I=>?_)
  ·refine aZ [2,3,4,6,14,15,25] ?_;refine aq (fun aH aU=>?_) (fun aH aU=>?_)
   ·have aS:kO a b d=(bE,4):=Zg aa (by simp_all) (by simp_all);refine aC 1 ?_;refine aN 1 [_,_,_] sizeOf30 ?_;refine aj 50 [6,7] ?_;exact z46
   exact VA
  refine aZ [2,3,4,6,14,15,25] ?_;refine fF ?_;exact VA
 have B6:=Ig (p:=fun v=>¬(v.k≠1∧v.k≠0)) eY w4;have hg:¬((a.k≠1∧a.k≠0)∨(b.k≠1∧b.k≠0)):=fun h=>h.elim B6.1 B6.2;clear eY hi;refine cM [2,3,4,6,30,31] ?_;refine aP 2 ?_ (h:=by exact(Dy (pl:=[(0,_),(1,_)]) (ds:=[_,_,_,_,_,_]) rfl zeroValue252 runUnderlying252 sizeOf30 ⟨rfl,ot,rfl,ot,trivial⟩ rfl rfl));refine bM ?_;refine eI [2,3,4,6,30] (fun aV _ (i:Nat) aK=>(i≤2)∧(∀j,j<i→¬((iw a b j).k=1∧(iw a b j).n=d))∧aK=(⟨50,(31,.v (.int .i64 (i:Nat)))::aV,[⟨b6,30,3,[.v (.int .i64 0),.v (.int .i64 0),.v (.string ⟨#[]⟩)]⟩,⟨b4,30,3,[.v (.int .i64 b.k),.v (.int .i64 b.n),.v (.string b.s)]⟩,⟨b3,30,3,[.v (.int .i64 a.k),.v (.int .i64 a.n),.v (.string a.s)]⟩]⟩:St)) (fun (i:Nat)=>2-i) 0 ⟨(Nat.zero_le _),(fun j hj=>absurd hj (Nat.not_lt_zero _)),rfl⟩ ?_;rintro i _ ⟨Z,Jz,rfl⟩;refine ae [2,3,4,6,30,31,32] ?_;refine aq (fun aY bz=>?_) (fun aY bz=>?_)
 ·have aa:i<2:=(by omega)
  refine bX ?_;refine bJ (GP (j:=i) rfl ot ot runUnderlying252 sizeOf30 isAgg30 rfl aa (G6 a b aa)) ?_;refine OD.alloc (ds:=[_,_,_]) an rfl rfl zeroValue30 rfl (fun kg=>?_);refine aN 0 [_,_,_] sizeOf30 ?_;refine aj 50 [2,3,4,6,11,30,31] ?_;refine aC 4 ?_;refine bS 37 (fun U O=>?_) (fun U O=>?_)
  ·refine aZ [2,3,4,6,11,30,31,42] ?_;refine aq (fun bF bY=>?_) (fun bF bY=>?_)
   ·have aS:kO a b d=(iw a b i,0):=Zh aa hg Jz (by simp_all) (by simp_all);refine aC 1 ?_;refine aN 1 [_,_,_] sizeOf30 ?_;refine aj 50 [6,7] ?_;exact z46
   exact z85
  refine aZ [2,3,4,6,11,30,31,42] ?_;refine fF ?_;exact z85
 have E:=Ig (p:=fun v=>¬(v.k=1∧v.n=d)) Jz w4;refine cL [3,6,47] (mT) ?_;refine aq (fun cx c8=>?_) (fun cx c8=>?_)
 ·have aS:kO a b d=(bE,0):=(by unfold kO;rw[if_neg hg,if_neg E.1,if_neg E.2,if_pos (by unfold qD at cx;simpa using cx)])
  refine aC 1 ?_;refine aN 0 [_,_,_] sizeOf30 ?_;refine aj 50 [6,7] ?_;exact z46
 have aS:kO a b d=(a,0):=(by unfold kO;rw[if_neg hg,if_neg E.1,if_neg E.2,if_neg (by unfold qD at cx;simpa using cx)])
 refine aC 1 ?_;refine aN 0 [_,_,_] sizeOf30 ?_;refine aj 50 [6,7] ?_;exact tI
theorem aaT(k a b:Int):VP Tryz.prog G 180 [.v (.int .i64 k),.v (.int .i64 a),.v (.int .i64 b)] (.dz [.v (.int .i64 (oS k a b).1),.v (.bool (oS k a b).2)]):=by
 refine VC.body func180 rfl ntmps180 aO fun X0 w0 aX=>?_;refine ae [0,1,2] ?_;refine ae [1,2,11] ?_;refine ae [1,2,11,12] ?_;refine aq (fun az aG=>?_) (fun az aG=>?_)
 ·refine cM [1,2,8] ?_;refine aP 2 ?_ (h:=by exact(cW (r:=.int .i64 (wr (a+b))) rfl ot ot (jW rfl)));exact VD
 refine ae [1,2,24] ?_;refine aq (fun aH aU=>?_) (fun aH aU=>?_)
 ·refine cM [1,2,9] ?_;refine aP 2 ?_ (h:=by exact(cW (r:=.int .i64 (wr (a-b))) rfl ot ot (fU rfl)));exact VD
 refine cM [1,2,10] ?_;refine aP 2 ?_ (h:=by exact(cW (r:=.int .i64 (wr (a*b))) rfl ot ot (Im rfl)));refine bM ?_;refine aC 4 ?_;refine bS 42 (fun qH E=>?_) (fun qH E=>?_)
 ·refine aZ [6,7] ?_;refine LF ?_;refine⟨?_,rfl⟩;unfold oS;simp_all
 refine aD 2 ?_;refine OD.still gN rfl (cW (r:=.int .i64 (wr ((wr (a*b)).tdiv a))) rfl ot ot (ab0 (by simpa using qH) rfl)) ?_;refine aD 3 ?_;refine bS 48 (fun U I=>?_) (fun U I=>?_)
 ·refine aD 3 ?_;refine bS 51 (fun Z O=>?_) (fun Z O=>?_)
  ·refine aj 58 [6,7] ?_;refine aJ [] ?_;refine⟨?_,rfl⟩;unfold oS;simp_all
  refine aj 58 [6,7] ?_;refine aJ [] ?_;refine⟨?_,rfl⟩;unfold oS;simp_all
 refine aj 58 [6,7] ?_;refine aJ [] ?_;refine⟨?_,rfl⟩;unfold oS;simp_all
theorem aeq(k:Int)(a:Vl):VP Tryz.prog G 158 [.v (.int .i64 k),.agg (cV a)] (mD (s9 k a)):=by
 refine VC.body func158 rfl ntmps158 aO fun X0 w0 aX=>?_;unfold mD;have eZ:=Vl.oP (G:=G) a;unfold cV at eZ;unfold cV;refine bX ?_;refine OD.box (ds:=[_,_,_]) an rfl rfl ot rfl rfl (fun b3=>?_);refine OD.alloc (ds:=[_,_,_]) an rfl rfl zeroValue30 rfl (fun b4=>?_);refine aj 35 [0,3,4] ?_;refine cL [0,3,4,6] (eZ) ?_;refine ae [0,3,4,6,10] ?_;refine aq (fun az aG=>?_) (fun az aG=>?_)
 ·refine aC 2 ?_;exact Ca
 refine ae [3,4,13] ?_;refine ae [3,4,13,14] ?_;refine aq (fun aH aU=>?_) (fun aH aU=>?_)
 ·refine aC 3 ?_;refine dJ call177 (qu _) ?_;exact Ca
 refine ae [3,4,20] ?_;refine aq (fun aY bz=>?_) (fun aY bz=>?_)
 ·refine ae [3,4,23] ?_;refine ae [3,4,23,24] ?_;refine aq (fun bF bY=>?_) (fun bF bY=>?_)
  ·refine aC 1 ?_;exact Ca
  refine ae [3,4,27] ?_;refine aq (fun cx c8=>?_) (fun cx c8=>?_)
  ·refine aC 3 ?_;refine dJ call177 (qu _) ?_;exact Ca
  refine aC 1 ?_;exact Ca
 refine aC 1 ?_;refine aN 0 [_,_,_] sizeOf30 ?_;refine aj 35 [4,5] ?_;refine aJ [] ?_;refine⟨?_,rfl⟩;unfold s9;simp_all[bE]
theorem abV{k:Int}(h0:mg a b=0)(hk:k=8∨k=9∨k=10)(hi:i<2)(h1:(iw a b i).k≠2)(h2:(iw a b i).k≠0):gW k a b=(bE,4):=by
 unfold gW;rw[if_neg (by simp[h0]),if_neg w4,if_neg w4,if_neg w4,if_pos hk];match i,hi with
 | 0,_=>rw[if_pos (.inl ⟨h1,h2⟩)]
 | 1,_=>rw[if_pos (.inr ⟨h1,h2⟩)]
theorem NU{k:Int}(h0:mg a b=0)(hk:k=8∨k=9∨k=10)(hg:¬((a.k≠2∧a.k≠0)∨(b.k≠2∧b.k≠0))) :
  gW k a b=if qD a b=true then (bE,0) else if (oS k a.n b.n).2=true then (⟨2,(oS k a.n b.n).1,⟨#[]⟩⟩,0) else (bE,5):=by
 unfold gW;rw[if_neg (by simp[h0]),if_neg w4,if_neg w4,if_neg w4,if_pos hk,if_neg hg]
theorem aer(k:Int)(a b:Vl)(oa:a.Ok)(ob:b.Ok):VP Tryz.prog G 159 [.v (.int .i64 k),.agg (cV a),.agg (cV b)] (mD (gW k a b)):=by
 refine VC.body func159 rfl ntmps159 aO fun X0 w0 aX=>?_;unfold mD;have pp:=Cd.Q4 (G:=G) a b;have mT:=Rh (G:=G) a b;have mw:=PO (G:=G) a b 0;have jN:=PO (G:=G) a b 1;have eZ:=Cd.NE (G:=G) a b oa ob;have wS:=aaT (G:=G) k a.n b.n;unfold mD at mw jN;unfold cV at pp mT mw jN eZ;unfold cV;refine bX ?_;refine OD.box (ds:=[_,_,_]) an rfl rfl ot rfl rfl (fun b4=>?_);refine OD.box (ds:=[_,_,_]) an rfl rfl ot rfl rfl (fun b5=>?_);refine OD.alloc (ds:=[_,_,_]) an rfl rfl zeroValue30 rfl (fun b6=>?_);refine aj 106 [0,4,5,6] ?_;refine cL [0,4,5,6,8] (pp) ?_;refine ae [0,4,5,6,8,18] ?_;refine aq (fun az aG=>?_) (fun az aG=>?_)
 ·have nQ:mg a b≠0:=(by simpa using az)
  have aS:gW k a b=(bE,mg a b):=(by unfold gW;rw[if_pos nQ])
  refine aC 2 ?_;exact z7
 have nQ:mg a b=0:=(by simpa using az)
 refine ae [0,4,5,6,21] ?_;refine ae [0,4,5,6,21,22] ?_;refine aq (fun aH aU=>?_) (fun aH aU=>?_)
 ·have aS:gW k a b=kO a b 0:=(by unfold gW;rw[if_neg (by simp[nQ]),if_pos w4])
  refine aC 2 ?_;refine dJ call178 (mw) ?_;refine aD 2 ?_;exact z7
 refine ae [0,4,5,6,21,29] ?_;refine aq (fun aY bz=>?_) (fun aY bz=>?_)
 ·have aS:gW k a b=kO a b 1:=(by unfold gW;rw[if_neg (by simp[nQ]),if_neg w4,if_pos w4])
  refine aC 2 ?_;refine dJ call178 (jN) ?_;refine aD 2 ?_;exact z7
 refine ae [0,4,5,6,21,36] ?_;refine aq (fun bF bY=>?_) (fun bF bY=>?_)
 ·refine ez ?_;exact TU
 refine cj [0,4,5,6,21,36] ?_;refine aq (fun cx c8=>?_) (fun cx c8=>?_)
 ·exact TU
 refine ae [0,4,5,6,21,67] ?_;refine aq (fun eG fY=>?_) (fun eG fY=>?_)
 ·refine ez ?_;exact z6
 refine ae [0,4,5,6,21,67] ?_;refine aq (fun kR E=>?_) (fun kR E=>?_)
 ·refine ez ?_;exact z6
 refine cj [0,4,5,6,67] ?_;refine aq (fun O I=>?_) (fun O I=>?_)
 ·exact z6
 have aS:gW k a b=(bE,2):=(by unfold gW;rw[if_neg (by simp[nQ]),if_neg w4,if_neg w4,if_neg w4,if_neg w4])
 refine aC 1 ?_;refine aN 0 [_,_,_] sizeOf30 ?_;refine aj 106 [6,7] ?_;refine aJ [] ?_;rw[aS];first|exact⟨rfl,rfl⟩|(refine⟨?_,rfl⟩;clear aS eZ wS mw jN pp mT;generalize (gj a b==0)=z1 at *;generalize (decide (gj a b<0))=z2 at *;subst_vars;simp_all;done)

end Go.Proofs.YtbcmjoaggammcaaGreatDoor.Ex
namespace Go.Proofs.YtbcmjoaggammcaaGreatDoor.Ex
open List
open Go.Proofs.Tryz
open Go.RowKit V Pk Vl Go.Proofs.YtbcmjoaggammcaaGreatDoor.Nm Pc
variable {a b:Vl} {l:List cu} {row:List Vl} {ops:List aW}
def fN(l:List cu)(row:List Vl)(o:aW)(a b:Vl):Vl×Int :=
 if bQ o.k=1 then s9 o.k a else if bQ o.k=2 then gW o.k a b else if o.k=2 then (row.getD (bN l o.nm).toNat bE,0) else (o.v,0)
def uJ(l:List cu)(row:List Vl)(ops:List aW):Vl×Int:=jq bE (fN l row) ops []
def fh(l:List cu)(row:List Vl)(ops:List aW):Vl×Int :=
 if dW l row≠0 then (bE,dW l row) else if (ec l ops).2≠0 then (bE,(ec l ops).2) else uJ l row ops
theorem sZ:bE.Ok:=⟨by decide,by decide,by decide,by decide,Nat.zero_le _⟩
theorem PP(b:Bool):(pR b).Ok:=by unfold pR;split<;>exact⟨by decide,by decide,by decide,by decide,Nat.zero_le _⟩
theorem ok_int{n:Int}(h:-9223372036854775808≤n∧n≤9223372036854775807):(⟨2,n,⟨#[]⟩⟩:Vl).Ok:=⟨by show -9223372036854775808≤(2:Int);decide,by show(2:Int)≤_;decide,h.1,h.2,Nat.zero_le _⟩
theorem aaU{d:Int}(oa:a.Ok)(ob:b.Ok):(kO a b d).1.Ok:=by
 unfold kO;repeat' split
 all_goals first|exact sZ|exact oa|exact ob
theorem ok_two{k:Int}(oa:a.Ok)(ob:b.Ok):(gW k a b).1.Ok:=by
 unfold gW;repeat' split
 all_goals first|exact sZ|exact aaU oa ob|exact PP _|skip
 unfold oS;repeat' split
 all_goals exact ok_int (afH _)
theorem ok_one{k:Int}(oa:a.Ok):(s9 k a).1.Ok:=by
 unfold s9;repeat' split
 all_goals first|exact sZ|exact oa|exact PP _
theorem Ri(hr:∀v∈row,v.Ok){o:aW}(ho:o.v.Ok)(oa:a.Ok)(ob:b.Ok):(fN l row o a b).1.Ok:=by
 unfold fN;split
 ·exact ok_one oa
 split
 ·exact ok_two oa ob
 split
 ·show(row.getD _ bE).Ok;rw[getD_eq_getElem?_getD];cases h:row[(bN l o.nm).toNat]? with
  | none=>exact sZ
  | some v=>exact hr v (mem_of_getElem? h)
 exact ho
theorem ID{st:List Vl}(h:∀v∈st,v.Ok)(j:Nat):(st.getD j bE).Ok:=by
 rw[getD_eq_getElem?_getD];cases hj:st[j]? with
 | none=>exact sZ
 | some v=>exact h v (mem_of_getElem? hj)
theorem AJ{st:List Vl}(h:∀v∈st,v.Ok)(k:Int):(e9 bE k st).Ok:=by unfold e9;split;exact ID h _;exact sZ
theorem AK{st:List Vl}(h:∀v∈st,v.Ok)(k:Int):(eT bE k st).Ok:=by unfold eT;split;exact ID h _;exact sZ
theorem Oj{α:Type}{z:α}{f:aW→α→α→α × Int}:∀{l:List aW} {st:List α},(jq z f l st).2=0→∀o∈l,∃a b,(f o a b).2=0
 | [],_,_,o,ho=>by cases ho
 | x::r,st,h,o,ho=>by
  rw[jq] at h;split at h
  ·rename_i hne;exact absurd h hne
  rename_i he;rcases mem_cons.1 ho with rfl|ho
  ·exact⟨_,_,Classical.not_not.1 he⟩
  exact Oj h o ho
theorem Ol(h:(sY l ops).2=0):∀o∈ops,o.k=2→0≤bN l o.nm:=fun o ho hk=>by
 obtain⟨a,b,he⟩:=Oj h o ho;unfold iN at he;rw[if_neg w4,if_pos hk] at he;unfold uz at he;split at he
 ·cases he
 omega
theorem Is(h:dW l row=0):row.length=l.length:=by
 unfold dW at h;split at h
 ·rename_i h1;exact absurd h h1
 split at h
 ·cases h
 omega
theorem Eu(h:(ec l ops).2=0):fw l=0∧iD ops=0∧ec l ops=sY l ops:=by
 unfold ec at h ⊢;split at h
 ·rename_i h1;exact absurd h h1
 rename_i h1;split at h
 ·rename_i h2;exact absurd h h2
 rename_i h2;exact⟨Classical.not_not.1 h1,Classical.not_not.1 h2,by rw[if_neg h1,if_neg h2]⟩
variable {G:List (Nat×List Value)}
theorem Hi(l:List cu)(hl:l.length≤6)(row:List Vl)(q8:row.length=l.length)(o:aW)(I:o.k=2→0≤bN l o.nm)(a b a' b':Vl)(ha:a=a')(hb:b=b')(oa:a.Ok)(ob:b.Ok)(br bc:Nat):VC Tryz.prog G 156 [.agg (cO o),.agg (cV a'),.agg (cV b'),.v (.pointer (some ⟨br,0,none⟩)),.v (.pointer (some ⟨bc,0,none⟩))] [⟨br,27,1,[.list 3 (row.flatMap cV) row.length]⟩,⟨bc,38,1,[.list 2 (l.flatMap cC) l.length]⟩] (fun r S=>r=mD (fN l row o a b)∧S=[⟨br,27,1,[.list 3 (row.flatMap cV) row.length]⟩,⟨bc,38,1,[.list 2 (l.flatMap cC) l.length]⟩]):=by
 refine VC.body func156 rfl ntmps156 aO fun X0 w0 aX=>?_;subst ha hb;have my:=aeq (G:=G) o.k a;have E:=aer (G:=G) o.k a b oa ob;unfold mD at my E ⊢;unfold cV at my E;unfold cO cV;have U:=yh (fun c:cu=>c.n.toList==o.nm.toList) l;have O:bN l o.nm=dO (fun c:cu=>c.n.toList==o.nm.toList) l:=rfl;rw[←O] at U;clear O;refine bX ?_;refine OD.box (ds:=[_,_,_,_,_]) an rfl rfl ot rfl rfl (fun b5=>?_);refine OD.box (ds:=[_,_,_]) an rfl rfl ot rfl rfl (fun b6=>?_);refine OD.box (ds:=[_,_,_]) an rfl rfl ot rfl rfl (fun b7=>?_);refine OD.alloc (ds:=[_,_,_]) an rfl rfl zeroValue30 rfl (fun b8=>?_);refine aj 42 [3,4,5,6,7,8] ?_;refine cL [3,4,5,6,7,8,12] (Ea o.k) ?_;refine ae [3,4,5,6,7,8,12,13] ?_;refine aq (fun az aG=>?_) (fun az aG=>?_)
 ·have aS:fN l row o a b=s9 o.k a:=(by unfold fN;rw[if_pos w4])
  refine aC 3 ?_;refine dJ call158 (my) ?_;refine aD 2 ?_;exact Ke
 refine ae [3,4,5,6,7,8,21] ?_;refine aq (fun aH aU=>?_) (fun aH aU=>?_)
 ·have aS:fN l row o a b=gW o.k a b:=(by unfold fN;rw[if_neg w4,if_pos w4])
  refine aC 4 ?_;refine dJ call159 (E) ?_;refine aD 2 ?_;exact Ke
 refine ae [3,4,5,8,32] ?_;refine aq (fun aY bz=>?_) (fun aY bz=>?_)
 ·have fj:o.k=2:=(by omega)
  have az:=I fj;have Z:(bN l o.nm).toNat<row.length:=(by omega)
  have aS:fN l row o a b=(row[(bN l o.nm).toNat],0):=(by unfold fN;rw[if_neg w4,if_neg w4,if_pos fj,getD_eq_getElem?_getD,getElem?_eq_getElem Z];rfl)
  refine CD.seq ?_;refine lT 7 [8,39] ?_;refine cU (qx l hl o.nm) ?_;refine bM ?_;exact Ke
 have aS:fN l row o a b=(o.v,0):=(by unfold fN;rw[if_neg w4,if_neg w4,if_neg w4])
 refine aC 2 ?_;refine aN 0 [_,_,_] sizeOf30 ?_;refine aj 42 [8,9] ?_;exact VL
theorem XY:(Tryz.prog.info? 30).map (fun i=>(i.zero,i.size,i.bytes))=some (some (.agg #[.int .i64 0,.int .i64 0,.string ⟨#[]⟩]),3,32):=by kernel_rfl
theorem aaV(l:List cu)(hl:l.length≤6)(row:List Vl)(q8:row.length=l.length)(BF:∀v∈row,v.Ok)(ops:List aW)(fH:∀o∈ops,o.v.Ok)(E:∀o∈ops,o.k=2→0≤bN l o.nm)(pD:ops.length≤40)(hx:fy 0 ops=0)(br bc:Nat):VC Tryz.prog G 155 [.list 5 (ops.flatMap cO) ops.length,.eo (.func 156) [.v (.pointer (some ⟨br,0,none⟩)),.v (.pointer (some ⟨bc,0,none⟩))]] [⟨br,27,1,[.list 3 (row.flatMap cV) row.length]⟩,⟨bc,38,1,[.list 2 (l.flatMap cC) l.length]⟩] (fun r S=>r=mD (uJ l row ops)∧S=[⟨br,27,1,[.list 3 (row.flatMap cV) row.length]⟩,⟨bc,38,1,[.list 2 (l.flatMap cC) l.length]⟩]):=by
 refine VC.body func155 rfl ntmps155 aO fun X0 w0 aX=>?_;unfold mD;refine bX ?_;refine OD.alloc (ds:=[_,_,_]) an rfl rfl zeroValue30 rfl (fun b4=>?_);refine aj 64 [0,1,4] ?_;refine bX ?_;refine OD.alloc (ds:=[_,_,_]) an rfl rfl zeroValue30 rfl (fun b6=>?_);refine OD.perm (Aw (k:=2) (k':=2) rfl rfl) ?_;refine aj 64 [0,1,4,6] ?_;refine bX ?_;refine aZ [0,1,4,6,7] ?_;refine ae [1,4,6,7,16,17,18] ?_;refine CD.block ?_
 refine mB (fun (I:Nat×List Vl×Option Addr×Nat×List ag) aK=>match I with|(i,st,O,jQ,Sh)=>(i≤ops.length)∧(st.length≤i)∧(fy ((st.length:Nat):Int) (ops.drop i)=0)∧(uJ l row ops=jq bE (fN l row) (ops.drop i) st)∧(∀v∈st,v.Ok)∧(bu 30 3 ((st).flatMap cV) (st).length O jQ Sh)∧aK=(⟨64,[(1,.eo (.func 156) [.v (.pointer (some ⟨br,0,none⟩)),.v (.pointer (some ⟨bc,0,none⟩))]),(4,.v (.pointer (some ⟨b4,0,none⟩))),(6,.v (.pointer (some ⟨b6,0,none⟩))),(7,.v (.slice O (st).length jQ)),(16,.list 5 (ops.flatMap cO) ops.length),(17,.v (.int .i64 (ops.length:Nat))),(18,.v (.int .i64 (i:Nat)))],(⟨br,27,1,[.list 3 (row.flatMap cV) row.length]⟩::⟨bc,38,1,[.list 2 (l.flatMap cC) l.length]⟩::⟨b6,30,3,[.v (.int .i64 0),.v (.int .i64 0),.v (.string ⟨#[]⟩)]⟩::⟨b4,30,3,[.v (.int .i64 0),.v (.int .i64 0),.v (.string ⟨#[]⟩)]⟩::Sh)⟩:St)) (fun (I:Nat×List Vl×Option Addr×Nat×List ag)=>match I with|(i,st,O,jQ,Sh)=>ops.length-i) (0,[],none,0,[]) ⟨(Nat.zero_le _),(Nat.zero_le _),hx,rfl,(fun v U=>by cases U),(bu.cast iA lu),rfl⟩ (aM (h:=by repeat (first|exact trivial|refine⟨FN,?_⟩))) ?_;rintro⟨i,st,O,jQ,Sh⟩ _ ⟨hi,fq,hex,hinv,aR,nw,rfl⟩;refine ae [1,4,6,7,16,17,18,19] ?_;refine aq (fun az aG=>?_) (fun az aG=>?_)
 ·have aa:i<ops.length:=(by omega)
  obtain⟨he,xB⟩:=Oi aa hex;obtain⟨qU,Uk,xC,qh⟩:=vH he;have Cz:=sM ops[i].k;have r8:(st.take (st.length-(bQ ops[i].k).toNat)++[(fN l row ops[i] (e9 bE ops[i].k st) (eT bE ops[i].k st)).1]).length=st.length+1-(bQ ops[i].k).toNat:=(by rw[length_append,length_take,length_singleton];omega)
  have nx:fy (((st.take (st.length-(bQ ops[i].k).toNat)++[(fN l row ops[i] (e9 bE ops[i].k st) (eT bE ops[i].k st)).1]).length:Nat):Int) (ops.drop (i+1))=0:=(by rw[r8,show(((st.length+1-(bQ ops[i].k).toNat:Nat)):Int)=(st.length:Int)+(1-bQ ops[i].k) by omega];exact xB)
  have agw:∀v∈st.take (st.length-(bQ ops[i].k).toNat)++[(fN l row ops[i] (e9 bE ops[i].k st) (eT bE ops[i].k st)).1],v.Ok:=fun v U=>by rcases mem_append.1 U with U|U;exact aR v (mem_of_mem_take U);rw[mem_singleton] at U;rw[U];exact Ri BF (fH _ (getElem_mem aa)) (AJ aR _) (AK aR _)
  refine aC 2 ?_;refine OD.alloc (ds:=[_,_,_,_,_]) an rfl rfl zeroValue61 rfl (fun b9=>?_);refine aN 0 [_,_,_,_,_] sizeOf61 ?_;refine aj 64 [1,4,6,7,9,16,17,18] ?_;refine bX ?_;refine OD.alloc (ds:=[_,_,_]) an rfl rfl zeroValue30 rfl (fun kD=>?_);refine OD.alloc (ds:=[_,_,_]) an rfl rfl zeroValue30 rfl (fun kg=>?_);refine aj 64 [1,4,6,7,9,10,11,16,17,18] ?_;refine cL [1,4,6,7,9,10,11,12,16,17,18] (Ea ops[i].k) ?_;refine ae [1,4,6,7,9,10,11,12,13,16,17,18] ?_;refine ae [1,4,6,7,9,10,11,12,13,16,17,18,30] ?_;refine aq (fun aH aU=>?_) (fun aH aU=>?_)
  ·obtain⟨bh,rfl,wg,vT,rfl⟩:=nw.pos w4;have tV:(st.length-(bQ ops[i].k).toNat)<st.length:=(by omega)
   have ha:e9 bE ops[i].k st=st[(st.length-(bQ ops[i].k).toNat)]:=(by unfold e9;rw[if_pos w4,getD_eq_getElem?_getD,getElem?_eq_getElem tV];rfl)
   refine dw 2 ?_;refine bJ (dy 3 (h:=by first|exact .l (j:=(st.length-(bQ ops[i].k).toNat)) w4 w4|exact .r (j:=(st.length-(bQ ops[i].k).toNat)) w4 w4)) ?_;refine bJ (cH (mk:=Op.load 30) rfl ot (dK (k:=7) eS rfl rfl rfl isAgg30 sizeOf30 tV)) ?_;refine aN 1 [_,_,_] sizeOf30 ?_;refine aj 64 [1,4,6,7,9,10,11,12,13,16,17,18] ?_;refine ae [1,4,6,7,9,10,11,13,16,17,18,36] ?_;refine aq (fun aY bz=>?_) (fun aY bz=>?_)
   ·have Z:(st.length-(bQ ops[i].k).toNat)+1<st.length:=(by omega)
    have hb:eT bE ops[i].k st=st[(st.length-(bQ ops[i].k).toNat)+1]:=(by unfold eT;rw[if_pos w4,getD_eq_getElem?_getD,getElem?_eq_getElem Z];rfl)
    refine dw 3 ?_;refine bJ (dy 3 (h:=by first|exact .l (j:=(st.length-(bQ ops[i].k).toNat)+1) w4 w4|exact .r (j:=(st.length-(bQ ops[i].k).toNat)+1) w4 w4)) ?_;refine bJ (cH (mk:=Op.load 30) rfl ot (dK (k:=7) eS rfl rfl rfl isAgg30 sizeOf30 Z)) ?_;refine aN 0 [_,_,_] sizeOf30 ?_;refine aj 64 [1,4,6,7,9,10,11,13,16,17,18] ?_;refine aC 4 ?_;refine OD.jY (f:=156) (args:=[_,_,_]) (all:=[_,_,_,_,_]) (Sf:=[⟨br,27,1,[.list 3 (row.flatMap cV) row.length]⟩,⟨bc,38,1,[.list 2 (l.flatMap cC) l.length]⟩]) an rfl rfl ot call156 (Hi l hl row q8 ops[i] (E _ (getElem_mem aa)) _ _ (st[(st.length-(bQ ops[i].k).toNat)]) (st[(st.length-(bQ ops[i].k).toNat)+1]) ha hb (AJ aR _) (AK aR _) br bc) rfl ⟨ot,ot,ot,trivial⟩ (Aw (k:=3) (k':=3) rfl rfl) ?_;exact TY
   have hb:eT bE ops[i].k st=bE:=(by unfold eT;rw[if_neg w4])
   refine aC 4 ?_;refine OD.jY (f:=156) (args:=[_,_,_]) (all:=[_,_,_,_,_]) (Sf:=[⟨br,27,1,[.list 3 (row.flatMap cV) row.length]⟩,⟨bc,38,1,[.list 2 (l.flatMap cC) l.length]⟩]) an rfl rfl ot call156 (Hi l hl row q8 ops[i] (E _ (getElem_mem aa)) _ _ (st[(st.length-(bQ ops[i].k).toNat)]) (bE) ha hb (AJ aR _) (AK aR _) br bc) rfl ⟨ot,ot,ot,trivial⟩ (Aw (k:=3) (k':=3) rfl rfl) ?_;exact TY
  have ha:e9 bE ops[i].k st=bE:=(by unfold e9;rw[if_neg w4])
  refine ae [1,4,6,7,9,10,11,13,16,17,18,36] ?_;refine aq (fun aY bz=>?_) (fun aY bz=>?_)
  ·exact absurd aY (by simp at *;omega)
  have hb:eT bE ops[i].k st=bE:=(by unfold eT;rw[if_neg w4])
  refine aC 4 ?_;refine OD.jY (f:=156) (args:=[_,_,_]) (all:=[_,_,_,_,_]) (Sf:=[⟨br,27,1,[.list 3 (row.flatMap cV) row.length]⟩,⟨bc,38,1,[.list 2 (l.flatMap cC) l.length]⟩]) an rfl rfl ot call156 (Hi l hl row q8 ops[i] (E _ (getElem_mem aa)) _ _ (bE) (bE) ha hb (AJ aR _) (AK aR _) br bc) rfl ⟨ot,ot,ot,trivial⟩ (Aw (k:=3) (k':=3) rfl rfl) ?_;rintro _ _ ⟨rfl,rfl⟩;refine aD 3 ?_;refine OD.alloc (ds:=[_,_,_]) an rfl rfl zeroValue30 rfl (fun zN=>?_);refine aN 0 [_,_,_] sizeOf30 ?_;refine aj 64 [1,4,6,7,13,14,15,16,17,18] ?_;refine ae [1,4,6,7,13,14,15,16,17,18,51] ?_;refine aq (fun bF bY=>?_) (fun bF bY=>?_)
  ·exact Vj
  have hz:(fN l row ops[i] (e9 bE ops[i].k st) (eT bE ops[i].k st)).2=0:=(by simpa using bF)
  refine CD.skip ?_;refine CD.uQ (k:=(st.length-(bQ ops[i].k).toNat)) (ls:=(st)) (Sq:=Sh) eS w4 nw (dB (A:=[_,_,_,_,_,_,_,_])) (fun Bo A3=>?_);exact z5
 have h1:=PN w4 hex;have Uq:0<st.length:=(by omega)
 obtain⟨bh,rfl,wg,vT,rfl⟩:=nw.pos w4;have aS:=hinv.trans (PM w4);have kE:st.getD 0 bE=st[0]:=(by rw[getD_eq_getElem?_getD,getElem?_eq_getElem Uq];rfl)
 rw[kE] at aS;refine aC 1 ?_;refine bJ (nZ (mk:=Op.indexAddr 27) rfl ot bC (by first|exact oR (j:=0) runUnderlying27 sizeOf30 rfl zB|exact oV (j:=0) runUnderlying27 sizeOf30 rfl zB)) ?_;refine bJ (cH (mk:=Op.load 30) rfl ot (dK (k:=4) eS rfl rfl rfl isAgg30 sizeOf30 Uq)) ?_;refine aN 3 [_,_,_] sizeOf30 ?_;refine aj 64 [4,5] ?_;exact VL
theorem acE(l:List cu)(hl:l.length≤6)(row:List Vl)(O:row.length=l.length)(E:∀v∈row,v.Ok)(ops:List aW)(fH:∀o∈ops,o.v.Ok)(I:∀o∈ops,o.k=2→0≤bN l o.nm)(hx:iD ops=0):VP Tryz.prog G 127 [.list 2 (l.flatMap cC) l.length,.list 3 (row.flatMap cV) row.length,.list 5 (ops.flatMap cO) ops.length] (mD (uJ l row ops)):=by
 refine VC.body func127 rfl ntmps127 aO fun X0 w0 aX=>?_;obtain⟨U,gH⟩:=vK hx;have fL:=fun br bc=>aaV (G:=G) l hl row O E ops fH I U gH br bc;unfold mD at fL ⊢;generalize uJ l row ops=q at fL ⊢;skip;refine bX ?_;refine OD.box (ds:=[_]) an rfl rfl ot rfl rfl (fun b3=>?_);refine OD.box (ds:=[_]) an rfl rfl ot rfl rfl (fun b4=>?_);refine OD.alloc (ds:=[_,_,_]) an rfl rfl zeroValue30 rfl (fun b6=>?_);refine aj 13 [2,3,4,6] ?_;refine aC 1 ?_;refine bJ (oO (ds:=[_,_]) rfl ⟨ot,ot,trivial⟩) ?_;refine OD.call an rfl rfl rfl call155 (fL b4 b3) ⟨ot,ot,trivial⟩ (Aw (k:=1) (k':=1) rfl rfl) ?_;rintro _ _ ⟨rfl,rfl⟩;refine aD 2 ?_;refine aN 2 [_,_,_] sizeOf30 ?_;refine aj 13 [6,7] ?_;exact z51
theorem Rj(hm:(3,marksC)∈G)(hw:(2,wordsC)∈G)(ht:(0,typesC)∈G)(l:List cu)(hl:l.length≤6)(aR:∀c∈l,c.n.size≤maxLen)(row:List Vl)(Z:row.length≤1000)(E:∀v∈row,v.Ok)(ops:List aW)(ho:∀o∈ops,o.nm.size≤maxLen)(fH:∀o∈ops,o.v.Ok):VP Tryz.prog G 92 [.list 2 (l.flatMap cC) l.length,.list 3 (row.flatMap cV) row.length,.list 5 (ops.flatMap cO) ops.length] (mD (fh l row ops)):=by
 refine VC.body func92 rfl ntmps92 aO fun X0 w0 aX=>?_;have dr:maxLen=9223372036854775807:=rfl;have U:=Jc hm hw ht l w4 aR row w4;have I:=IC hm hw ht l hl aR ops ho;unfold ph at I;unfold mD;refine bX ?_;refine OD.alloc (ds:=[_,_,_]) an rfl rfl zeroValue30 rfl (fun b6=>?_);refine aj 34 [0,1,2,6] ?_;refine cL [0,1,2,6,8] (U) ?_;refine ae [0,1,2,6,8,15] ?_;refine aq (fun az aG=>?_) (fun az aG=>?_)
 ·have h0:dW l row≠0:=(by simpa using az)
  have aS:fh l row ops=(bE,dW l row):=(by unfold fh;rw[if_pos h0])
  refine aC 2 ?_;refine aN 0 [_,_,_] sizeOf30 ?_;refine aj 34 [6,7] ?_;exact z46
 have h0:dW l row=0:=(by simpa using az)
 refine cL [0,1,2,6,10] (I) ?_;refine ae [0,1,2,6,10,25] ?_;refine aq (fun aH aU=>?_) (fun aH aU=>?_)
 ·have h1:(ec l ops).2≠0:=(by simpa using aH)
  have aS:fh l row ops=(bE,(ec l ops).2):=(by unfold fh;rw[if_neg (by simp[h0]),if_pos h1])
  refine aC 2 ?_;refine aN 0 [_,_,_] sizeOf30 ?_;refine aj 34 [6,7] ?_;exact z46
 have h1:(ec l ops).2=0:=(by simpa using aH)
 obtain⟨k1,k2,k3⟩:=Eu h1;have aS:fh l row ops=uJ l row ops:=(by unfold fh;rw[if_neg (by simp[h0]),if_neg (by simp[h1])])
 have O:=acE (G:=G) l hl row (Is h0) E ops fH (Ol (by rw[←k3];exact h1)) k2;unfold mD at O;refine aC 3 ?_;refine dJ call127 (O) ?_;refine aD 2 ?_;refine aN 0 [_,_,_] sizeOf30 ?_;refine aj 34 [6,7] ?_;exact tI

end Go.Proofs.YtbcmjoaggammcaaGreatDoor.Ex
namespace Go.Proofs.YtbcmjoaggammcaaGreatDoor.Pc
open List
open Go.Proofs.Tryz
open Go.RowKit V Pk Vl Go.Proofs.YtbcmjoaggammcaaGreatDoor.Nm
variable {G:List (Nat×List Value)}
def dH:List cu:=[⟨⟨#[105,100]⟩,2⟩,⟨⟨#[110]⟩,2⟩,⟨⟨#[115]⟩,3⟩,⟨⟨#[98]⟩,1⟩]
def nh(n:Int):Vl:=if dV n 3=2 then bE else ⟨1,dV n 3,⟨#[]⟩⟩
def y8(n:Int):Vl:=⟨2,n,⟨#[]⟩⟩
def ahX(s:ByteArray):Vl:=⟨3,0,s⟩
theorem afI:cJ ⟨#[105,100]⟩=0:=sD (l:=[105,100]) w7 w7 w7
theorem ahY:cJ ⟨#[110]⟩=0:=sD (l:=[110]) w7 w7 w7
theorem ahZ:cJ ⟨#[115]⟩=0:=sD (l:=[115]) w7 w7 w7
theorem ah0:cJ ⟨#[98]⟩=0:=sD (l:=[98]) w7 w7 w7
theorem yj:fw dH=0:=by
 simp[fw,dH,qB,mO,afI,ahY,ahZ,ah0,vF]
theorem abU:∀c∈dH,c.n.size≤maxLen:=fun c hc=>by
 have h:c.n.size≤2:=by
  simp only[dH,mem_cons,not_mem_nil,or_false] at hc;rcases hc with rfl|rfl|rfl|rfl
  ·exact Nat.le_refl 2
  ·exact Nat.le_succ 1
  ·exact Nat.le_succ 1
  exact Nat.le_succ 1
 exact Nat.le_trans h w7
theorem aes(n:Int):dL (y8 n)=0:=by
 unfold dL;rw[if_neg (show ¬(y8 n).k=0 by show ¬(2:Int)=0;decide),if_neg (show ¬(y8 n).k=1 by show ¬(2:Int)=1;decide),if_pos (show(y8 n).k=2 from rfl),if_neg (fun h=>h rfl)]
theorem E3:dL bE=0:=by decide
theorem Om:VP Tryz.prog G 24 [] (.list 2 (dH.flatMap cC) dH.length):=by
 refine VC.body func24 rfl ntmps24 aO fun X0 w0 aX=>?_;refine ae [] ?_;refine aC 4 ?_;refine ei (bZ 0 [_,_,_,_]) [.string ⟨#[]⟩,.int .i64 0,.string ⟨#[]⟩,.int .i64 0,.string ⟨#[]⟩,.int .i64 0,.string ⟨#[]⟩,.int .i64 0] [_,_,_,_,_,_,_,_] zeroValue111 runUnderlying38 sizeOf111 (fun b5=>?_);refine OD.perm (dY (S1:=[⟨b5,111,4*2,flatMap cC ([⟨⟨#[105,100]⟩,2⟩,⟨⟨#[110]⟩,2⟩,⟨⟨#[115]⟩,3⟩,⟨⟨#[98]⟩,1⟩])⟩]) (A:=[])) ?_;refine aj 6 [0] ?_;refine CD.gd (t:=0) (Sq:=[⟨b5,111,4*2,flatMap cC ([⟨⟨#[105,100]⟩,2⟩,⟨⟨#[110]⟩,2⟩,⟨⟨#[115]⟩,3⟩,⟨⟨#[98]⟩,1⟩])⟩]) lk (bD (g:=cC) (sz:=2) (e:=111) (ls:=[⟨⟨#[105,100]⟩,2⟩,⟨⟨#[110]⟩,2⟩,⟨⟨#[115]⟩,3⟩,⟨⟨#[98]⟩,1⟩]) (Nat.le_refl _) (show 4≤maxLen by decide)) (cl kZ _) (dB (A:=[])) ?_;exact z51
theorem qu(n:Int)(h1:-9223372036854775808≤n)(h2:n≤9223372036854775807):VP Tryz.prog G 26 [.v (.int .i64 n)] (.agg (cV (nh n))):=by
 refine VC.body func26 rfl ntmps26 aO fun X0 w0 aX=>?_;refine bX ?_;refine OD.alloc (ds:=[_,_,_]) an rfl rfl zeroValue30 rfl (fun b2=>?_);refine aj 10 [0,2] ?_;refine cL [0,2,5] (jw G n 3 h1 h2 w7) ?_;refine aq (fun az aG=>?_) (fun az aG=>?_)
 ·refine aC 1 ?_;refine aN 0 [_,_,_] sizeOf30 ?_;refine aj 10 [2] ?_;refine aJ [] ?_;refine⟨?_,rfl⟩;unfold nh bE;simp_all[cV]
 refine aC 1 ?_;refine dJ call11 (jw G n 3 h1 h2 w7) ?_;refine aD 1 ?_;refine aN 0 [_,_,_] sizeOf30 ?_;refine aj 10 [2] ?_;refine aJ [] ?_;refine⟨?_,rfl⟩;unfold nh bE;simp_all[cV]

end Go.Proofs.YtbcmjoaggammcaaGreatDoor.Pc
namespace Go.Proofs.YtbcmjoaggammcaaGreatDoor.Ex
open List
open Go.Proofs.Tryz
open Go.RowKit V Pk Vl Go.Proofs.YtbcmjoaggammcaaGreatDoor.Nm Pc
variable {k:Int} {a b:Vl} {l:List cu} {row:List Vl} {o:aW} {α:Type} {ks:List Int}
theorem GU(b:Bool):dL (pR b)=0:=by cases b<;>decide
theorem Zi(n:Int):dL ⟨2,n,⟨#[]⟩⟩=0:=aes n
theorem Ev(h:¬(k=8∨k=9∨k=10)):wm k=1:=if_neg h
theorem acF(h:k=8∨k=9∨k=10):wm k=2:=if_pos h
theorem HO(b:Bool):(pR b).k=1:=by cases b<;>rfl
theorem DS{v:Vl}(h:iE v=0):dL v=0:=by
 unfold iE at h;split at h
 ·cases h
 exact h
def jC(k:Int)(v:Vl):Prop:=dL v=0∧(v.k=k∨v.k=0)
theorem AW:jC 0 bE:=⟨E3,.inl rfl⟩
structure yL (l:List cu) (o:aW):Prop where
 nm:o.nm.size≤maxLen
 ok:o.v.Ok
 ck:dL o.v=0
 k1:1≤o.k
 k2:o.k≤11
 WA:o.k=2→0≤bN l o.nm
def E4(l:List cu)(row:List Vl):Prop:=∀i:Nat,jC (l.getD i ⟨⟨#[]⟩,0⟩).k (row.getD i bE)
theorem yM{a b:Int}(h:qZ a b=true):a=b∨a=0:=by
 unfold qZ at h;simpa using h
theorem Yi{d:Int}(ha:dL a=0)(hb:dL b=0)(h1:a.k=1∨a.k=0)(h2:b.k=1∨b.k=0):(kO a b d).2=0∧jC 1 (kO a b d).1:=by
 unfold kO;rw[if_neg w4];split
 ·exact⟨rfl,ha,h1⟩
 split
 ·exact⟨rfl,hb,h2⟩
 split
 ·exact⟨rfl,E3,.inr rfl⟩
 exact⟨rfl,ha,h1⟩
theorem acG(ha:dL a=0)(hb:dL b=0):Cd.mg a b=0:=by unfold Cd.mg;rw[ha,hb];rfl
theorem Zj(h:Cd.mg a b=0)(hk:k=3∨k=4):∃d,gW k a b=kO a b d:=by
 unfold gW;rw[if_neg (by simp[h])];rcases hk with rfl|rfl
 ·exact⟨0,if_pos rfl⟩
 exact⟨1,by rw[if_neg w7,if_pos rfl]⟩
theorem aaW(h:Cd.mg a b=0)(hk:k=6∨k=7):gW k a b=if qD a b=true then (bE,0) else if a.k≠b.k then (bE,4) else (pR ((Cd.gj a b==0&&k==6)||(decide (Cd.gj a b<0)&&k==7)),0):=by
 unfold gW;rw[if_neg (by simp[h]),if_neg w4,if_neg w4,if_pos hk]
theorem Zk(hr:E4 l row)(ho:yL l o){a b:Int}{E vb:Vl}(ha:jC a E)(hb:jC b vb)(h:(iN l o a b).2=0) :
  (fN l row o E vb).2=5∨((fN l row o E vb).2=0∧jC (iN l o a b).1 (fN l row o E vb).1):=by
 have k1:=ho.k1;have k2:=ho.k2;obtain⟨ca,ka⟩:=ha;obtain⟨cb,kb⟩:=hb;have O:=acG ca cb;unfold iN at h ⊢;by_cases e1:o.k=1
 ·rw[if_pos e1];have:fN l row o E vb=(o.v,0):=(by unfold fN bQ;rw[if_neg w4,if_neg (by rw[if_pos (.inl e1)];omega),if_neg w4]<;>(try rw[if_pos (.inl e1)];omega))
  rw[this];exact .inr ⟨rfl,ho.ck,.inl rfl⟩
 rw[if_neg e1] at h ⊢;by_cases e2:o.k=2
 ·rw[if_pos e2] at h ⊢;have hp:bQ o.k=0:=(by unfold bQ;rw[if_pos (.inr e2)])
  have hc:=ho.WA e2;have:fN l row o E vb=(row.getD (bN l o.nm).toNat bE,0):=(by unfold fN;rw[if_neg w4,if_neg w4,if_pos e2])
  rw[this];unfold uz;rw[if_neg w4];exact .inr ⟨rfl,hr _⟩
 rw[if_neg e2] at h ⊢;have aR:okF o.k a b=true:=by
  by_cases hk:okF o.k a b=true
  ·exact hk
  rw[if_neg hk] at h;cases h
 rw[if_pos aR];unfold okF at aR;by_cases I:o.k=5∨o.k=11
 ·have hp:bQ o.k=1:=(by unfold bQ;rw[if_neg w4,if_pos I])
  have he:fN l row o E vb=s9 o.k E:=(by unfold fN;rw[if_pos hp])
  rw[he];unfold s9;rw[if_neg (by simp[ca])];rcases I with I|I
  ·have U:¬(o.k=3∨o.k=4):=(by omega)
   have Z:¬o.k=11:=(by omega)
   rw[if_neg U,if_pos I] at aR;have hi:=yM aR;rw[if_neg Z,if_pos I,Ev w4];by_cases z:E.k=0
   ·rw[if_pos z];exact .inr ⟨rfl,ca,.inr z⟩
   rw[if_neg z,if_pos w4];exact .inr ⟨rfl,GU _,.inl (HO _)⟩
  rw[if_pos I,Ev w4];exact .inr ⟨rfl,GU _,.inl (HO _)⟩
 have hp:bQ o.k=2:=(by unfold bQ;rw[if_neg w4,if_neg I])
 have he:fN l row o E vb=gW o.k E vb:=(by unfold fN;rw[if_neg w4,if_pos hp])
 rw[he];by_cases e3:o.k=3∨o.k=4
 ·rw[if_pos e3,Bool.and_eq_true] at aR;have i1:=yM aR.1;have i2:=yM aR.2;obtain⟨d,hd⟩:=Zj O e3;rw[hd,Ev w4];exact .inr (Yi ca cb w4 w4)
 have n5:¬o.k=5:=(by omega)
 rw[if_neg e3,if_neg n5] at aR;by_cases e6:o.k=6∨o.k=7
 ·rw[if_pos e6,Bool.or_eq_true] at aR;rw[aaW O e6,Ev w4];by_cases hn:qD E vb=true
  ·rw[if_pos hn];exact .inr ⟨rfl,E3,.inr rfl⟩
  rw[if_neg hn];unfold qD at hn;simp only[Bool.or_eq_true,beq_iff_eq,not_or] at hn;have kS:E.k=vb.k:=by
   rcases aR with aR|aR
   ·have:=yM aR;omega
   have:b=0:=(by simpa using aR)
   omega
  rw[if_neg (by simpa using kS)];exact .inr ⟨rfl,GU _,.inl (HO _)⟩
 have e8:o.k=8∨o.k=9∨o.k=10:=(by omega)
 rw[if_neg e6,if_pos e8,Bool.and_eq_true] at aR;have i1:=yM aR.1;have i2:=yM aR.2;rw[NU O e8 w4,acF e8];split
 ·exact .inr ⟨rfl,E3,.inr rfl⟩
 split
 ·exact .inr ⟨rfl,Zi _,.inl rfl⟩
 exact .inl rfl
theorem IE{z:α}{f:aW→α→α→α × Int}{r:List aW}{st:List α}(h:(f o (e9 z o.k st) (eT z o.k st)).2=0):jq z f (o::r) st=jq z f r (st.take (st.length-(bQ o.k).toNat)++[(f o (e9 z o.k st) (eT z o.k st)).1]):=by
 rw[jq,if_neg (by rw[h];simp)]
theorem HP{z:α}{f:aW→α→α→α × Int}{r:List aW}{st:List α}(h:(f o (e9 z o.k st) (eT z o.k st)).2≠0):jq z f (o::r) st=(z,(f o (e9 z o.k st) (eT z o.k st)).2):=by
 rw[jq,if_pos h]
def BG(ks:List Int)(vs:List Vl):Prop:=ks.length=vs.length∧∀i:Nat,jC (ks.getD i 0) (vs.getD i bE)
theorem PR(z x:α)(l:List α)(n i:Nat)(hn:n≤l.length):(l.take n++[x]).getD i z=if i<n then l.getD i z else if i=n then x else z:=by
 have hl:(l.take n).length=n:=(by rw[length_take];omega)
 by_cases h1:i<n
 ·rw[if_pos h1,getD_eq_getElem?_getD,getD_eq_getElem?_getD,getElem?_append_left w4,getElem?_take,if_pos h1]
 rw[if_neg h1,getD_eq_getElem?_getD,getElem?_append_right w4,hl];by_cases h2:i=n
 ·rw[if_pos h2,h2,Nat.sub_self];rfl
 rw[if_neg h2,getElem?_eq_none (by rw[length_singleton];omega)];rfl
theorem acH{vs:List Vl}(h:BG ks vs){v:Vl}(hr:jC k v){n:Nat}(hn:n≤ks.length):BG (ks.take n++[k]) (vs.take n++[v]):=by
 have hl:=h.1;refine⟨by simp only[length_append,length_take,length_singleton];omega,fun i=>?_⟩;rw[PR _ _ _ _ _ hn,PR _ _ _ _ _ w4];split
 ·exact h.2 i
 split
 ·exact hr
 exact AW
theorem acI{vs:List Vl}(h:BG ks vs)(k:Int):jC (e9 0 k ks) (e9 bE k vs)∧jC (eT 0 k ks) (eT bE k vs):=by
 have hl:=h.1;unfold e9 eT;rw[hl];refine⟨?_,?_⟩
 ·split
  ·exact h.2 _
  exact AW
 split
 ·exact h.2 _
 exact AW
theorem On{l:List cu}{row:List Vl}(hr:E4 l row):∀(ops:List aW),(∀o∈ops,yL l o)→∀(ks:List Int) (vs:List Vl),BG ks vs→(jq 0 (iN l) ops ks).2=0 →
  (jq bE (fN l row) ops vs).2=5∨((jq bE (fN l row) ops vs).2=0∧jC (jq 0 (iN l) ops ks).1 (jq bE (fN l row) ops vs).1)
 | [],_,ks,vs,h,_=>.inr ⟨rfl,h.2 0⟩
 | o::r,hg,ks,vs,h,h0=>by
  obtain⟨hA,hB⟩:=acI h o.k;by_cases hm:(iN l o (e9 0 o.k ks) (eT 0 o.k ks)).2=0
  ·rw[IE hm] at h0 ⊢;rcases Zk hr (hg o mem_cons_self) hA hB hm with h5|⟨hz,E⟩
   ·rw[HP (by rw[h5];decide)];exact .inl h5
   rw[IE hz];have:=acH h E (n:=ks.length-(bQ o.k).toNat) (Nat.sub_le _ _);rw[show vs.length-(bQ o.k).toNat=ks.length-(bQ o.k).toNat by rw[h.1]];exact On hr r (fun x hx=>hg x (mem_cons_of_mem _ hx)) _ _ this h0
  rw[HP hm] at h0;exact absurd h0 hm
theorem aaX(ho:yL l o)(a b:Int):(iN l o a b).2=0∨(iN l o a b).2=4:=by
 unfold iN;split
 ·exact .inl rfl
 split
 ·rename_i h2;have:=ho.WA h2;unfold uz;rw[if_neg w4];exact .inl rfl
 split
 ·exact .inl rfl
 exact .inr rfl
theorem PS{l:List cu}:∀(ops:List aW),(∀o∈ops,yL l o)→∀ks,(jq 0 (iN l) ops ks).2=0∨(jq 0 (iN l) ops ks).2=4
 | [],_,ks=>.inl rfl
 | o::r,hg,ks=>by
  rw[jq];split
  ·rename_i hne;rcases aaX (hg o mem_cons_self) (e9 0 o.k ks) (eT 0 o.k ks) with h|h
   ·exact absurd h hne
   exact .inr h
  exact PS r (fun x hx=>hg x (mem_cons_of_mem _ hx)) _
theorem acJ:BG [] []:=⟨rfl,fun i=>by rw[getD_nil,getD_nil];exact AW⟩
theorem Zl{ops:List aW}(hl:fw l=0)(hw:dW l row=0)(hr:E4 l row)(hg:∀o∈ops,yL l o)(hx:iD ops=0) :
  ec l ops=sY l ops∧((ec l ops).2=0∨(ec l ops).2=4)∧((ec l ops).2=4→fh l row ops=(bE,4)) ∧
  ((ec l ops).2=0→fh l row ops=uJ l row ops∧((fh l row ops).2=5∨((fh l row ops).2=0∧jC (ec l ops).1 (fh l row ops).1))):=by
 have hk:ec l ops=sY l ops:=(by unfold ec;rw[if_neg (by simp[hl]),if_neg (by simp[hx])])
 refine⟨hk,by rw[hk];exact PS ops hg [],fun h4=>?_,fun h0=>?_⟩
 ·unfold fh;rw[if_neg (by simp[hw]),if_pos (by rw[h4];decide),h4]
 have he:fh l row ops=uJ l row ops:=(by unfold fh;rw[if_neg (by simp[hw]),if_neg (by simp[h0])])
 refine⟨he,?_⟩;rw[he,hk];exact On hr ops hg [] [] acJ (by rw[hk] at h0;exact h0)
/-! ### Ops of twigs, the columns and rows of the statements -/
def Ur(a b:Int)(s:ByteArray)(c:Int):List Vl:=[y8 (dV a 12),y8 (dV b 9),ahX (uG (mq s 2)),nh c]

end Go.Proofs.YtbcmjoaggammcaaGreatDoor.Ex
namespace Go.Proofs.YtbcmjoaggammcaaGreatDoor.Pc
open List
open Go.Proofs.Tryz
open Go.RowKit V Pk Vl Go.Proofs.YtbcmjoaggammcaaGreatDoor.Nm
abbrev TypesTab(w:World):Prop:=Tab.me w 0 typesC

end Go.Proofs.YtbcmjoaggammcaaGreatDoor.Pc
namespace Go.Proofs.YtbcmjoaggammcaaGreatDoor.Ex





open List
open Go.Proofs.Tryz
open Go.RowKit V Pk Vl Go.Proofs.YtbcmjoaggammcaaGreatDoor.Nm Pc Cd
open Go.Lib (compareBytes)
variable {ops:List aW} {k:List UInt8}
def mZ(ops:List aW)(i:Nat):Int:=(ops.getD i (qz 0)).k
def iF(ops:List aW):Nat→Int→Nat
 | 0,_=>0
 | i+1,need=>if need+(bQ (mZ ops i)-1)>0 then iF ops i (need+(bQ (mZ ops i)-1)) else i
theorem uw{i:Nat}(h:i<ops.length):mZ ops i=ops[i].k:=by unfold mZ;rw[getD_eq_getElem?_getD,getElem?_eq_getElem h];rfl
theorem SD{h h':Int}{o:aW}(he:eX h o=0)(hp:bQ o.k≤h'):eX h' o=0:=by
 unfold eX at he ⊢;split at he
 ·cases he
 rename_i q1;rw[if_neg q1];split at he
 ·rename_i h2;exact absurd he h2
 rename_i q2;rw[if_neg q2];split at he
 ·cases he
 rename_i E;rw[if_neg E];split at he
 ·rename_i h4;exact absurd he h4.2
 rename_i I;rw[if_neg I,if_neg w4]
theorem Hj{n:Nat}{h:Int}(hn:n<ops.length)(e:runs 0 (ops.take (n+1))=some h):∃h',runs 0 (ops.take n)=some h'∧eX h' ops[n]=0∧h=h'+(1-bQ ops[n].k):=by
 rw[take_succ_eq_append_getElem hn,xO] at e;cases hr:runs 0 (ops.take n) with
 | none=>rw[hr] at e;cases e
 | some h' =>
  rw[hr,Option.bind_some,runs] at e;split at e
  ·rename_i he;rw[runs] at e;cases e;exact⟨h',rfl,he,rfl⟩
  cases e
theorem PT{ops:List aW}:∀(n:Nat) (need h:Int),n≤ops.length→runs 0 (ops.take n)=some h→1≤need→need≤h →
  iF ops n need<n∧runs 0 (ops.take (iF ops n need))=some (h-need)∧∀k:Int,0≤k→runs k ((ops.take n).drop (iF ops n need))=some (k+need)
 | 0,need,h,_,e,h1,h2=>by rw[List.take_zero,runs] at e;cases e;omega
 | n+1,need,h,hn,e,h1,h2=>by
  have aa:n<ops.length:=(by omega)
  obtain⟨h',e1,e2,U⟩:=Hj aa e;have I:=sM ops[n].k;have qU:=(vH e2).1;have E:∀m,m≤n→(ops.take (n+1)).drop m=(ops.take n).drop m++[ops[n]]:=fun m hm=>by
   rw[take_succ_eq_append_getElem aa,drop_append,show m-(ops.take n).length=0 by rw[length_take];omega,drop_zero]
  rw[iF,uw aa];by_cases hc:need+(bQ ops[n].k-1)>0
  ·rw[if_pos hc];obtain⟨q1,q2,O⟩:=PT n (need+(bQ ops[n].k-1)) h' w4 e1 w4 w4;refine⟨by omega,by rw[q2];congr 1;omega,fun k hk=>?_⟩;rw[E _ w4,xO,O k hk,Option.bind_some,runs,if_pos (SD e2 w4),runs];congr 1;omega
  rw[if_neg hc];refine⟨by omega,by rw[e1];congr 1;omega,fun k hk=>?_⟩;rw[E n (Nat.le_refl _),drop_of_length_le ox,nil_append,runs,if_pos (SD e2 w4),runs];congr 1;omega
def lM(key:ByteArray)(o:aW):Bool:=o.k==2&&o.nm.toList==key.toList
def gw(o:aW):Bool:=o.k==1 && !(o.v.k==0)
abbrev kK:=List UInt8×List UInt8
variable {b:kK}
def nN(k:List UInt8)(b:kK):kK:=if compareBytes k b.1>0 then (k,b.2) else b
def rD(k:List UInt8)(b:kK):kK:=if b.2.length=0∨compareBytes k b.2<0 then (b.1,k) else b
def uO(kc:Int)(eq not:Bool)(k:List UInt8)(b:kK):kK :=
 bif eq||(kc==0)!=not then rD k (bif eq||(kc==0)==not then nN k b else b) else bif eq||(kc==0)==not then nN k b else b
def y9(ops:List aW):List UInt8:=(fX [(ops.getD (dO gw (ops.take 2)).toNat (qz 0)).v]).1
def mK(key:ByteArray)(ops:List aW)(not:Bool)(b:kK):kK :=
 if ops.length≠3∨(not=true∧mZ ops (ops.length-1)≠7)∨(mZ ops (ops.length-1)≠6∧mZ ops (ops.length-1)≠7) then b
 else if dO (lM key) (ops.take 2)<0∨dO gw (ops.take 2)<0 then b
 else uO (dO (lM key) (ops.take 2)) (mZ ops (ops.length-1)==6) not (y9 ops) b
def fQ(key:ByteArray):Nat→List aW→kK→kK
 | 0,_,b=>b
 | f+1,ops,b =>
  if mZ ops (ops.length-1)=3 then fQ key f ((ops.take (ops.length-1)).drop (iF ops (ops.length-1) 1)) (fQ key f (ops.take (iF ops (ops.length-1) 1)) b)
  else if mZ ops (ops.length-1)=5 then mK key (ops.take (ops.length-1)) true b
  else mK key ops false b
variable {G:List (Nat×List Value)} {m:Int}
theorem Zm(ops:List aW)(pD:ops.length≤40)(n:Nat)(hn:n≤ops.length)(h:Int)(hr:runs 0 (ops.take n)=some h)(h1:1≤h):VP Tryz.prog G 169 [.list 5 (ops.flatMap cO) ops.length,.v (.int .i64 (n:Nat))] (.v (.int .i64 (iF ops n 1:Nat))):=by
 refine VC.body func169 rfl ntmps169 aO fun X0 w0 aX=>?_;refine ae [0,1] ?_;refine ae [0,5] ?_;refine ae [0,5,6] ?_;refine eI [0] (fun aV _ (E:Nat×Int) aK=>match E with|(i,need)=>(i≤n)∧(0≤need)∧(need≤1+2*((n:Int)-i))∧((need=0∧iF ops n 1=i)∨(1≤need∧iF ops n 1=iF ops i need∧∃h,runs 0 (ops.take i)=some h∧need≤h))∧aK=(⟨22,(5,.v (.int .i64 (i:Nat)))::(6,.v (.int .i64 need))::aV,[]⟩:St)) (fun (E:Nat×Int)=>match E with|(i,need)=>i) (n,1) ⟨(Nat.le_refl _),w7,w4,(.inr ⟨by decide,rfl,h,hr,h1⟩),rfl⟩ ?_;rintro⟨i,need⟩ _ ⟨hi,gq,Wl,hinv,rfl⟩;refine ae [0,5,6,9] ?_;refine aq (fun az aG=>?_) (fun az aG=>?_)
 ·obtain⟨hz,_⟩|⟨ga,I,h2,e1,e2⟩:=hinv
  ·omega
  have Mz:0<i:=(by rcases Nat.eq_zero_or_pos i with rfl|h;rw[List.take_zero,runs] at e1;cases e1;omega;exact h)
  have O:-9223372036854775808≤((i-1:Nat):Int):=(by omega)
  have U:((i-1:Nat):Int)≤9223372036854775807:=(by omega)
  have jS:(i:Int)-1=((i-1:Nat):Int):=(by omega)
  have aa:i-1<ops.length:=(by omega)
  have Cz:=sM ops[i-1].k;obtain⟨h3,e3,e4,e5⟩:=Hj aa (by rw[show i-1+1=i by omega];exact e1);have qU:=(vH e4).1;have Z:iF ops i need=if need+(bQ ops[i-1].k-1)>0 then iF ops (i-1) (need+(bQ ops[i-1].k-1)) else i-1:=by obtain⟨j,rfl⟩:∃j,i=j+1:=⟨i-1,by omega⟩;rw[iF,uw w4];rfl
  have nx:(need+(bQ ops[i-1].k-1)=0∧iF ops n 1=i-1)∨(1≤need+(bQ ops[i-1].k-1)∧iF ops n 1=iF ops (i-1) (need+(bQ ops[i-1].k-1))∧∃h,runs 0 (ops.take (i-1))=some h∧need+(bQ ops[i-1].k-1)≤h):=(by (by_cases hc:need+(bQ ops[i-1].k-1)>0);exact .inr ⟨by omega,by rw[I,Z,if_pos hc],h3,e3,by omega⟩;exact .inl ⟨by omega,by rw[I,Z,if_neg hc]⟩)
  refine cM [0,5,6] ?_;refine aP 1 ?_ (h:=by exact(cW rfl ot bC (fU (r:=((i-1:Nat):Int)) (by rw[jS];exact wrap_i64 O U))));refine bM ?_;refine ie [0,5,6] ?_;refine cU (Ea ops[i-1].k) ?_;refine bM ?_;refine⟨((i-1),(need+(bQ ops[i-1].k-1))),_,cz,aM,w4,w4,w4,nx,rfl⟩
 have aS:iF ops n 1=i:=(by rcases hinv with ⟨_,h⟩|⟨h,_⟩;exact h;omega)
 refine ae [4] ?_;exact tI
theorem Oo(ls:List aW)(g:Nat)(E:List D)(S:List ag)(p:aW→Bool)(fg:∀args w,(callFunc g args).run Tryz.prog w = .ok (.enter g args) w)(hp:∀x∈ls,VC Tryz.prog G g (.agg (cO x)::E) S (fun r S'=>r = .v (.bool (p x))∧S'=S))(hlen:ls.length≤1000000):VC Tryz.prog G 170 [.list 5 (ls.flatMap cO) ls.length,.eo (.func g) E] S (fun r S'=>r = .v (.int .i64 (dO p ls))∧S'=S):=by
 refine VC.body func170 rfl ntmps170 aO fun X0 w0 aX=>?_;unfold cO at hp;exact U4
theorem Zn(o:aW)(nm:ByteArray)(b:Nat):VC Tryz.prog G 171 [.agg (cO o),.v (.pointer (some ⟨b,0,none⟩))] [⟨b,9,1,[.v (.string nm)]⟩] (fun r S=>r = .v (.bool (lM nm o))∧S=[⟨b,9,1,[.v (.string nm)]⟩]):=by
 refine VC.body func171 rfl ntmps171 aO fun X0 w0 aX=>?_;unfold cO lM;refine bX ?_;refine OD.box (ds:=[_,_,_,_,_]) an rfl rfl ot rfl rfl (fun b2=>?_);refine aj 13 [1,2] ?_;refine aC 4 ?_;refine bS 7 (fun I E=>?_) (fun I E=>?_)
 ·refine aZ [3] ?_;refine aJ [⟨b,9,1,[.v (.string nm)]⟩] ?_;first|exact⟨rfl,rfl⟩|(refine⟨vb ?_,rfl⟩;simp_all)
 refine aZ [3] ?_;refine aJ [⟨b,9,1,[.v (.string nm)]⟩] ?_;first|exact⟨rfl,rfl⟩|(refine⟨vb ?_,rfl⟩;simp_all)
theorem Zo(o:aW):VC Tryz.prog G 172 [.agg (cO o)] [] (fun r S=>r = .v (.bool (gw o))∧S=[]):=by
 refine VC.body func172 rfl ntmps172 aO fun X0 w0 aX=>?_;unfold cO gw;refine bX ?_;refine OD.box (ds:=[_,_,_,_,_]) an rfl rfl ot rfl rfl (fun b1=>?_);refine aj 12 [1] ?_;refine aC 4 ?_;refine bS 6 (fun I E=>?_) (fun I E=>?_)
 ·refine aZ [2] ?_;refine eA ?_;first|exact⟨rfl,rfl⟩|(refine⟨vb ?_,rfl⟩;simp_all;done)|(refine⟨vb ?_,rfl⟩;simp_all;rfl)
 refine aZ [2] ?_;refine eA ?_;first|exact⟨rfl,rfl⟩|(refine⟨vb ?_,rfl⟩;simp_all;done)|(refine⟨vb ?_,rfl⟩;simp_all;rfl)
theorem Qx(a b:List UInt8):VP Tryz.prog G 35 [.list 1 (a.flatMap cB) a.length,.list 1 (b.flatMap cB) b.length] (.v (.int .i64 (compareBytes a b))):=by
 exact T4
theorem Zp:(Tryz.prog.info? 5).map (fun i=>(i.zero,i.size,i.bytes))=some (some (.int .u8 0),1,1):=by kernel_rfl
theorem HE(a:List UInt8)(ha:a.length≤1000):VP Tryz.prog G 59 [.list 1 (a.flatMap cB) a.length] (.list 1 (a.flatMap cB) a.length):=by
 refine VC.body func59 rfl ntmps59 aO fun X0 w0 aX=>?_;have dr:maxLen=9223372036854775807:=rfl;refine ae [0] ?_;refine aC 1 ?_;refine OD.yD an rfl rfl ot bC underlying49 (fun O wX=>?_);refine aj 8 [0,4] ?_;refine aq (fun az aG=>?_) (fun az aG=>?_)
 ·exact VF
 refine bX ?_;refine OD.yE an rfl rfl runUnderlying49 sizeOf5 (fun b5=>?_);refine aD 1 ?_;refine OD.oN (ls:=([]:List UInt8)) (new:=a) (Sq:=[⟨b5,5,0*1,[]⟩]) oU vQ an rfl rfl underlying49 Zp rfl w7 runUnderlying49 sizeOf5 ot (.inr ⟨b5,rfl,Nat.le_refl _,Nat.zero_le _,rfl⟩) (dB (A:=[])) ot gM gM (fun E I S7 py=>?_);exact T5
theorem Er(l:List Vl):(fX l).1.length≤100:=by
 unfold fX;split
 ·simp
 split
 ·simp
 split
 ·simp
 simpa using by omega
theorem acK(hk:k.length≤100)(h1:b.1.length≤100)(h2:b.2.length≤100):(nN k b).1.length≤100∧(nN k b).2.length≤100:=by unfold nN;split<;>exact⟨by assumption,by assumption⟩
theorem PU(hk:k.length≤100)(h1:b.1.length≤100)(h2:b.2.length≤100):(rD k b).1.length≤100∧(rD k b).2.length≤100:=by unfold rD;split<;>exact⟨by assumption,by assumption⟩
theorem acL{E:Int}{eq not:Bool}(hk:k.length≤100)(h1:b.1.length≤100)(h2:b.2.length≤100):(uO E eq not k b).1.length≤100∧(uO E eq not k b).2.length≤100:=by
 unfold uO;have q1:=acK hk h1 h2;have q2:=PU hk h1 h2;have I:=PU hk q1.1 q1.2;cases(eq||(E==0)!=not)<;>cases(eq||(E==0)==not)
 ·exact⟨h1,h2⟩
 ·exact q1
 ·exact q2
 exact I
theorem xZ{key:ByteArray}{not:Bool}(h1:b.1.length≤100)(h2:b.2.length≤100):(mK key ops not b).1.length≤100∧(mK key ops not b).2.length≤100:=by
 unfold mK;split
 ·exact⟨h1,h2⟩
 split
 ·exact⟨h1,h2⟩
 exact acL (Er _) h1 h2
theorem IF(key:ByteArray):∀(f:Nat) (ops:List aW) (b:kK),b.1.length≤100→b.2.length≤100→(fQ key f ops b).1.length≤100∧(fQ key f ops b).2.length≤100
 | 0,_,b,h1,h2=>⟨h1,h2⟩
 | f+1,ops,b,h1,h2=>by
  rw[fQ];split
  ·have q:=IF key f (ops.take (iF ops (ops.length-1) 1)) b h1 h2;exact IF key f _ _ q.1 q.2
  split
  ·exact xZ h1 h2
  exact xZ h1 h2
theorem Eb(h:runs 0 ops=some 1):1≤ops.length:=by
 cases ops with
 | nil=>rw[runs] at h;cases h
 | cons=>simp
theorem PV(h:runs 0 ops=some 1):∃(hn:ops.length-1<ops.length),runs 0 (ops.take (ops.length-1))=some (bQ ops[ops.length-1].k):=by
 have hp:=Eb h;have aa:ops.length-1<ops.length:=(by omega)
 refine⟨aa,?_⟩;obtain⟨h',e1,e2,E⟩:=Hj aa (by rw[show ops.length-1+1=ops.length by omega,take_length];exact h);rw[e1];congr 1;omega
theorem acM(h:runs 0 ops=some 1)(hk:mZ ops (ops.length-1)=3):iF ops (ops.length-1) 1<ops.length-1∧runs 0 (ops.take (iF ops (ops.length-1) 1))=some 1∧runs 0 ((ops.take (ops.length-1)).drop (iF ops (ops.length-1) 1))=some 1∧runs 0 (ops.take (ops.length-1))=some 2:=by
 obtain⟨hn,e⟩:=PV h;rw[uw hn] at hk;rw[hk] at e;obtain⟨q1,q2,E⟩:=PT (ops.length-1) 1 2 w4 e w7 w7;exact⟨q1,q2,E 0 w7,e⟩
variable {key:ByteArray}
theorem aet{ls:List aW}{j:Nat}(h:j<ls.length):((ls.flatMap cO).drop (j*5+1)).take 3=cV ls[j].v:=by
 rw[←drop_drop,uo mI,drop_eq_getElem_cons h,flatMap_cons];rfl
theorem aaY(hG:(1,[Value.int .i64 m])∈G)(key:ByteArray)(f:Nat)(hf:f≤40)(IH:∀(ops:List aW) (lo hi:List UInt8),ops.length≤f→runs 0 ops=some 1→(∀o∈ops,o.v.Ok)→lo.length≤100→hi.length≤100→∀b0,VC Tryz.prog G 146 [.v (.pointer (some ⟨b0,0,none⟩)),.v (.string key),.list 5 (ops.flatMap cO) ops.length] [⟨b0,224,2,[.list 1 (lo.flatMap cB) lo.length,.list 1 (hi.flatMap cB) hi.length]⟩] (fun r S=>r = .dz []∧S=[⟨b0,224,2,[.list 1 ((fQ key f ops (lo,hi)).1.flatMap cB) (fQ key f ops (lo,hi)).1.length,.list 1 ((fQ key f ops (lo,hi)).2.flatMap cB) (fQ key f ops (lo,hi)).2.length]⟩]))(ops:List aW)(lo hi:List UInt8)(hl:ops.length≤f+1)(pD:ops.length≤40)(hr:runs 0 ops=some 1)(aR:∀o∈ops,o.v.Ok)(eO:lo.length≤100)(eu:hi.length≤100)(b0:Nat):VC Tryz.prog G 146 [.v (.pointer (some ⟨b0,0,none⟩)),.v (.string key),.list 5 (ops.flatMap cO) ops.length] [⟨b0,224,2,[.list 1 (lo.flatMap cB) lo.length,.list 1 (hi.flatMap cB) hi.length]⟩] (fun r S=>r = .dz []∧S=[⟨b0,224,2,[.list 1 ((fQ key (f+1) ops (lo,hi)).1.flatMap cB) (fQ key (f+1) ops (lo,hi)).1.length,.list 1 ((fQ key (f+1) ops (lo,hi)).2.flatMap cB) (fQ key (f+1) ops (lo,hi)).2.length]⟩]):=by
 refine VC.body func146 rfl ntmps146 aO fun X0 w0 aX=>?_;have hp0:=Eb hr;obtain⟨ga,WB⟩:=PV hr;have I:=uw ga;have dr:maxLen=9223372036854775807:=rfl;have Cz:=sM ops[ops.length-1].k;refine bX ?_;refine OD.box (ds:=[_]) an rfl rfl ot rfl rfl (fun b4=>?_);refine aj 155 [0,2,4] ?_;refine cM [0,2,4,6] ?_;refine aP 2 ?_ (h:=by exact(cW rfl ot bC (fU (r:=((ops.length-1:Nat):Int)) (by rw[show((ops.length:Nat):Int)-1=((ops.length-1:Nat):Int) by omega];exact wrap_i64 w4 w4))));refine bM ?_;refine ae [0,2,4,6,22] ?_;refine aq (fun az aG=>?_) (fun az aG=>?_)
 ·have lD:mZ ops (ops.length-1)=3:=(by rw[I];omega)
  obtain⟨CL,VT,hm3,hm4⟩:=acM hr lD;have aS:(fQ key (f+1) ops (lo,hi))=fQ key f ((ops.take (ops.length-1)).drop (iF ops (ops.length-1) 1)) (fQ key f (ops.take (iF ops (ops.length-1) 1)) (lo,hi)):=(by rw[fQ,if_pos lD])
  have CM:=IF key f (ops.take (iF ops (ops.length-1) 1)) (lo,hi) eO eu;refine cL [0,2,4,6,7] (Zm ops w4 (ops.length-1) w4 2 hm4 w7) ?_;refine CD.seq ?_;refine lT 5 [0,2,4,6,7,26,27,30] ?_;refine aP 4 ?_ (h:=by exact(ek (l:=0) rfl ot trivial ⟨_,ot⟩ FR));refine jP ?_;refine OD.call an rfl rfl rfl call146 (IH (ops.take (iF ops (ops.length-1) 1)) (lo) (hi) (by simp only[length_drop,length_take];omega) VT (fun o ho=>aR o (mem_of_mem_take ho)) w4 w4 b0) ⟨ot,ot,ot,trivial⟩ (jU (k:=1) rfl) ?_;rintro _ _ ⟨rfl,rfl⟩;refine aj 155 [0,2,4,6,7] ?_;refine CD.seq ?_;refine lT 6 [32,33,37] ?_;refine aP 5 ?_ (h:=by exact(ek (l:=(iF ops (ops.length-1) 1)) (h:=(ops.length-1)) rfl ot ⟨_,ot⟩ ⟨_,ot⟩ (aeb mI (fun h=>by cases h) (fun h=>by cases h) runUnderlying40 sizeOf61 w4 w4)));refine jP ?_;refine OD.call an rfl rfl rfl call146 (IH ((ops.take (ops.length-1)).drop (iF ops (ops.length-1) 1)) ((fQ key f (ops.take (iF ops (ops.length-1) 1)) (lo,hi)).1) ((fQ key f (ops.take (iF ops (ops.length-1) 1)) (lo,hi)).2) (by simp only[length_drop,length_take];omega) hm3 (fun o ho=>aR o (mem_of_mem_take (mem_of_mem_drop ho))) w4 w4 b0) ⟨ot,ot,ot,trivial⟩ (jU (k:=0) rfl) ?_;rintro _ _ ⟨rfl,rfl⟩;refine aj 155 [] ?_;exact Vh
 have lD:¬mZ ops (ops.length-1)=3:=(by rw[I];omega)
 refine ae [0,2,4,6,8] ?_;refine CD.cut (fun aK=>∃(bj:List aW),∃(nt:Bool),((fQ key (f+1) ops (lo,hi))=mK key bj nt (lo,hi))∧(1≤bj.length)∧(bj.length≤40)∧(∀o∈bj,o.v.Ok)∧(bj.length-1<bj.length)∧aK=(⟨155,[(0,.v (.pointer (some ⟨b0,0,none⟩))),(2,.list 5 (bj.flatMap cO) bj.length),(4,.v (.pointer (some ⟨b4,0,none⟩))),(6,.v (.int .i64 ((bj.length-1):Nat))),(8,.v (.bool nt))],[⟨b4,9,1,[.v (.string key)]⟩,⟨b0,224,2,[.list 1 (lo.flatMap cB) lo.length,.list 1 (hi.flatMap cB) hi.length]⟩]⟩:St)) ?_ ?_
 ·refine ae [0,2,4,6,8,45] ?_;refine aq (fun aH aU=>?_) (fun aH aU=>?_)
  ·have U:mZ ops (ops.length-1)=5:=(by rw[I];simpa using aH)
   have iJ:2≤ops.length:=(by rw[←I,U] at WB;have:=Eb WB;rw[length_take] at this;omega)
   have zX:(fQ key (f+1) ops (lo,hi))=mK key (ops.take (ops.length-1)) true (lo,hi):=(by rw[fQ,if_neg lD,if_pos U])
   have ow:(ops.take (ops.length-1)).length=(ops.length-1):=(by rw[length_take];omega)
   refine cM [0,2,4,6,8] ?_;refine aP 2 ?_ (h:=by exact(ek (l:=0) rfl ot trivial ⟨_,ot⟩ FR));refine bM ?_;refine ie [0,2,4,6,8] ?_;refine aP 1 ?_ (h:=by exact(cW rfl ot bC (fU (r:=((ops.length-1-1:Nat):Int)) (by rw[show((ops.length-1:Nat):Int)-1=((ops.length-1-1:Nat):Int) by omega];exact wrap_i64 w4 w4))));refine bM ?_;refine⟨_,(aM (h:=by repeat (first|exact trivial|refine⟨(by (repeat (first|exact fm|(apply fK;focus (first|rfl|(rw[ow];done)|(rw[aH];done)))|(apply fu;focus rfl)));done),?_⟩))),(ops.take (ops.length-1)),true,zX,w4,w4,(fun o ho=>aR o (mem_of_mem_take ho)),w4,rfl⟩
  have U:¬mZ ops (ops.length-1)=5:=(by rw[I];simpa using aH)
  have zX:(fQ key (f+1) ops (lo,hi))=mK key ops false (lo,hi):=(by rw[fQ,if_neg lD,if_neg U])
  refine CD.skip ?_;refine⟨_,(aM (h:=by repeat (first|exact trivial|refine⟨(by (repeat (first|exact fm|(apply fK;focus (first|rfl|(rw[ow];done)|(rw[aH];done)))|(apply fu;focus rfl)));done),?_⟩))),ops,false,zX,hp0,pD,aR,ga,rfl⟩
 rintro _ ⟨bj,nt,aS,nR,an2,jE,uP,rfl⟩;refine jz [0,2,4,6,8] (fun aV tW aK=>(¬(bj.length≠3∨(nt=true∧bj[bj.length-1].k≠7)∨(bj[bj.length-1].k≠6∧bj[bj.length-1].k≠7)))∧aK=(⟨155,aV,tW⟩:St)) ?_ ?_
 ·refine aC 3 ?_;refine bS 53 (fun Kx JI=>?_) (fun Kx JI=>?_)
  ·refine aZ [0,2,4,6,8,79] ?_;refine ez ?_;exact z37
  refine aD 2 ?_;refine bS 55 (fun s7 afJ=>?_) (fun s7 afJ=>?_)
  ·refine aD 9 ?_;refine bS 64 (fun KE JL=>?_) (fun KE JL=>?_)
   ·refine aZ [0,2,4,6,8,79] ?_;refine ez ?_;exact z37
   refine aD 7 ?_;exact Vd
  refine xj 6 ?_;refine aD 10 ?_;exact Vd
 rintro _ ⟨rK,rfl⟩;refine aC 1 ?_;refine bJ (ek (l:=0) (h:=2) rfl ot trivial ⟨_,bC⟩ FR) ?_;refine bJ (oO (ds:=[_]) rfl ⟨ot,trivial⟩) ?_;refine OD.call an rfl rfl rfl call170 (Oo (bj.take 2) 171 [.v (.pointer (some ⟨b4,0,none⟩))] _ (lM key) call171 (fun h _=>Zn h key b4) ox) ⟨ot,ot,trivial⟩ (jU (k:=0) rfl) ?_;rintro _ SS2 ⟨rfl,E⟩;rw[E];clear E;refine aj 155 [0,2,6,8,9] ?_;refine aC 1 ?_;refine bJ (ek (l:=0) (h:=2) rfl ot trivial ⟨_,bC⟩ FR) ?_;refine OD.call an rfl rfl rfl call170 (Oo (bj.take 2) 172 [] [] gw call172 (fun h _=>Zo h) ox) ⟨ot,sF,trivial⟩ (eH _) ?_;rintro _ SS2 ⟨rfl,E⟩;rw[E];clear E;refine aj 155 [0,2,6,8,9,10] ?_;refine aC 3 ?_;refine bS 89 (fun ah1 afK=>?_) (fun ah1 afK=>?_)
 ·refine aZ [0,2,6,8,9,10,92] ?_;refine ez ?_;exact T2
 refine aZ [0,2,6,8,9,10,92] ?_;refine aq (fun bF bY=>?_) (fun bF bY=>?_)
 ·exact T2
 have aY:¬((dO (lM key) (bj.take 2))<0∨(dO gw (bj.take 2))<0):=(by first|omega|(simp_all;omega)|simp_all)
 have hLb:=yh gw (bj.take 2);have Gg:bj.length=3:=(by omega)
 rw[length_take] at hLb;have O:(dO gw (bj.take 2)).toNat<bj.length:=(by omega)
 have Mc:y9 bj=(fX [bj[(dO gw (bj.take 2)).toNat].v]).1:=(by unfold y9;rw[getD_eq_getElem?_getD,getElem?_eq_getElem O];rfl)
 have Ta:(fQ key (f+1) ops (lo,hi))=uO (dO (lM key) (bj.take 2)) (bj[bj.length-1].k==6) nt (fX [bj[(dO gw (bj.take 2)).toNat].v]).1 (lo,hi):=(by rw[aS];unfold mK;rw[uw uP,if_neg rK,if_neg aY,Mc])
 have xD:=aeh hG [bj[(dO gw (bj.take 2)).toNat].v] gM (fun v hv=>by rw[mem_singleton] at hv;rw[hv];exact jE _ (getElem_mem O));have dU:=Er [bj[(dO gw (bj.take 2)).toNat].v];unfold Kp AV at xD;refine cM [0,2,6,8,9,11] ?_;refine aP 2 ?_ (h:=by exact(dy 5 (h:=by first|exact .l (j:=(dO gw (bj.take 2)).toNat) w4 O|exact .r (j:=(dO gw (bj.take 2)).toNat) w4 O)));refine aP 1 ?_ (h:=by exact(cH (mk:=Op.load 30) rfl ot (pT isAgg30 sizeOf30 rfl (aet O))));refine cU (xD) ?_;refine bM ?_;refine ae [0,8,9,11,13] ?_;refine jz [0,8,9,11,13] (fun aV _ aK=>∃(b1:kK),(b1=(bif (bj[bj.length-1].k==6)||(((dO (lM key) (bj.take 2))==0)==nt) then nN (fX [bj[(dO gw (bj.take 2)).toNat].v]).1 (lo,hi) else (lo,hi)))∧(b1.1.length≤100)∧(b1.2.length≤100)∧aK=(⟨155,aV,[⟨b0,224,2,[.list 1 (b1.1.flatMap cB) b1.1.length,.list 1 (b1.2.flatMap cB) b1.2.length]⟩]⟩:St)) ?_ ?_
 ·refine aC 2 ?_;refine bS 110 (fun Ju Z=>?_) (fun Ju Z=>?_)
  ·refine aZ [0,8,9,11,13,115] ?_;refine ez ?_;exact U8
  refine aD 3 ?_;refine OD.still gN rfl (cW rfl ot ot (D2 underlying4)) ?_;refine aj 155 [0,8,9,11,13,115] ?_;refine aq (fun cx c8=>?_) (fun cx c8=>?_)
  ·exact U8
  have B8:(lo,hi)=(bif (bj[bj.length-1].k==6)||(((dO (lM key) (bj.take 2))==0)==nt) then nN (fX [bj[(dO gw (bj.take 2)).toNat].v]).1 (lo,hi) else (lo,hi)):=(by rw[Ju,cx];rfl)
  refine CD.skip ?_;refine⟨_,aM,(lo,hi),B8,(by first|exact dU|exact eO),eu,rfl⟩
 rintro _ ⟨b1,iR,an3,an4,rfl⟩;refine aC 2 ?_;refine bS 129 (fun Jt aeu=>?_) (fun Jt aeu=>?_)
 ·refine aZ [0,11,134] ?_;refine ez ?_;exact U2
 refine aD 3 ?_;refine OD.still gN rfl (cW rfl ot ot (Pb underlying4)) ?_;refine aj 155 [0,11,134] ?_;refine aq (fun eN fR=>?_) (fun eN fR=>?_)
 ·exact U2
 have Lu:((bj[bj.length-1].k==6) || !(((dO (lM key) (bj.take 2))==0)==nt))=false:=(by rw[Jt,eN];rfl)
 have sb:(fQ key (f+1) ops (lo,hi))=b1:=(by rw[Ta];unfold uO;rw[show((bj[bj.length-1].k==6)||((dO (lM key) (bj.take 2))==0)!=nt)=false from Lu,←iR];rfl)
 refine aJ [⟨b0,_,_,_⟩] ?_;refine⟨rfl,?_⟩;first|rw[sb]|rw[aS]
theorem SE(hG:(1,[Value.int .i64 m])∈G)(key:ByteArray):∀(f:Nat),f≤40→∀(ops:List aW) (lo hi:List UInt8),ops.length≤f→runs 0 ops=some 1→(∀o∈ops,o.v.Ok)→lo.length≤100→hi.length≤100→∀b0,VC Tryz.prog G 146 [.v (.pointer (some ⟨b0,0,none⟩)),.v (.string key),.list 5 (ops.flatMap cO) ops.length] [⟨b0,224,2,[.list 1 (lo.flatMap cB) lo.length,.list 1 (hi.flatMap cB) hi.length]⟩] (fun r S=>r = .dz []∧S=[⟨b0,224,2,[.list 1 ((fQ key f ops (lo,hi)).1.flatMap cB) (fQ key f ops (lo,hi)).1.length,.list 1 ((fQ key f ops (lo,hi)).2.flatMap cB) (fQ key f ops (lo,hi)).2.length]⟩]):=by
 intro f;induction f with
 | zero =>
  intro _ ops lo hi hl hr;have:=Eb hr;omega
 | succ f IH =>
  intro hf ops lo hi hl hr aR eO eu b0;exact aaY hG key f w4 (IH w4) ops lo hi hl w4 hr aR eO eu b0
def iB(l:List cu)(ops:List aW):kK×Int :=
 if fw l≠0 then (([],[]),fw l) else if ops.length=0 then (([],[]),0) else if (ec l ops).2≠0 then (([],[]),(ec l ops).2)
 else if (ec l ops).1≠1∧(ec l ops).1≠0 then (([],[]),4) else (fQ (l.getD 0 ⟨⟨#[]⟩,0⟩).n ops.length ops ([],[]),0)
def MA(r:kK×Int):D:=.dz [AV r.1.1,AV r.1.2,.v (.int .i64 r.2)]
theorem aaZ{l:List cu}(h:fw l=0):0<l.length:=by
 unfold fw at h;split at h
 ·cases h
 omega
theorem Yj(h:iD ops=0):runs 0 ops=some 1:=by
  obtain⟨_,h0⟩:=vK h;have key:∀(l:List aW) (k:Int),fy k l=0→runs k l=some 1:=by
    intro l;induction l with
    | nil => intro k h; rw[fy] at h; split at h; · rename_i e; rw[runs, e]
             · cases h
    | cons o r ih =>
      intro k h;rw[fy] at h;split at h
      · rename_i e;rw[runs,if_pos e];exact ih _ h
      rename_i e;exact absurd h e
  exact key ops 0 h0
theorem Zq(hm:(3,marksC)∈G)(hw:(2,wordsC)∈G)(ht:(0,typesC)∈G)(hG:(1,[Value.int .i64 m])∈G)(l:List cu)(hl:l.length≤6)(I:∀c∈l,c.n.size≤maxLen)(ops:List aW)(ho:∀o∈ops,o.nm.size≤maxLen)(aR:∀o∈ops,o.v.Ok):VP Tryz.prog G 121 [.list 2 (l.flatMap cC) l.length,.list 5 (ops.flatMap cO) ops.length] (MA (iB l ops)):=by
 refine VC.body func121 rfl ntmps121 aO fun X0 w0 aX=>?_;have dr:maxLen=9223372036854775807:=rfl;have eZ:=Et hm hw ht l w4 I;have Z:=IC hm hw ht l hl I ops ho;unfold ph at Z;unfold MA AV;refine ae [0,1] ?_;refine cL [0,1,7] (eZ) ?_;refine ae [0,1,7,13] ?_;refine aq (fun az aG=>?_) (fun az aG=>?_)
 ·have h0:fw l≠0:=(by simpa using az)
  have aS:iB l ops=(([],[]),fw l):=(by unfold iB;rw[if_pos h0])
  exact z119
 have h0:¬fw l≠0:=(by simpa using az)
 have E:=aaZ (Classical.not_not.1 h0);refine ae [0,1,17] ?_;refine aq (fun aH aU=>?_) (fun aH aU=>?_)
 ·have h1:ops.length=0:=(by simpa using aH)
  have aS:iB l ops=(([],[]),0):=(by unfold iB;rw[if_neg h0,if_pos h1])
  exact z119
 have h1:¬ops.length=0:=(by simpa using aH)
 refine cL [0,1,6,8] (Z) ?_;refine ae [0,1,6,8,25] ?_;refine aq (fun aY bz=>?_) (fun aY bz=>?_)
 ·have h2:(ec l ops).2≠0:=(by simpa using aY)
  have aS:iB l ops=(([],[]),(ec l ops).2):=(by unfold iB;rw[if_neg h0,if_neg h1,if_pos h2])
  exact z119
 have h2:¬(ec l ops).2≠0:=(by simpa using aY)
 obtain⟨k1,k2,k3⟩:=Eu (Classical.not_not.1 h2);have zX:=Yj k2;obtain⟨pD,_⟩:=vK k2;refine aC 3 ?_;refine bS 29 (fun ah2 O=>?_) (fun ah2 O=>?_)
 ·refine aZ [0,1,32] ?_;refine aq (fun bF bY=>?_) (fun bF bY=>?_)
  ·have h3:(ec l ops).1≠1∧(ec l ops).1≠0:=(by simp_all)
   have aS:iB l ops=(([],[]),4):=(by unfold iB;rw[if_neg h0,if_neg h1,if_neg h2,if_pos h3])
   exact z119
  have h3:¬((ec l ops).1≠1∧(ec l ops).1≠0):=(by simp_all)
  have aS:iB l ops=(fQ l[0].n ops.length ops ([],[]),0):=(by unfold iB;rw[if_neg h0,if_neg h1,if_neg h2,if_neg h3,getD_eq_getElem?_getD,getElem?_eq_getElem E];rfl)
  refine aC 1 ?_;refine OD.box (ds:=[_,_]) an rfl rfl ot rfl rfl (fun U=>?_);refine OD.wk (Wk.Ui (k:=0) (sz:=1) (sz':=1) rfl) ?_;refine aj 50 [0,1,9] ?_;refine aC 2 ?_;refine bJ (nZ (mk:=Op.indexAddr 38) rfl ot bC (by first|exact oR runUnderlying38 sizeOf111 (j:=0) rfl E|exact oV runUnderlying38 sizeOf111 (j:=0) rfl E)) ?_;refine aD 3 ?_;refine OD.call an rfl rfl rfl call146 (SE hG l[0].n ops.length pD ops [] [] (Nat.le_refl _) zX aR (Nat.zero_le _) (Nat.zero_le _) U) ⟨ot,ot,ot,trivial⟩ (jU (k:=0) rfl) ?_;rintro _ _ ⟨rfl,rfl⟩;refine aj 50 [9] ?_;refine ae [4,5,6] ?_;exact z46
 refine aZ [0,1,32] ?_;refine fF ?_;have h3:¬((ec l ops).1≠1∧(ec l ops).1≠0):=(by simp_all)
 have aS:iB l ops=(fQ l[0].n ops.length ops ([],[]),0):=(by unfold iB;rw[if_neg h0,if_neg h1,if_neg h2,if_neg h3,getD_eq_getElem?_getD,getElem?_eq_getElem E];rfl)
 refine aC 1 ?_;refine OD.box (ds:=[_,_]) an rfl rfl ot rfl rfl (fun U=>?_);refine OD.wk (Wk.Ui (k:=0) (sz:=1) (sz':=1) rfl) ?_;refine aj 50 [0,1,9] ?_;refine aC 2 ?_;refine bJ (nZ (mk:=Op.indexAddr 38) rfl ot bC (by first|exact oR runUnderlying38 sizeOf111 (j:=0) rfl E|exact oV runUnderlying38 sizeOf111 (j:=0) rfl E)) ?_;refine aD 3 ?_;refine OD.call an rfl rfl rfl call146 (SE hG l[0].n ops.length pD ops [] [] (Nat.le_refl _) zX aR (Nat.zero_le _) (Nat.zero_le _) U) ⟨ot,ot,ot,trivial⟩ (jU (k:=0) rfl) ?_;rintro _ _ ⟨rfl,rfl⟩;refine aj 50 [9] ?_;refine ae [4,5,6] ?_;exact tI

end Go.Proofs.YtbcmjoaggammcaaGreatDoor.Ex
namespace Go.Proofs.YtbcmjoaggammcaaGreatDoor.Tr
open List
open Go.Proofs.Tryz
open Go.Lib (compareBytes)
/-! ### The order of keys -/
variable {i j:Nat}
abbrev K:=List UInt8
variable {a b c k low:K}
theorem Gu(a b:UInt8)(x y:K):compareBytes (a::x) (b::y)=if a<b then -1 else if b<a then 1 else compareBytes x y:=by rw[compareBytes]
theorem u8{a b:UInt8}:a<b↔a.toNat<b.toNat:=UInt8.lt_iff_toNat_lt
theorem xE:∀(x y:K),(compareBytes x y = -1∧compareBytes y x=1)∨(compareBytes x y=0∧x=y)∨(compareBytes x y=1∧compareBytes y x = -1)
 | [],[]=>.inr (.inl ⟨rfl,rfl⟩)
 | [],_::_=>.inl ⟨rfl,rfl⟩
 | _::_,[]=>.inr (.inr ⟨rfl,rfl⟩)
 | a::x,b::y=>by
  rw[Gu,Gu];by_cases h1:a<b
  ·have h2:¬b<a:=(by rw[u8] at h1 ⊢;omega)
   rw[if_pos h1,if_neg h2,if_pos h1];exact .inl ⟨rfl,rfl⟩
  by_cases h2:b<a
  ·rw[if_neg h1,if_pos h2,if_pos h2];exact .inr (.inr ⟨rfl,rfl⟩)
  rw[if_neg h1,if_neg h2,if_neg h2,if_neg h1];have qn:a=b:=by
   apply UInt8.toNat_inj.1;rw[u8] at h1 h2;omega
  subst qn;rcases xE x y with h|⟨h,e⟩|h
  ·exact .inl h
  ·exact .inr (.inl ⟨h,by rw[e]⟩)
  exact .inr (.inr h)
theorem Tj:∀(x y z:K),compareBytes x y = -1→compareBytes y z = -1→compareBytes x z = -1
 | [],[],_,h,_=>by cases h
 | _::_,[],_,h,_=>by cases h
 | _,_::_,[],_,h=>by cases h
 | [],_::_,_::_,_,_=>rfl
 | a::x,b::y,c::z,h1,h2=>by
  rw[Gu] at h1 h2 ⊢;by_cases p:a<b
  ·by_cases q:b<c
   ·rw[if_pos (by rw[u8] at p q ⊢;omega)]
   rw[if_neg q] at h2;by_cases r:c<b
   ·rw[if_pos r] at h2;cases h2
   rw[if_pos (by rw[u8] at p q r ⊢;omega)]
  rw[if_neg p] at h1;by_cases p':b<a
  ·rw[if_pos p'] at h1;cases h1
  rw[if_neg p'] at h1;by_cases q:b<c
  ·rw[if_pos (by rw[u8] at p p' q ⊢;omega)]
  rw[if_neg q] at h2;by_cases r:c<b
  ·rw[if_pos r] at h2;cases h2
  rw[if_neg r] at h2;rw[if_neg (by rw[u8] at p p' q r ⊢;omega),if_neg (by rw[u8] at p p' q r ⊢;omega)];exact Tj x y z h1 h2
def bP(a b:K):Prop:=compareBytes a b<0
instance (a b:K):Decidable (bP a b):=inferInstanceAs (Decidable (_<_))
theorem IG:bP a b↔compareBytes a b = -1:=by
 unfold bP;rcases xE a b with ⟨h,_⟩|⟨h,_⟩|⟨h,_⟩<;>rw[h]<;>decide
theorem R5:0<compareBytes a b↔bP b a:=by
 unfold bP;rcases xE a b with ⟨h,h'⟩|⟨h,rfl⟩|⟨h,h'⟩
 ·rw[h,h'];decide
 ·rw[h]
 rw[h,h'];decide
theorem Je(a:K):¬bP a []:=by
 unfold bP;cases a with
 | nil=>decide
 | cons x y=>show ¬(1:Int)<0;decide
theorem jX(a:K):¬bP a a:=fun h=>by
 rcases xE a a with ⟨h1,h2⟩|⟨h1,_⟩|⟨h1,h2⟩
 ·omega
 ·unfold bP at h;omega
 omega
theorem l9(h1:bP a b)(h2:bP b c):bP a c:=IG.2 (Tj a b c (IG.1 h1) (IG.1 h2))
theorem yq(h:bP a b):¬bP b a:=fun h'=>jX a (l9 h h')
theorem yt(a b:K):bP a b∨a=b∨bP b a:=by
 unfold bP;rcases xE a b with ⟨h,_⟩|⟨_,h⟩|⟨_,h⟩
 ·exact .inl w4
 ·exact .inr (.inl h)
 exact .inr (.inr w4)
theorem JM:compareBytes a b=0↔a=b:=⟨fun h=>by
 rcases xE a b with ⟨h1,_⟩|⟨_,h1⟩|⟨h1,_⟩
 ·omega
 ·exact h1
 ·omega,fun h=>by
 subst h;rcases xE a a with ⟨h1,h2⟩|⟨h1,_⟩|⟨h1,h2⟩
 ·omega
 ·exact h1
 omega⟩
theorem Ns(h1:¬bP b a)(h2:bP b c):bP a c:=by
 rcases yt a b with h|rfl|h
 ·exact l9 h h2
 ·exact h2
 exact absurd h h1
theorem XV(h1:bP a b)(h2:¬bP c b):bP a c:=by
 rcases yt b c with h|rfl|h
 ·exact l9 h1 h
 ·exact h1
 exact absurd h h2
theorem Tm(h1:¬bP b a)(h2:¬bP c b):¬bP c a:=fun h=>by
 rcases yt a b with h'|rfl|h'
 ·exact h2 (l9 h h')
 ·exact h2 h
 exact h1 h'
theorem qw{α β:Type}{l:List α}{f g:α→List β}(h:∀a∈l,f a=g a):l.flatMap f=l.flatMap g:=by
 induction l with
 | nil=>rfl
 | cons a r ih=>rw[flatMap_cons,flatMap_cons,h a mem_cons_self,ih fun x hx=>h x (mem_cons_of_mem _ hx)]
/-! ### Pages and trees -/
structure cQ where
 leaf:Bool
 keys:List K
 kids:List Int
 high:K
 next:Int
variable {p:cQ}
def ah3:cQ:=⟨false,[],[],[],0⟩
structure aE where
 af:List cQ
 root:Int
def aE.pg(t:aE)(i:Int):cQ:=t.af.getD i.toNat ah3
def rP:aE:=⟨[⟨true,[],[],[],-1⟩],0⟩
structure ew (p:cQ) (many:Int):Prop where
 eL:p.keys.length≤4
 hlen:p.high.length≤100
 wi:-1≤p.next
 vU:p.next<many
 wj:p.next<0↔p.high=[]
 leaf:p.leaf=true→p.kids.length=p.keys.length
 node:p.leaf=false→p.kids.length=p.keys.length+1∧p.keys≠[]
 kP:∀k∈p.keys,1≤k.length∧k.length≤100
 pX:p.high≠[]→∀k∈p.keys,bP k p.high
 jG:p.keys.Pairwise bP
 aB:∀n∈p.kids,0≤n
 uT:p.leaf=false→∀n∈p.kids,n<many
theorem ew.more{m E:Int}(h:ew p m)(hm:m≤E):ew p E :=
 ⟨h.eL,h.hlen,h.wi,by have:=h.vU;omega,h.wj,h.leaf,h.node,h.kP,h.pX,h.jG,h.aB,fun hl n hn=>by have:=h.uT hl n hn;omega⟩
def gQ(low:K)(p:cQ)(j:Nat):K:=if j=0 then low else p.keys.getD (j-1) []
def gC(p:cQ)(j:Nat):K:=p.keys.getD j p.high
def dR(t:aE):Nat→Int→K→K→Prop
 | 0,i,low,high=>(0≤i∧i<t.af.length)∧(t.pg i).leaf=true∧(t.pg i).high=high∧∀k∈(t.pg i).keys,¬bP k low
 | h+1,i,low,high=>(0≤i∧i<t.af.length)∧(t.pg i).leaf=false∧(t.pg i).high=high∧(∀k∈(t.pg i).keys,¬bP k low) ∧
  ∀j (hj:j<(t.pg i).kids.length),dR t h (t.pg i).kids[j] (gQ low (t.pg i) j) (gC (t.pg i) j)
def ids(t:aE):Nat→Int→List Int
 | 0,i=>[i]
 | h+1,i=>i::(t.pg i).kids.flatMap (ids t h)
def cy(t:aE):Nat→Int→List Int
 | 0,i=>[i]
 | d+1,i=>(t.pg i).kids.flatMap (cy t d)
def eU(p:cQ):List (K×Int):=p.keys.zip p.kids
def dZ(t:aE):Nat→Int→List (K×Int)
 | 0,i=>eU (t.pg i)
 | h+1,i=>(t.pg i).kids.flatMap (dZ t h)
def eV(t:aE):List Int→Int→Prop
 | [],_=>True
 | [i],e=>(t.pg i).next=e
 | i::j::r,e=>(t.pg i).next=j∧eV t (j::r) e
structure Valid (t:aE) (h:Nat):Prop where
 pos:1≤t.af.length
 mQ:t.af.length≤4000
 page:∀p∈t.af,ew p t.af.length
 ok:dR t h t.root [] []
 za:(ids t h t.root).Nodup
 all:(ids t h t.root).length=t.af.length
 oK:∀d,d≤h→eV t (cy t d t.root) (-1)
theorem dR.idx{t:aE}:∀{h:Nat} {i:Int} {low high:K},dR t h i low high→0≤i∧i<t.af.length
 | 0,_,_,_,h=>h.1
 | _+1,_,_,_,h=>h.1
theorem dR.high{t:aE}:∀{h:Nat} {i:Int} {low high:K},dR t h i low high→(t.pg i).high=high
 | 0,_,_,_,h=>h.2.2.1
 | _+1,_,_,_,h=>h.2.2.1
theorem uK{t:aE}{i:Int}(h:0≤i∧i<t.af.length):t.pg i=t.af[i.toNat]'w4:=by
 unfold aE.pg;rw[getD_eq_getElem?_getD,getElem?_eq_getElem w4];rfl
theorem jn{t:aE}{i:Int}(h:0≤i∧i<t.af.length):t.pg i∈t.af:=by rw[uK h];exact getElem_mem _
theorem sE{t:aE}(h:Nat)(i:Int):i∈ids t h i:=by cases h<;>simp[ids]
theorem frame{t u:aE}:∀(h:Nat) (i:Int),(∀j∈ids t h i,u.pg j=t.pg j)→ids u h i=ids t h i∧dZ u h i=dZ t h i∧∀d,d≤h→cy u d i=cy t d i
 | 0,i,hp=>by
  have h0:=hp i (sE 0 i);refine⟨rfl,by unfold dZ;rw[h0],fun d hd=>?_⟩;obtain rfl:d=0:=(by omega)
  rfl
 | h+1,i,hp=>by
  have h0:=hp i (sE _ i);have hs:∀j∈(t.pg i).kids,ids u h j=ids t h j∧dZ u h j=dZ t h j∧∀d,d≤h→cy u d j=cy t d j:=fun j hj=>frame h j fun x hx=>hp x (by
   rw[ids];exact mem_cons_of_mem _ (mem_flatMap.2 ⟨j,hj,hx⟩))
  refine⟨?_,?_,fun d hd=>?_⟩
  ·rw[ids,ids,h0];congr 1;exact qw (fun j hj=>(hs j hj).1)
  ·rw[dZ,dZ,h0];exact qw (fun j hj=>(hs j hj).2.1)
  cases d with
  | zero=>rfl
  | succ d=>rw[cy,cy,h0];exact qw (fun j hj=>(hs j hj).2.2 d w4)
theorem dR.frame{t u:aE}(hl:t.af.length≤u.af.length):∀{h:Nat} {i:Int} {low high:K},dR t h i low high→(∀j∈ids t h i,u.pg j=t.pg j)→dR u h i low high
 | 0,i,low,high,⟨q1,q2,E,I⟩,hp=>by
  have h0:=hp i (sE 0 i);exact⟨⟨q1.1,by omega⟩,by rw[h0];exact q2,by rw[h0];exact E,by rw[h0];exact I⟩
 | h+1,i,low,high,⟨q1,q2,E,I,O⟩,hp=>by
  have h0:=hp i (sE _ i);refine⟨⟨q1.1,by omega⟩,by rw[h0];exact q2,by rw[h0];exact E,by rw[h0];exact I,?_⟩;rw[h0];exact fun j hj=>dR.frame hl (O j hj) fun x hx=>hp x (by rw[ids];exact mem_cons_of_mem _ (mem_flatMap.2 ⟨_,getElem_mem hj,hx⟩))
theorem dR.ids{t:aE}:∀{h:Nat} {i:Int} {low high:K},dR t h i low high→∀j∈Tr.ids t h i,0≤j∧j<t.af.length
 | 0,i,low,high,q,j,hj=>by
  rw[Tr.ids,mem_singleton] at hj;subst hj;exact q.1
 | h+1,i,low,high,⟨q1,q2,I,O,E⟩,j,hj=>by
  rw[Tr.ids] at hj;rcases mem_cons.1 hj with rfl|hj
  ·exact q1
  obtain⟨x,hx,hj⟩:=mem_flatMap.1 hj;obtain⟨n,hn,rfl⟩:=mem_iff_getElem.1 hx;exact dR.ids (E n hn) j hj

theorem JN{α:Type}{p:α→Bool}:∀{l:List α} {i:Nat} (h:i<(l.takeWhile p).length),∃(h':i<l.length),p l[i]=true
 | a::r,i,h=>by
  rw[takeWhile_cons] at h;by_cases ha:p a=true
  ·rw[if_pos ha] at h;cases i with
   | zero=>exact⟨by simp,ha⟩
   | succ i =>
    obtain⟨h',q⟩:=JN (l:=r) (i:=i) oB;exact⟨by simpa using h',by simpa using q⟩
  rw[if_neg ha] at h;simp at h
theorem Jf{α:Type}{p:α→Bool}:∀{l:List α} (h:(l.takeWhile p).length<l.length),p l[(l.takeWhile p).length]=false
 | a::r,h=>by
  by_cases ha:p a=true
  ·have e:((a::r).takeWhile p).length=(r.takeWhile p).length+1:=(by rw[takeWhile_cons,if_pos ha];rfl)
   have h2:(r.takeWhile p).length<r.length:=(by rw[e] at h;simpa using h)
   have:=Jf (l:=r) h2;simp only[e,getElem_cons_succ];exact this
  have e:((a::r).takeWhile p).length=0:=(by rw[takeWhile_cons,if_neg ha];rfl)
  simp only[e,getElem_cons_zero];simpa using ha
theorem Tn{α:Type}(p:α→Bool)(l:List α):(l.takeWhile p).length≤l.length:=(takeWhile_sublist p).length_le
def gg(keys:List K)(k:K):Nat:=(keys.takeWhile fun x=>decide (bP x k)).length
def mh(keys:List K)(k:K):Nat:=(keys.takeWhile fun x=>decide (¬bP k x)).length
def aL(p:cQ)(k:K):Nat:=if p.leaf=true then gg p.keys k else mh p.keys k
theorem Ax{keys:List K}(h:i<gg keys k):∃(h':i<keys.length),bP keys[i] k:=by
 obtain⟨h',q⟩:=JN h;exact⟨h',by simpa using q⟩
theorem Ap{keys:List K}(h:gg keys k<keys.length):¬bP keys[gg keys k] k:=by
 exact of_decide_eq_false (Jf h)
theorem x4(keys:List K)(k:K):gg keys k≤keys.length:=Tn _ _
theorem HQ{keys:List K}(h:i<mh keys k):∃(h':i<keys.length),¬bP k keys[i]:=by
 obtain⟨h',q⟩:=JN h;exact⟨h',by simpa using q⟩
theorem Hl{keys:List K}(h:mh keys k<keys.length):bP k keys[mh keys k]:=by
 exact Classical.not_not.1 (of_decide_eq_false (Jf h))
theorem Ay(keys:List K)(k:K):mh keys k≤keys.length:=Tn _ _
theorem mH{keys:List K}(h:keys.Pairwise bP)(E:i<j)(hj:j<keys.length):bP keys[i] keys[j]:=pairwise_iff_getElem.1 h i j w4 hj E
theorem EL(h:j<p.keys.length):gC p j=p.keys[j]:=by unfold gC;rw[getD_eq_getElem?_getD,getElem?_eq_getElem h];rfl
theorem II(h:p.keys.length≤j):gC p j=p.high:=by unfold gC;rw[getD_eq_getElem?_getD,getElem?_eq_none h];rfl
theorem Ew(h:0<j)(h':j-1<p.keys.length):gQ low p j=p.keys[j-1]:=by unfold gQ;rw[if_neg w4,getD_eq_getElem?_getD,getElem?_eq_getElem h'];rfl
def kX(low high k:K):Prop:=¬bP k low∧(high≠[]→bP k high)
theorem sR(k:K):kX [] [] k:=⟨Je k,fun h=>absurd rfl h⟩
theorem down{n:Int}(hp:ew p n)(hl:p.leaf=false){high:K}(E:p.high=high)(hk:kX low high k):aL p k<p.kids.length∧kX (gQ low p (aL p k)) (gC p (aL p k)) k:=by
 have e:aL p k=mh p.keys k:=(by unfold aL;rw[if_neg (by rw[hl];decide)])
 have I:=Ay p.keys k;rw[e];refine⟨by rw[(hp.node hl).1];omega,?_,?_⟩
 ·rcases Nat.eq_zero_or_pos (mh p.keys k) with h0|h0
  ·rw[h0];exact hk.1
  obtain⟨h',q⟩:=HQ (keys:=p.keys) (k:=k) (i:=mh p.keys k-1) w4;rw[Ew h0 h'];exact q
 intro hne;by_cases aa:mh p.keys k<p.keys.length
 ·rw[EL aa];exact Hl aa
 rw[II w4] at hne ⊢;rw[E] at hne ⊢;exact hk.2 hne
def aI(t:aE)(k:K):Nat→Int→Int
 | 0,i=>i
 | h+1,i=>aI t k h ((t.pg i).kids.getD (aL (t.pg i) k) 0)
def iO(t:aE)(k:K):Nat→Int→List Int
 | 0,i=>[i]
 | h+1,i=>i::iO t k h ((t.pg i).kids.getD (aL (t.pg i) k) 0)
theorem Oq(t:aE)(k:K):∀(h:Nat) (i:Int),(iO t k h i).getLast?=some (aI t k h i)
 | 0,i=>rfl
 | h+1,i=>by
  have:=Oq t k h ((t.pg i).kids.getD (aL (t.pg i) k) 0);rw[iO,aI,getLast?_cons,this];rfl
theorem vI(t:aE):∀(h:Nat) (i:Int),dZ t h i=(cy t h i).flatMap fun l=>eU (t.pg l)
 | 0,i=>by simp[dZ,cy]
 | h+1,i=>by
  rw[dZ,cy,flatMap_assoc];exact qw fun j _=>vI t h j
theorem zip_fst{α β:Type}:∀{a:List α} {b:List β},b.length=a.length→(a.zip b).map Prod.fst=a
 | [],_,_=>by simp
 | x::a,[],h=>by simp at h
 | x::a,y::b,h=>by simp[zip_fst (a:=a) (b:=b) oB]
theorem PW{x:K×Int}(h:x∈eU p):x.1∈p.keys:=(of_mem_zip h).1
theorem sK(h:j<p.kids.length):p.kids.getD j 0=p.kids[j]:=by rw[getD_eq_getElem?_getD,getElem?_eq_getElem h];rfl
variable {t:aE} {n:Int}
theorem Yk(hp:ew p n)(hl:p.leaf=false){high:K}(I:p.high=high)(E:∀k∈p.keys,¬bP k low)(hj:j<p.kids.length)(hk:kX (gQ low p j) (gC p j) k):kX low high k:=by
 have hn:=(hp.node hl).1;refine⟨?_,fun hne=>?_⟩
 ·rcases Nat.eq_zero_or_pos j with rfl|h0
  ·exact hk.1
  rw[Ew h0 w4] at hk;exact Tm (E _ (getElem_mem _)) hk.1
 by_cases aa:j<p.keys.length
 ·rw[EL aa] at hk;have hm:=getElem_mem aa;have h2:=hk.2 (by intro e;have:=(hp.kP _ hm).1;rw[e] at this;simp at this);exact l9 h2 (by rw[←I];exact hp.pX (by rw[I];exact hne) _ hm)
 rw[II w4,I] at hk;exact hk.2 hne
theorem Ho(hp:ew p n)(hl:p.leaf=false)(I:i<j)(hj:j<p.kids.length)(ha:kX (gQ low p i) (gC p i) a)(hb:kX (gQ low p j) (gC p j) b):bP a b:=by
 have hn:=(hp.node hl).1;have E:i<p.keys.length:=(by omega)
 rw[EL E] at ha;have h1:=ha.2 (by intro e;have:=(hp.kP _ (getElem_mem E)).1;rw[e] at this;simp at this);rw[Ew w4 w4] at hb;refine XV h1 ?_;refine Tm ?_ hb.1;rcases Nat.lt_or_ge i (j-1) with h|h
 ·exact yq (mH hp.jG h w4)
 have:j-1=i:=(by omega)
 simp only[this];exact jX _
theorem IJ(hp:∀p∈t.af,ew p n):∀{h:Nat} {i:Int} {low high:K},dR t h i low high→(dZ t h i).Pairwise (fun x y=>bP x.1 y.1)∧∀x∈dZ t h i,kX low high x.1
 | 0,i,low,high,ok=>by
  obtain⟨q1,q2,E,I⟩:=ok;have po:=hp _ (jn q1);rw[dZ];refine⟨?_,fun x hx=>⟨I _ (PW hx),fun hne=>by rw[←E] at hne ⊢;exact po.pX hne _ (PW hx)⟩⟩;have h1:((eU (t.pg i)).map Prod.fst).Pairwise bP:=(by unfold eU;rw[zip_fst (po.leaf q2)];exact po.jG)
  exact pairwise_map.1 h1
 | h+1,i,low,high,ok=>by
  obtain⟨q1,q2,E,I,O⟩:=ok;have po:=hp _ (jn q1);rw[dZ];have hk:∀j (hj:j<(t.pg i).kids.length),(dZ t h (t.pg i).kids[j]).Pairwise (fun x y=>bP x.1 y.1)∧∀x∈dZ t h (t.pg i).kids[j],kX (gQ low (t.pg i) j) (gC (t.pg i) j) x.1:=fun j hj=>IJ hp (O j hj);refine⟨pairwise_flatMap.2 ⟨fun a ha=>?_,?_⟩,fun x hx=>?_⟩
  ·obtain⟨j,hj,rfl⟩:=mem_iff_getElem.1 ha;exact(hk j hj).1
  ·refine pairwise_iff_getElem.2 fun a b ha hb qn x hx y hy=>?_;exact Ho po q2 qn hb ((hk a ha).2 x hx) ((hk b hb).2 y hy)
  obtain⟨c,hc,hx⟩:=mem_flatMap.1 hx;obtain⟨j,hj,rfl⟩:=mem_iff_getElem.1 hc;exact Yk po q2 E I hj ((hk j hj).2 x hx)
theorem Az(hp:∀p∈t.af,ew p n){k:K}:∀{h:Nat} {i:Int} {low high:K},dR t h i low high→kX low high k →
  ∃pre post lo hi,cy t h i=pre++aI t k h i::post∧(∀l∈pre,∀x∈eU (t.pg l),bP x.1 k)∧(∀l∈post,∀x∈eU (t.pg l),bP k x.1)∧dR t 0 (aI t k h i) lo hi∧kX lo hi k
 | 0,i,low,high,ok,hk=>⟨[],[],low,high,rfl,(fun _ h=>by cases h),(fun _ h=>by cases h),ok,hk⟩
 | h+1,i,low,high,ok,hk=>by
  obtain⟨q1,q2,I,O,E⟩:=ok;have po:=hp _ (jn q1);obtain⟨d1,d2⟩:=down po q2 I hk;obtain⟨pre,post,lo,hi,e,h1,h2,h3,h4⟩:=Az hp (E _ d1) d2;have hm:∀j (hj:j<(t.pg i).kids.length),∀l∈cy t h (t.pg i).kids[j],∀x∈eU (t.pg l),kX (gQ low (t.pg i) j) (gC (t.pg i) j) x.1:=fun j hj l hl x hx =>
   (IJ hp (E j hj)).2 x (by rw[vI];exact mem_flatMap.2 ⟨l,hl,hx⟩)
  refine⟨((t.pg i).kids.take (aL (t.pg i) k)).flatMap (cy t h)++pre,post++((t.pg i).kids.drop (aL (t.pg i) k+1)).flatMap (cy t h),lo,hi,?_,?_,?_,?_,h4⟩
  ·rw[cy];conv=>lhs;rw[←take_append_drop (aL (t.pg i) k) (t.pg i).kids]
   rw[drop_eq_getElem_cons d1,flatMap_append,flatMap_cons,e,aI,sK d1];simp
  ·intro l hl x hx;rcases mem_append.1 hl with hl|hl
   ·obtain⟨c,hc,hl⟩:=mem_flatMap.1 hl;obtain⟨j,hj,rfl⟩:=mem_iff_getElem.1 hc;rw[length_take] at hj;rw[getElem_take] at hl;exact Ho po q2 (show j<aL (t.pg i) k by omega) d1 (hm j w4 l hl x hx) d2
   exact h1 l hl x hx
  ·intro l hl x hx;rcases mem_append.1 hl with hl|hl
   ·exact h2 l hl x hx
   obtain⟨c,hc,hl⟩:=mem_flatMap.1 hl;obtain⟨j,hj,rfl⟩:=mem_iff_getElem.1 hc;rw[length_drop] at hj;rw[getElem_drop] at hl;exact Ho po q2 (show aL (t.pg i) k<aL (t.pg i) k+1+j by omega) w4 d2 (hm _ w4 l hl x hx)
  rw[aI,sK d1];exact h3
theorem Zr(hp:∀p∈t.af,ew p n){h:Nat}{i:Int}{high:K}(ok:dR t h i low high)(hk:kX low high k) :
  ∃pre post,cy t h i=pre++aI t k h i::post∧(dZ t h i).filter (fun x=>decide (¬bP x.1 k))=(eU (t.pg (aI t k h i))).drop (aL (t.pg (aI t k h i)) k)++post.flatMap fun l=>eU (t.pg l):=by
 obtain⟨pre,post,lo,hi,e,h1,h2,h3,h4⟩:=Az hp ok hk;refine⟨pre,post,e,?_⟩;have po:=hp _ (jn h3.1);rw[vI,e,flatMap_append,flatMap_cons,filter_append,filter_append];rw[filter_eq_nil_iff.2 (by
  intro x hx;obtain⟨l,hl,hx⟩:=mem_flatMap.1 hx;simpa using h1 l hl x hx),nil_append]
 congr 1
 ·have fB:=h3.2.1;rw[show aL (t.pg (aI t k h i)) k=gg (t.pg (aI t k h i)).keys k by unfold aL;rw[if_pos fB]];generalize I:t.pg (aI t k h i)=p at *;have E:=take_append_drop (gg p.keys k) (eU p);conv=>lhs;rw[←E]
  have hlen:=po.leaf fB;rw[filter_append,filter_eq_nil_iff.2 (by
   intro x hx;obtain⟨j,hj,rfl⟩:=mem_iff_getElem.1 hx;rw[length_take] at hj;obtain⟨h',q⟩:=Ax (keys:=p.keys) (k:=k) (i:=j) w4;rw[getElem_take];simpa[eU] using q),nil_append,filter_eq_self.2]
  intro x hx;obtain⟨j,hj,rfl⟩:=mem_iff_getElem.1 hx;rw[length_drop] at hj;have fC:(eU p).length=p.keys.length:=(by unfold eU;rw[length_zip,hlen,Nat.min_self])
  have hd:gg p.keys k<p.keys.length:=(by omega)
  have he:=Ap hd;rw[getElem_drop];have:¬bP p.keys[gg p.keys k+j] k:=by
   rcases Nat.eq_zero_or_pos j with rfl|h0
   ·exact he
   exact fun aa=>he (l9 (mH po.jG w4 w4) aa)
  simpa[eU] using this
 rw[filter_eq_self.2];intro x hx;obtain⟨l,hl,hx⟩:=mem_flatMap.1 hx;simpa using yq (h2 l hl x hx)

end Go.Proofs.YtbcmjoaggammcaaGreatDoor.Tr
namespace Go.Proofs.YtbcmjoaggammcaaGreatDoor.Tr
open List
open Go.Proofs.Tryz
open Go.Lib (compareBytes)
variable {α:Type} {i n:Int} {p:cQ} {up low:K} {h:Nat}
def gz(l:List α)(i:Nat)(x:α):List α:=l.take i++x::l.drop i
def aE.set(t:aE)(i:Int)(p:cQ):aE:={t with af:=t.af.set i.toNat p}
variable {t:aE}
def bB(p:cQ)(up:K)(aB:Int):cQ :=
 {p with keys:=gz p.keys (aL p up) up,kids:=gz p.kids (if p.leaf=true then aL p up else aL p up+1) aB}
def iT(p:cQ):K:=p.keys.getD 2 []
def bn(p:cQ)(n:Int):cQ:={leaf:=p.leaf,keys:=p.keys.take 2,kids:=p.kids.take (if p.leaf=true then 2 else 3),high:=iT p,next:=n}
def bp(p:cQ):cQ:={leaf:=p.leaf,keys:=p.keys.drop (if p.leaf=true then 2 else 3),kids:=p.kids.drop (if p.leaf=true then 2 else 3),high:=p.high,next:=p.next}
def qK(t:aE)(i:Int)(up:K)(aB:Int):aE×Option (K×Int) :=
 if (bB (t.pg i) up aB).keys.length≤4 then (t.set i (bB (t.pg i) up aB),none)
 else (⟨(t.af.set i.toNat (bn (bB (t.pg i) up aB) t.af.length))++[bp (bB (t.pg i) up aB)],t.root⟩,some (iT (bB (t.pg i) up aB),t.af.length))
def fS(t:aE)(k:K)(row:Int):Nat→Int→aE×Option (K×Int)
 | 0,i=>qK t i k row
 | h+1,i=>match fS t k row h ((t.pg i).kids.getD (aL (t.pg i) k) 0) with
  | (t',none)=>(t',none)
  | (t',some (up,aB))=>qK t' i up aB
def afL(r:aE×Option (K×Int)):aE:=match r with
 | (t,none)=>t
 | (t,some (up,aB))=>⟨t.af++[⟨false,[up],[t.root,aB],[],-1⟩],t.af.length⟩
theorem nG(t:aE)(i:Int)(p:cQ):(t.set i p).af.length=t.af.length:=by simp[aE.set]
theorem AA(h:0≤i∧i<t.af.length)(p:cQ):(t.set i p).pg i=p:=by
 unfold aE.pg aE.set;rw[getD_eq_getElem?_getD,getElem?_set_self w4];rfl
theorem vy{j:Int}(hi:0≤i)(hj:0≤j)(h:i≠j)(p:cQ):(t.set i p).pg j=t.pg j:=by
 unfold aE.pg aE.set;rw[getD_eq_getElem?_getD,getD_eq_getElem?_getD,getElem?_set_ne w4]
theorem xS(l:List α){i:Nat}(h:i≤l.length)(x:α):(gz l i x).length=l.length+1:=by unfold gz;simp;omega
theorem ug{l:List α}{i:Nat}{x y:α}:y∈gz l i x↔y=x∨y∈l:=by
 unfold gz;conv=>rhs;rw[←take_append_drop i l]
 simp only[mem_append,mem_cons];constructor
 ·rintro(h|h|h)
  ·exact .inr (.inl h)
  ·exact .inl h
  exact .inr (.inr h)
 rintro(h|h|h)
 ·exact .inr (.inl h)
 ·exact .inl h
 exact .inr (.inr h)
theorem Zs{β:Type}{a:List α}{b:List β}(h:b.length=a.length){i:Nat}(hi:i≤a.length)(x:α)(y:β):(gz a i x).zip (gz b i y)=gz (a.zip b) i (x,y):=by
 unfold gz;rw[zip_append (by simp[h]),zip_cons_cons];have h1:(a.zip b).take i=(a.take i).zip (b.take i):=take_zipWith;have h2:(a.zip b).drop i=(a.drop i).zip (b.drop i):=drop_zipWith;rw[h1,h2]
theorem HR(hp:ew p n)(hn:up∉p.keys):(∀j (hj:j<p.keys.length),j<aL p up→bP p.keys[j] up)∧(∀j (hj:j<p.keys.length),aL p up≤j→bP up p.keys[j])∧aL p up≤p.keys.length:=by
 unfold aL;split
 ·refine⟨fun j hj h=>(Ax h).2,fun j hj h=>?_,x4 _ _⟩;have aa:gg p.keys up<p.keys.length:=(by omega)
  have h1:=Ap aa;have h2:¬bP p.keys[j] up:=by
   rcases Nat.lt_or_ge (gg p.keys up) j with h'|h'
   ·exact fun E=>h1 (l9 (mH hp.jG h' hj) E)
   have:gg p.keys up=j:=(by omega)
   subst this;exact h1
  rcases yt p.keys[j] up with h|h|h
  ·exact absurd h h2
  ·exact absurd (h ▸ getElem_mem hj) hn
  exact h
 refine⟨fun j hj h=>?_,fun j hj h=>?_,Ay _ _⟩
 ·have h2:=(HQ h).2;rcases yt p.keys[j] up with h|h|h
  ·exact h
  ·exact absurd (h ▸ getElem_mem hj) hn
  exact absurd h h2
 have aa:mh p.keys up<p.keys.length:=(by omega)
 have h1:=Hl aa;rcases Nat.lt_or_ge (mh p.keys up) j with h'|h'
 ·exact l9 h1 (mH hp.jG h' hj)
 have:mh p.keys up=j:=(by omega)
 subst this;exact h1
theorem aa0(hp:ew p n)(hn:up∉p.keys):(gz p.keys (aL p up) up).Pairwise bP:=by
 obtain⟨h1,h2,h3⟩:=HR hp hn;unfold gz;have hr:=hp.jG;conv at hr=>rw[←take_append_drop (aL p up) p.keys]
 rw[pairwise_append] at hr;rw[pairwise_append,pairwise_cons];refine⟨hr.1,⟨fun y hy=>?_,hr.2.1⟩,fun x hx y hy=>?_⟩
 ·obtain⟨j,hj,rfl⟩:=mem_iff_getElem.1 hy;rw[length_drop] at hj;rw[getElem_drop];exact h2 _ w4 w4
 rcases mem_cons.1 hy with rfl|hy
 ·obtain⟨j,hj,rfl⟩:=mem_iff_getElem.1 hx;rw[length_take] at hj;rw[getElem_take];exact h1 _ w4 w4
 exact hr.2.2 x hx y hy
structure vR (p:cQ) (many:Int):Prop where
 eL:p.keys.length≤5
 hlen:p.high.length≤100
 wi:-1≤p.next
 vU:p.next<many
 wj:p.next<0↔p.high=[]
 leaf:p.leaf=true→p.kids.length=p.keys.length
 node:p.leaf=false→p.kids.length=p.keys.length+1∧p.keys≠[]
 kP:∀k∈p.keys,1≤k.length∧k.length≤100
 pX:p.high≠[]→∀k∈p.keys,bP k p.high
 jG:p.keys.Pairwise bP
 aB:∀n∈p.kids,0≤n
 uT:p.leaf=false→∀n∈p.kids,n<many
theorem vR.ok(h:vR p n)(hl:p.keys.length≤4):ew p n:=⟨hl,h.hlen,h.wi,h.vU,h.wj,h.leaf,h.node,h.kP,h.pX,h.jG,h.aB,h.uT⟩
theorem HS(hp:ew p n){aB:Int}(hn:up∉p.keys)(U:1≤up.length∧up.length≤100)(Z:p.high≠[]→bP up p.high)(hk:0≤aB)(O:p.leaf=false→aB<n):vR (bB p up aB) n:=by
 obtain⟨_,_,h3⟩:=HR hp hn;have hf:=hp.eL;refine⟨?_,hp.hlen,hp.wi,hp.vU,hp.wj,fun hl=>?_,fun hl=>?_,fun k I=>?_,fun hne k I=>?_,aa0 hp hn,fun m hm=>?_,fun hl m hm=>?_⟩
 ·show(gz _ _ _).length≤5;rw[xS _ h3];omega
 ·have E:p.leaf=true:=hl;show(gz _ _ _).length=(gz _ _ _).length;rw[if_pos E,xS _ h3,xS _ (by rw[hp.leaf E];exact h3),hp.leaf E]
 ·have E:p.leaf=false:=hl;refine⟨?_,?_⟩
  ·show(gz _ _ _).length=(gz _ _ _).length+1;rw[if_neg (by rw[E];decide),xS _ h3,xS _ (by rw[(hp.node E).1];omega),(hp.node E).1]
  show gz _ _ _≠[];intro e;have:=congrArg length e;rw[xS _ h3] at this;simp at this
 ·rcases ug.1 I with rfl|h
  ·exact U
  exact hp.kP k h
 ·rcases ug.1 I with rfl|h
  ·exact Z hne
  exact hp.pX hne k h
 ·rcases ug.1 hm with rfl|h
  ·exact hk
  exact hp.aB m h
 rcases ug.1 hm with rfl|h
 ·exact O hl
 exact hp.uT hl m h
theorem yu(h:p.keys.length=5):iT p=p.keys[2]:=by unfold iT;rw[getD_eq_getElem?_getD,getElem?_eq_getElem w4];rfl
theorem SF(hp:vR p n)(h5:p.keys.length=5)(h0:0≤n):ew (bn p n) (n+1):=by
 have U:=yu h5;have I:iT p∈p.keys:=(by rw[U];exact getElem_mem _)
 refine⟨?_,(hp.kP _ I).2,by show -1≤n;omega,by show n<n+1;omega,?_,fun hl=>?_,fun hl=>?_,fun k hk=>hp.kP k (mem_of_mem_take hk),fun _ k hk=>?_,hp.jG.sublist (take_sublist _ _),fun x hx=>hp.aB x (mem_of_mem_take hx),fun hl x hx=>?_⟩
 ·show(p.keys.take 2).length≤4;rw[length_take];omega
 ·show n<0↔iT p=[];have:=(hp.kP _ I).1;exact⟨fun h=>by omega,fun h=>by rw[h] at this;simp at this⟩
 ·have E:p.leaf=true:=hl;show(p.kids.take (if p.leaf=true then 2 else 3)).length=(p.keys.take 2).length;rw[if_pos E,length_take,length_take,hp.leaf E]
 ·have E:p.leaf=false:=hl;refine⟨?_,?_⟩
  ·show(p.kids.take (if p.leaf=true then 2 else 3)).length=(p.keys.take 2).length+1;rw[if_neg (by rw[E];decide),length_take,length_take,(hp.node E).1];omega
  show p.keys.take 2≠[];intro e;have:=congrArg length e;rw[length_take,h5] at this;cases this
 ·have O:k∈p.keys.take 2:=hk;obtain⟨j,hj,rfl⟩:=mem_iff_getElem.1 O;rw[length_take] at hj;show bP (p.keys.take 2)[j] (iT p);rw[getElem_take,U];exact mH hp.jG w4 w4
 have E:p.leaf=false:=hl;have:=hp.uT E x (mem_of_mem_take hx);omega
theorem Rk{m:Int}(hp:vR p n)(h5:p.keys.length=5)(hm:n≤m):ew (bp p) m:=by
 refine⟨?_,hp.hlen,hp.wi,by have:=hp.vU;show p.next<m;omega,hp.wj,fun hl=>?_,fun hl=>?_,fun k hk=>hp.kP k (mem_of_mem_drop hk),fun hne k hk=>hp.pX hne k (mem_of_mem_drop hk),hp.jG.sublist (drop_sublist _ _),fun x hx=>hp.aB x (mem_of_mem_drop hx),fun hl x hx=>?_⟩
 ·show(p.keys.drop _).length≤4;rw[length_drop];split<;>omega
 ·have E:p.leaf=true:=hl;show(p.kids.drop _).length=(p.keys.drop _).length;rw[length_drop,length_drop,hp.leaf E]
 ·have E:p.leaf=false:=hl;refine⟨?_,?_⟩
  ·show(p.kids.drop _).length=(p.keys.drop _).length+1;rw[length_drop,length_drop,(hp.node E).1,if_neg (by rw[E];decide)];omega
  show p.keys.drop _≠[];intro e;have:=congrArg length e;rw[length_drop,if_neg (by rw[E];decide)] at this;simp at this;omega
 have E:p.leaf=false:=hl;have:=hp.uT E x (mem_of_mem_drop hx);omega

def iZ(t:aE)(h:Nat):K→List Int→List K→K→Prop
 | low,c::cs,ks,high=>match cs,ks with
  | [],[]=>dR t h c low high
  | _::_,k::ks=>dR t h c low k∧iZ t h k cs ks high
  | _,_=>False
 | _,[],_,_=>False
theorem AB{high:K}{c:Int}:iZ t h low [c] [] high↔dR t h c low high:=by rw[iZ]
theorem pK{high k:K}{c d:Int}{cs:List Int}{ks:List K}:iZ t h low (c::d::cs) (k::ks) high↔dR t h c low k∧iZ t h k (d::cs) ks high:=by rw[iZ]
theorem HT{t:aE}{h:Nat}{high:K}:∀{kids:List Int} {keys:List K} {low:K},kids.length=keys.length+1 →
  ((∀j (hj:j<kids.length),dR t h kids[j] (if j=0 then low else keys.getD (j-1) []) (keys.getD j high))↔iZ t h low kids keys high)
 | [],keys,low,e=>by simp at e
 | [c],[],low,e=>by
  rw[AB];constructor
  ·intro q;exact q 0 bw
  intro q j hj;obtain rfl:j=0:=(by simpa using hj)
  exact q
 | [c],k::ks,low,e=>by simp at e
 | c::d::cs,[],low,e=>by simp at e
 | c::d::cs,k::ks,low,e=>by
  rw[pK,←HT (kids:=d::cs) (keys:=ks) (low:=k) (by simpa using e)];constructor
  ·intro q;refine⟨q 0 bw,fun j hj=>?_⟩;have:=q (j+1) (by simpa using hj);rw[if_neg w4] at this;simp only[getElem_cons_succ,Nat.add_sub_cancel,getD_cons_succ] at this;cases j with
   | zero=>exact this
   | succ j=>exact this
  rintro⟨q0,q⟩ j hj;cases j with
  | zero=>exact q0
  | succ j =>
   have:=q j (by simpa using hj);rw[if_neg w4];simp only[getElem_cons_succ,Nat.add_sub_cancel,getD_cons_succ];cases j with
   | zero=>exact this
   | succ j=>exact this
theorem AL{high:K}(hp:ew (t.pg i) n):dR t (h+1) i low high↔(0≤i∧i<t.af.length)∧(t.pg i).leaf=false∧(t.pg i).high=high∧(∀k∈(t.pg i).keys,¬bP k low)∧iZ t h low (t.pg i).kids (t.pg i).keys high:=by
 constructor
 ·rintro⟨q1,q2,E,O,I⟩;refine⟨q1,q2,E,O,?_⟩;rw[←HT (hp.node q2).1];intro j hj;have:=I j hj;unfold gQ gC at this;rw[E] at this;exact this
 rintro⟨q1,q2,E,O,I⟩;refine⟨q1,q2,E,O,?_⟩;rw[←HT (hp.node q2).1] at I;intro j hj;have:=I j hj;unfold gQ gC;rw[E];exact this
theorem PX{t u:aE}{h:Nat}{high:K}:∀{kids:List Int} {keys:List K} {low:K},iZ t h low kids keys high→(∀c∈kids,∀lo hi,dR t h c lo hi→dR u h c lo hi)→iZ u h low kids keys high
 | [],keys,low,q,_=>by simp[iZ] at q
 | [c],[],low,q,f=>by rw[AB] at q ⊢;exact f c bw _ _ q
 | [c],k::ks,low,q,f=>by simp[iZ] at q
 | c::d::cs,[],low,q,f=>by simp[iZ] at q
 | c::d::cs,k::ks,low,q,f=>by
  rw[pK] at q ⊢;exact⟨f c bw _ _ q.1,PX q.2 fun x hx=>f x (by simp at hx ⊢;exact .inr hx)⟩
theorem PY{t u:aE}{h:Nat}{high up:K}{aB:Int}:∀(j:Nat) {kids:List Int} {keys:List K} {low:K} (hj:j<kids.length),iZ t h low kids keys high →
  (∀c∈kids.eraseIdx j,∀lo hi,dR t h c lo hi→dR u h c lo hi) →
  (dR u h kids[j] (if j=0 then low else keys.getD (j-1) []) up)→dR u h aB up (keys.getD j high)→iZ u h low (gz kids (j+1) aB) (gz keys j up) high
 | 0,[],keys,low,hj,q,f,q1,q2=>by simp at hj
 | 0,[c],[],low,hj,q,f,q1,q2=>by
  show iZ u h low [c,aB] [up] high;rw[pK,AB];exact⟨q1,q2⟩
 | 0,[c],k::ks,low,hj,q,f,q1,q2=>by simp[iZ] at q
 | 0,c::d::cs,[],low,hj,q,f,q1,q2=>by simp[iZ] at q
 | 0,c::d::cs,k::ks,low,hj,q,f,q1,q2=>by
  show iZ u h low (c::aB::d::cs) (up::k::ks) high;rw[pK,pK];rw[pK] at q;exact⟨q1,q2,PX q.2 fun x hx=>f x (by simpa using hx)⟩
 | j+1,[],keys,low,hj,q,f,q1,q2=>by simp at hj
 | j+1,[c],keys,low,hj,q,f,q1,q2=>by simp at hj
 | j+1,c::d::cs,[],low,hj,q,f,q1,q2=>by simp[iZ] at q
 | j+1,c::d::cs,k::ks,low,hj,q,f,q1,q2=>by
  rw[pK] at q;have e1:gz (c::d::cs) (j+1+1) aB=c::gz (d::cs) (j+1) aB:=rfl;have e2:gz (k::ks) (j+1) up=k::gz ks j up:=rfl;rw[e1,e2];have E:=PY (t:=t) (u:=u) (up:=up) (aB:=aB) j (kids:=d::cs) (keys:=ks) (low:=k) (by simpa using hj) q.2 (fun x hx=>f x (by rw[eraseIdx_cons_succ];exact mem_cons_of_mem _ hx)) (by
   have:=q1;rw[if_neg w4] at this;simp only[getElem_cons_succ,Nat.add_sub_cancel] at this;cases j with
   | zero=>exact this
   | succ j=>exact this) (by simpa using q2)
  have I:gz (d::cs) (j+1) aB=d::gz cs j aB:=rfl;rw[I] at E ⊢;rw[pK];exact⟨f c (by rw[eraseIdx_cons_succ];simp) _ _ q.1,E⟩
theorem NJ{t:aE}{h:Nat}{high:K}:∀(m:Nat) {kids:List Int} {keys:List K} {low:K} (hm:m<keys.length),iZ t h low kids keys high→iZ t h low (kids.take (m+1)) (keys.take m) keys[m]∧iZ t h keys[m] (kids.drop (m+1)) (keys.drop (m+1)) high
 | 0,c::d::cs,k::ks,low,hm,q=>by
  rw[pK] at q;exact⟨AB.2 q.1,q.2⟩
 | m+1,c::d::cs,k::ks,low,hm,q=>by
  rw[pK] at q;obtain⟨q1,q2⟩:=NJ m (kids:=d::cs) (keys:=ks) (by simpa using hm) q.2;refine⟨?_,q2⟩;have e:(c::d::cs).take (m+1+1)=c::d::cs.take m:=rfl;rw[e];show iZ t h low (c::d::cs.take m) (k::ks.take m) _;rw[pK];exact⟨q.1,q1⟩
 | _,_,[],_,hm,_=>by simp at hm
 | _,[],_::_,_,_,q=>by simp[iZ] at q
 | _,[c],_::_,_,_,q=>by simp[iZ] at q
/-! ### Pages that lead to one another -/
theorem AM{t:aE}{e:Int}:∀{a b:List Int},eV t (a++b) e↔eV t a (b.headD e)∧eV t b e
 | [],b=>by simp[eV]
 | [i],[]=>by simp[eV]
 | [i],j::b=>by simp[eV]
 | i::j::a,b=>by
  have:=AM (t:=t) (e:=e) (a:=j::a) (b:=b);show(t.pg i).next=j∧eV t (j::a++b) e↔((t.pg i).next=j∧eV t (j::a) (b.headD e))∧eV t b e;rw[this,and_assoc]
theorem xT{t u:aE}:∀{a:List Int} {e:Int},(∀j∈a,(u.pg j).next=(t.pg j).next)→eV t a e→eV u a e
 | [],e,_,_=>trivial
 | [i],e,f,h=>by show(u.pg i).next=e;rw[f i bw];exact h
 | i::j::a,e,f,h=>⟨by rw[f i bw];exact h.1,xT (fun x hx=>f x (mem_cons_of_mem _ hx)) h.2⟩
theorem EM{t:aE}{n:Int}(hp:∀p∈t.af,ew p n):∀{h:Nat} {i:Int} {low high:K},dR t h i low high→∀d,d≤h→cy t d i≠[]
 | 0,i,low,high,ok,d,hd=>by
  obtain rfl:d=0:=(by omega)
  simp[cy]
 | h+1,i,low,high,ok,d,hd=>by
  cases d with
  | zero=>simp[cy]
  | succ d =>
   obtain⟨q1,q2,I,O,E⟩:=ok;have po:=hp _ (jn q1);have hl:=(po.node q2).1;have h0:0<(t.pg i).kids.length:=(by omega)
   have:=EM hp (E 0 h0) d w4;rw[cy];intro e;rw[flatMap_eq_nil_iff] at e;exact this (e _ (getElem_mem h0))
theorem rz{t:aE}:∀(h:Nat) (i:Int) (d:Nat),d≤h→∀x∈cy t d i,x∈ids t h i
 | 0,i,d,hd,x,hx=>by
  obtain rfl:d=0:=(by omega)
  exact hx
 | h+1,i,0,hd,x,hx=>by
  have:x=i:=(by simpa[cy] using hx)
  subst this;exact sE _ _
 | h+1,i,d+1,hd,x,hx=>by
  rw[cy] at hx;obtain⟨c,hc,hx⟩:=mem_flatMap.1 hx;rw[ids];exact mem_cons_of_mem _ (mem_flatMap.2 ⟨c,hc,rz h c d w4 x hx⟩)
theorem DT{a b:List α}(h:a≠[])(e:α):(a++b).headD e=a.headD e:=by
 cases a with
 | nil=>exact absurd rfl h
 | cons x r=>rfl

def nq(t:aE)(h:Nat)(i:Int):Option (K×Int)→List Int
 | none=>ids t h i
 | some (_,aB)=>ids t h i++ids t h aB
def E5(t:aE)(h:Nat)(i:Int):Option (K×Int)→List (K×Int)
 | none=>dZ t h i
 | some (_,aB)=>dZ t h i++dZ t h aB
def rQ(t:aE)(d:Nat)(i:Int):Option (K×Int)→List Int
 | none=>cy t d i
 | some (_,aB)=>cy t d i++cy t d aB
def nA(t:aE)(h:Nat)(i:Int)(low high:K):Option (K×Int)→Prop
 | none=>dR t h i low high
 | some (up,aB)=>(1≤up.length∧up.length≤100)∧bP low up∧(high≠[]→bP up high)∧dR t h i low up∧dR t h aB up high
structure nU (t u:aE) (h:Nat) (i:Int) (low high:K) (k:K) (row:Int) (r:Option (K×Int)):Prop where
 le:t.af.length≤u.af.length
 more:u.af.length≤t.af.length+(h+1)
 root:u.root=t.root
 page:∀p∈u.af,ew p u.af.length
 out:∀j:Int,0≤j→j<t.af.length→j∉ids t h i→u.pg j=t.pg j
 ok:nA u h i low high r
 sub:∀x∈nq u h i r,x∈ids t h i∨(t.af.length:Int)≤x
 nodup:(nq u h i r).Nodup
 WD:(nq u h i r).length+t.af.length=(ids t h i).length+u.af.length
 dZ:∀x,x∈E5 u h i r↔x=(k,row)∨x∈dZ t h i
 oK:∀d,d≤h→∀e,eV t (cy t d i) e→eV u (rQ u d i r) e∧(rQ u d i r).headD e=(cy t d i).headD e
/-! ### One page set, one page added -/
def ja(t:aE)(i:Int)(a b:cQ):aE:=⟨(t.af.set i.toNat a)++[b],t.root⟩
theorem oQ(t:aE)(i:Int)(a b:cQ):(ja t i a b).af.length=t.af.length+1:=by simp[ja]
theorem Ot(h:0≤i∧i<t.af.length)(a b:cQ):(ja t i a b).pg i=a:=by
 unfold aE.pg ja;rw[getD_eq_getElem?_getD,getElem?_append_left u4,getElem?_set_self w4];rfl
theorem PZ(t:aE)(i:Int)(a b:cQ):(ja t i a b).pg t.af.length=b:=by
 unfold aE.pg ja;rw[getD_eq_getElem?_getD,getElem?_append_right u4,length_set];simp
theorem NK{j:Int}(hi:0≤i)(hj:0≤j∧j<t.af.length)(h:i≠j)(a b:cQ):(ja t i a b).pg j=t.pg j:=by
 unfold aE.pg ja;rw[getD_eq_getElem?_getD,getD_eq_getElem?_getD,getElem?_append_left u4,getElem?_set_ne w4]
theorem Hp{q:cQ}(hp:∀p∈t.af,ew p n)(hq:ew q n):∀p∈(t.set i q).af,ew p n:=fun p h=>by
 rcases mem_or_eq_of_mem_set h with h|rfl
 ·exact hp p h
 exact hq
theorem NL{a b:cQ}{m:Int}(hp:∀p∈t.af,ew p n)(hm:n≤m)(ha:ew a m)(hb:ew b m):∀p∈(ja t i a b).af,ew p m:=fun p h=>by
 unfold ja at h;rcases mem_append.1 h with h|h
 ·rcases mem_or_eq_of_mem_set h with h|rfl
  ·exact(hp p h).more hm
  exact ha
 rw[mem_singleton] at h;subst h;exact hb
theorem HU{aB:Int}(h:(bB (t.pg i) up aB).keys.length≤4):qK t i up aB=(t.set i (bB (t.pg i) up aB),none):=by unfold qK;rw[if_pos h]
theorem Hq{aB:Int}(h:¬(bB (t.pg i) up aB).keys.length≤4):qK t i up aB=(ja t i (bn (bB (t.pg i) up aB) t.af.length) (bp (bB (t.pg i) up aB)),some (iT (bB (t.pg i) up aB),(t.af.length:Int))):=by unfold qK;rw[if_neg h];rfl
theorem Rl{q:cQ}(hr:q.keys.Pairwise bP)(h5:q.keys.length=5)(hl:∀k∈q.keys,¬bP k low):bP low (iT q)∧(∀k∈q.keys.drop 2,¬bP k (iT q)):=by
 rw[yu h5];refine⟨Ns (hl _ (getElem_mem (by omega:0<q.keys.length))) (mH hr w4 w4),fun k hk=>?_⟩;obtain⟨j,hj,rfl⟩:=mem_iff_getElem.1 hk;rw[length_drop] at hj;rw[getElem_drop];rcases Nat.eq_zero_or_pos j with rfl|h0
 ·exact jX _
 exact yq (mH hr w4 w4)
/-! ### A leaf -/
theorem aa1(hp:∀p∈t.af,ew p t.af.length){high:K}(ok:dR t 0 i low high){k:K}{row:Int}(hk:kX low high k)(hn:∀x∈dZ t 0 i,x.1≠k)(hl:1≤k.length∧k.length≤100)(hr:0≤row):nU t (qK t i k row).1 0 i low high k row (qK t i k row).2:=by
 obtain⟨q1,q2,O,q4⟩:=ok;have po:=hp _ (jn q1);have U:k∉(t.pg i).keys:=fun hm=>by
  obtain⟨j,hj,e⟩:=mem_iff_getElem.1 hm;have hlen:=po.leaf q2;refine hn ((t.pg i).keys[j],(t.pg i).kids[j]'w4) ?_ e;show _∈eU (t.pg i);unfold eU;exact mem_iff_getElem.2 ⟨j,by rw[length_zip];omega,by rw[getElem_zip]⟩
 have hf:vR (bB (t.pg i) k row) t.af.length:=HS po U hl (fun hne=>hk.2 (by rw[←O];exact hne) |> fun h=>by rw[O];exact h) hr (fun h=>by rw[q2] at h;cases h);have fC:=(HR po U).2.2;have hE:eU (bB (t.pg i) k row)=gz (eU (t.pg i)) (aL (t.pg i) k) (k,row):=by
  show(gz _ _ _).zip (gz _ _ _)=_;rw[if_pos q2];exact Zs (po.leaf q2) fC k row
 have E:∀x∈(bB (t.pg i) k row).keys,¬bP x low:=fun x hx=>by
  rcases ug.1 hx with rfl|h
  ·exact hk.1
  exact q4 x h
 by_cases h4:(bB (t.pg i) k row).keys.length≤4
 ·rw[HU h4];have Z:=AA q1 (bB (t.pg i) k row);refine⟨by rw[nG];omega,by rw[nG];omega,rfl,by rw[nG];exact Hp hp (hf.ok h4),fun j h0 hj hne=>?_,?_,fun x hx=>.inl hx,?_,by rw[nG];rfl,fun x=>?_,fun d hd e hs=>?_⟩
  ·exact vy q1.1 h0 (by intro e;subst e;simp[ids] at hne) _
  ·exact⟨by rw[nG];exact q1,by rw[Z];exact q2,by rw[Z];exact O,by rw[Z];exact E⟩
  ·show[i].Nodup;simp
  ·show x∈eU ((t.set i _).pg i)↔_;rw[Z,hE,ug];rfl
  obtain rfl:d=0:=(by omega)
  refine⟨?_,rfl⟩;show((t.set i _).pg i).next=e;rw[Z];exact hs
 have h5:(bB (t.pg i) k row).keys.length=5:=(by have:=hf.eL;omega)
 rw[Hq h4];have I:(bB (t.pg i) k row).leaf=true:=q2;have ea:=Ot q1 (bn (bB (t.pg i) k row) t.af.length) (bp (bB (t.pg i) k row));have eb:=PZ t i (bn (bB (t.pg i) k row) t.af.length) (bp (bB (t.pg i) k row));obtain⟨u1,u2⟩:=Rl hf.jG h5 E;have CN:iT (bB (t.pg i) k row)∈(bB (t.pg i) k row).keys:=(by rw[yu h5];exact getElem_mem _)
 have gB:eU (bn (bB (t.pg i) k row) t.af.length)++eU (bp (bB (t.pg i) k row))=eU (bB (t.pg i) k row):=by
  show((bB (t.pg i) k row).keys.take 2).zip ((bB (t.pg i) k row).kids.take (if (bB (t.pg i) k row).leaf=true then 2 else 3))++((bB (t.pg i) k row).keys.drop (if (bB (t.pg i) k row).leaf=true then 2 else 3)).zip ((bB (t.pg i) k row).kids.drop (if (bB (t.pg i) k row).leaf=true then 2 else 3))=_;rw[if_pos I,←zip_append (by rw[length_take,length_take,hf.leaf I]),take_append_drop,take_append_drop];rfl
 refine⟨by rw[oQ];omega,by rw[oQ];omega,rfl,?_,fun j h0 hj hne=>?_,⟨hf.kP _ CN,u1,fun hne=>hf.pX (by show(t.pg i).high≠[];rw[O];exact hne) _ CN |> fun h=>by rw[←O];exact h,?_,?_⟩,fun x hx=>?_,?_,by rw[oQ];show[i,(t.af.length:Int)].length+_=[i].length+_;simp;omega,fun x=>?_,fun d hd e hs=>?_⟩
 ·rw[oQ];exact NL hp w4 (SF hf h5 w4) (Rk hf h5 w4)
 ·exact NK q1.1 ⟨h0,hj⟩ (by intro e;subst e;simp[ids] at hne) _ _
 ·exact⟨by rw[oQ];omega,by rw[ea];exact I,by rw[ea];rfl,by rw[ea];exact fun x hx=>E x (mem_of_mem_take hx)⟩
 ·refine⟨by rw[oQ];omega,by rw[eb];exact I,by rw[eb];exact O,?_⟩;rw[eb];show ∀x∈(bB (t.pg i) k row).keys.drop (if (bB (t.pg i) k row).leaf=true then 2 else 3),_;rw[if_pos I];exact u2
 ·have oC:x∈[i,(t.af.length:Int)]:=hx;simp only[mem_cons,not_mem_nil,or_false] at oC;rcases oC with rfl|rfl
  ·exact .inl (by simp[ids])
  exact .inr (Int.le_refl _)
 ·show[i,(t.af.length:Int)].Nodup;simp;omega
 ·show x∈eU ((ja t i _ _).pg i)++eU ((ja t i _ _).pg _)↔_;rw[ea,eb,gB,hE,ug];rfl
 obtain rfl:d=0:=(by omega)
 refine⟨?_,rfl⟩;show((ja t i _ _).pg i).next=_∧((ja t i _ _).pg _).next=e;rw[ea,eb];exact⟨rfl,hs⟩

end Go.Proofs.YtbcmjoaggammcaaGreatDoor.Tr

namespace Go.Proofs.YtbcmjoaggammcaaGreatDoor.Tr
open List
open Go.Proofs.Tryz
open Go.Lib (compareBytes)
variable {α:Type} {A B:List Int} {v:aE}
theorem IK{keys:List K}(hr:keys.Pairwise bP){up:K}{j:Nat}(hj:j≤keys.length)(h1:∀(h:0<j),¬bP up (keys[j-1]'w4))(h2:∀(h:j<keys.length),bP up keys[j]):mh keys up=j:=by
 have E:=Ay keys up;rcases Nat.lt_trichotomy (mh keys up) j with h|h|h
 ·exfalso;have aa:mh keys up<keys.length:=(by omega)
  have h3:=Hl aa;have h4:=h1 w4;rcases Nat.lt_or_ge (mh keys up) (j-1) with h5|h5
  ·exact h4 (l9 h3 (mH hr h5 w4))
  have:mh keys up=j-1:=(by omega)
  simp only[this] at h3;exact h4 h3
 ·exact h
 exact absurd (h2 w4) (HQ h).2
theorem Nt{l:List α}{j:Nat}(hj:j<l.length)(x:α):gz l (j+1) x=l.take j++l[j]::x::l.drop (j+1):=by
 unfold gz;rw[take_succ_eq_append_getElem hj,append_assoc];rfl
theorem uj{l:List α}{j:Nat}(hj:j<l.length):l=l.take j++l[j]::l.drop (j+1):=by
 conv=>lhs;rw[←take_append_drop j l,drop_eq_getElem_cons hj]
theorem XW{l:List α}{j:Nat}{x:α}(h:x∈l.eraseIdx j):x∈l.take j∨x∈l.drop (j+1):=by
 rw[eraseIdx_eq_take_drop_succ] at h;exact mem_append.1 h
variable {t:aE}
theorem vz{h:Nat}{i:Int}{j:Nat}(hj:j<(t.pg i).kids.length)(hn:(ids t (h+1) i).Nodup):(ids t h (t.pg i).kids[j]).Nodup∧i∉ids t h (t.pg i).kids[j]∧(∀x∈(t.pg i).kids.take j++(t.pg i).kids.drop (j+1),(∀y∈ids t h x,y∉ids t h (t.pg i).kids[j])∧i∉ids t h x) ∧
  (((t.pg i).kids.take j).flatMap (ids t h)++((t.pg i).kids.drop (j+1)).flatMap (ids t h)).Nodup∧i∉((t.pg i).kids.take j).flatMap (ids t h)++((t.pg i).kids.drop (j+1)).flatMap (ids t h):=by
 rw[ids,nodup_cons] at hn;obtain⟨h0,hn⟩:=hn;have hs:=uj hj;rw[hs,flatMap_append,flatMap_cons] at hn h0;simp only[mem_append,not_or] at h0;rw[nodup_append] at hn;obtain⟨n1,n2,n3⟩:=hn;rw[nodup_append] at n2;obtain⟨n4,n5,n6⟩:=n2;refine⟨n4,h0.2.1,fun x hx=>?_,?_,?_⟩
 ·rcases mem_append.1 hx with hx|hx
  ·exact⟨fun y hy hc=>n3 y (mem_flatMap.2 ⟨x,hx,hy⟩) y (mem_append_left _ hc) rfl,fun hi=>h0.1 (mem_flatMap.2 ⟨x,hx,hi⟩)⟩
  exact⟨fun y hy hc=>n6 y hc y (mem_flatMap.2 ⟨x,hx,hy⟩) rfl,fun hi=>h0.2.2 (mem_flatMap.2 ⟨x,hx,hi⟩)⟩
 ·rw[nodup_append];exact⟨n1,n5,fun a ha b hb=>n3 a ha b (mem_append_right _ hb)⟩
 simp only[mem_append,not_or];exact⟨h0.1,h0.2.2⟩
theorem Hr{f g:Int→List α}{c aB:Int}(hA:∀x∈A,f x=g x)(E:∀x∈B,f x=g x):(A++c::aB::B).flatMap f=A.flatMap g++(f c++f aB)++B.flatMap g:=by
 rw[flatMap_append,flatMap_cons,flatMap_cons,qw hA,qw E];simp
theorem HV{f g:Int→List α}{c:Int}(hA:∀x∈A,f x=g x)(E:∀x∈B,f x=g x):(A++c::B).flatMap f=A.flatMap g++f c++B.flatMap g:=by
 rw[flatMap_append,flatMap_cons,qw hA,qw E];simp

structure jk (t u:aE) (h:Nat) (i:Int) (low high:K) (j:Nat) (k:K) (row:Int) (r:Option (K×Int)):Prop where
 hp:∀p∈t.af,ew p t.af.length
 ok:dR t (h+1) i low high
 nd:(ids t (h+1) i).Nodup
 hj:j<(t.pg i).kids.length
 hk:kX (gQ low (t.pg i) j) (gC (t.pg i) j) k
 ins:nU t u h ((t.pg i).kids.getD j 0) (gQ low (t.pg i) j) (gC (t.pg i) j) k row r
section
variable {u:aE} {h:Nat} {i:Int} {low high:K} {j:Nat} {k:K} {row:Int} {r:Option (K×Int)}
theorem jk.aB(m:jk t u h i low high j k row r):(t.pg i).kids.getD j 0=(t.pg i).kids[j]'m.hj:=sK m.hj
theorem jk.same(m:jk t u h i low high j k row r):u.pg i=t.pg i:=by
 have:=(vz m.hj m.nd).2.1;exact m.ins.out i m.ok.idx.1 m.ok.idx.2 (by rw[m.aB];exact this)
structure nI (u v:aE) (i:Int):Prop where
 le:u.af.length≤v.af.length
 pg:∀x:Int,0≤x→x<u.af.length→x≠i→v.pg x=u.pg x
theorem jk.others(m:jk t u h i low high j k row r)(ha:nI u v i):∀x∈(t.pg i).kids.take j++(t.pg i).kids.drop (j+1),∀y∈ids t h x,v.pg y=t.pg y:=fun x hx y hy=>by
 obtain⟨h1,h2⟩:=(vz m.hj m.nd).2.2.1 x hx;have I:y≠i:=fun e=>h2 (e ▸ hy);have E:0≤y∧y<t.af.length:=by
  have hm:y∈ids t (h+1) i:=by
   rw[ids];refine mem_cons_of_mem _ (mem_flatMap.2 ⟨x,?_,hy⟩);rcases mem_append.1 hx with hx|hx
   ·exact mem_of_mem_take hx
   exact mem_of_mem_drop hx
  exact m.ok.ids y hm
 have O:=m.ins.le;rw[ha.pg y E.1 w4 I,m.ins.out y E.1 E.2 (by rw[m.aB];exact h1 y hy)]
theorem jk.below(m:jk t u h i low high j k row r)(ha:nI u v i):∀y∈nq u h ((t.pg i).kids[j]'m.hj) r,0≤y→y<u.af.length→v.pg y=u.pg y:=fun y hy h0 hl=>by
 refine ha.pg y h0 hl fun e=>?_;have hs:=m.ins.sub y (by rw[m.aB];exact hy);rw[m.aB] at hs;rcases hs with hs|hs
 ·exact(vz m.hj m.nd).2.1 (e ▸ hs)
 have:=m.ok.idx;omega
theorem jk.pS(m:jk t u h i low high j k row r)(ha:nI u v i){x:Int}(hx:x∈(t.pg i).kids.take j++(t.pg i).kids.drop (j+1)):ids v h x=ids t h x∧dZ v h x=dZ t h x∧∀d,d≤h→cy v d x=cy t d x:=frame h x (m.others ha x hx)
theorem jk.Rm(m:jk t u h i low high j k row r)(ha:nI u v i){x:Int}(hx:x∈(t.pg i).kids.take j++(t.pg i).kids.drop (j+1)){lo hi:K}(aR:dR t h x lo hi):dR v h x lo hi:=by
 have:=m.ins.le;have:=ha.le;exact aR.frame w4 (m.others ha x hx)
theorem jk.P0(m:jk t u h i low high j k row r):(((t.pg i).kids.take j).flatMap (ids t h)++nq u h ((t.pg i).kids[j]'m.hj) r++((t.pg i).kids.drop (j+1)).flatMap (ids t h)).Nodup∧i∉((t.pg i).kids.take j).flatMap (ids t h)++nq u h ((t.pg i).kids[j]'m.hj) r++((t.pg i).kids.drop (j+1)).flatMap (ids t h):=by
 obtain⟨a1,a2,a3,a4,a5⟩:=vz m.hj m.nd;have hnd:=m.ins.nodup;have E:=m.ins.sub;rw[m.aB] at hnd E;have aa:∀x∈(t.pg i).kids.take j++(t.pg i).kids.drop (j+1),∀y∈ids t h x,y<t.af.length:=fun x hx y hy=>by
  refine(m.ok.ids y ?_).2;rw[ids];refine mem_cons_of_mem _ (mem_flatMap.2 ⟨x,?_,hy⟩);rcases mem_append.1 hx with hx|hx
  ·exact mem_of_mem_take hx
  exact mem_of_mem_drop hx
 have I:∀x∈(t.pg i).kids.take j++(t.pg i).kids.drop (j+1),∀y∈ids t h x,y∉nq u h ((t.pg i).kids[j]'m.hj) r:=fun x hx y hy hm=>by
  rcases E y hm with hs|hs
  ·exact(a3 x hx).1 y hy hs
  have:=aa x hx y hy;omega
 have O:i∉nq u h ((t.pg i).kids[j]'m.hj) r:=fun hm=>by
  rcases E i hm with hs|hs
  ·exact a2 hs
  have:=m.ok.idx;omega
 rw[nodup_append] at a4;obtain⟨b1,b2,b3⟩:=a4;refine⟨?_,?_⟩
 ·rw[nodup_append,nodup_append];refine⟨⟨b1,hnd,fun a ha b hb e=>?_⟩,b2,fun a ha b hb e=>?_⟩
  ·obtain⟨x,hx,ha⟩:=mem_flatMap.1 ha;subst e;exact I x (mem_append_left _ hx) a ha hb
  obtain⟨x,hx,jy⟩:=mem_flatMap.1 hb;subst e;rcases mem_append.1 ha with ha|ha
  ·exact b3 a ha a hb rfl
  exact I x (mem_append_right _ hx) a jy ha
 simp only[mem_append,not_or] at a5 ⊢;exact⟨⟨a5.1,O⟩,a5.2⟩
theorem jk.SG(m:jk t u h i low high j k row r):(((t.pg i).kids.take j).flatMap (ids t h)++nq u h ((t.pg i).kids[j]'m.hj) r++((t.pg i).kids.drop (j+1)).flatMap (ids t h)).length+1+t.af.length=(ids t (h+1) i).length+u.af.length:=by
 have hc:=m.ins.WD;rw[m.aB] at hc;have e:(ids t (h+1) i).length=1+((((t.pg i).kids.take j).flatMap (ids t h)).length+((ids t h ((t.pg i).kids[j]'m.hj)).length+(((t.pg i).kids.drop (j+1)).flatMap (ids t h)).length)):=by
  rw[ids];conv=>lhs;rw[uj m.hj]
  rw[length_cons,flatMap_append,flatMap_cons,length_append,length_append];omega
 rw[e,length_append,length_append];omega
theorem jk.R7(m:jk t u h i low high j k row r):∀x∈((t.pg i).kids.take j).flatMap (ids t h)++nq u h ((t.pg i).kids[j]'m.hj) r++((t.pg i).kids.drop (j+1)).flatMap (ids t h),x∈ids t (h+1) i∨(t.af.length:Int)≤x:=fun x hx=>by
 have E:=m.ins.sub;rw[m.aB] at E;have up:∀c∈(t.pg i).kids,∀y∈ids t h c,y∈ids t (h+1) i:=fun c hc y hy=>by rw[ids];exact mem_cons_of_mem _ (mem_flatMap.2 ⟨c,hc,hy⟩)
 rcases mem_append.1 hx with hx|hx
 ·rcases mem_append.1 hx with hx|hx
  ·obtain⟨c,hc,hx⟩:=mem_flatMap.1 hx;exact .inl (up c (mem_of_mem_take hc) x hx)
  rcases E x hx with hs|hs
  ·exact .inl (up _ (getElem_mem _) x hs)
  exact .inr hs
 obtain⟨c,hc,hx⟩:=mem_flatMap.1 hx;exact .inl (up c (mem_of_mem_drop hc) x hx)
theorem jk.IL(m:jk t u h i low high j k row r)(x:K×Int):x∈((t.pg i).kids.take j).flatMap (dZ t h)++E5 u h ((t.pg i).kids[j]'m.hj) r++((t.pg i).kids.drop (j+1)).flatMap (dZ t h)↔x=(k,row)∨x∈dZ t (h+1) i:=by
 have he:=m.ins.dZ x;rw[m.aB] at he;have e:dZ t (h+1) i=((t.pg i).kids.take j).flatMap (dZ t h)++(dZ t h ((t.pg i).kids[j]'m.hj)++((t.pg i).kids.drop (j+1)).flatMap (dZ t h)):=by
  rw[dZ];conv=>lhs;rw[uj m.hj]
  rw[flatMap_append,flatMap_cons]
 rw[e];simp only[mem_append,he];constructor
 ·rintro((h|h|h)|h)
  ·exact .inr (.inl h)
  ·exact .inl h
  ·exact .inr (.inr (.inl h))
  exact .inr (.inr (.inr h))
 rintro(h|h|h|h)
 ·exact .inl (.inr (.inl h))
 ·exact .inl (.inl h)
 ·exact .inl (.inr (.inr h))
 exact .inr h
theorem jk.Jg(m:jk t u h i low high j k row r)(ha:nI u v i){d:Nat}(hd:d≤h){e:Int}(hs:eV t (cy t (d+1) i) e) :
  eV v (((t.pg i).kids.take j).flatMap (cy t d)++rQ u d ((t.pg i).kids[j]'m.hj) r++((t.pg i).kids.drop (j+1)).flatMap (cy t d)) e∧(((t.pg i).kids.take j).flatMap (cy t d)++rQ u d ((t.pg i).kids[j]'m.hj) r++((t.pg i).kids.drop (j+1)).flatMap (cy t d)).headD e=(cy t (d+1) i).headD e:=by
 have hl:cy t (d+1) i=((t.pg i).kids.take j).flatMap (cy t d)++(cy t d ((t.pg i).kids[j]'m.hj)++((t.pg i).kids.drop (j+1)).flatMap (cy t d)):=by
  rw[cy];conv=>lhs;rw[uj m.hj]
  rw[flatMap_append,flatMap_cons]
 rw[hl] at hs ⊢;rw[AM,AM] at hs;obtain⟨s1,s2,s3⟩:=hs;obtain⟨g1,g2⟩:=m.ins.oK d hd _ (by rw[m.aB];exact s2);rw[m.aB] at g1 g2;obtain⟨_,_,_,_,O⟩:=m.ok;have hne:cy t d ((t.pg i).kids[j]'m.hj)≠[]:=EM m.hp (O j m.hj) d hd;have fr:∀x∈(t.pg i).kids.take j++(t.pg i).kids.drop (j+1),∀y∈cy t d x,(v.pg y).next=(t.pg y).next:=fun x hx y hy=>by rw[m.others ha x hx y (rz h x d hd y hy)]
 have U:∀y∈rQ u d ((t.pg i).kids[j]'m.hj) r,(v.pg y).next=(u.pg y).next:=fun y hy=>by
  have aR:=m.ins.ok;rw[m.aB] at aR;cases r with
  | none =>
   have hi:=rz h _ d hd y hy;have hb:=dR.ids aR y hi;rw[m.below ha y hi hb.1 hb.2]
  | some q =>
   obtain⟨up,aB⟩:=q;obtain⟨_,_,_,o1,o2⟩:=aR;rcases mem_append.1 hy with hy|hy
   ·have hi:=rz h _ d hd y hy;have hb:=o1.ids y hi;rw[m.below ha y (mem_append_left _ hi) hb.1 hb.2]
   have hi:=rz h _ d hd y hy;have hb:=o2.ids y hi;rw[m.below ha y (mem_append_right _ hi) hb.1 hb.2]
 have E:rQ u d ((t.pg i).kids[j]'m.hj) r≠[]:=fun e0=>by
  have aR:=m.ins.ok;rw[m.aB] at aR;cases r with
  | none=>exact EM m.ins.page aR d hd e0
  | some q =>
   obtain⟨up,aB⟩:=q;exact EM m.ins.page aR.2.2.2.1 d hd (append_eq_nil_iff.1 e0).1
 have I:=xT (u:=v) (fun y hy=>by obtain⟨x,hx,hy⟩:=mem_flatMap.1 hy;exact fr x (mem_append_left _ hx) y hy) s1;have Z:=xT (u:=v) (fun y hy=>by obtain⟨x,hx,hy⟩:=mem_flatMap.1 hy;exact fr x (mem_append_right _ hx) y hy) s3;have g1':=xT (u:=v) U g1;have hh:∀e':Int,(rQ u d ((t.pg i).kids[j]'m.hj) r).headD e'=(cy t d ((t.pg i).kids[j]'m.hj)).headD e':=fun e'=>by
  cases h1:rQ u d ((t.pg i).kids[j]'m.hj) r with
  | nil=>exact absurd h1 E
  | cons a b =>
   cases h2:cy t d ((t.pg i).kids[j]'m.hj) with
   | nil=>exact absurd h2 hne
   | cons a' b'=>rw[h1,h2] at g2;exact g2
 rw[append_assoc];refine⟨?_,?_⟩
 ·rw[AM,AM];refine⟨?_,g1',Z⟩;rw[DT E,hh];rw[DT hne] at I;exact I
 cases hA:((t.pg i).kids.take j).flatMap (cy t d) with
 | cons a b=>rfl
 | nil=>rw[nil_append,nil_append,DT E,DT hne,hh]
end
end Go.Proofs.YtbcmjoaggammcaaGreatDoor.Tr

namespace Go.Proofs.YtbcmjoaggammcaaGreatDoor.Tr
open List
open Go.Proofs.Tryz
open Go.Lib (compareBytes)
variable {t u:aE} {h:Nat} {i:Int} {low high:K} {j:Nat} {k:K} {row:Int}
theorem Zt{α:Type}{l:List α}{j E:Nat}(I:E<l.length)(hne:E≠j):l[E]∈l.take j++l.drop (j+1):=by
 rcases Nat.lt_or_ge E j with h|h
 ·exact mem_append_left _ (mem_iff_getElem.2 ⟨E,by rw[length_take];omega,by rw[getElem_take]⟩)
 refine mem_append_right _ (mem_iff_getElem.2 ⟨E-(j+1),by rw[length_drop];omega,?_⟩);rw[getElem_drop];congr 1;omega
theorem HW(m:jk t u h i low high j k row none):nU t u (h+1) i low high k row none:=by
 have E:nI u u i:=⟨Nat.le_refl _,fun _ _ _ _=>rfl⟩
 have I:=m.same;have zY:=m.ok.idx;obtain⟨q1,q2,q3,q4,q5⟩:=m.ok;have aR:dR u h ((t.pg i).kids[j]'m.hj) (gQ low (t.pg i) j) (gC (t.pg i) j):=(by have:=m.ins.ok;rw[m.aB] at this;exact this)
 have o9:ids u (h+1) i=i::(((t.pg i).kids.take j).flatMap (ids t h)++nq u h ((t.pg i).kids[j]'m.hj) none++((t.pg i).kids.drop (j+1)).flatMap (ids t h)):=by
  rw[ids,I];conv=>lhs;rw[uj m.hj]
  rw[HV (fun x hx=>(m.pS E (mem_append_left _ hx)).1) (fun x hx=>(m.pS E (mem_append_right _ hx)).1)];rfl
 have O:dZ u (h+1) i=((t.pg i).kids.take j).flatMap (dZ t h)++E5 u h ((t.pg i).kids[j]'m.hj) none++((t.pg i).kids.drop (j+1)).flatMap (dZ t h):=by
  rw[dZ,I];conv=>lhs;rw[uj m.hj]
  rw[HV (fun x hx=>(m.pS E (mem_append_left _ hx)).2.1) (fun x hx=>(m.pS E (mem_append_right _ hx)).2.1)];rfl
 have U:∀d,d≤h→cy u (d+1) i=((t.pg i).kids.take j).flatMap (cy t d)++rQ u d ((t.pg i).kids[j]'m.hj) none++((t.pg i).kids.drop (j+1)).flatMap (cy t d):=fun d hd=>by
  rw[cy,I];conv=>lhs;rw[uj m.hj]
  rw[HV (fun x hx=>(m.pS E (mem_append_left _ hx)).2.2 d hd) (fun x hx=>(m.pS E (mem_append_right _ hx)).2.2 d hd)];rfl
 have hle:=m.ins.le;have Tp:=m.ins.more;have Z:=m.P0;refine⟨hle,by omega,m.ins.root,m.ins.page,fun x h0 hx hne=>?_,?_,?_,?_,?_,?_,?_⟩
 ·refine m.ins.out x h0 hx fun hm=>hne ?_;rw[m.aB] at hm;rw[ids];exact mem_cons_of_mem _ (mem_flatMap.2 ⟨_,getElem_mem _,hm⟩)
 ·refine⟨⟨zY.1,by omega⟩,by rw[I];exact q2,by rw[I];exact q3,by rw[I];exact q4,?_⟩;rw[I];intro j' ji;by_cases e:j'=j
  ·subst e;exact aR
  exact m.Rm E (Zt ji e) (q5 j' ji)
 ·intro x hx;have oC:x∈ids u (h+1) i:=hx;exact TR
 ·show(ids u (h+1) i).Nodup;rw[o9,nodup_cons];exact⟨Z.2,Z.1⟩
 ·show(ids u (h+1) i).length+_=_;rw[o9,length_cons];exact m.SG
 ·intro x;show x∈dZ u (h+1) i↔_;rw[O];exact m.IL x
 intro d hd e hs;cases d with
 | zero=>exact⟨by show(u.pg i).next=e;rw[I];exact hs,rfl⟩
 | succ d =>
  show eV u (cy u (d+1) i) e∧(cy u (d+1) i).headD e=_;rw[U d w4];exact m.Jg E w4 hs
theorem jk.place{up:K}{aB:Int}(m:jk t u h i low high j k row (some (up,aB))):aL (t.pg i) up=j∧up∉(t.pg i).keys∧kX low high up∧bP low up:=by
 obtain⟨q1,q2,I,O,Z⟩:=m.ok;have po:=m.hp _ (jn q1);have hn:=(po.node q2).1;have aR:=m.ins.ok;rw[m.aB] at aR;obtain⟨o1,o2,o3,o4,o5⟩:=aR;have U:=m.hj;have eO:∀(h0:0<j),bP ((t.pg i).keys[j-1]'w4) up:=fun h0=>by rw[Ew h0 w4] at o2;exact o2
 have eu:∀(hl:j<(t.pg i).keys.length),bP up (t.pg i).keys[j]:=fun hl=>by
  rw[EL hl] at o3;exact o3 (by intro e;have:=(po.kP _ (getElem_mem hl)).1;rw[e] at this;simp at this)
 have fC:aL (t.pg i) up=j:=by
  unfold aL;rw[if_neg (by rw[q2];decide)];exact IK po.jG w4 (fun h0=>yq (eO h0)) eu
 have E:bP low up:=by
  rcases Nat.eq_zero_or_pos j with h0|h0
  ·rw[h0] at o2;exact o2
  exact Ns (O _ (getElem_mem (by omega:j-1<_))) (eO h0)
 refine⟨fC,fun hm=>?_,⟨yq E,fun hne=>?_⟩,E⟩
 ·obtain⟨a,ha,e⟩:=mem_iff_getElem.1 hm;rcases Nat.lt_or_ge a j with h1|h1
  ·have h2:=eO w4;rcases Nat.lt_or_ge a (j-1) with h3|h3
   ·have:=l9 (mH po.jG h3 w4) h2;rw[e] at this;exact jX _ this
   have:a=j-1:=(by omega)
   subst this;rw[e] at h2;exact jX _ h2
  have h2:=eu w4;rcases Nat.lt_or_ge j a with h3|h3
  ·have:=l9 h2 (mH po.jG h3 ha);rw[e] at this;exact jX _ this
  have:a=j:=(by omega)
  subst this;rw[e] at h2;exact jX _ h2
 by_cases hl:j<(t.pg i).keys.length
 ·exact l9 (eu hl) (by rw[←I];exact po.pX (by rw[I];exact hne) _ (getElem_mem hl))
 rw[II w4,I] at o3;exact o3 hne
theorem aa2{up:K}{aB:Int}(m:jk t u h i low high j k row (some (up,aB))):nU t (qK u i up aB).1 (h+1) i low high k row (qK u i up aB).2:=by
 obtain⟨p1,p2,p3,p4⟩:=m.place;have es:=m.same;have zY:=m.ok.idx;have aR:=m.ins.ok;rw[m.aB] at aR;obtain⟨o1,o2,o3,o4,o5⟩:=aR;obtain⟨q1,q2,q3,q4,q5⟩:=m.ok;have hle:=m.ins.le;have Tp:=m.ins.more;have O:0≤i∧i<u.af.length:=⟨zY.1,by omega⟩
 have WE:=m.hp _ (jn q1);have po:ew (t.pg i) u.af.length:=WE.more w4;have hn:=(po.node q2).1;have lF:=m.hj;have hf:vR (bB (t.pg i) up aB) u.af.length:=HS po p2 o1 (by rw[q3];exact p3.2) o5.idx.1 (fun _=>o5.idx.2);have I:(bB (t.pg i) up aB).kids=(t.pg i).kids.take j++((t.pg i).kids[j]'m.hj)::aB::(t.pg i).kids.drop (j+1):=by
  show gz _ (if (t.pg i).leaf=true then _ else _) aB=_;rw[if_neg (by rw[q2];decide),p1];exact Nt m.hj aB
 have afM:(bB (t.pg i) up aB).keys=gz (t.pg i).keys j up:=by
  show gz _ _ _=_;rw[p1]
 have U:∀x∈(bB (t.pg i) up aB).keys,¬bP x low:=fun x hx=>by
  rcases ug.1 hx with rfl|h
  ·exact p3.1
  exact q4 x h
 have hKT:iZ t h low (t.pg i).kids (t.pg i).keys high:=(AL WE).1 m.ok |>.2.2.2.2
 -- what is below,in any tree that amG
 have below:∀{v:aE},nI u v i→(∀x,x∈ids u h ((t.pg i).kids[j]'m.hj)++ids u h aB→v.pg x=u.pg x):=fun E x hx=>by
  refine m.below E x hx ?_ ?_
  ·rcases mem_append.1 hx with hx|hx
   ·exact(o4.ids x hx).1
   exact(o5.ids x hx).1
  rcases mem_append.1 hx with hx|hx
  ·exact(o4.ids x hx).2
  exact(o5.ids x hx).2
 have MB:∀{v:aE},nI u v i→_:=fun {v} E=>frame (t:=u) (u:=v) h ((t.pg i).kids[j]'m.hj) (fun x hx=>below E x (mem_append_left _ hx));have MC:∀{v:aE},nI u v i→_:=fun {v} E=>frame (t:=u) (u:=v) h aB (fun x hx=>below E x (mem_append_right _ hx));have WG:∀{v:aE},nI u v i→iZ v h low (bB (t.pg i) up aB).kids (bB (t.pg i) up aB).keys high:=fun {v} E=>by
  have e1:(bB (t.pg i) up aB).kids=gz (t.pg i).kids (j+1) aB:=(by rw[I];exact(Nt m.hj aB).symm)
  rw[e1,afM];refine PY j m.hj hKT (fun c hc lo hi aR=>m.Rm E ?_ aR) ?_ ?_
  ·rcases XW hc with hc|hc
   ·exact mem_append_left _ hc
   exact mem_append_right _ hc
  ·have:=o4.frame E.le (fun x hx=>below E x (mem_append_left _ hx));unfold gQ at this;exact this
  have:=o5.frame E.le (fun x hx=>below E x (mem_append_right _ hx));unfold gC at this;rw[q3] at this;exact this
 have Us:∀{v:aE},nI u v i→(bB (t.pg i) up aB).kids.flatMap (ids v h)=((t.pg i).kids.take j).flatMap (ids t h)++nq u h ((t.pg i).kids[j]'m.hj) (some (up,aB))++((t.pg i).kids.drop (j+1)).flatMap (ids t h):=fun {v} E=>by
  rw[I,Hr (fun x hx=>(m.pS E (mem_append_left _ hx)).1) (fun x hx=>(m.pS E (mem_append_right _ hx)).1),(MB E).1,(MC E).1];rfl
 have Z:∀{v:aE},nI u v i→(bB (t.pg i) up aB).kids.flatMap (dZ v h)=((t.pg i).kids.take j).flatMap (dZ t h)++E5 u h ((t.pg i).kids[j]'m.hj) (some (up,aB))++((t.pg i).kids.drop (j+1)).flatMap (dZ t h):=fun {v} E=>by
  rw[I,Hr (fun x hx=>(m.pS E (mem_append_left _ hx)).2.1) (fun x hx=>(m.pS E (mem_append_right _ hx)).2.1),(MB E).2.1,(MC E).2.1];rfl
 have Ut:∀{v:aE},nI u v i→∀d,d≤h→(bB (t.pg i) up aB).kids.flatMap (cy v d)=((t.pg i).kids.take j).flatMap (cy t d)++rQ u d ((t.pg i).kids[j]'m.hj) (some (up,aB))++((t.pg i).kids.drop (j+1)).flatMap (cy t d):=fun {v} E d hd=>by
  rw[I,Hr (fun x hx=>(m.pS E (mem_append_left _ hx)).2.2 d hd) (fun x hx=>(m.pS E (mem_append_right _ hx)).2.2 d hd),(MB E).2.2 d hd,(MC E).2.2 d hd];rfl
 have vl:=m.P0;have BH:=m.SG;have Uu:∀x:Int,0≤x→x<t.af.length→x∉ids t (h+1) i→u.pg x=t.pg x∧x≠i:=fun x h0 hx hne=>by
  refine⟨m.ins.out x h0 hx fun hm=>hne ?_,fun e=>hne (by rw[e];exact sE _ _)⟩;rw[m.aB] at hm;rw[ids];exact mem_cons_of_mem _ (mem_flatMap.2 ⟨_,getElem_mem _,hm⟩)
 by_cases h4:(bB (u.pg i) up aB).keys.length≤4
 ·rw[HU h4];rw[es] at h4 ⊢;have ep:=AA O (bB (t.pg i) up aB);have E:nI u (u.set i (bB (t.pg i) up aB)) i:=⟨by rw[nG];omega,fun x h0 hx hne=>vy O.1 h0 (Ne.symm hne) _⟩
  have o9:ids (u.set i (bB (t.pg i) up aB)) (h+1) i=i::(((t.pg i).kids.take j).flatMap (ids t h)++nq u h ((t.pg i).kids[j]'m.hj) (some (up,aB))++((t.pg i).kids.drop (j+1)).flatMap (ids t h)):=(by rw[ids,ep,Us E])
  refine⟨by rw[nG];omega,by rw[nG];omega,m.ins.root,by rw[nG];exact Hp m.ins.page (hf.ok h4),fun x h0 hx hne=>?_,?_,fun x hx=>?_,?_,?_,fun x=>?_,fun d hd e hs=>?_⟩
  ·obtain⟨e1,e2⟩:=Uu x h0 hx hne;rw[E.pg x h0 w4 e2,e1]
  ·show dR _ (h+1) i low high;refine(AL (n:=u.af.length) (by rw[ep];exact hf.ok h4)).2 ?_;rw[ep];exact⟨by rw[nG];exact O,q2,q3,U,WG E⟩
  ·have oC:x∈ids (u.set i (bB (t.pg i) up aB)) (h+1) i:=hx;exact TR
  ·show(ids _ (h+1) i).Nodup;rw[o9,nodup_cons];exact⟨vl.2,vl.1⟩
  ·show(ids _ (h+1) i).length+_=_;rw[o9,length_cons,nG];exact BH
  ·show x∈dZ _ (h+1) i↔_;rw[dZ,ep,Z E];exact m.IL x
  cases d with
  | zero=>exact⟨by show((u.set i _).pg i).next=e;rw[ep];exact hs,rfl⟩
  | succ d =>
   show eV _ (cy _ (d+1) i) e∧(cy _ (d+1) i).headD e=_;rw[cy,ep,Ut E d w4];exact m.Jg E w4 hs
 have h5:(bB (t.pg i) up aB).keys.length=5:=(by rw[es] at h4;have:=hf.eL;omega)
 rw[Hq h4];rw[es] at h4 ⊢;have CO:(bB (t.pg i) up aB).leaf=false:=q2;have ea:=Ot O (bn (bB (t.pg i) up aB) u.af.length) (bp (bB (t.pg i) up aB));have eb:=PZ u i (bn (bB (t.pg i) up aB) u.af.length) (bp (bB (t.pg i) up aB));have E:nI u (ja u i (bn (bB (t.pg i) up aB) u.af.length) (bp (bB (t.pg i) up aB))) i:=⟨by rw[oQ];omega,fun x h0 hx hne=>NK O.1 ⟨h0,hx⟩ (Ne.symm hne) _ _⟩
 obtain⟨u1,u2⟩:=Rl hf.jG h5 U;have CN:iT (bB (t.pg i) up aB)∈(bB (t.pg i) up aB).keys:=(by rw[yu h5];exact getElem_mem _)
 have eO:=SF hf h5 w4;have eu:=Rk (m:=u.af.length+1) hf h5 w4;have zS:=NJ 2 w4 (WG E);rw[←yu h5] at zS;have Gw:(bn (bB (t.pg i) up aB) u.af.length).kids=(bB (t.pg i) up aB).kids.take 3:=by
  show(bB (t.pg i) up aB).kids.take (if _ then _ else _)=_;rw[if_neg (by rw[CO];decide)]
 have Gx:(bp (bB (t.pg i) up aB)).kids=(bB (t.pg i) up aB).kids.drop 3:=by
  show(bB (t.pg i) up aB).kids.drop (if _ then _ else _)=_;rw[if_neg (by rw[CO];decide)]
 have ehy:(bp (bB (t.pg i) up aB)).keys=(bB (t.pg i) up aB).keys.drop 3:=by
  show(bB (t.pg i) up aB).keys.drop (if _ then _ else _)=_;rw[if_neg (by rw[CO];decide)]
 have parts:∀{α:Type} (f:Int→List α),((bB (t.pg i) up aB).kids.take 3).flatMap f++((bB (t.pg i) up aB).kids.drop 3).flatMap f=(bB (t.pg i) up aB).kids.flatMap f:=fun f=>by rw[←flatMap_append,take_append_drop]
 have o9:nq (ja u i (bn (bB (t.pg i) up aB) u.af.length) (bp (bB (t.pg i) up aB))) (h+1) i (some (iT (bB (t.pg i) up aB),(u.af.length:Int)))=(i::((bB (t.pg i) up aB).kids.take 3).flatMap (ids (ja u i (bn (bB (t.pg i) up aB) u.af.length) (bp (bB (t.pg i) up aB))) h))++((u.af.length:Int)::((bB (t.pg i) up aB).kids.drop 3).flatMap (ids (ja u i (bn (bB (t.pg i) up aB) u.af.length) (bp (bB (t.pg i) up aB))) h)):=by
  show ids _ (h+1) i++ids _ (h+1) _=_;rw[ids,ids,ea,eb,Gw,Gx]
 have pid:=(parts (ids (ja u i (bn (bB (t.pg i) up aB) u.af.length) (bp (bB (t.pg i) up aB))) h)).trans (Us E);have ah4:∀x∈((t.pg i).kids.take j).flatMap (ids t h)++nq u h ((t.pg i).kids[j]'m.hj) (some (up,aB))++((t.pg i).kids.drop (j+1)).flatMap (ids t h),x<u.af.length:=fun x hx=>by
  rcases mem_append.1 hx with hx|hx
  ·rcases mem_append.1 hx with hx|hx
   ·obtain⟨c,hc,hx⟩:=mem_flatMap.1 hx;obtain⟨a,ha,rfl⟩:=mem_iff_getElem.1 (mem_of_mem_take hc);have:=(q5 a ha).ids x hx;omega
   rcases mem_append.1 hx with hx|hx
   ·exact(o4.ids x hx).2
   exact(o5.ids x hx).2
  obtain⟨c,hc,hx⟩:=mem_flatMap.1 hx;obtain⟨a,ha,rfl⟩:=mem_iff_getElem.1 (mem_of_mem_drop hc);have:=(q5 a ha).ids x hx;omega
 refine⟨by rw[oQ];omega,by rw[oQ];omega,m.ins.root,?_,fun x h0 hx hne=>?_,⟨hf.kP _ CN,u1,fun hne=>?_,?_,?_⟩,fun x hx=>?_,?_,?_,fun x=>?_,fun d hd e hs=>?_⟩
 ·rw[oQ];exact NL m.ins.page w4 eO eu
 ·obtain⟨e1,e2⟩:=Uu x h0 hx hne;rw[E.pg x h0 w4 e2,e1]
 ·have:=hf.pX (by show(t.pg i).high≠[];rw[q3];exact hne) _ CN;rw[←q3];exact this
 ·refine(AL (n:=(u.af.length:Int)+1) (by rw[ea];exact eO)).2 ?_;rw[ea,Gw];exact⟨by rw[oQ];omega,CO,rfl,fun x hx=>U x (mem_of_mem_take hx),zS.1⟩
 ·refine(AL (n:=(u.af.length:Int)+1) (by rw[eb];exact eu)).2 ?_;rw[eb,Gx,ehy];refine⟨by rw[oQ];omega,CO,q3,fun x hx=>u2 x ?_,zS.2⟩;rw[show 3=2+1 from rfl,←drop_drop] at hx;exact mem_of_mem_drop hx
 ·rw[o9] at hx;have eY:x=i∨x=(u.af.length:Int)∨x∈((bB (t.pg i) up aB).kids.take 3).flatMap (ids (ja u i (bn (bB (t.pg i) up aB) u.af.length) (bp (bB (t.pg i) up aB))) h)++((bB (t.pg i) up aB).kids.drop 3).flatMap (ids (ja u i (bn (bB (t.pg i) up aB) u.af.length) (bp (bB (t.pg i) up aB))) h):=by
   rcases mem_append.1 hx with hx|hx
   ·rcases mem_cons.1 hx with h|h
    ·exact .inl h
    exact .inr (.inr (mem_append_left _ h))
   rcases mem_cons.1 hx with h|h
   ·exact .inr (.inl h)
   exact .inr (.inr (mem_append_right _ h))
  rw[pid] at eY;rcases eY with rfl|rfl|hx
  ·exact .inl (sE _ _)
  ·exact .inr w4
  exact m.R7 x hx
 ·rw[o9];have hnd:=vl.1;rw[←pid,nodup_append] at hnd;have pA:=vl.2;rw[←pid] at pA;simp only[mem_append,not_or] at pA;have jO:∀x∈((bB (t.pg i) up aB).kids.take 3).flatMap (ids (ja u i (bn (bB (t.pg i) up aB) u.af.length) (bp (bB (t.pg i) up aB))) h)++((bB (t.pg i) up aB).kids.drop 3).flatMap (ids (ja u i (bn (bB (t.pg i) up aB) u.af.length) (bp (bB (t.pg i) up aB))) h),x<u.af.length:=fun x hx=>ah4 x (by rw[←pid];exact hx);rw[nodup_append,nodup_cons,nodup_cons];refine⟨⟨pA.1,hnd.1⟩,⟨fun hm=>?_,hnd.2.1⟩,fun a ha b hb e=>?_⟩
  ·have:=jO _ (mem_append_right _ hm);omega
  subst e;rcases mem_cons.1 ha with rfl|ha
  ·rcases mem_cons.1 hb with hb|hb
   ·omega
   exact pA.2 hb
  rcases mem_cons.1 hb with rfl|hb
  ·have:=jO _ (mem_append_left _ ha);omega
  exact hnd.2.2 a ha a hb rfl
 ·rw[o9,oQ];have:=congrArg length pid;rw[length_append] at this;rw[length_append,length_cons,length_cons];omega
 ·show x∈dZ _ (h+1) i++dZ _ (h+1) _↔_;rw[dZ,dZ,ea,eb,Gw,Gx,parts,Z E];exact m.IL x
 cases d with
 | zero =>
  refine⟨?_,rfl⟩;show((ja u i _ _).pg i).next=_∧((ja u i _ _).pg _).next=e;rw[ea,eb];exact⟨rfl,hs⟩
 | succ d =>
  show eV _ (cy _ (d+1) i++cy _ (d+1) _) e∧(cy _ (d+1) i++cy _ (d+1) _).headD e=_;rw[cy,cy,ea,eb,Gw,Gx,parts,Ut E d w4];exact m.Jg E w4 hs
theorem EN:∀{h:Nat} {t:aE} (hp:∀p∈t.af,ew p t.af.length) {i:Int} {low high:K} (ok:dR t h i low high) (nd:(ids t h i).Nodup) {k:K} {row:Int} (hk:kX low high k) (hn:∀x∈dZ t h i,x.1≠k) (hl:1≤k.length∧k.length≤100) (hr:0≤row),nU t (fS t k row h i).1 h i low high k row (fS t k row h i).2
 | 0,t,hp,i,low,high,ok,nd,k,row,hk,hn,hl,hr=>aa1 hp ok hk hn hl hr
 | h+1,t,hp,i,low,high,ok,nd,k,row,hk,hn,hl,hr=>by
  obtain⟨q1,q2,O,Z,U⟩:=id ok;have po:=hp _ (jn q1);obtain⟨d1,d2⟩:=down po q2 O hk;have E:=(vz d1 nd).1;have I:=EN (h:=h) hp (U _ d1) E d2 (fun x hx=>hn x Ll) hl hr;rw[←sK d1] at I;rw[fS];generalize fS t k row h ((t.pg i).kids.getD (aL (t.pg i) k) 0)=R at I;obtain⟨u,r⟩:=R;have m:jk t u h i low high (aL (t.pg i) k) k row r:=⟨hp,ok,nd,d1,d2,I⟩
  cases r with
  | none=>exact HW m
  | some q=>obtain⟨up,aB⟩:=q;exact aa2 m

end Go.Proofs.YtbcmjoaggammcaaGreatDoor.Tr
namespace Go.Proofs.YtbcmjoaggammcaaGreatDoor.Tr
open List
open Go.Proofs.Tryz
open Go.Lib (compareBytes)
variable {t:aE} {h:Nat} {k:K} {row:Int}
variable {p:cQ}
def kC(t:aE)(h:Nat):List (K×Int):=dZ t h t.root
def gm(t:aE)(h:Nat)(k:K)(row:Int):aE:=afL (fS t k row h t.root)
def iL(u:aE)(up:K)(aB:Int):aE:=⟨u.af++[⟨false,[up],[u.root,aB],[],-1⟩],u.af.length⟩
theorem sL(u:aE)(up:K)(aB:Int):(iL u up aB).af.length=u.af.length+1:=by simp[iL]
theorem aa3(u:aE)(up:K)(aB:Int):(iL u up aB).pg u.af.length=⟨false,[up],[u.root,aB],[],-1⟩:=by
 unfold aE.pg iL;rw[getD_eq_getElem?_getD,getElem?_append_right w4];simp
theorem aa4{u:aE}{x:Int}(hx:0≤x∧x<u.af.length)(up:K)(aB:Int):(iL u up aB).pg x=u.pg x:=by
 unfold aE.pg iL;rw[getD_eq_getElem?_getD,getD_eq_getElem?_getD,getElem?_append_left w4]
theorem Valid.range(v:Valid t h):0≤t.root∧t.root<t.af.length:=v.ok.idx
theorem P1(hp:∀p∈t.af,ew p t.af.length):∀{h:Nat} {i:Int} {low high:K},dR t h i low high→h+1≤(ids t h i).length
 | 0,_,_,_,_=>by simp[ids]
 | h+1,i,low,high,⟨q1,q2,I,O,E⟩=>by
  have po:=hp _ (jn q1);have hn:=(po.node q2).1;have h0:0<(t.pg i).kids.length:=(by omega)
  have:=P1 hp (E 0 h0);rw[ids,length_cons,uj h0,flatMap_append,flatMap_cons,length_append,length_append];omega
theorem Valid.high(v:Valid t h):h<t.af.length:=by
 have:=P1 v.page v.ok;rw[v.all] at this;omega
theorem Zu(v:Valid t h)(hn:∀x∈kC t h,x.1≠k)(hl:1≤k.length∧k.length≤100)(hr:0≤row)(hm:t.af.length+(h+2)≤4000) :
  ∃h',(h≤h'∧h'≤h+1)∧Valid (gm t h k row) h'∧(t.af.length≤(gm t h k row).af.length∧(gm t h k row).af.length≤t.af.length+(h+2))∧∀x,x∈kC (gm t h k row) h'↔x=(k,row)∨x∈kC t h:=by
 have I:=EN v.page v.ok v.za (sR k) hn hl hr;unfold gm;generalize fS t k row h t.root=R at I;obtain⟨u,r⟩:=R;have hle:t.af.length≤u.af.length:=I.le;have Tp:u.af.length≤t.af.length+(h+1):=I.more;have O:(nq u h t.root r).length+t.af.length=(ids t h t.root).length+u.af.length:=I.WD;rw[v.all] at O;have an5:=v.pos;have E:u.root=t.root:=I.root;cases r with
 | none =>
  refine⟨h,⟨Nat.le_refl _,by omega⟩,⟨by show 1≤u.af.length;omega,by show u.af.length≤4000;omega,I.page,?_,?_,?_,fun d hd=>?_⟩,⟨hle,by show u.af.length≤_;omega⟩,fun x=>?_⟩
  ·show dR u h u.root [] [];rw[E];exact I.ok
  ·show(ids u h u.root).Nodup;rw[E];exact I.nodup
  ·show(ids u h u.root).length=u.af.length;rw[E];have:(ids u h t.root).length+t.af.length=t.af.length+u.af.length:=O;omega
  ·show eV u (cy u d u.root) (-1);rw[E];exact(I.oK d hd (-1) (v.oK d hd)).1
  show x∈dZ u h u.root↔_;rw[E];exact I.dZ x
 | some q =>
  obtain⟨up,aB⟩:=q;obtain⟨o1,o2,o3,o4,o5⟩:(1≤up.length∧up.length≤100)∧bP [] up∧(([]:K)≠[]→bP up [])∧dR u h t.root [] up∧dR u h aB up []:=I.ok;have ho:∀x∈ids u h t.root++ids u h aB,(iL u up aB).pg x=u.pg x:=fun x hx=>by
   refine aa4 ?_ up aB;rcases mem_append.1 hx with hx|hx
   ·exact o4.ids x hx
   exact o5.ids x hx
  have f1:=frame (t:=u) (u:=iL u up aB) h t.root (fun x hx=>ho x (mem_append_left _ hx));have f2:=frame (t:=u) (u:=iL u up aB) h aB (fun x hx=>ho x (mem_append_right _ hx));have g1:dR (iL u up aB) h t.root [] up:=o4.frame (by rw[sL];omega) (fun x hx=>ho x (mem_append_left _ hx));have g2:dR (iL u up aB) h aB up []:=o5.frame (by rw[sL];omega) (fun x hx=>ho x (mem_append_right _ hx));have U:=aa3 u up aB;rw[E] at U;have hnd:=I.nodup;have o9:ids (iL u up aB) (h+1) u.af.length=(u.af.length:Int)::(ids u h t.root++ids u h aB):=by
   rw[ids,U];show _::([t.root,aB].flatMap (ids (iL u up aB) h))=_;rw[flatMap_cons,flatMap_cons,flatMap_nil,append_nil,f1.1,f2.1]
  have Z:ew (⟨false,[up],[t.root,aB],[],-1⟩:cQ) (u.af.length+1:Nat):=by
   have i1:=o4.idx;have i2:=o5.idx;refine⟨by simp,by simp,by simp,by simp;omega,by simp,(fun h=>by cases h),fun _=>⟨rfl,by simp⟩,fun x hx=>?_,fun h=>absurd rfl h,by simp,fun x hx=>?_,fun _ x hx=>?_⟩
   ·have:x=up:=(by simpa using hx)
    subst this;exact o1
   ·have:x=t.root∨x=aB:=(by simpa using hx)
    rcases this with rfl|rfl
    ·exact i1.1
    exact i2.1
   have:x=t.root∨x=aB:=(by simpa using hx)
   rcases this with rfl|rfl<;>omega
  refine⟨h+1,⟨by omega,by omega⟩,⟨?_,?_,?_,?_,?_,?_,fun d hd=>?_⟩,⟨?_,?_⟩,fun x=>?_⟩
  ·show 1≤(iL u up aB).af.length;rw[sL];omega
  ·show(iL u up aB).af.length≤4000;rw[sL];omega
  ·show ∀p∈(iL u up aB).af,ew p (iL u up aB).af.length;rw[sL];intro p hp;rcases mem_append.1 hp with hp|hp
   ·have zJ:ew p u.af.length:=I.page p hp;exact zJ.more w4
   rw[mem_singleton] at hp;subst hp;rw[E];exact Z
  ·show dR (iL u up aB) (h+1) u.af.length [] [];refine(AL (n:=(u.af.length+1:Nat)) (by rw[U];exact Z)).2 ?_;rw[U];refine⟨by rw[sL];omega,rfl,rfl,fun x _=>Je x,?_⟩;rw[pK,AB];exact⟨g1,g2⟩
  ·show(ids (iL u up aB) (h+1) u.af.length).Nodup;rw[o9,nodup_cons];refine⟨fun hm=>?_,hnd⟩;rcases mem_append.1 hm with hm|hm
   ·have:=o4.ids _ hm;omega
   have:=o5.ids _ hm;omega
  ·show(ids (iL u up aB) (h+1) u.af.length).length=(iL u up aB).af.length;rw[o9,sL,length_cons];have:(ids u h t.root++ids u h aB).length+t.af.length=t.af.length+u.af.length:=O;omega
  ·show eV (iL u up aB) (cy (iL u up aB) d u.af.length) (-1);cases d with
   | zero=>show((iL u up aB).pg u.af.length).next = -1;rw[U]
   | succ d =>
    rw[cy,U];show eV _ ([t.root,aB].flatMap (cy (iL u up aB) d)) (-1);rw[flatMap_cons,flatMap_cons,flatMap_nil,append_nil,f1.2.2 d w4,f2.2.2 d w4];refine xT (fun x hx=>?_) (I.oK d w4 (-1) (v.oK d w4)).1;have oC:x∈cy u d t.root++cy u d aB:=hx;rw[ho x ?_];rcases mem_append.1 oC with oC|oC
    ·exact mem_append_left _ (rz h _ d w4 x oC)
    exact mem_append_right _ (rz h _ d w4 x oC)
  ·show t.af.length≤(iL u up aB).af.length;rw[sL];omega
  ·show(iL u up aB).af.length≤_;rw[sL];omega
  show x∈dZ (iL u up aB) (h+1) u.af.length↔_;rw[dZ,U];show x∈[t.root,aB].flatMap (dZ (iL u up aB) h)↔_;rw[flatMap_cons,flatMap_cons,flatMap_nil,append_nil,f1.2.1,f2.2.1];exact I.dZ x
theorem Ou:Valid rP 0:=by
 refine⟨by decide,by decide,fun p hp=>?_,⟨by decide,rfl,rfl,fun k hk=>by cases hk⟩,by simp[ids],rfl,fun d hd=>?_⟩
 ·have:p=⟨true,[],[],[],-1⟩:=(by simpa[rP] using hp)
  subst this;exact⟨by simp,by simp,by simp,by simp[rP],by simp,fun _=>rfl,(fun h=>by cases h),(fun k hk=>by cases hk),(fun h=>absurd rfl h),by simp,(fun n hn=>by cases hn),(fun h=>by cases h)⟩
 obtain rfl:d=0:=(by omega)
 rfl
theorem aa5:kC rP 0=[]:=rfl
/-! ### Found -/
theorem Ec(hl:p.kids.length=p.keys.length){a:Nat}(ha:a<p.keys.length):(eU p)[a]'(by unfold eU;rw[length_zip];omega)=(p.keys[a],p.kids[a]'w4):=by unfold eU;rw[getElem_zip]
theorem Aq(hl:p.kids.length=p.keys.length){x:K×Int}:x∈eU p↔∃a,∃(ha:a<p.keys.length),x=(p.keys[a],p.kids[a]'w4):=by
 constructor
 ·intro h;obtain⟨a,ha,e⟩:=mem_iff_getElem.1 h;have E:a<p.keys.length:=(by unfold eU at ha;rw[length_zip] at ha;omega)
  exact⟨a,E,by rw[←e,Ec hl E]⟩
 rintro⟨a,ha,rfl⟩;exact mem_iff_getElem.2 ⟨a,by unfold eU;rw[length_zip];omega,Ec hl ha⟩
def AX(t:aE)(k:K)(h:Nat):Prop:=∃(ha:aL (t.pg (aI t k h t.root)) k<(t.pg (aI t k h t.root)).keys.length),(t.pg (aI t k h t.root)).keys[aL (t.pg (aI t k h t.root)) k]=k
theorem Valid.leaf(v:Valid t h)(k:K):(0≤aI t k h t.root∧aI t k h t.root<t.af.length)∧(t.pg (aI t k h t.root)).leaf=true:=by
 obtain⟨_,_,_,_,_,_,_,h3,_⟩:=Az v.page v.ok (sR k);exact⟨h3.1,h3.2.1⟩
theorem found(v:Valid t h)(k:K)(row:Int):(k,row)∈kC t h↔∃(ha:aL (t.pg (aI t k h t.root)) k<(t.pg (aI t k h t.root)).keys.length),(t.pg (aI t k h t.root)).keys[aL (t.pg (aI t k h t.root)) k]=k∧(t.pg (aI t k h t.root)).kids.getD (aL (t.pg (aI t k h t.root)) k) 0=row:=by
 obtain⟨pre,post,lo,hi,e,h1,h2,h3,h4⟩:=Az v.page v.ok (sR k);have po:=v.page _ (jn h3.1);have fB:=h3.2.1;have hlen:=po.leaf fB;unfold kC;rw[vI,e,flatMap_append,flatMap_cons];generalize I:t.pg (aI t k h t.root)=p at *;have fC:aL p k=gg p.keys k:=(by unfold aL;rw[if_pos fB])
 rw[fC];simp only[mem_append];constructor
 ·rintro(hx|hx|hx)
  ·obtain⟨l,hl,hx⟩:=mem_flatMap.1 hx;exact absurd (h1 l hl _ hx) (jX k)
  ·obtain⟨a,ha,e2⟩:=(Aq hlen).1 hx;injection e2 with E O
   have:gg p.keys k=a:=by
    rcases Nat.lt_trichotomy (gg p.keys k) a with h5|h5|h5
    ·exfalso;have:=Ap (keys:=p.keys) (k:=k) w4;have h6:=mH po.jG h5 ha;rw[←E] at h6;exact this h6
    ·exact h5
    have:=(Ax h5).2;rw[←E] at this;exact absurd this (jX k)
   subst this;exact⟨ha,E.symm,by rw[getD_eq_getElem?_getD,getElem?_eq_getElem w4];exact O.symm⟩
  obtain⟨l,hl,hx⟩:=mem_flatMap.1 hx;exact absurd (h2 l hl _ hx) (jX k)
 rintro⟨ha,e1,e2⟩;refine .inr (.inl ((Aq hlen).2 ⟨_,ha,?_⟩));rw[getD_eq_getElem?_getD,getElem?_eq_getElem w4] at e2;rw[e1];congr 1;exact e2.symm
theorem Ar(v:Valid t h)(k:K):AX t k h↔∃row,(k,row)∈kC t h:=by
 constructor
 ·rintro⟨ha,e⟩;exact⟨_,(found v k _).2 ⟨ha,e,rfl⟩⟩
 rintro⟨row,hr⟩;obtain⟨ha,e,_⟩:=(found v k row).1 hr;exact⟨ha,e⟩
/-! ### Taken out -/
def j7(p:cQ)(a:Nat):cQ:={p with keys:=p.keys.eraseIdx a,kids:=p.kids.eraseIdx a}
def gp(t:aE)(h:Nat)(k:K):aE:=t.set (aI t k h t.root) (j7 (t.pg (aI t k h t.root)) (aL (t.pg (aI t k h t.root)) k))
theorem aev{n:Int}(hp:ew p n)(hl:p.leaf=true){a:Nat}(ha:a<p.keys.length):ew (j7 p a) n:=by
 have hlen:=hp.leaf hl;refine⟨?_,hp.hlen,hp.wi,hp.vU,hp.wj,fun _=>?_,fun h=>?_,fun k hk=>hp.kP k ((eraseIdx_sublist _ _).subset hk),fun hne k hk=>hp.pX hne k ((eraseIdx_sublist _ _).subset hk),hp.jG.sublist (eraseIdx_sublist _ _),fun x hx=>hp.aB x ((eraseIdx_sublist _ _).subset hx),fun h=>?_⟩
 ·show(p.keys.eraseIdx a).length≤4;rw[length_eraseIdx_of_lt ha];have:=hp.eL;omega
 ·show(p.kids.eraseIdx a).length=(p.keys.eraseIdx a).length;rw[length_eraseIdx_of_lt ha,length_eraseIdx_of_lt w4,hlen]
 ·have:p.leaf=false:=h;rw[hl] at this;cases this
 have:p.leaf=false:=h;rw[hl] at this;cases this
theorem Ov{α β:Type}:∀{a:List α} {b:List β} {n:Nat},(a.eraseIdx n).zip (b.eraseIdx n)=(a.zip b).eraseIdx n
 | [],_,n=>by simp
 | _::_,[],n=>by cases n<;>simp
 | x::a,y::b,0=>by simp
 | x::a,y::b,n+1=>by simp[Ov (a:=a) (b:=b) (n:=n)]
theorem P2{q:cQ}{l:Int}(hq:q.leaf=true)(hh:q.high=(t.pg l).high)(hx:q.next=(t.pg l).next)(hl:0≤l∧l<t.af.length)(fB:(t.pg l).leaf=true)(E:∀k∈q.keys,k∈(t.pg l).keys):∀{h:Nat} {i:Int} {low high:K},dR t h i low high →
  dR (t.set l q) h i low high∧ids (t.set l q) h i=ids t h i∧∀d,d≤h→cy (t.set l q) d i=cy t d i
 | 0,i,low,high,⟨q1,q2,I,O⟩=>by
  refine⟨?_,rfl,fun d hd=>by cases Nat.le_zero.1 hd;rfl⟩;by_cases e:l=i
  ·subst e;rw[dR,AA hl,nG];exact⟨q1,hq,by rw[hh];exact I,fun k hk=>O k (E k hk)⟩
  rw[dR,vy hl.1 q1.1 e,nG];exact⟨q1,q2,I,O⟩
 | h+1,i,low,high,⟨q1,q2,I,O,q5⟩=>by
  have e:l≠i:=fun e=>by rw[e,q2] at fB;cases fB
  have U:=vy (t:=t) hl.1 q1.1 e q;have Z:=fun j (hj:j<(t.pg i).kids.length)=>P2 hq hh hx hl fB E (q5 j hj);refine⟨?_,?_,fun d hd=>?_⟩
  ·rw[dR,U,nG];exact⟨q1,q2,I,O,fun j hj=>(Z j hj).1⟩
  ·rw[ids,ids,U];congr 1;refine qw fun c hc=>?_;obtain⟨j,hj,rfl⟩:=mem_iff_getElem.1 hc;exact(Z j hj).2.1
  cases d with
  | zero=>rfl
  | succ d =>
   rw[cy,cy,U];refine qw fun c hc=>?_;obtain⟨j,hj,rfl⟩:=mem_iff_getElem.1 hc;exact(Z j hj).2.2 d w4
theorem Zv(v:Valid t h)(ht:AX t k h):Valid (gp t h k) h∧(gp t h k).af.length=t.af.length∧∀x,x∈kC (gp t h k) h↔x∈kC t h∧x.1≠k:=by
 obtain⟨ha,hk⟩:=ht;obtain⟨hl,fB⟩:=v.leaf k;have po:=v.page _ (jn hl);have hq:=aev po fB ha;have hlen:=po.leaf fB;have S:=fun {i:Int} {low high:K} (ok:dR t h i low high)=>P2 (t:=t) (q:=j7 (t.pg (aI t k h t.root)) (aL (t.pg (aI t k h t.root)) k)) (l:=aI t k h t.root) fB rfl rfl hl fB (fun k hk=>(eraseIdx_sublist _ _).subset hk) ok;obtain⟨s1,s2,s3⟩:=S v.ok;have E:(gp t h k).af.length=t.af.length:=nG _ _ _;refine⟨⟨by rw[E];exact v.pos,by rw[E];exact v.mQ,?_,s1,?_,?_,fun d hd=>?_⟩,E,fun x=>?_⟩
 ·rw[E];exact Hp v.page hq
 ·show(ids (gp t h k) h t.root).Nodup;unfold gp;rw[s2];exact v.za
 ·show(ids (gp t h k) h t.root).length=_;rw[E];unfold gp;rw[s2];exact v.all
 ·show eV (gp t h k) (cy (gp t h k) d t.root) (-1);unfold gp;rw[s3 d hd];refine xT (fun y hy=>?_) (v.oK d hd);have I:=v.ok.ids y (rz h _ d hd y hy);by_cases e:aI t k h t.root=y
  ·rw[←e,AA hl];rfl
  rw[vy hl.1 I.1 e]
 obtain⟨pre,post,lo,hi,e,h1,h2,h3,h4⟩:=Az v.page v.ok (sR k);have hlv:(cy t h t.root).Nodup→aI t k h t.root∉pre∧aI t k h t.root∉post:=fun hn=>by
  rw[e,nodup_append,nodup_cons] at hn;exact⟨fun hm=>hn.2.2 _ hm _ (mem_cons_self) rfl,hn.2.1.1⟩
 have eO:∀y∈pre,eU ((gp t h k).pg y)=eU (t.pg y)∨y=aI t k h t.root:=fun y hy=>by
  by_cases e':aI t k h t.root=y
  ·exact .inr e'.symm
  left;have I:=v.ok.ids y (rz h _ h (Nat.le_refl _) y (by rw[e];exact mem_append_left _ hy));unfold gp;rw[vy hl.1 I.1 e']
 have qU:∀y∈post,eU ((gp t h k).pg y)=eU (t.pg y)∨y=aI t k h t.root:=fun y hy=>by
  by_cases e':aI t k h t.root=y
  ·exact .inr e'.symm
  left;have I:=v.ok.ids y (rz h _ h (Nat.le_refl _) y (by rw[e];exact mem_append_right _ (mem_cons_of_mem _ hy)));unfold gp;rw[vy hl.1 I.1 e']
 have Z:(k,(t.pg (aI t k h t.root)).kids.getD (aL (t.pg (aI t k h t.root)) k) 0)∈eU (t.pg (aI t k h t.root)):=(Aq hlen).2 ⟨_,ha,by rw[hk,getD_eq_getElem?_getD,getElem?_eq_getElem w4];rfl⟩;have ah5:aI t k h t.root∉pre:=fun hm=>absurd (h1 _ hm _ Z) (jX k);have afN:aI t k h t.root∉post:=fun hm=>absurd (h2 _ hm _ Z) (jX k);have ed:eU ((gp t h k).pg (aI t k h t.root))=(eU (t.pg (aI t k h t.root))).eraseIdx (aL (t.pg (aI t k h t.root)) k):=by
  unfold gp;rw[AA hl];exact Ov
 have fe:∀{A:List Int},(∀y∈A,eU ((gp t h k).pg y)=eU (t.pg y)∨y=aI t k h t.root)→aI t k h t.root∉A→A.flatMap (fun l=>eU ((gp t h k).pg l))=A.flatMap (fun l=>eU (t.pg l)):=fun {A} hA hn=>qw fun y hy=>(hA y hy).resolve_right fun e'=>hn (e' ▸ hy);have O:∀x:K×Int,x∈(eU (t.pg (aI t k h t.root))).eraseIdx (aL (t.pg (aI t k h t.root)) k)↔x∈eU (t.pg (aI t k h t.root))∧x.1≠k:=fun x=>by
  rw[mem_eraseIdx_iff_getElem];constructor
  ·rintro⟨a,WH,hne,rfl⟩;refine⟨getElem_mem _,fun hc=>hne ?_⟩;have U:a<(t.pg (aI t k h t.root)).keys.length:=(by unfold eU at WH;rw[length_zip] at WH;omega)
   rw[Ec hlen U] at hc;have hc:(t.pg (aI t k h t.root)).keys[a]=k:=hc;rcases Nat.lt_trichotomy a (aL (t.pg (aI t k h t.root)) k) with h5|h5|h5
   ·have:=mH po.jG h5 ha;rw[hc,hk] at this;exact absurd this (jX k)
   ·exact h5
   have:=mH po.jG h5 U;rw[hc,hk] at this;exact absurd this (jX k)
  rintro⟨hx,hne⟩;obtain⟨a,U,rfl⟩:=(Aq hlen).1 hx;refine⟨a,by unfold eU;rw[length_zip];omega,fun e'=>hne ?_,Ec hlen U⟩;subst e';exact hk
 show x∈dZ (gp t h k) h t.root↔x∈dZ t h t.root∧_;rw[vI,vI];have ah6:cy (gp t h k) h t.root=cy t h t.root:=s3 h (Nat.le_refl _);rw[ah6,e,flatMap_append,flatMap_cons,flatMap_append,flatMap_cons,fe eO ah5,fe qU afN,ed];simp only[mem_append,O];constructor
 ·rintro(hx|hx|hx)
  ·refine⟨.inl hx,fun hc=>?_⟩;obtain⟨l,lH,hx⟩:=mem_flatMap.1 hx;have:=h1 l lH x hx;rw[hc] at this;exact jX k this
  ·exact⟨.inr (.inl hx.1),hx.2⟩
  refine⟨.inr (.inr hx),fun hc=>?_⟩;obtain⟨l,lH,hx⟩:=mem_flatMap.1 hx;have:=h2 l lH x hx;rw[hc] at this;exact jX k this
 rintro⟨hx|hx|hx,hne⟩
 ·exact .inl hx
 ·exact .inr (.inl ⟨hx,hne⟩)
 exact .inr (.inr hx)

end Go.Proofs.YtbcmjoaggammcaaGreatDoor.Tr
namespace Go.Proofs.YtbcmjoaggammcaaGreatDoor.Tr
open List
open Go.Proofs.Tryz
open Go.Lib (compareBytes)
def rR(lv:List (List Int))(n:Nat):List (List Int):=lv++replicate (n-lv.length) []
def ke(lv:List (List Int))(level:Nat)(i:Int):List (List Int):=(rR lv (level+1)).set level ((rR lv (level+1)).getD level []++[i])
abbrev jl:=List Int×List (List Int)
def lj(go:Int→K→K→jl→Option (Nat×jl))(low:K)(p:cQ):List Int→Nat→Option Nat→jl→Option (Nat×jl)
 | [],_,deep,s=>deep.map fun d=>(d,s)
 | c::cs,k,deep,s=>match go c (gQ low p k) (gC p k) s with
  | none=>none
  | some (d,s')=>if deep=none∨deep=some d then lj go low p cs (k+1) (some d) s' else none
def jb(t:aE):Nat→Int→K→K→Nat→jl→Option (Nat×jl)
 | 0,_,_,_,_,_=>none
 | f+1,i,low,high,level,s =>
  if i∈s.1 then none
  else if (t.pg i).high≠high∨(∃k,(t.pg i).keys.head?=some k∧bP k low) then none
  else if (t.pg i).leaf=true then some (level,(s.1++[i],ke s.2 level i))
  else lj (fun c lo hi s=>jb t f c lo hi (level+1) s) low (t.pg i) (t.pg i).kids 0 none (s.1++[i],ke s.2 level i)
def ur(t:aE):Prop:=∀p∈t.af,ew p t.af.length
open Classical in
noncomputable def gh(t:aE):Int :=
 if t.af.length<1∨t.af.length>4000∨t.root<0∨t.root≥t.af.length then 11
 else if ¬ur t then 11
 else match jb t (t.af.length+1) t.root [] [] 0 ([],[]) with
  | none=>11
  | some (_,s)=>if s.1.length≠t.af.length then 11 else if ∀l∈s.2,eV t l (-1) then 0 else 11
theorem P3(lv:List (List Int))(n:Nat):(rR lv n).length=max lv.length n:=by unfold rR;rw[length_append,length_replicate];omega
theorem IM(lv:List (List Int))(n m:Nat):(rR lv n).getD m []=lv.getD m []:=by
 unfold rR;rw[getD_eq_getElem?_getD,getD_eq_getElem?_getD];rcases Nat.lt_or_ge m lv.length with h|h
 ·rw[getElem?_append_left h]
 rw[getElem?_append_right h,getElem?_eq_none h,getElem?_replicate];split<;>rfl
theorem HX(lv:List (List Int))(level:Nat)(i:Int):(ke lv level i).length=max lv.length (level+1):=by unfold ke;rw[length_set,P3]
theorem Ey(lv:List (List Int))(level:Nat)(i:Int)(m:Nat):(ke lv level i).getD m []=lv.getD m []++(if m=level then [i] else []):=by
 unfold ke;rw[getD_eq_getElem?_getD];by_cases e:m=level
 ·subst e;rw[getElem?_set_self (by rw[P3];omega),IM,if_pos rfl];rfl
 rw[getElem?_set_ne (fun h=>e h.symm),if_neg e,append_nil,←getD_eq_getElem?_getD,IM]
def v7(t:aE)(h level:Nat)(i:Int)(m:Nat):List Int:=if level≤m∧m≤level+h then cy t (m-level) i else []
variable {t:aE}
theorem P4 {h level:Nat} {low:K} {p:cQ} (go:Int→K→K→jl→Option (Nat×jl))
  (O:∀(c:Int) (lo hi:K) (s:jl),dR t h c lo hi→(∀x∈ids t h c,x∉s.1)→(ids t h c).Nodup→∃lv,go c lo hi s=some (level+1+h,(s.1++ids t h c,lv))∧lv.length=max s.2.length (level+1+h+1)∧∀m,lv.getD m []=s.2.getD m []++v7 t h (level+1) c m) :
  ∀(cs:List Int) (k:Nat) (deep:Option Nat) (s:jl),(∀j (hj:j<cs.length),dR t h cs[j] (gQ low p (k+j)) (gC p (k+j)))→(cs.flatMap (ids t h)).Nodup→(∀x∈cs.flatMap (ids t h),x∉s.1)→(deep=none∨deep=some (level+1+h))→(cs≠[]∨deep≠none) →
   ∃lv,lj go low p cs k deep s=some (level+1+h,(s.1++cs.flatMap (ids t h),lv))∧lv.length=(if cs=[] then s.2.length else max s.2.length (level+1+h+1))∧∀m,lv.getD m []=s.2.getD m []++(if level+1≤m∧m≤level+1+h then cs.flatMap (cy t (m-(level+1))) else [])
 | [],k,deep,s,_,_,_,hd,hne=>by
  rcases hd with rfl|rfl
  ·rcases hne with h|h<;>exact absurd rfl h
  exact⟨s.2,by simp[lj],by simp,fun m=>by split<;>simp⟩
 | c::cs,k,deep,s,aR,hnd,E,hd,_=>by
  rw[flatMap_cons] at hnd E;rw[nodup_append] at hnd;obtain⟨n1,n2,n3⟩:=hnd;obtain⟨I,e1,l1,m1⟩:=O c (gQ low p k) (gC p k) s (aR 0 bw) (fun x hx=>E x (mem_append_left _ hx)) n1;obtain⟨U,e2,l2,m2⟩:=P4 go O cs (k+1) (some (level+1+h)) (s.1++ids t h c,I) (fun j hj=>by
   have:=aR (j+1) (by simpa using hj);simp only[getElem_cons_succ] at this;rw[show k+1+j=k+(j+1) by omega];exact this) n2 (fun x hx hm=>by
    rcases mem_append.1 hm with hm|hm
    ·exact E x (mem_append_right _ hx) hm
    exact n3 x hm x hx rfl) (.inr rfl) (.inr bw)
  refine⟨U,?_,?_,fun m=>?_⟩
  ·rw[lj,e1];show(if deep=none∨deep=some (level+1+h) then _ else _)=_;rw[if_pos hd,e2,flatMap_cons,append_assoc]
  ·rw[l2];show(if cs=[] then I.length else max I.length _)=_;rw[l1,if_neg (cons_ne_nil c cs)];split<;>omega
  rw[m2,m1];unfold v7;split
  ·rw[flatMap_cons,append_assoc]
  simp
theorem SH(hp:∀p∈t.af,ew p t.af.length):∀{h f:Nat} {i:Int} {low high:K} {level:Nat} {s:jl},h<f→dR t h i low high→(∀x∈ids t h i,x∉s.1)→(ids t h i).Nodup →
  ∃lv,jb t f i low high level s=some (level+h,(s.1++ids t h i,lv))∧lv.length=max s.2.length (level+h+1)∧∀m,lv.getD m []=s.2.getD m []++v7 t h level i m
 | h,0,_,_,_,_,_,hf,_,_,_=>by omega
 | 0,f+1,i,low,high,level,s,hf,ok,E,hnd=>by
  obtain⟨q1,q2,O,U⟩:=ok;refine⟨ke s.2 level i,?_,HX _ _ _,fun m=>?_⟩
  ·rw[jb,if_neg (E i (sE 0 i)),if_neg,if_pos q2];rfl;rintro(h|⟨k,hk,aa⟩)
   ·exact h O
   exact U k (mem_of_mem_head? hk) aa
  rw[Ey];unfold v7;congr 1;by_cases e:m=level
  ·subst e;rw[if_pos rfl,if_pos ⟨Nat.le_refl _,Nat.le_refl _⟩,Nat.sub_self];rfl
  rw[if_neg e,if_neg w4]
 | h+1,f+1,i,low,high,level,s,hf,ok,E,hnd=>by
  obtain⟨q1,q2,O,U,Z⟩:=ok;have po:=hp _ (jn q1);have I:(t.pg i).kids≠[]:=fun e=>by have:=(po.node q2).1;rw[e] at this;simp at this
  rw[ids,nodup_cons] at hnd;rw[ids] at E;obtain⟨lv,e,l,mm⟩:=P4 (t:=t) (h:=h) (level:=level) (low:=low) (p:=t.pg i) (fun c lo hi s=>jb t f c lo hi (level+1) s)
   (fun c lo hi s ok hd hn=>SH hp (h:=h) (f:=f) (level:=level+1) w4 ok hd hn) (t.pg i).kids 0 none (s.1++[i],ke s.2 level i) (fun j hj=>by rw[Nat.zero_add];exact Z j hj) hnd.2 (fun x hx hm=>by
    rcases mem_append.1 hm with hm|hm
    ·exact E x (mem_cons_of_mem _ hx) hm
    rw[mem_singleton] at hm;subst hm;exact hnd.1 hx) (.inl rfl) (.inl I)
  refine⟨lv,?_,?_,fun m=>?_⟩
  ·rw[jb,if_neg (E i mem_cons_self),if_neg,if_neg (by rw[q2];decide),e,ids]
   ·simp;omega
   rintro(h|⟨k,hk,aa⟩)
   ·exact h O
   exact U k (mem_of_mem_head? hk) aa
  ·rw[l,if_neg I];show max (ke s.2 level i).length _=_;rw[HX];omega
  rw[mm];show(ke s.2 level i).getD m []++_=_;rw[Ey];unfold v7;rw[append_assoc];congr 1;by_cases e1:m=level
  ·subst e1;rw[if_pos rfl,if_neg w4,if_pos ⟨Nat.le_refl _,by omega⟩,Nat.sub_self];rfl
  rw[if_neg e1,nil_append];by_cases e2:level+1≤m∧m≤level+1+h
  ·rw[if_pos e2,if_pos w4];obtain⟨d,rfl⟩:∃d,m=level+1+d:=⟨m-(level+1),by omega⟩
   rw[show level+1+d-(level+1)=d by omega,show level+1+d-level=d+1 by omega,cy]
  rw[if_neg e2,if_neg w4]
open Classical in
theorem HY{h:Nat}(v:Valid t h):gh t=0:=by
 have hr:=v.range;have E:=v.pos;have hm:=v.mQ;unfold gh;rw[if_neg w4,if_neg (by exact fun hn=>hn v.page)];obtain⟨lv,e,l,I⟩:=SH v.page (f:=t.af.length+1) (level:=0) (s:=([],[])) (by have:=v.high;omega) v.ok (fun x _ hx=>by cases hx) v.za;rw[e];show(if ([]++ids t h t.root).length≠t.af.length then _ else if ∀l∈lv,eV t l (-1) then (0:Int) else 11)=0;rw[if_neg (by rw[nil_append,v.all];simp),if_pos];intro x hx;obtain⟨m,sB,rfl⟩:=mem_iff_getElem.1 hx;have:=I m;rw[getD_eq_getElem?_getD,getElem?_eq_getElem sB] at this;have e2:lv[m]=v7 t h 0 t.root m:=(by simpa using this)
 rw[e2];unfold v7;rw[l] at sB;rw[if_pos (by simp at sB;omega),Nat.sub_zero];exact v.oK m (by simp at sB;omega)

end Go.Proofs.YtbcmjoaggammcaaGreatDoor.Tr
namespace Go.Proofs.YtbcmjoaggammcaaGreatDoor.Tw
open List
open Go.Proofs.Tryz
open Go.RowKit V Tr Pk
open Go.Lib (compareBytes)
variable {l hi k:K} {p:cQ} {n many:Int} {i:Nat} {t:aE}
def cK(k:K):List D:=[.list 1 (k.flatMap cB) k.length]
theorem fW(k:K):(cK k).length=1:=rfl
theorem oW(k:K):(cK k).all V.one=true:=rfl
def cI(n:Int):List D:=[.v (.int .i64 n)]
theorem ev(n:Int):(cI n).length=1:=rfl
theorem nf(n:Int):(cI n).all V.one=true:=rfl
def cP(p:cQ):List D:=[.v (.bool p.leaf),.list 1 (p.keys.flatMap cK) p.keys.length,.list 1 (p.kids.flatMap cI) p.kids.length,.list 1 (p.high.flatMap cB) p.high.length,.v (.int .i64 p.next)]
theorem EO(p:cQ):(cP p).length=5:=rfl
theorem aew(p:cQ):(cP p).all V.one=true:=rfl
def cT(t:aE):List D:=[.list 5 (t.af.flatMap cP) t.af.length,.v (.int .i64 t.root)]
def nP(k:K):Bool:=decide (0<k.length∧k.length≤100)
def uE(p:cQ)(i:Nat):Prop:=∀(h:i<p.keys.length),nP p.keys[i]=true∧(∀(h0:0<i),bP (p.keys[i-1]'w4) p.keys[i])∧(p.high≠[]→bP p.keys[i] p.high)
theorem aa6{l:List K}(h:∀i (hi:i<l.length) (h0:0<i),bP (l[i-1]'w4) l[i]):l.Pairwise bP:=by
 refine pairwise_iff_getElem.2 fun i j hi hj E=>?_;obtain⟨d,rfl⟩:∃d,j=i+1+d:=⟨j-(i+1),by omega⟩
 induction d with
 | zero=>have:=h (i+1) hj w4;simpa using this
 | succ d ih =>
  have h1:=ih w4 w4;have h2:=h (i+1+(d+1)) hj w4;exact l9 h1 (by simpa using h2)
theorem Qy(h:ew p n)(i:Nat):uE p i:=fun hi=>by
 have hm:=getElem_mem hi;have:=h.kP _ hm;exact⟨by unfold nP;simp;omega,fun h0=>mH h.jG w4 hi,fun hne=>h.pX hne _ hm⟩
theorem I4(h:decide ((l.length:Int)>0)=true):l≠[]:=fun e=>by rw[e] at h;cases h
theorem len_nil(h:decide ((l.length:Int)>0)=false):l=[]:=by
 have:=of_decide_eq_false h;exact length_eq_zero_iff.1 w4
theorem Tq(h:decide ((hi.length:Int)>0)=true):decide (compareBytes k hi≥0)=decide (hi≠[]∧¬bP k hi):=by
 have:=I4 h;unfold bP;simp[this]
theorem Ts(h:decide ((hi.length:Int)>0)=false):false=decide (hi≠[]∧¬bP k hi):=by simp[len_nil h]
variable {G:List (Nat×List Value)}
theorem vM(a b:K):VP Tryz.prog G 35 [.list 1 (a.flatMap cB) a.length,.list 1 (b.flatMap cB) b.length] (.v (.int .i64 (compareBytes a b))):=by
 exact T4
theorem Tu(a b:K)(ha:a.length≤maxLen)(hb:b.length≤maxLen):VP Tryz.prog G 57 [.list 1 (a.flatMap cB) a.length,.list 1 (b.flatMap cB) b.length] (.v (.bool (decide (a=b)))):=by
 refine VC.body func57 rfl ntmps57 aO fun X0 w0 aX=>?_;refine ae [0,1] ?_;refine cM [4] ?_;refine aP 1 ?_ (h:=by exact Cp);refine aP 1 ?_ (h:=by exact Cp);refine bM ?_;refine aJ [] ?_;refine⟨vb ?_,rfl⟩;rw[ByteArray.toList_eq,ByteArray.toList_eq];show(a==b)=decide (a=b);by_cases h:a=b<;>simp[h]
theorem yw(k:K):VP Tryz.prog G 54 [.list 1 (k.flatMap cB) k.length] (.v (.bool (nP k))):=by
 refine VC.body func54 rfl ntmps54 aO fun X0 w0 aX=>?_;refine ae [0] ?_;refine aC 4 ?_;refine bS 6 (fun I E=>?_) (fun I E=>?_)
 ·refine aZ [2] ?_;refine eA ?_;refine⟨vb ?_,rfl⟩;unfold nP;first|(simp_all;done)|(simp_all;omega)
 refine aZ [2] ?_;refine eA ?_;refine⟨vb ?_,rfl⟩;unfold nP;first|(simp_all;done)|(simp_all;omega)
theorem Zw(p:cQ)(k:K):VP Tryz.prog G 100 [.agg (cP p),.list 1 (k.flatMap cB) k.length] (.v (.bool (decide (p.high≠[]∧¬bP k p.high)))):=by
 refine VC.body func100 rfl ntmps100 aO fun X0 w0 aX=>?_;unfold cP;refine bX ?_;refine OD.box (ds:=[_,_,_,_,_]) an rfl rfl ot rfl rfl (fun b2=>?_);refine aj 16 [1,2] ?_;refine aC 5 ?_;refine bS 9 (fun E I=>?_) (fun E I=>?_)
 ·refine aD 3 ?_;refine OD.gI gN rfl rfl rfl call35 (vM k p.high) ⟨ot,ot,trivial⟩ ?_;refine aj 16 [4] ?_;refine aJ [] ?_;refine⟨vb ?_,rfl⟩;first|exact Tq E|exact Ts E
 refine aZ [4] ?_;refine eA ?_;refine⟨vb ?_,rfl⟩;first|exact Tq E|exact Ts E
theorem Tv{a:Int}(h:(decide (a<0)!=((l.length:Int)==0))=false):a<0↔l=[]:=by
 have h:decide (a<0)=((l.length:Int)==0):=(by simpa using h)
 rw[←length_eq_zero_iff];constructor
 ·intro q;rw[decide_eq_true q] at h;have:=beq_iff_eq.1 h.symm;omega
 intro q;rw[q] at h;exact of_decide_eq_true h
theorem ae7{a:Int}(h:a<0↔l=[]):(!(decide (a<0)==((l.length:Int)==0)))=false:=by
 rw[←length_eq_zero_iff] at h;by_cases q:a<0
 ·rw[decide_eq_true q,h.1 q];rfl
 rw[decide_eq_false q];have:¬l.length=0:=fun e=>q (h.2 e);simp;exact fun e=>this (by rw[e];rfl)
open Classical in
noncomputable def Bb(p:cQ)(many:Int):Bool:=decide (ew p many)
open Classical in
theorem DZ(h:¬ew p many):false=Bb p many:=(decide_eq_false h).symm
open Classical in
theorem Zx(h:ew p many):true=Bb p many:=(decide_eq_true h).symm
theorem abX(h:ew p n)(hi:i<p.kids.length):0≤p.kids[i]∧(p.leaf=false→p.kids[i]<n):=⟨h.aB _ (getElem_mem hi),fun hl=>h.uT hl _ (getElem_mem hi)⟩
theorem aa7(f1:p.keys.length≤4)(f2:p.high.length≤100)(f3:-1≤p.next)(f4:p.next<many)(I:(p.next<0↔p.high=[]))(O:(p.leaf=true→p.kids.length=p.keys.length))(E:(p.leaf=false→p.kids.length=p.keys.length+1∧p.keys.length≠0))(hk:∀j,j<p.keys.length→uE p j)(hc:∀j (hj:j<p.kids.length),0≤p.kids[j]∧(p.leaf=false→p.kids[j]<many)):ew p many:=by
 refine⟨f1,f2,f3,f4,I,O,fun h=>⟨(E h).1,fun e=>(E h).2 (by rw[e];rfl)⟩,fun k h=>?_,fun hne k h=>?_,aa6 fun i hi h0=>(hk i hi hi).2.1 h0,fun n h=>?_,fun hl n h=>?_⟩
 ·obtain⟨i,hi,rfl⟩:=mem_iff_getElem.1 h;have:=(hk i hi hi).1;unfold nP at this;have:=of_decide_eq_true this;omega
 ·obtain⟨i,hi,rfl⟩:=mem_iff_getElem.1 h;exact(hk i hi hi).2.2 hne
 ·obtain⟨i,hi,rfl⟩:=mem_iff_getElem.1 h;exact(hc i hi).1
 obtain⟨i,hi,rfl⟩:=mem_iff_getElem.1 h;exact(hc i hi).2 hl
theorem acN(p:cQ)(many:Int)(dU:p.keys.length≤maxLen)(fi:p.kids.length≤maxLen):VP Tryz.prog G 36 [.agg (cP p),.v (.int .i64 many)] (.v (.bool (Bb p many))):=by
 refine VC.body func36 rfl ntmps36 aO fun X0 w0 aX=>?_;unfold cP;have dr:maxLen=9223372036854775807:=rfl;refine bX ?_;refine OD.box (ds:=[_,_,_,_,_]) an rfl rfl ot rfl rfl (fun b2=>?_);refine aj 132 [1,2] ?_;refine aC 5 ?_;refine bS 13 (fun ah7 Z=>?_) (fun ah7 Z=>?_)
 ·exact z124
 refine aD 6 ?_;refine bS 19 (fun Kw afO=>?_) (fun Kw afO=>?_)
 ·exact z124
 refine aD 5 ?_;refine bS 24 (fun ah8 afP=>?_) (fun ah8 afP=>?_)
 ·exact z124
 refine aD 6 ?_;refine bS 30 (fun ah9 afQ=>?_) (fun ah9 afQ=>?_)
 ·exact z124
 refine aD 7 ?_;refine OD.still gN rfl (cW rfl ot ot (Pb underlying4)) ?_;refine aj 132 [1,2,39] ?_;refine aq (fun az aG=>?_) (fun az aG=>?_)
 ·refine ae [4] ?_;refine aJ [] ?_;exact FZ
 refine CD.skip ?_;refine jz [1,2] (fun aV I aK=>(p.keys.length≤4)∧(p.high.length≤100)∧(-1≤p.next)∧(p.next<many)∧((p.next<0↔p.high=[]))∧((p.leaf=true→p.kids.length=p.keys.length))∧((p.leaf=false→p.kids.length=p.keys.length+1∧p.keys.length≠0))∧aK=(⟨132,aV,I⟩:St)) ?_ ?_
 ·refine aC 3 ?_;refine bS 42 (fun qH afR=>?_) (fun qH afR=>?_)
  ·refine aD 9 ?_;refine bS 51 (fun aia afS=>?_) (fun aia afS=>?_)
   ·exact T8
   refine aD 4 ?_;refine bS 55 (fun s7 E=>?_) (fun s7 E=>?_)
   ·exact absurd s7 (by rw[qH];decide)
   refine aZ [1,2,71] ?_;refine fF ?_;refine CD.skip ?_;refine⟨_,aM,w4,w4,w4,w4,(Tv az),(fun _=>by omega),(fun h=>absurd qH (by rw[h];decide)),rfl⟩
  refine xj 7 ?_;refine aD 6 ?_;refine bS 55 (fun s7 E=>?_) (fun s7 E=>?_)
  ·refine aD 9 ?_;refine bS 64 (fun KE JL=>?_) (fun KE JL=>?_)
   ·exact T8
   refine aZ [1,2,71] ?_;refine aq (fun aH aU=>?_) (fun aH aU=>?_)
   ·refine ae [4] ?_;refine eA ?_;exact FZ
   refine CD.skip ?_;refine⟨_,aM,w4,w4,w4,w4,(Tv az),(fun h=>absurd qH (by rw[h];decide)),(fun _=>⟨by omega,by omega⟩),rfl⟩
  exact absurd s7 (by rw[qH];decide)
 rintro _ ⟨f1,f2,f3,f4,f5,f6,f7,rfl⟩;refine ae [1,2,73,74,75] ?_;refine eI [1,2,73,74] (fun aV I (i:Nat) aK=>(i≤p.keys.length)∧(∀j,j<i→uE p j)∧aK=(⟨132,(75,.v (.int .i64 (i:Nat)))::aV,I⟩:St)) (fun (i:Nat)=>p.keys.length-i) 0 ⟨(Nat.zero_le _),(fun j h=>by omega),rfl⟩ ?_;rintro i _ ⟨hi,wU,rfl⟩;refine ae [1,2,73,74,75,76] ?_;refine aq (fun aY bz=>?_) (fun aY bz=>?_)
 ·have aa:i<p.keys.length:=(by omega)
  refine ae [1,2,5,6,73,74,75] ?_;refine aC 1 ?_;refine dJ call54 (yw p.keys[i]) ?_;refine aD 2 ?_;refine bS 83 (fun wo afT=>?_) (fun wo afT=>?_)
  ·refine aj 132 [1,2,73,74,75,110] ?_;refine ez ?_;exact Vf
  refine aD 3 ?_;refine bS 86 (fun aib afU=>?_) (fun aib afU=>?_)
  ·refine aD 4 ?_;refine bJ (dy 1 (h:=by first|exact .l (j:=i-1) w4 w4|exact .r (j:=i-1) w4 w4)) ?_;refine aD 2 ?_;refine OD.gI gN rfl rfl rfl call35 (vM (p.keys[i-1]'w4) p.keys[i]) ⟨ot,ot,trivial⟩ ?_;refine aD 4 ?_;refine bS 98 (fun yQ E6=>?_) (fun yQ E6=>?_)
   ·refine aj 132 [1,2,73,74,75,110] ?_;refine ez ?_;exact Vf
   refine aD 5 ?_;exact U7
  refine xj 9 ?_;refine aD 8 ?_;exact U7
 have afV:∀j,j<p.keys.length→uE p j:=fun j hj=>wU j w4;refine ae [1,2,113,114,115] ?_;refine eI [1,2,113,114] (fun aV I (i:Nat) aK=>(i≤p.kids.length)∧(∀j (_:j<i) (hj:j<p.kids.length),0≤p.kids[j]∧(p.leaf=false→p.kids[j]<many))∧aK=(⟨132,(115,.v (.int .i64 (i:Nat)))::aV,I⟩:St)) (fun (i:Nat)=>p.kids.length-i) 0 ⟨(Nat.zero_le _),(fun j h=>by omega),rfl⟩ ?_;rintro i _ ⟨jS,jN,rfl⟩;refine ae [1,2,113,114,115,116] ?_;refine aq (fun cx c8=>?_) (fun cx c8=>?_)
 ·have aa:i<p.kids.length:=(by omega)
  refine ae [1,2,8,113,114,115] ?_;refine aC 3 ?_;refine bS 121 (fun Jy O=>?_) (fun Jy O=>?_)
  ·refine aZ [1,2,113,114,115,130] ?_;refine ez ?_;exact Vu
  refine aD 4 ?_;refine bS 125 (fun ET U=>?_) (fun ET U=>?_)
  ·refine aZ [1,2,113,114,115,130] ?_;refine aq (fun dP er=>?_) (fun dP er=>?_)
   ·exact Vu
   exact Vq
  refine aZ [1,2,113,114,115,130] ?_;refine fF ?_;exact Vq
 refine ae [4] ?_;refine aJ [] ?_;refine⟨vb (Zx (aa7 f1 f2 f3 f4 f5 f6 f7 afV fun j hj=>jN j w4 hj)),rfl⟩

def mJ(keys:List K)(k:K):Bool:=decide (keys[gg keys k]?=some k)
theorem aa8{keys:List K}(hi:i≤keys.length)(h1:∀m (hm:m<keys.length),m<i→bP keys[m] k)(h2:∀m (hm:m<keys.length),i≤m→¬bP keys[m] k):gg keys k=i:=by
 have E:=x4 keys k;rcases Nat.lt_trichotomy (gg keys k) i with h|h|h
 ·have aa:gg keys k<keys.length:=(by omega)
  exact absurd (h1 _ aa h) (Ap aa)
 ·exact h
 obtain⟨h',q⟩:=Ax h;exact absurd q (h2 _ h' (Nat.le_refl _))
theorem Zy{keys:List K}(hr:keys.Pairwise bP)(k:K):mh keys k=if mJ keys k=true then gg keys k+1 else gg keys k:=by
 have E:=x4 keys k;split
 ·rename_i hf;unfold mJ at hf;have hf:=of_decide_eq_true hf;obtain⟨aa,he⟩:=List.getElem?_eq_some_iff.1 hf;refine IK hr w4 (fun _=>?_) (fun h=>?_)
  ·show ¬bP k (keys[gg keys k+1-1]'w4);simp only[Nat.add_sub_cancel,he];exact jX k
  have:=mH hr (Nat.lt_succ_self (gg keys k)) h;rw[he] at this;exact this
 rename_i hf;refine IK hr E (fun h0=>?_) (fun h=>?_)
 ·exact yq (Ax (by omega:gg keys k-1<gg keys k)).2
 have h1:=Ap h;rcases yt keys[gg keys k] k with h2|h2|h2
 ·exact absurd h2 h1
 ·exfalso;apply hf;unfold mJ;rw[getElem?_eq_getElem h,h2];simp
 exact h2
theorem Bc{a:Nat}:((a:Nat):Int).fdiv (2 ^ min (1:Int).toNat IntKind.u64.bits)=((a/2:Nat):Int):=by
 rw[show min (1:Int).toNat IntKind.u64.bits=1 from rfl,Int.fdiv_eq_ediv_of_nonneg _ w7];rfl
theorem SI{keys:List K}(hd:gg keys k=i)(hi:i<keys.length):(D.dz [.v (.int .i64 (i:Nat)),.v (.bool (compareBytes keys[i] k==0))]) = .dz [.v (.int .i64 (gg keys k:Nat)),.v (.bool (mJ keys k))]∧([]:List ag)=[]:=by
 subst hd;refine⟨?_,rfl⟩;have:(compareBytes keys[gg keys k] k==0)=mJ keys k:=by
  unfold mJ;rw[getElem?_eq_getElem hi];by_cases h:keys[gg keys k]=k
  ·have:=JM.2 h;rw[this];simp[h]
  have:¬compareBytes keys[gg keys k] k=0:=fun e=>h (JM.1 e);simp[h,this]
 rw[this]
theorem Rn{keys:List K}(hd:gg keys k=i)(hi:keys.length≤i):(D.dz [.v (.int .i64 (i:Nat)),.v (.bool false)]) = .dz [.v (.int .i64 (gg keys k:Nat)),.v (.bool (mJ keys k))]∧([]:List ag)=[]:=by
 subst hd;refine⟨?_,rfl⟩;have:mJ keys k=false:=(by unfold mJ;rw[getElem?_eq_none hi];rfl)
 rw[this]
theorem Zz(keys:List K)(k:K)(hr:keys.Pairwise bP)(hl:keys.length≤1000):VP Tryz.prog G 101 [.list 1 (keys.flatMap cK) keys.length,.list 1 (k.flatMap cB) k.length,.eo (.func 35) []] (.dz [.v (.int .i64 (gg keys k:Nat)),.v (.bool (mJ keys k))]):=by
 refine VC.body func101 rfl ntmps101 aO fun X0 w0 aX=>?_;have dr:maxLen=9223372036854775807:=rfl;refine ae [0,1,2] ?_;refine ae [0,1,2,8] ?_;refine ae [0,1,2,8,9,10] ?_;refine eI [0,1,2,8] (fun aV _ (I:Nat×Nat) aK=>match I with|(i,j)=>(i≤j)∧(j≤keys.length)∧(∀m (hm:m<keys.length),m<i→bP keys[m] k)∧(∀m (hm:m<keys.length),j≤m→¬bP keys[m] k)∧aK=(⟨49,(9,.v (.int .i64 (i:Nat)))::(10,.v (.int .i64 (j:Nat)))::aV,[]⟩:St)) (fun (I:Nat×Nat)=>match I with|(i,j)=>j-i) (0,keys.length) ⟨(Nat.zero_le _),(Nat.le_refl _),(fun m hm h=>by omega),(fun m hm h=>by omega),rfl⟩ ?_;rintro⟨i,j⟩ _ ⟨WI,hjn,h1,h2,rfl⟩;refine ae [0,1,2,8,9,10,17] ?_;refine aq (fun az aG=>?_) (fun az aG=>?_)
 ·have aa:i<j:=(by omega)
  have E:((i+j)/2)<keys.length:=(by omega)
  refine cM [0,1,2,8,9,10,11] ?_;refine aP 2 ?_ (h:=by exact(cW rfl ot ot (jW (r:=((i+j:Nat):Int)) zz)));refine aP 0 ?_ (h:=by exact(nX rfl ot (nY (r:=((i+j:Nat):Int)) runUnderlying3 runUnderlying211 (IntWalk.u64_in _ w4))));refine aP 0 ?_ (h:=by exact(cW rfl ot bC (yg w7 Bc)));refine aP 0 ?_ (h:=by exact(nX rfl ot (nY (r:=((((i+j)/2):Nat):Int)) runUnderlying211 runUnderlying3 (wrap_i64 w4 w4))));refine bM ?_;refine aC 6 ?_;refine OD.jY (f:=35) (args:=[_,_]) (all:=[_,_]) (Sf:=[]) an rfl rfl ot call35 (vM (keys[((i+j)/2)]'E) k) rfl ⟨ot,ot,trivial⟩ (eH _) ?_;rintro _ _ ⟨rfl,rfl⟩;refine aj 49 [0,1,2,8,9,10,11,31] ?_;refine aq (fun aH aU=>?_) (fun aH aU=>?_)
  ·have hc:bP (keys[((i+j)/2)]'E) k:=of_decide_eq_true aH;have Z:∀m (hm:m<keys.length),m<((i+j)/2)+1→bP keys[m] k:=fun m hm h=>by (rcases Nat.lt_or_ge m ((i+j)/2) with q|q);exact l9 (mH hr q E) hc;(have:m=((i+j)/2):=by omega);subst this;exact hc
   refine cj [0,1,2,8,9,10] ?_;refine⟨((((i+j)/2)+1),j),_,cz,aM,w4,w4,(fun m hm h=>by rcases Nat.lt_or_ge m i with q|q;exact h1 m hm q;exact Z m hm w4),h2,rfl⟩
  have hc:¬bP (keys[((i+j)/2)]'E) k:=of_decide_eq_false aH;have O:∀m (hm:m<keys.length),((i+j)/2)≤m→¬bP keys[m] k:=fun m hm h hh=>by (rcases Nat.lt_or_ge ((i+j)/2) m with q|q);exact hc (l9 (mH hr q hm) hh);(have:m=((i+j)/2):=by omega);subst this;exact hc hh
  refine cj [0,1,2,8,9,10] ?_;refine⟨(i,((i+j)/2)),_,cz,aM,w4,w4,h1,O,rfl⟩
 obtain rfl:i=j:=(by omega)
 have hd:=aa8 hjn h1 h2;refine aC 5 ?_;refine bS 39 (fun aic U=>?_) (fun aic U=>?_)
 ·refine aD 6 ?_;refine OD.jY (f:=35) (args:=[_,_]) (all:=[_,_]) (Sf:=[]) gN rfl rfl ot call35 (vM (keys[i]'w4) k) rfl ⟨ot,ot,trivial⟩ (eH _) ?_;rintro _ _ ⟨rfl,rfl⟩;refine aj 49 [6,7] ?_;refine aJ [] ?_;first|exact SI hd w4|exact Rn hd w4
 refine aZ [6,7] ?_;refine LF ?_;first|exact SI hd w4|exact Rn hd w4
theorem HZ(p:cQ)(k:K)(hr:p.keys.Pairwise bP)(hl:p.keys.length≤1000):VP Tryz.prog G 56 [.agg (cP p),.list 1 (k.flatMap cB) k.length] (.v (.int .i64 (aL p k:Nat))):=by
 refine VC.body func56 rfl ntmps56 aO fun X0 w0 aX=>?_;unfold cP;have dr:maxLen=9223372036854775807:=rfl;have I:=x4 p.keys k;have VJ:=Zy hr k;refine bX ?_;refine OD.box (ds:=[_,_,_,_,_]) an rfl rfl ot rfl rfl (fun b2=>?_);refine aj 23 [1,2] ?_;refine cL [2,5,6] (Zz p.keys k hr hl) ?_;refine aC 2 ?_;refine bS 15 (fun Bt E=>?_) (fun Bt E=>?_)
 ·refine aZ [5,19] ?_;refine aq (fun az aG=>?_) (fun az aG=>?_)
  ·refine cj [5] ?_;exact z91
  exact z91
 refine aZ [5,19] ?_;refine fF ?_;refine ae [4] ?_;refine eA ?_;refine⟨vi ?_,rfl⟩;unfold aL;first|(rw[Bt] at VJ;cases fB:p.leaf<;>simp_all;done)|(simp_all;done)|(simp_all;omega)

theorem ZA{d:Nat}{i:Int}{lo:K}(ok:dR t d i lo hi)(h:(t.pg i).leaf=true):d=0:=by
 cases d with
 | zero=>rfl
 | succ d=>obtain⟨_,q2,_⟩:=ok;rw[q2] at h;cases h
theorem ZB{d:Nat}{i:Int}{lo:K}(ok:dR t d i lo hi)(h:(t.pg i).leaf=false):∃d',d=d'+1:=by
 cases d with
 | zero=>obtain⟨_,q2,_⟩:=ok;rw[q2] at h;cases h
 | succ d=>exact⟨d,rfl⟩
theorem ZC:(Tryz.prog.info? 3).map (fun i=>(i.zero,i.size,i.bytes))=some (some (.int .i64 0),1,8):=by kernel_rfl
theorem Ro(t:aE)(h:Nat)(v:Valid t h)(k:K):VC Tryz.prog G 55 [.agg (cT t),.list 1 (k.flatMap cB) k.length] [] (fZ cI 3 1 (iO t k h t.root)):=by
 refine VC.body func55 rfl ntmps55 aO fun X0 w0 aX=>?_;unfold cT;have dr:maxLen=9223372036854775807:=rfl;have hval:=v;have eu:=v.high;have MD:=v.mQ;refine bX ?_;refine OD.box (ds:=[_,_]) an rfl rfl ot rfl rfl (fun b2=>?_);refine aj 45 [1,2] ?_;refine aC 2 ?_;refine ei (bZ 0 [_]) [.int .i64 0] [_] zeroValue3 runUnderlying91 sizeOf3 (fun kD=>?_);refine OD.perm (dY (S1:=[⟨kD,3,1*1,flatMap cI ([t.root])⟩]) (A:=[_])) ?_;refine aj 45 [1,2,5] ?_;refine CD.block ?_
 refine mB (fun (U:Nat×Int×K×K×List Int×Option Addr×Nat×List ag) aK=>match U with|(d,i,lo,hi,pre,Gy,O,Sl)=>(dR t d i lo hi)∧(kX lo hi k)∧(pre++iO t k d i=iO t k h t.root)∧(pre.length+d≤h)∧(bu 3 1 (((pre++[i])).flatMap cI) ((pre++[i])).length Gy O Sl)∧aK=(⟨45,[(1,.list 1 (k.flatMap cB) k.length),(2,.v (.pointer (some ⟨b2,0,none⟩))),(5,.v (.slice Gy ((pre++[i])).length O))],(⟨b2,46,2,[.list 5 (t.af.flatMap cP) t.af.length,.v (.int .i64 t.root)]⟩::Sl)⟩:St)) (fun (U:Nat×Int×K×K×List Int×Option Addr×Nat×List ag)=>match U with|(d,i,lo,hi,pre,Gy,O,Sl)=>d) (h,t.root,[],[],[],(some ⟨kD,0,none⟩),1,[⟨kD,3,1*1,flatMap cI ([t.root])⟩]) ⟨v.ok,(sR k),(nil_append _),bw,(bu.cast (bD (g:=cI) (sz:=1) (e:=3) (ls:=[t.root]) (Nat.le_refl _) (show 1≤maxLen by decide)) lu),rfl⟩ (aM (h:=by repeat (first|exact trivial|refine⟨(by (repeat (first|exact fm|(apply fK;focus (first|rfl|(simp;done)|(congr 2;omega)|(apply eC;rw[Z])|(apply eC;simp;done)))|(apply fu;focus rfl)));done),?_⟩))) ?_;rintro⟨d,i,lo,hi,pre,Gy,O,Sl⟩ _ ⟨ok,kH,Ty,fC,Mr,rfl⟩;obtain⟨bl,rfl,BI,Be,rfl⟩:=Mr.pos bw;have q1:=ok.idx;have aa:i.toNat<t.af.length:=(by omega)
 have E:t.pg i=(t.af[i.toNat]'aa):=uK q1;have po:=v.page _ (jn q1);have Bf:=ok.high;rw[E] at po Bf;refine cM [1,2,5,6] ?_;refine aP 4 ?_ (h:=by exact(dy 1 (h:=by first|exact .l (j:=pre.length) bw bw|exact .r (j:=pre.length) bw bw)));refine aP 0 ?_ (h:=by exact(cH (mk:=Op.load 3) rfl ot (iK (k:=1) (d:=.v (.int .i64 i)) (i:=pre.length) ev rfl rfl rfl isAgg3 bw (by simp[cI]))));refine bM ?_;refine aC 3 ?_;refine bJ (dy 5 (h:=by first|exact .l (j:=i.toNat) (Int.toNat_of_nonneg q1.1).symm aa|exact .r (j:=i.toNat) (Int.toNat_of_nonneg q1.1).symm aa)) ?_;refine aD 1 ?_;refine OD.alloc (ds:=[_,_,_,_,_]) an rfl rfl zeroValue93 rfl (fun b7=>?_);refine aN 0 [_,_,_,_,_] sizeOf93 ?_;refine aj 45 [1,2,5,7] ?_;refine cL [1,2,5,7,24] (Zw (t.af[i.toNat]'aa) k) ?_;refine aq (fun az aG=>?_) (fun az aG=>?_)
 ·exact absurd az (by intro e;have e:=of_decide_eq_true e;rw[Bf] at e;exact e.2 (kH.2 e.1))
 refine ae [1,2,5,7,33] ?_;refine aq (fun aH aU=>?_) (fun aH aU=>?_)
 ·obtain rfl:=ZA ok (by rw[E];exact aH);have aS:pre++[i]=iO t k h t.root:=(by rw[←Ty];rfl)
  refine ae [4] ?_;refine aJ [⟨bl,3,O*1,flatMap cI (pre++[i])⟩] ?_;rw[←aS];exact⟨_,_,rfl,(bD (g:=cI) (ls:=pre++[i]) BI Be)⟩
 obtain⟨dd,rfl⟩:=ZB ok (by rw[E];exact aH);have ok0:=ok;obtain⟨_,fB,hh,ahk,pi⟩:=ok0;obtain⟨d1,d2⟩:=down (p:=t.pg i) (by rw[E];exact po) fB hh kH;have jE:=pi _ d1;rw[←sK d1] at jE;have KF:=d2;have aex:pre++[i]++iO t k dd ((t.pg i).kids.getD (aL (t.pg i) k) 0)=iO t k h t.root:=(by rw[←Ty,append_assoc];rfl)
 have qi:=HZ (G:=G) (t.pg i) k (by rw[E];exact po.jG) (by rw[E];have:=po.eL;omega);have I:aL (t.af[i.toNat]'aa) k<(t.af[i.toNat]'aa).kids.length:=(by rw[←E];exact d1)
 have aid:VP Tryz.prog G 56 [.agg (cP (t.af[i.toNat]'aa)),.list 1 (k.flatMap cB) k.length] (.v (.int .i64 (aL (t.af[i.toNat]'aa) k:Nat))):=(by rw[←E];exact qi)
 have Z:(t.pg i).kids.getD (aL (t.pg i) k) 0=(t.af[i.toNat]'aa).kids[aL (t.af[i.toNat]'aa) k]'I:=(by rw[E];exact sK I)
 refine CD.skip ?_;refine fE 10 (ap (take 2 _)) ?_ (fun _ h=>(Sublist.map _ (take_sublist _ _)).subset h);refine ax 0 rfl bg ?_;refine ax 1 rfl (cX 2) ?_;refine ax 2 rfl (dx 0) ?_;refine ax 3 rfl (Bs 0 [_,_,_,_,_]) ?_;refine ax 4 rfl bg ?_;refine dg.later rfl ?_;refine AD.one (i:=5) ay ?_;refine jt call56 (aid) ?_;refine cr 6 rfl (dy 1 (h:=by first|exact .l (j:=aL (t.af[i.toNat]'aa) k) rfl I|exact .r (j:=aL (t.af[i.toNat]'aa) k) rfl I)) ?_;refine AD.one (i:=7) ay ?_;refine at_ rfl eP ?_;refine AD.one (i:=8) ay ?_;refine je (bZ 0 [_]) [.int .i64 0] [_] zeroValue3 runUnderlying91 sizeOf3 (fun Wx=>?_);refine jf 0 43 1 1 ?_;refine AD.one (i:=9) ay ?_;refine bf.en (ls:=(pre++[i])) (new:=[(t.af[i.toNat]'aa).kids[aL (t.af[i.toNat]'aa) k]'I]) (Sq:=[⟨bl,3,O*1,flatMap cI (pre++[i])⟩]) ev nf rfl an rfl rfl underlying91 ZC rfl w7 ot (bD (g:=cI) (ls:=pre++[i]) BI Be) (dB (A:=[_,_])) ot bw u7 gM (fun ME KG aie aif=>?_);refine AD.perm (dY (S1:=[⟨ME,3,KG*1,flatMap cI ((pre++[i])++[(t.af[i.toNat]'aa).kids[aL (t.af[i.toNat]'aa) k]'I])⟩]) (A:=[_,_])) ?_;refine ey ?_;refine aZ [1,2,5] ?_
 refine⟨(dd,((t.pg i).kids.getD (aL (t.pg i) k) 0),(gQ lo (t.pg i) (aL (t.pg i) k)),(gC (t.pg i) (aL (t.pg i) k)),(pre++[i]),(some ⟨ME,0,none⟩),KG,[⟨ME,3,KG*1,flatMap cI ((pre++[i])++[(t.af[i.toNat]'aa).kids[aL (t.af[i.toNat]'aa) k]'I])⟩]),_,cz,(aM (h:=by repeat (first|exact trivial|refine⟨(by (repeat (first|exact fm|(apply fK;focus (first|rfl|(simp;done)|(congr 2;omega)|(apply eC;rw[Z])|(apply eC;simp;done)))|(apply fu;focus rfl)));done),?_⟩))),jE,KF,aex,gM,(bu.cast (bD aie aif) (by rw[Z])),rfl⟩
theorem acO(t:aE)(h:Nat)(v:Valid t h)(k:K):VP Tryz.prog G 55 [.agg (cT t),.list 1 (k.flatMap cB) k.length] (.list 1 ((iO t k h t.root).flatMap cI) (iO t k h t.root).length):=(Ro t h v k).given ev

def gS(t:aE)(k:K)(h:Nat):Bool:=mJ (t.pg (aI t k h t.root)).keys k
theorem DE{h:Nat}(v:Valid t h)(k:K):gS t k h=true↔AX t k h:=by
 unfold gS mJ AX;have hl:=(v.leaf k).2;have fC:aL (t.pg (aI t k h t.root)) k=gg (t.pg (aI t k h t.root)).keys k:=(by unfold aL;rw[if_pos hl])
 rw[fC,decide_eq_true_iff,List.getElem?_eq_some_iff]
theorem Rp(hl:p.leaf=true)(ha:aL p k<p.keys.length):decide (p.keys[aL p k]=k)=mJ p.keys k:=by
 unfold mJ;have fC:aL p k=gg p.keys k:=(by unfold aL;rw[if_pos hl])
 simp only[fC] at ha ⊢;rw[getElem?_eq_getElem ha];simp
theorem Rq(hl:p.leaf=true)(ha:¬aL p k<p.keys.length):false=mJ p.keys k:=by
 unfold mJ;have fC:aL p k=gg p.keys k:=(by unfold aL;rw[if_pos hl])
 rw[fC] at ha;rw[getElem?_eq_none w4];rfl
theorem acP{h:Nat}{i:Int}:∃(hn:(iO t k h i).length-1<(iO t k h i).length),(iO t k h i)[(iO t k h i).length-1]=aI t k h i:=by
 have h1:=Oq t k h i;rw[getLast?_eq_getElem?] at h1;exact List.getElem?_eq_some_iff.1 h1
theorem P5(hp:ew p n)(k:K):aL p k≤p.keys.length:=by
 unfold aL;split
 ·exact x4 _ _
 exact Ay _ _
theorem Ed(t:aE)(k:K):∀(h:Nat) (i:Int),(iO t k h i).length=h+1
 | 0,i=>rfl
 | h+1,i=>by rw[iO,length_cons,Ed t k h]
theorem qx(t:aE)(h:Nat)(v:Valid t h)(k:K)(dU:k.length≤maxLen)(U:(iO t k h t.root).length≤1000000):VP Tryz.prog G 33 [.agg (cT t),.list 1 (k.flatMap cB) k.length] (.dz [.v (.int .i64 (aI t k h t.root)),.v (.int .i64 (aL (t.pg (aI t k h t.root)) k:Nat)),.v (.bool (gS t k h))]):=by
 refine VC.body func33 rfl ntmps33 aO fun X0 w0 aX=>?_;unfold cT;have dr:maxLen=9223372036854775807:=rfl;have qi:=acO (G:=G) t h v k;unfold cT at qi;obtain⟨fT,Z⟩:=acP (t:=t) (k:=k) (h:=h) (i:=t.root);obtain⟨q1,JO⟩:=v.leaf k;have aa:(aI t k h t.root).toNat<t.af.length:=(by omega)
 have I:t.pg (aI t k h t.root)=(t.af[(aI t k h t.root).toNat]'aa):=uK q1;have po:=v.page _ (jn q1);have MD:=v.mQ;have Uv:(iO t k h t.root).length≤1000000:=U;have aih:=HZ (G:=G) (t.pg (aI t k h t.root)) k po.jG (by have:=po.eL;omega);have aii:VP Tryz.prog G 56 [.agg (cP (t.af[(aI t k h t.root).toNat]'aa)),.list 1 (k.flatMap cB) k.length] (.v (.int .i64 (aL (t.af[(aI t k h t.root).toNat]'aa) k:Nat))):=(by rw[←I];exact aih)
 have aij:∀x∈(t.af[(aI t k h t.root).toNat]'aa).keys,x.length≤maxLen:=fun x hx=>by rw[←I] at hx;have:=(po.kP x hx).2;omega
 have E:(t.af[(aI t k h t.root).toNat]'aa).leaf=true:=(by rw[←I];exact JO)
 have O:gS t k h=mJ (t.af[(aI t k h t.root).toNat]'aa).keys k:=(by unfold gS;rw[I])
 have mR:=po.eL;have aik:=(P5 po k)
 rw[I] at mR aik;refine bX ?_;refine OD.box (ds:=[_,_]) an rfl rfl ot rfl rfl (fun b2=>?_);refine aj 42 [1,2] ?_;refine cL [1,2,7] (qi) ?_;refine cM [1,2,4] ?_;refine aP 4 ?_ (h:=by exact(dy 1 (h:=by first|exact .l (j:=(iO t k h t.root).length-1) w4 fT|exact .r (j:=(iO t k h t.root).length-1) w4 fT)));refine aP 0 ?_ (h:=by exact(cH (mk:=Op.load 3) rfl ot (pQ (d:=.v (.int .i64 (aI t k h t.root))) (i:=(iO t k h t.root).length-1) ev isAgg3 fT (by rw[Z];rfl))));refine bM ?_;refine aC 5 ?_;refine OD.alloc (ds:=[_,_,_,_,_]) an rfl rfl zeroValue93 rfl (fun b8=>?_);refine aN 0 [_,_,_,_,_] sizeOf93 ?_;refine aj 42 [1,4,8] ?_;refine cL [1,4,5,8] (aii) ?_;refine aC 8 ?_;refine bS 33 (fun ail afW=>?_) (fun ail afW=>?_)
 ·refine aD 6 ?_;refine OD.gI gN rfl rfl rfl call57 (Tu ((t.af[(aI t k h t.root).toNat]'aa).keys[aL (t.af[(aI t k h t.root).toNat]'aa) k]'w4) k (aij _ (getElem_mem _)) dU) ⟨ot,ot,trivial⟩ ?_;refine aj 42 [4,5,6] ?_;refine aJ [] ?_;rw[O,I];first|exact⟨by rw[Rp E w4],rfl⟩|exact⟨by rw[←Rq E w4],rfl⟩
 refine aZ [4,5,6] ?_;refine aJ [] ?_;rw[O,I];first|exact⟨by rw[Rp E w4],rfl⟩|exact⟨by rw[←Rq E w4],rfl⟩

end Go.Proofs.YtbcmjoaggammcaaGreatDoor.Tw
namespace Go.Proofs.YtbcmjoaggammcaaGreatDoor.Tw
open List
open Go.Proofs.Tryz
open Go.RowKit V Tr Pk
abbrev lp(ls:List Int)(ad:Option Addr)(cap:Nat)(S:List ag):Prop:=bu 3 1 (ls.flatMap cI) ls.length ad cap S
abbrev om(ls:List K)(ad:Option Addr)(cap:Nat)(S:List ag):Prop:=bu 49 1 (ls.flatMap cK) ls.length ad cap S
variable {G:List (Nat×List Value)}
theorem ZD:(Tryz.prog.info? 5).map (fun i=>(i.zero,i.size,i.bytes))=some (some (.int .u8 0),1,1):=by kernel_rfl
theorem jK(a:List UInt8)(ha:a.length≤1000000):VP Tryz.prog G 59 [.list 1 (a.flatMap cB) a.length] (.list 1 (a.flatMap cB) a.length):=by
 refine VC.body func59 rfl ntmps59 aO fun X0 w0 aX=>?_;have dr:maxLen=9223372036854775807:=rfl;refine ae [0] ?_;refine aC 1 ?_;refine OD.yD an rfl rfl ot bC underlying49 (fun O wX=>?_);refine aj 8 [0,4] ?_;refine aq (fun az aG=>?_) (fun az aG=>?_)
 ·exact VF
 refine bX ?_;refine OD.yE an rfl rfl runUnderlying49 sizeOf5 (fun b5=>?_);refine aD 1 ?_;refine OD.oN (ls:=([]:List UInt8)) (new:=a) (Sq:=[⟨b5,5,0*1,[]⟩]) oU vQ an rfl rfl underlying49 ZD rfl w7 runUnderlying49 sizeOf5 ot (.inr ⟨b5,rfl,Nat.le_refl _,Nat.zero_le _,rfl⟩) (dB (A:=[])) ot gM gM (fun E I S7 py=>?_);exact T5
theorem ZE:(Tryz.prog.info? 3).map (fun i=>(i.zero,i.size,i.bytes))=some (some (.int .i64 0),1,8):=by kernel_rfl
theorem nC(a:List Int)(ha:a.length≤1000000):VC Tryz.prog G 114 [.list 1 (a.flatMap cI) a.length] [] (fun r S=>∃ad cap,r = .v (.slice ad a.length cap)∧lp a ad cap S):=by
 refine VC.body func114 rfl ntmps114 aO fun X0 w0 aX=>?_;have dr:maxLen=9223372036854775807:=rfl;refine ae [0] ?_;refine aC 1 ?_;refine OD.yD an rfl rfl ot bC underlying91 (fun O wX=>?_);refine aj 8 [0,4] ?_;refine aq (fun az aG=>?_) (fun az aG=>?_)
 ·exact F7
 refine bX ?_;refine OD.yE an rfl rfl runUnderlying91 sizeOf3 (fun b5=>?_);refine aD 1 ?_;refine OD.oN (ls:=([]:List Int)) (new:=a) (Sq:=[⟨b5,3,0*1,[]⟩]) ev nf an rfl rfl underlying91 ZE rfl w7 runUnderlying91 sizeOf3 ot (.inr ⟨b5,rfl,Nat.le_refl _,Nat.zero_le _,rfl⟩) (dB (A:=[])) ot gM gM (fun E I S7 py=>?_);exact F9
theorem Yl:(Tryz.prog.info? 49).map (fun i=>(i.zero,i.size,i.bytes))=some (some (.slice none 0 0),1,24):=by kernel_rfl
theorem vA(a:List K)(ha:a.length≤1000000):VC Tryz.prog G 145 [.list 1 (a.flatMap cK) a.length] [] (fun r S=>∃ad cap,r = .v (.slice ad a.length cap)∧om a ad cap S):=by
 refine VC.body func145 rfl ntmps145 aO fun X0 w0 aX=>?_;have dr:maxLen=9223372036854775807:=rfl;refine ae [0] ?_;refine aC 1 ?_;refine OD.yD an rfl rfl ot bC underlying90 (fun O wX=>?_);refine aj 8 [0,4] ?_;refine aq (fun az aG=>?_) (fun az aG=>?_)
 ·exact F7
 refine bX ?_;refine OD.yE an rfl rfl runUnderlying90 sizeOf49 (fun b5=>?_);refine aD 1 ?_;refine OD.oN (ls:=([]:List K)) (new:=a) (Sq:=[⟨b5,49,0*1,[]⟩]) fW oW an rfl rfl underlying90 Yl rfl w7 runUnderlying90 sizeOf49 ot (.inr ⟨b5,rfl,Nat.le_refl _,Nat.zero_le _,rfl⟩) (dB (A:=[])) ot gM gM (fun E I S7 py=>?_);exact F9

end Go.Proofs.YtbcmjoaggammcaaGreatDoor.Tw
