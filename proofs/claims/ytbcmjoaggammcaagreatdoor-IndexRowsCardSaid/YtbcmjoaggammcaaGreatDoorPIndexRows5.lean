/-
  What the proof of IndexRows leans on, part 5 of 8: walks of the program's functions at the level of values, and plain facts of what they compute.
-/
import Derived.Test.YtbcmjoaggammcaaGreatDoorPIndexRows4
set_option linter.unusedVariables false
set_option linter.unusedSimpArgs false
set_option maxRecDepth 100000
set_option maxHeartbeats 4000000
namespace Go.Proofs.YtbcmjoaggammcaaGreatDoor.Ex
open List
open Go.Proofs.Tryz
open Go.RowKit V Pk Vl Cd
variable {i:Nat} {a b:Vl} {p:Vl→Prop}
def wr(n:Int):Int:=IntKind.i64.wrap n
theorem afE(n:Int):-9223372036854775808≤wr n∧wr n≤9223372036854775807:=by unfold wr;rw[IntKind.wrap_i64];omega
def pR(b:Bool):Vl:=if b=true then ⟨1,1,⟨#[]⟩⟩ else ⟨1,0,⟨#[]⟩⟩
def iz(a b:Vl)(i:Nat):Vl:=if i=0 then a else b
theorem G5(a b:Vl)(h:i<2):(([.v (.int .i64 a.k),.v (.int .i64 a.n),.v (.string a.s),.v (.int .i64 b.k),.v (.int .i64 b.n),.v (.string b.s)]:List D).drop (i*3)).take 3=[.v (.int .i64 (iz a b i).k),.v (.int .i64 (iz a b i).n),.v (.string (iz a b i).s)]:=by
 match i,h with
 | 0,_|1,_=>rfl
def kQ(a b:Vl)(d:Int):Vl×Int :=
 if (a.k≠1∧a.k≠0)∨(b.k≠1∧b.k≠0) then (bP,4) else if a.k=1∧a.n=d then (a,0) else if b.k=1∧b.n=d then (b,0) else if a.k=0∨b.k=0 then (bP,0) else (a,0)
theorem Ih(h:∀j,j<i→p (iz a b j))(hi:2≤i):p a∧p b:=⟨h 0 w4,h 1 w4⟩
theorem DW(h:∀j,j<i→p (iz a b j))(h1:p (iz a b i)):∀j,j<i+1→p (iz a b j):=fun j hj=>by
 by_cases e:j=i
 ·subst e;exact h1
 exact h j w4
theorem Zm{d:Int}(hi:i<2)(h1:(iz a b i).k≠1)(h2:(iz a b i).k≠0):kQ a b d=(bP,4):=by
 unfold kQ;match i,hi with
 | 0,_=>rw[if_pos (.inl ⟨h1,h2⟩)]
 | 1,_=>rw[if_pos (.inr ⟨h1,h2⟩)]
theorem Zn{d:Int}(hi:i<2)(hg:¬((a.k≠1∧a.k≠0)∨(b.k≠1∧b.k≠0)))(h0:∀j,j<i→¬((iz a b j).k=1∧(iz a b j).n=d))(h1:(iz a b i).k=1)(h2:(iz a b i).n=d):kQ a b d=(iz a b i,0):=by
 unfold kQ;rw[if_neg hg];match i,hi with
 | 0,_=>rw[if_pos ⟨h1,h2⟩];rfl
 | 1,_=>rw[if_neg (show ¬(a.k=1∧a.n=d) from h0 0 w4),if_pos (show b.k=1∧b.n=d from⟨h1,h2⟩)];rfl
def oS(k a b:Int):Int×Bool :=
 if k=8 then (wr (a+b),decide (wr (a+b)<a)==decide (b<0)) else if k=9 then (wr (a-b),decide (wr (a-b)>a)==decide (b<0))
 else (wr (a*b),a==0||(wr ((wr (a*b)).tdiv a)==b && !(a == -1&&b == -9223372036854775808)))
def qC(a b:Vl):Bool:=a.k==0||b.k==0
def gY(k:Int)(a b:Vl):Vl×Int :=
 if mo a b≠0 then (bP,mo a b) else if k=3 then kQ a b 0 else if k=4 then kQ a b 1
 else if k=6∨k=7 then (if qC a b=true then (bP,0) else if a.k≠b.k then (bP,4) else (pR ((gl a b==0&&k==6)||(decide (gl a b<0)&&k==7)),0))
 else if k=8∨k=9∨k=10 then (if (a.k≠2∧a.k≠0)∨(b.k≠2∧b.k≠0) then (bP,4) else if qC a b=true then (bP,0) else if (oS k a.n b.n).2=true then (⟨2,(oS k a.n b.n).1,⟨#[]⟩⟩,0) else (bP,5))
 else (bP,2)
def tu(k:Int)(a:Vl):Vl×Int :=
 if dB a≠0 then (bP,dB a) else if k=11 then (pR (a.k==0),0)
 else if k=5 then (if a.k=0 then (a,0) else if a.k=1 then (pR (a.n==0),0) else (bP,4)) else (bP,2)
def mH(r:Vl×Int):D:=.dy [.agg (cV r.1),.v (.int .i64 r.2)]
variable {G:List (Nat×List Value)}
theorem sL(b:Bool):VP Tryz.prog G 177 [.v (.bool b)] (.agg (cV (pR b))):=by
 refine VC.body func177 rfl ntmps177 aO fun X0 w0 aZ=>?_;refine cj ?_;refine OD.alloc (ds:=[_,_,_]) an rfl rfl zeroValue30 rfl (fun b2=>?_);refine aj 6 [0,2] ?_;refine ae [2,3] ?_;refine aq (fun az aG=>?_) (fun az aG=>?_)
 ·refine aC 1 ?_;refine aN 0 [_,_,_] sizeOf30 ?_;refine aj 6 [2] ?_;refine aJ [] ?_;refine⟨?_,rfl⟩;unfold pR;simp_all[cV]
 refine aC 1 ?_;refine aN 0 [_,_,_] sizeOf30 ?_;refine aj 6 [2] ?_;refine aJ [] ?_;refine⟨?_,rfl⟩;unfold pR;simp_all[cV]
theorem Rk(a b:Vl):VP Tryz.prog G 179 [.agg (cV a),.agg (cV b)] (.v (.bool (qC a b))):=by
 refine VC.body func179 rfl ntmps179 aO fun X0 w0 aZ=>?_;unfold cV;refine cj ?_;refine OD.box (ds:=[_,_,_]) an rfl rfl ot rfl rfl (fun b2=>?_);refine OD.box (ds:=[_,_,_]) an rfl rfl ot rfl rfl (fun b3=>?_);refine aj 13 [2,3] ?_;refine aC 4 ?_;refine bS 8 (fun I E=>?_) (fun I E=>?_)
 ·refine aY [4] ?_;refine eE ?_;refine⟨vb ?_,rfl⟩;unfold qC;simp_all
 refine aY [4] ?_;refine eE ?_;refine⟨vb ?_,rfl⟩;unfold qC;simp_all
theorem PS(a b:Vl)(d:Int):VP Tryz.prog G 178 [.agg (cV a),.agg (cV b),.v (.int .i64 d)] (mH (kQ a b d)):=by
 refine VC.body func178 rfl ntmps178 aO fun X0 w0 aZ=>?_;unfold mH cV;have mU:=Rk (G:=G) a b;unfold cV at mU;refine cj ?_;refine OD.box (ds:=[_,_,_]) an rfl rfl ot rfl rfl (fun b3=>?_);refine OD.box (ds:=[_,_,_]) an rfl rfl ot rfl rfl (fun b4=>?_);refine OD.alloc (ds:=[_,_,_]) an rfl rfl zeroValue30 rfl (fun b6=>?_);refine aj 50 [2,3,4,6] ?_;refine cL [2,3,4,6,14,15] ?_;refine aP 2 ?_ (h:=by exact(Dx (pl:=[(0,_),(1,_)]) (ds:=[_,_,_,_,_,_]) rfl zeroValue252 runUnderlying252 sizeOf30 ⟨rfl,ot,rfl,ot,trivial⟩ rfl rfl));refine bG ?_;refine eH [2,3,4,6,14] (fun aW _ (i:Nat) aK=>(i≤2)∧(∀j,j<i→¬((iz a b j).k≠1∧(iz a b j).k≠0))∧aK=(⟨50,(15,.v (.int .i64 (i:Nat)))::aW,[⟨b6,30,3,[.v (.int .i64 0),.v (.int .i64 0),.v (.string ⟨#[]⟩)]⟩,⟨b4,30,3,[.v (.int .i64 b.k),.v (.int .i64 b.n),.v (.string b.s)]⟩,⟨b3,30,3,[.v (.int .i64 a.k),.v (.int .i64 a.n),.v (.string a.s)]⟩]⟩:St)) (fun (i:Nat)=>2-i) 0 ⟨(Nat.zero_le _),(fun j hj=>absurd hj (Nat.not_lt_zero _)),rfl⟩ ?_;rintro i _ ⟨hi,eY,rfl⟩;refine ae [2,3,4,6,14,15,16] ?_;refine aq (fun az aG=>?_) (fun az aG=>?_)
 ·have aa:i<2:=(by omega)
  refine cj ?_;refine bQ (GO (j:=i) rfl ot ot runUnderlying252 sizeOf30 isAgg30 rfl aa (G5 a b aa)) ?_;refine OD.alloc (ds:=[_,_,_]) an rfl rfl zeroValue30 rfl (fun b9=>?_);refine aN 0 [_,_,_] sizeOf30 ?_;refine aj 50 [2,3,4,6,9,14,15] ?_;refine aC 4 ?_;refine bS 21 (fun p9 I=>?_) (fun p9 I=>?_)
  ·refine aY [2,3,4,6,14,15,25] ?_;refine aq (fun aH aT=>?_) (fun aH aT=>?_)
   ·have aS:kQ a b d=(bP,4):=Zm aa (by simp_all) (by simp_all);refine aC 1 ?_;refine aN 1 [_,_,_] sizeOf30 ?_;refine aj 50 [6,7] ?_;exact oC
   exact VJ
  refine aY [2,3,4,6,14,15,25] ?_;refine fG ?_;exact VJ
 have B5:=Ih (p:=fun v=>¬(v.k≠1∧v.k≠0)) eY w4;have hg:¬((a.k≠1∧a.k≠0)∨(b.k≠1∧b.k≠0)):=fun h=>h.elim B5.1 B5.2;clear eY hi;refine cL [2,3,4,6,30,31] ?_;refine aP 2 ?_ (h:=by exact(Dx (pl:=[(0,_),(1,_)]) (ds:=[_,_,_,_,_,_]) rfl zeroValue252 runUnderlying252 sizeOf30 ⟨rfl,ot,rfl,ot,trivial⟩ rfl rfl));refine bG ?_;refine eH [2,3,4,6,30] (fun aW _ (i:Nat) aK=>(i≤2)∧(∀j,j<i→¬((iz a b j).k=1∧(iz a b j).n=d))∧aK=(⟨50,(31,.v (.int .i64 (i:Nat)))::aW,[⟨b6,30,3,[.v (.int .i64 0),.v (.int .i64 0),.v (.string ⟨#[]⟩)]⟩,⟨b4,30,3,[.v (.int .i64 b.k),.v (.int .i64 b.n),.v (.string b.s)]⟩,⟨b3,30,3,[.v (.int .i64 a.k),.v (.int .i64 a.n),.v (.string a.s)]⟩]⟩:St)) (fun (i:Nat)=>2-i) 0 ⟨(Nat.zero_le _),(fun j hj=>absurd hj (Nat.not_lt_zero _)),rfl⟩ ?_;rintro i _ ⟨Z,Jz,rfl⟩;refine ae [2,3,4,6,30,31,32] ?_;refine aq (fun aX bw=>?_) (fun aX bw=>?_)
 ·have aa:i<2:=(by omega)
  refine cj ?_;refine bQ (GO (j:=i) rfl ot ot runUnderlying252 sizeOf30 isAgg30 rfl aa (G5 a b aa)) ?_;refine OD.alloc (ds:=[_,_,_]) an rfl rfl zeroValue30 rfl (fun kE=>?_);refine aN 0 [_,_,_] sizeOf30 ?_;refine aj 50 [2,3,4,6,11,30,31] ?_;refine aC 4 ?_;refine bS 37 (fun U O=>?_) (fun U O=>?_)
  ·refine aY [2,3,4,6,11,30,31,42] ?_;refine aq (fun bC bW=>?_) (fun bC bW=>?_)
   ·have aS:kQ a b d=(iz a b i,0):=Zn aa hg Jz (by simp_all) (by simp_all);refine aC 1 ?_;refine aN 1 [_,_,_] sizeOf30 ?_;refine aj 50 [6,7] ?_;exact oC
   exact z85
  refine aY [2,3,4,6,11,30,31,42] ?_;refine fG ?_;exact z85
 have E:=Ih (p:=fun v=>¬(v.k=1∧v.n=d)) Jz w4;refine cM [3,6,47] (mU) ?_;refine aq (fun cx c9=>?_) (fun cx c9=>?_)
 ·have aS:kQ a b d=(bP,0):=(by unfold kQ;rw[if_neg hg,if_neg E.1,if_neg E.2,if_pos (by unfold qC at cx;simpa using cx)])
  refine aC 1 ?_;refine aN 0 [_,_,_] sizeOf30 ?_;refine aj 50 [6,7] ?_;exact oC
 have aS:kQ a b d=(a,0):=(by unfold kQ;rw[if_neg hg,if_neg E.1,if_neg E.2,if_neg (by unfold qC at cx;simpa using cx)])
 refine aC 1 ?_;refine aN 0 [_,_,_] sizeOf30 ?_;refine aj 50 [6,7] ?_;exact tN
theorem aa0(k a b:Int):VP Tryz.prog G 180 [.v (.int .i64 k),.v (.int .i64 a),.v (.int .i64 b)] (.dy [.v (.int .i64 (oS k a b).1),.v (.bool (oS k a b).2)]):=by
 refine VC.body func180 rfl ntmps180 aO fun X0 w0 aZ=>?_;refine ae [0,1,2] ?_;refine ae [1,2,11] ?_;refine ae [1,2,11,12] ?_;refine aq (fun az aG=>?_) (fun az aG=>?_)
 ·refine cL [1,2,8] ?_;refine aP 2 ?_ (h:=by exact(cX (r:=.int .i64 (wr (a+b))) rfl ot ot (jZ rfl)));exact VL
 refine ae [1,2,24] ?_;refine aq (fun aH aT=>?_) (fun aH aT=>?_)
 ·refine cL [1,2,9] ?_;refine aP 2 ?_ (h:=by exact(cX (r:=.int .i64 (wr (a-b))) rfl ot ot (fV rfl)));exact VL
 refine cL [1,2,10] ?_;refine aP 2 ?_ (h:=by exact(cX (r:=.int .i64 (wr (a*b))) rfl ot ot (Io rfl)));refine bG ?_;refine aC 4 ?_;refine bS 42 (fun qH E=>?_) (fun qH E=>?_)
 ·refine aY [6,7] ?_;refine LF ?_;refine⟨?_,rfl⟩;unfold oS;simp_all
 refine aD 2 ?_;refine OD.still gH rfl (cX (r:=.int .i64 (wr ((wr (a*b)).tdiv a))) rfl ot ot (ab5 (by simpa using qH) rfl)) ?_;refine aD 3 ?_;refine bS 48 (fun U I=>?_) (fun U I=>?_)
 ·refine aD 3 ?_;refine bS 51 (fun Z O=>?_) (fun Z O=>?_)
  ·refine aj 58 [6,7] ?_;refine aJ [] ?_;refine⟨?_,rfl⟩;unfold oS;simp_all
  refine aj 58 [6,7] ?_;refine aJ [] ?_;refine⟨?_,rfl⟩;unfold oS;simp_all
 refine aj 58 [6,7] ?_;refine aJ [] ?_;refine⟨?_,rfl⟩;unfold oS;simp_all
theorem aen(k:Int)(a:Vl):VP Tryz.prog G 158 [.v (.int .i64 k),.agg (cV a)] (mH (tu k a)):=by
 refine VC.body func158 rfl ntmps158 aO fun X0 w0 aZ=>?_;unfold mH;have eZ:=Vl.oQ (G:=G) a;unfold cV at eZ;unfold cV;refine cj ?_;refine OD.box (ds:=[_,_,_]) an rfl rfl ot rfl rfl (fun b3=>?_);refine OD.alloc (ds:=[_,_,_]) an rfl rfl zeroValue30 rfl (fun b4=>?_);refine aj 35 [0,3,4] ?_;refine cM [0,3,4,6] (eZ) ?_;refine ae [0,3,4,6,10] ?_;refine aq (fun az aG=>?_) (fun az aG=>?_)
 ·refine aC 2 ?_;exact B8
 refine ae [3,4,13] ?_;refine ae [3,4,13,14] ?_;refine aq (fun aH aT=>?_) (fun aH aT=>?_)
 ·refine aC 3 ?_;refine dS call177 (sL _) ?_;exact B8
 refine ae [3,4,20] ?_;refine aq (fun aX bw=>?_) (fun aX bw=>?_)
 ·refine ae [3,4,23] ?_;refine ae [3,4,23,24] ?_;refine aq (fun bC bW=>?_) (fun bC bW=>?_)
  ·refine aC 1 ?_;exact B8
  refine ae [3,4,27] ?_;refine aq (fun cx c9=>?_) (fun cx c9=>?_)
  ·refine aC 3 ?_;refine dS call177 (sL _) ?_;exact B8
  refine aC 1 ?_;exact B8
 refine aC 1 ?_;refine aN 0 [_,_,_] sizeOf30 ?_;refine aj 35 [4,5] ?_;refine aJ [] ?_;refine⟨?_,rfl⟩;unfold tu;simp_all[bP]
theorem ab0{k:Int}(h0:mo a b=0)(hk:k=8∨k=9∨k=10)(hi:i<2)(h1:(iz a b i).k≠2)(h2:(iz a b i).k≠0):gY k a b=(bP,4):=by
 unfold gY;rw[if_neg (by simp[h0]),if_neg w4,if_neg w4,if_neg w4,if_pos hk];match i,hi with
 | 0,_=>rw[if_pos (.inl ⟨h1,h2⟩)]
 | 1,_=>rw[if_pos (.inr ⟨h1,h2⟩)]
theorem NW{k:Int}(h0:mo a b=0)(hk:k=8∨k=9∨k=10)(hg:¬((a.k≠2∧a.k≠0)∨(b.k≠2∧b.k≠0))) :
  gY k a b=if qC a b=true then (bP,0) else if (oS k a.n b.n).2=true then (⟨2,(oS k a.n b.n).1,⟨#[]⟩⟩,0) else (bP,5):=by
 unfold gY;rw[if_neg (by simp[h0]),if_neg w4,if_neg w4,if_neg w4,if_pos hk,if_neg hg]
theorem aeo(k:Int)(a b:Vl)(oa:a.Ok)(ob:b.Ok):VP Tryz.prog G 159 [.v (.int .i64 k),.agg (cV a),.agg (cV b)] (mH (gY k a b)):=by
 refine VC.body func159 rfl ntmps159 aO fun X0 w0 aZ=>?_;unfold mH;have pu:=Cd.Q7 (G:=G) a b;have mU:=Rk (G:=G) a b;have mC:=PS (G:=G) a b 0;have jO:=PS (G:=G) a b 1;have eZ:=Cd.NG (G:=G) a b oa ob;have wV:=aa0 (G:=G) k a.n b.n;unfold mH at mC jO;unfold cV at pu mU mC jO eZ;unfold cV;refine cj ?_;refine OD.box (ds:=[_,_,_]) an rfl rfl ot rfl rfl (fun b4=>?_);refine OD.box (ds:=[_,_,_]) an rfl rfl ot rfl rfl (fun b5=>?_);refine OD.alloc (ds:=[_,_,_]) an rfl rfl zeroValue30 rfl (fun b6=>?_);refine aj 106 [0,4,5,6] ?_;refine cM [0,4,5,6,8] (pu) ?_;refine ae [0,4,5,6,8,18] ?_;refine aq (fun az aG=>?_) (fun az aG=>?_)
 ·have nU:mo a b≠0:=(by simpa using az)
  have aS:gY k a b=(bP,mo a b):=(by unfold gY;rw[if_pos nU])
  refine aC 2 ?_;exact z7
 have nU:mo a b=0:=(by simpa using az)
 refine ae [0,4,5,6,21] ?_;refine ae [0,4,5,6,21,22] ?_;refine aq (fun aH aT=>?_) (fun aH aT=>?_)
 ·have aS:gY k a b=kQ a b 0:=(by unfold gY;rw[if_neg (by simp[nU]),if_pos w4])
  refine aC 2 ?_;refine dS call178 (mC) ?_;refine aD 2 ?_;exact z7
 refine ae [0,4,5,6,21,29] ?_;refine aq (fun aX bw=>?_) (fun aX bw=>?_)
 ·have aS:gY k a b=kQ a b 1:=(by unfold gY;rw[if_neg (by simp[nU]),if_neg w4,if_pos w4])
  refine aC 2 ?_;refine dS call178 (jO) ?_;refine aD 2 ?_;exact z7
 refine ae [0,4,5,6,21,36] ?_;refine aq (fun bC bW=>?_) (fun bC bW=>?_)
 ·refine ez ?_;exact T2
 refine cg [0,4,5,6,21,36] ?_;refine aq (fun cx c9=>?_) (fun cx c9=>?_)
 ·exact T2
 refine ae [0,4,5,6,21,67] ?_;refine aq (fun eG fZ=>?_) (fun eG fZ=>?_)
 ·refine ez ?_;exact z6
 refine ae [0,4,5,6,21,67] ?_;refine aq (fun kU E=>?_) (fun kU E=>?_)
 ·refine ez ?_;exact z6
 refine cg [0,4,5,6,67] ?_;refine aq (fun O I=>?_) (fun O I=>?_)
 ·exact z6
 have aS:gY k a b=(bP,2):=(by unfold gY;rw[if_neg (by simp[nU]),if_neg w4,if_neg w4,if_neg w4,if_neg w4])
 refine aC 1 ?_;refine aN 0 [_,_,_] sizeOf30 ?_;refine aj 106 [6,7] ?_;refine aJ [] ?_;rw[aS];first|exact⟨rfl,rfl⟩|(refine⟨?_,rfl⟩;clear aS eZ wV mC jO pu mU;generalize (gl a b==0)=z1 at *;generalize (decide (gl a b<0))=z2 at *;subst_vars;simp_all;done)

end Go.Proofs.YtbcmjoaggammcaaGreatDoor.Ex
namespace Go.Proofs.YtbcmjoaggammcaaGreatDoor.Ex
open List
open Go.Proofs.Tryz
open Go.RowKit V Pk Vl Go.Proofs.YtbcmjoaggammcaaGreatDoor.Nm Pc
variable {a b:Vl} {l:List cu} {row:List Vl} {ops:List aV}
def fO(l:List cu)(row:List Vl)(o:aV)(a b:Vl):Vl×Int :=
 if bN o.k=1 then tu o.k a else if bN o.k=2 then gY o.k a b else if o.k=2 then (row.getD (bL l o.nm).toNat bP,0) else (o.v,0)
def uM(l:List cu)(row:List Vl)(ops:List aV):Vl×Int:=js bP (fO l row) ops []
def fh(l:List cu)(row:List Vl)(ops:List aV):Vl×Int :=
 if dU l row≠0 then (bP,dU l row) else if (dZ l ops).2≠0 then (bP,(dZ l ops).2) else uM l row ops
theorem td:bP.Ok:=⟨by decide,by decide,by decide,by decide,Nat.zero_le _⟩
theorem PT(b:Bool):(pR b).Ok:=by unfold pR;split<;>exact⟨by decide,by decide,by decide,by decide,Nat.zero_le _⟩
theorem ok_int{n:Int}(h:-9223372036854775808≤n∧n≤9223372036854775807):(⟨2,n,⟨#[]⟩⟩:Vl).Ok:=⟨by show -9223372036854775808≤(2:Int);decide,by show(2:Int)≤_;decide,h.1,h.2,Nat.zero_le _⟩
theorem aa1{d:Int}(oa:a.Ok)(ob:b.Ok):(kQ a b d).1.Ok:=by
 unfold kQ;repeat' split
 all_goals first|exact td|exact oa|exact ob
theorem ok_two{k:Int}(oa:a.Ok)(ob:b.Ok):(gY k a b).1.Ok:=by
 unfold gY;repeat' split
 all_goals first|exact td|exact aa1 oa ob|exact PT _|skip
 unfold oS;repeat' split
 all_goals exact ok_int (afE _)
theorem ok_one{k:Int}(oa:a.Ok):(tu k a).1.Ok:=by
 unfold tu;repeat' split
 all_goals first|exact td|exact oa|exact PT _
theorem Rl(hr:∀v∈row,v.Ok){o:aV}(ho:o.v.Ok)(oa:a.Ok)(ob:b.Ok):(fO l row o a b).1.Ok:=by
 unfold fO;split
 ·exact ok_one oa
 split
 ·exact ok_two oa ob
 split
 ·show(row.getD _ bP).Ok;rw[getD_eq_getElem?_getD];cases h:row[(bL l o.nm).toNat]? with
  | none=>exact td
  | some v=>exact hr v (mem_of_getElem? h)
 exact ho
theorem ID{st:List Vl}(h:∀v∈st,v.Ok)(j:Nat):(st.getD j bP).Ok:=by
 rw[getD_eq_getElem?_getD];cases hj:st[j]? with
 | none=>exact td
 | some v=>exact h v (mem_of_getElem? hj)
theorem AH{st:List Vl}(h:∀v∈st,v.Ok)(k:Int):(fa bP k st).Ok:=by unfold fa;split;exact ID h _;exact td
theorem AJ{st:List Vl}(h:∀v∈st,v.Ok)(k:Int):(eS bP k st).Ok:=by unfold eS;split;exact ID h _;exact td
theorem Om{α:Type}{z:α}{f:aV→α→α→α × Int}:∀{l:List aV} {st:List α},(js z f l st).2=0→∀o∈l,∃a b,(f o a b).2=0
 | [],_,_,o,ho=>by cases ho
 | x::r,st,h,o,ho=>by
  rw[js] at h;split at h
  ·rename_i hne;exact absurd h hne
  rename_i he;rcases mem_cons.1 ho with rfl|ho
  ·exact⟨_,_,Classical.not_not.1 he⟩
  exact Om h o ho
theorem On(h:(tc l ops).2=0):∀o∈ops,o.k=2→0≤bL l o.nm:=fun o ho hk=>by
 obtain⟨a,b,he⟩:=Om h o ho;unfold iO at he;rw[if_neg w4,if_pos hk] at he;unfold uD at he;split at he
 ·cases he
 omega
theorem It(h:dU l row=0):row.length=l.length:=by
 unfold dU at h;split at h
 ·rename_i h1;exact absurd h h1
 split at h
 ·cases h
 omega
theorem Et(h:(dZ l ops).2=0):fw l=0∧iF ops=0∧dZ l ops=tc l ops:=by
 unfold dZ at h ⊢;split at h
 ·rename_i h1;exact absurd h h1
 rename_i h1;split at h
 ·rename_i h2;exact absurd h h2
 rename_i h2;exact⟨Classical.not_not.1 h1,Classical.not_not.1 h2,by rw[if_neg h1,if_neg h2]⟩
variable {G:List (Nat×List Value)}
theorem Hi(l:List cu)(hl:l.length≤6)(row:List Vl)(rf:row.length=l.length)(o:aV)(I:o.k=2→0≤bL l o.nm)(a b a' b':Vl)(ha:a=a')(hb:b=b')(oa:a.Ok)(ob:b.Ok)(br bc:Nat):VC Tryz.prog G 156 [.agg (cO o),.agg (cV a'),.agg (cV b'),.v (.pointer (some ⟨br,0,none⟩)),.v (.pointer (some ⟨bc,0,none⟩))] [⟨br,27,1,[.list 3 (row.flatMap cV) row.length]⟩,⟨bc,38,1,[.list 2 (l.flatMap cC) l.length]⟩] (fun r S=>r=mH (fO l row o a b)∧S=[⟨br,27,1,[.list 3 (row.flatMap cV) row.length]⟩,⟨bc,38,1,[.list 2 (l.flatMap cC) l.length]⟩]):=by
 refine VC.body func156 rfl ntmps156 aO fun X0 w0 aZ=>?_;subst ha hb;have mD:=aen (G:=G) o.k a;have E:=aeo (G:=G) o.k a b oa ob;unfold mH at mD E ⊢;unfold cV at mD E;unfold cO cV;have U:=ym (fun c:cu=>c.n.toList==o.nm.toList) l;have O:bL l o.nm=dM (fun c:cu=>c.n.toList==o.nm.toList) l:=rfl;rw[←O] at U;clear O;refine cj ?_;refine OD.box (ds:=[_,_,_,_,_]) an rfl rfl ot rfl rfl (fun b5=>?_);refine OD.box (ds:=[_,_,_]) an rfl rfl ot rfl rfl (fun b6=>?_);refine OD.box (ds:=[_,_,_]) an rfl rfl ot rfl rfl (fun b7=>?_);refine OD.alloc (ds:=[_,_,_]) an rfl rfl zeroValue30 rfl (fun b8=>?_);refine aj 42 [3,4,5,6,7,8] ?_;refine cM [3,4,5,6,7,8,12] (D7 o.k) ?_;refine ae [3,4,5,6,7,8,12,13] ?_;refine aq (fun az aG=>?_) (fun az aG=>?_)
 ·have aS:fO l row o a b=tu o.k a:=(by unfold fO;rw[if_pos w4])
  refine aC 3 ?_;refine dS call158 (mD) ?_;refine aD 2 ?_;exact Kc
 refine ae [3,4,5,6,7,8,21] ?_;refine aq (fun aH aT=>?_) (fun aH aT=>?_)
 ·have aS:fO l row o a b=gY o.k a b:=(by unfold fO;rw[if_neg w4,if_pos w4])
  refine aC 4 ?_;refine dS call159 (E) ?_;refine aD 2 ?_;exact Kc
 refine ae [3,4,5,8,32] ?_;refine aq (fun aX bw=>?_) (fun aX bw=>?_)
 ·have fk:o.k=2:=(by omega)
  have az:=I fk;have Z:(bL l o.nm).toNat<row.length:=(by omega)
  have aS:fO l row o a b=(row[(bL l o.nm).toNat],0):=(by unfold fO;rw[if_neg w4,if_neg w4,if_pos fk,getD_eq_getElem?_getD,getElem?_eq_getElem Z];rfl)
  refine CD.seq ?_;refine lX 7 [8,39] ?_;refine cU (qv l hl o.nm) ?_;refine bG ?_;exact Kc
 have aS:fO l row o a b=(o.v,0):=(by unfold fO;rw[if_neg w4,if_neg w4,if_neg w4])
 refine aC 2 ?_;refine aN 0 [_,_,_] sizeOf30 ?_;refine aj 42 [8,9] ?_;exact VT
theorem X6:(Tryz.prog.info? 30).map (fun i=>(i.zero,i.size,i.bytes))=some (some (.agg #[.int .i64 0,.int .i64 0,.string ⟨#[]⟩]),3,32):=by kernel_rfl
theorem aa2(l:List cu)(hl:l.length≤6)(row:List Vl)(rf:row.length=l.length)(BD:∀v∈row,v.Ok)(ops:List aV)(fI:∀o∈ops,o.v.Ok)(E:∀o∈ops,o.k=2→0≤bL l o.nm)(pE:ops.length≤40)(hx:fy 0 ops=0)(br bc:Nat):VC Tryz.prog G 155 [.list 5 (ops.flatMap cO) ops.length,.ek (.func 156) [.v (.pointer (some ⟨br,0,none⟩)),.v (.pointer (some ⟨bc,0,none⟩))]] [⟨br,27,1,[.list 3 (row.flatMap cV) row.length]⟩,⟨bc,38,1,[.list 2 (l.flatMap cC) l.length]⟩] (fun r S=>r=mH (uM l row ops)∧S=[⟨br,27,1,[.list 3 (row.flatMap cV) row.length]⟩,⟨bc,38,1,[.list 2 (l.flatMap cC) l.length]⟩]):=by
 refine VC.body func155 rfl ntmps155 aO fun X0 w0 aZ=>?_;unfold mH;refine cj ?_;refine OD.alloc (ds:=[_,_,_]) an rfl rfl zeroValue30 rfl (fun b4=>?_);refine aj 64 [0,1,4] ?_;refine cj ?_;refine OD.alloc (ds:=[_,_,_]) an rfl rfl zeroValue30 rfl (fun b6=>?_);refine OD.perm (Av (k:=2) (k':=2) rfl rfl) ?_;refine aj 64 [0,1,4,6] ?_;refine cj ?_;refine aY [0,1,4,6,7] ?_;refine ae [1,4,6,7,16,17,18] ?_;refine CD.block ?_
 refine l5 (fun (I:Nat×List Vl×Option Addr×Nat×List ag) aK=>match I with|(i,st,O,jS,Sh)=>(i≤ops.length)∧(st.length≤i)∧(fy ((st.length:Nat):Int) (ops.drop i)=0)∧(uM l row ops=js bP (fO l row) (ops.drop i) st)∧(∀v∈st,v.Ok)∧(bq 30 3 ((st).flatMap cV) (st).length O jS Sh)∧aK=(⟨64,[(1,.ek (.func 156) [.v (.pointer (some ⟨br,0,none⟩)),.v (.pointer (some ⟨bc,0,none⟩))]),(4,.v (.pointer (some ⟨b4,0,none⟩))),(6,.v (.pointer (some ⟨b6,0,none⟩))),(7,.v (.slice O (st).length jS)),(16,.list 5 (ops.flatMap cO) ops.length),(17,.v (.int .i64 (ops.length:Nat))),(18,.v (.int .i64 (i:Nat)))],(⟨br,27,1,[.list 3 (row.flatMap cV) row.length]⟩::⟨bc,38,1,[.list 2 (l.flatMap cC) l.length]⟩::⟨b6,30,3,[.v (.int .i64 0),.v (.int .i64 0),.v (.string ⟨#[]⟩)]⟩::⟨b4,30,3,[.v (.int .i64 0),.v (.int .i64 0),.v (.string ⟨#[]⟩)]⟩::Sh)⟩:St)) (fun (I:Nat×List Vl×Option Addr×Nat×List ag)=>match I with|(i,st,O,jS,Sh)=>ops.length-i) (0,[],none,0,[]) ⟨(Nat.zero_le _),(Nat.zero_le _),hx,rfl,(fun v U=>by cases U),(bq.cast iC lB),rfl⟩ (aM (h:=by repeat (first|exact trivial|refine⟨FN,?_⟩))) ?_;rintro⟨i,st,O,jS,Sh⟩ _ ⟨hi,fq,hex,hinv,aQ,nx,rfl⟩;refine ae [1,4,6,7,16,17,18,19] ?_;refine aq (fun az aG=>?_) (fun az aG=>?_)
 ·have aa:i<ops.length:=(by omega)
  obtain⟨he,tZ⟩:=Ol aa hex;obtain⟨qV,Us,xE,qe⟩:=vK he;have Cx:=sU ops[i].k;have so:(st.take (st.length-(bN ops[i].k).toNat)++[(fO l row ops[i] (fa bP ops[i].k st) (eS bP ops[i].k st)).1]).length=st.length+1-(bN ops[i].k).toNat:=(by rw[length_append,length_take,length_singleton];omega)
  have ny:fy (((st.take (st.length-(bN ops[i].k).toNat)++[(fO l row ops[i] (fa bP ops[i].k st) (eS bP ops[i].k st)).1]).length:Nat):Int) (ops.drop (i+1))=0:=(by rw[so,show(((st.length+1-(bN ops[i].k).toNat:Nat)):Int)=(st.length:Int)+(1-bN ops[i].k) by omega];exact tZ)
  have agv:∀v∈st.take (st.length-(bN ops[i].k).toNat)++[(fO l row ops[i] (fa bP ops[i].k st) (eS bP ops[i].k st)).1],v.Ok:=fun v U=>by rcases mem_append.1 U with U|U;exact aQ v (mem_of_mem_take U);rw[mem_singleton] at U;rw[U];exact Rl BD (fI _ (getElem_mem aa)) (AH aQ _) (AJ aQ _)
  refine aC 2 ?_;refine OD.alloc (ds:=[_,_,_,_,_]) an rfl rfl zeroValue61 rfl (fun b9=>?_);refine aN 0 [_,_,_,_,_] sizeOf61 ?_;refine aj 64 [1,4,6,7,9,16,17,18] ?_;refine cj ?_;refine OD.alloc (ds:=[_,_,_]) an rfl rfl zeroValue30 rfl (fun kG=>?_);refine OD.alloc (ds:=[_,_,_]) an rfl rfl zeroValue30 rfl (fun kE=>?_);refine aj 64 [1,4,6,7,9,10,11,16,17,18] ?_;refine cM [1,4,6,7,9,10,11,12,16,17,18] (D7 ops[i].k) ?_;refine ae [1,4,6,7,9,10,11,12,13,16,17,18] ?_;refine ae [1,4,6,7,9,10,11,12,13,16,17,18,30] ?_;refine aq (fun aH aT=>?_) (fun aH aT=>?_)
  ·obtain⟨bh,rfl,wm,vV,rfl⟩:=nx.pos w4;have ua:(st.length-(bN ops[i].k).toNat)<st.length:=(by omega)
   have ha:fa bP ops[i].k st=st[(st.length-(bN ops[i].k).toNat)]:=(by unfold fa;rw[if_pos w4,getD_eq_getElem?_getD,getElem?_eq_getElem ua];rfl)
   refine dK 2 ?_;refine bQ (dx 3 (h:=by first|exact .l (j:=(st.length-(bN ops[i].k).toNat)) w4 w4|exact .r (j:=(st.length-(bN ops[i].k).toNat)) w4 w4)) ?_;refine bQ (cH (mk:=Op.load 30) rfl ot (dI (k:=7) e9 rfl rfl rfl isAgg30 sizeOf30 ua)) ?_;refine aN 1 [_,_,_] sizeOf30 ?_;refine aj 64 [1,4,6,7,9,10,11,12,13,16,17,18] ?_;refine ae [1,4,6,7,9,10,11,13,16,17,18,36] ?_;refine aq (fun aX bw=>?_) (fun aX bw=>?_)
   ·have Z:(st.length-(bN ops[i].k).toNat)+1<st.length:=(by omega)
    have hb:eS bP ops[i].k st=st[(st.length-(bN ops[i].k).toNat)+1]:=(by unfold eS;rw[if_pos w4,getD_eq_getElem?_getD,getElem?_eq_getElem Z];rfl)
    refine dK 3 ?_;refine bQ (dx 3 (h:=by first|exact .l (j:=(st.length-(bN ops[i].k).toNat)+1) w4 w4|exact .r (j:=(st.length-(bN ops[i].k).toNat)+1) w4 w4)) ?_;refine bQ (cH (mk:=Op.load 30) rfl ot (dI (k:=7) e9 rfl rfl rfl isAgg30 sizeOf30 Z)) ?_;refine aN 0 [_,_,_] sizeOf30 ?_;refine aj 64 [1,4,6,7,9,10,11,13,16,17,18] ?_;refine aC 4 ?_;refine OD.j4 (f:=156) (args:=[_,_,_]) (all:=[_,_,_,_,_]) (Sf:=[⟨br,27,1,[.list 3 (row.flatMap cV) row.length]⟩,⟨bc,38,1,[.list 2 (l.flatMap cC) l.length]⟩]) an rfl rfl ot call156 (Hi l hl row rf ops[i] (E _ (getElem_mem aa)) _ _ (st[(st.length-(bN ops[i].k).toNat)]) (st[(st.length-(bN ops[i].k).toNat)+1]) ha hb (AH aQ _) (AJ aQ _) br bc) rfl ⟨ot,ot,ot,trivial⟩ (Av (k:=3) (k':=3) rfl rfl) ?_;exact T6
   have hb:eS bP ops[i].k st=bP:=(by unfold eS;rw[if_neg w4])
   refine aC 4 ?_;refine OD.j4 (f:=156) (args:=[_,_,_]) (all:=[_,_,_,_,_]) (Sf:=[⟨br,27,1,[.list 3 (row.flatMap cV) row.length]⟩,⟨bc,38,1,[.list 2 (l.flatMap cC) l.length]⟩]) an rfl rfl ot call156 (Hi l hl row rf ops[i] (E _ (getElem_mem aa)) _ _ (st[(st.length-(bN ops[i].k).toNat)]) (bP) ha hb (AH aQ _) (AJ aQ _) br bc) rfl ⟨ot,ot,ot,trivial⟩ (Av (k:=3) (k':=3) rfl rfl) ?_;exact T6
  have ha:fa bP ops[i].k st=bP:=(by unfold fa;rw[if_neg w4])
  refine ae [1,4,6,7,9,10,11,13,16,17,18,36] ?_;refine aq (fun aX bw=>?_) (fun aX bw=>?_)
  ·exact absurd aX (by simp at *;omega)
  have hb:eS bP ops[i].k st=bP:=(by unfold eS;rw[if_neg w4])
  refine aC 4 ?_;refine OD.j4 (f:=156) (args:=[_,_,_]) (all:=[_,_,_,_,_]) (Sf:=[⟨br,27,1,[.list 3 (row.flatMap cV) row.length]⟩,⟨bc,38,1,[.list 2 (l.flatMap cC) l.length]⟩]) an rfl rfl ot call156 (Hi l hl row rf ops[i] (E _ (getElem_mem aa)) _ _ (bP) (bP) ha hb (AH aQ _) (AJ aQ _) br bc) rfl ⟨ot,ot,ot,trivial⟩ (Av (k:=3) (k':=3) rfl rfl) ?_;rintro _ _ ⟨rfl,rfl⟩;refine aD 3 ?_;refine OD.alloc (ds:=[_,_,_]) an rfl rfl zeroValue30 rfl (fun zN=>?_);refine aN 0 [_,_,_] sizeOf30 ?_;refine aj 64 [1,4,6,7,13,14,15,16,17,18] ?_;refine ae [1,4,6,7,13,14,15,16,17,18,51] ?_;refine aq (fun bC bW=>?_) (fun bC bW=>?_)
  ·exact Vr
  have hz:(fO l row ops[i] (fa bP ops[i].k st) (eS bP ops[i].k st)).2=0:=(by simpa using bC)
  refine CD.skip ?_;refine CD.uU (k:=(st.length-(bN ops[i].k).toNat)) (ls:=(st)) (Sq:=Sh) e9 w4 nx (dA (A:=[_,_,_,_,_,_,_,_])) (fun Bn AX=>?_);exact z5
 have h1:=PR w4 hex;have Uy:0<st.length:=(by omega)
 obtain⟨bh,rfl,wm,vV,rfl⟩:=nx.pos w4;have aS:=hinv.trans (PP w4);have jR:st.getD 0 bP=st[0]:=(by rw[getD_eq_getElem?_getD,getElem?_eq_getElem Uy];rfl)
 rw[jR] at aS;refine aC 1 ?_;refine bQ (qq (mk:=Op.indexAddr 27) rfl ot bH (by first|exact rC (j:=0) runUnderlying27 sizeOf30 rfl zB|exact rF (j:=0) runUnderlying27 sizeOf30 rfl zB)) ?_;refine bQ (cH (mk:=Op.load 30) rfl ot (dI (k:=4) e9 rfl rfl rfl isAgg30 sizeOf30 Uy)) ?_;refine aN 3 [_,_,_] sizeOf30 ?_;refine aj 64 [4,5] ?_;exact VT
theorem acI(l:List cu)(hl:l.length≤6)(row:List Vl)(O:row.length=l.length)(E:∀v∈row,v.Ok)(ops:List aV)(fI:∀o∈ops,o.v.Ok)(I:∀o∈ops,o.k=2→0≤bL l o.nm)(hx:iF ops=0):VP Tryz.prog G 127 [.list 2 (l.flatMap cC) l.length,.list 3 (row.flatMap cV) row.length,.list 5 (ops.flatMap cO) ops.length] (mH (uM l row ops)):=by
 refine VC.body func127 rfl ntmps127 aO fun X0 w0 aZ=>?_;obtain⟨U,gJ⟩:=vN hx;have fj:=fun br bc=>aa2 (G:=G) l hl row O E ops fI I U gJ br bc;unfold mH at fj ⊢;generalize uM l row ops=q at fj ⊢;skip;refine cj ?_;refine OD.box (ds:=[_]) an rfl rfl ot rfl rfl (fun b3=>?_);refine OD.box (ds:=[_]) an rfl rfl ot rfl rfl (fun b4=>?_);refine OD.alloc (ds:=[_,_,_]) an rfl rfl zeroValue30 rfl (fun b6=>?_);refine aj 13 [2,3,4,6] ?_;refine aC 1 ?_;refine bQ (oP (ds:=[_,_]) rfl ⟨ot,ot,trivial⟩) ?_;refine OD.call an rfl rfl rfl call155 (fj b4 b3) ⟨ot,ot,trivial⟩ (Av (k:=1) (k':=1) rfl rfl) ?_;rintro _ _ ⟨rfl,rfl⟩;refine aD 2 ?_;refine aN 2 [_,_,_] sizeOf30 ?_;refine aj 13 [6,7] ?_;exact nA
theorem Rm(hm:(3,marksC)∈G)(hw:(2,wordsC)∈G)(ht:(0,typesC)∈G)(l:List cu)(hl:l.length≤6)(aQ:∀c∈l,c.n.size≤maxLen)(row:List Vl)(Z:row.length≤1000)(E:∀v∈row,v.Ok)(ops:List aV)(ho:∀o∈ops,o.nm.size≤maxLen)(fI:∀o∈ops,o.v.Ok):VP Tryz.prog G 92 [.list 2 (l.flatMap cC) l.length,.list 3 (row.flatMap cV) row.length,.list 5 (ops.flatMap cO) ops.length] (mH (fh l row ops)):=by
 refine VC.body func92 rfl ntmps92 aO fun X0 w0 aZ=>?_;have dr:maxLen=9223372036854775807:=rfl;have U:=Jd hm hw ht l w4 aQ row w4;have I:=IC hm hw ht l hl aQ ops ho;unfold pi at I;unfold mH;refine cj ?_;refine OD.alloc (ds:=[_,_,_]) an rfl rfl zeroValue30 rfl (fun b6=>?_);refine aj 34 [0,1,2,6] ?_;refine cM [0,1,2,6,8] (U) ?_;refine ae [0,1,2,6,8,15] ?_;refine aq (fun az aG=>?_) (fun az aG=>?_)
 ·have h0:dU l row≠0:=(by simpa using az)
  have aS:fh l row ops=(bP,dU l row):=(by unfold fh;rw[if_pos h0])
  refine aC 2 ?_;refine aN 0 [_,_,_] sizeOf30 ?_;refine aj 34 [6,7] ?_;exact oC
 have h0:dU l row=0:=(by simpa using az)
 refine cM [0,1,2,6,10] (I) ?_;refine ae [0,1,2,6,10,25] ?_;refine aq (fun aH aT=>?_) (fun aH aT=>?_)
 ·have h1:(dZ l ops).2≠0:=(by simpa using aH)
  have aS:fh l row ops=(bP,(dZ l ops).2):=(by unfold fh;rw[if_neg (by simp[h0]),if_pos h1])
  refine aC 2 ?_;refine aN 0 [_,_,_] sizeOf30 ?_;refine aj 34 [6,7] ?_;exact oC
 have h1:(dZ l ops).2=0:=(by simpa using aH)
 obtain⟨k1,k2,k3⟩:=Et h1;have aS:fh l row ops=uM l row ops:=(by unfold fh;rw[if_neg (by simp[h0]),if_neg (by simp[h1])])
 have O:=acI (G:=G) l hl row (It h0) E ops fI (On (by rw[←k3];exact h1)) k2;unfold mH at O;refine aC 3 ?_;refine dS call127 (O) ?_;refine aD 2 ?_;refine aN 0 [_,_,_] sizeOf30 ?_;refine aj 34 [6,7] ?_;exact tN

end Go.Proofs.YtbcmjoaggammcaaGreatDoor.Ex
namespace Go.Proofs.YtbcmjoaggammcaaGreatDoor.Pc
open List
open Go.Proofs.Tryz
open Go.RowKit V Pk Vl Go.Proofs.YtbcmjoaggammcaaGreatDoor.Nm
variable {G:List (Nat×List Value)}
def dG:List cu:=[⟨⟨#[105,100]⟩,2⟩,⟨⟨#[110]⟩,2⟩,⟨⟨#[115]⟩,3⟩,⟨⟨#[98]⟩,1⟩]
def pS(n:Int):Vl:=if dW n 3=2 then bP else ⟨1,dW n 3,⟨#[]⟩⟩
def FB(n:Int):Vl:=⟨2,n,⟨#[]⟩⟩
theorem afF:cJ ⟨#[105,100]⟩=0:=sJ (l:=[105,100]) w7 w7 w7
theorem ahX:cJ ⟨#[110]⟩=0:=sJ (l:=[110]) w7 w7 w7
theorem ahY:cJ ⟨#[115]⟩=0:=sJ (l:=[115]) w7 w7 w7
theorem ahZ:cJ ⟨#[98]⟩=0:=sJ (l:=[98]) w7 w7 w7
theorem Ig:fw dG=0:=by
 simp[fw,dG,qz,mR,afF,ahX,ahY,ahZ,vI]
theorem abZ:∀c∈dG,c.n.size≤maxLen:=fun c hc=>by
 have h:c.n.size≤2:=by
  simp only[dG,mem_cons,not_mem_nil,or_false] at hc;rcases hc with rfl|rfl|rfl|rfl
  ·exact Nat.le_refl 2
  ·exact Nat.le_succ 1
  ·exact Nat.le_succ 1
  exact Nat.le_succ 1
 exact Nat.le_trans h w7
theorem aep(n:Int):dB (FB n)=0:=by
 unfold dB;rw[if_neg (show ¬(FB n).k=0 by show ¬(2:Int)=0;decide),if_neg (show ¬(FB n).k=1 by show ¬(2:Int)=1;decide),if_pos (show(FB n).k=2 from rfl),if_neg (fun h=>h rfl)]
theorem E4:dB bP=0:=by decide
theorem Oo:VP Tryz.prog G 24 [] (.list 2 (dG.flatMap cC) dG.length):=by
 refine VC.body func24 rfl ntmps24 aO fun X0 w0 aZ=>?_;refine ae [] ?_;refine aC 4 ?_;refine ei (cc 0 [_,_,_,_]) [.string ⟨#[]⟩,.int .i64 0,.string ⟨#[]⟩,.int .i64 0,.string ⟨#[]⟩,.int .i64 0,.string ⟨#[]⟩,.int .i64 0] [_,_,_,_,_,_,_,_] zeroValue111 runUnderlying38 sizeOf111 (fun b5=>?_);refine OD.perm (dV (S1:=[⟨b5,111,4*2,flatMap cC ([⟨⟨#[105,100]⟩,2⟩,⟨⟨#[110]⟩,2⟩,⟨⟨#[115]⟩,3⟩,⟨⟨#[98]⟩,1⟩])⟩]) (A:=[])) ?_;refine aj 6 [0] ?_;refine CD.gW (t:=0) (Sq:=[⟨b5,111,4*2,flatMap cC ([⟨⟨#[105,100]⟩,2⟩,⟨⟨#[110]⟩,2⟩,⟨⟨#[115]⟩,3⟩,⟨⟨#[98]⟩,1⟩])⟩]) lk (bI (g:=cC) (sz:=2) (e:=111) (ls:=[⟨⟨#[105,100]⟩,2⟩,⟨⟨#[110]⟩,2⟩,⟨⟨#[115]⟩,3⟩,⟨⟨#[98]⟩,1⟩]) (Nat.le_refl _) (show 4≤maxLen by decide)) (cr k8 _) (dA (A:=[])) ?_;exact nA

end Go.Proofs.YtbcmjoaggammcaaGreatDoor.Pc
namespace Go.Proofs.YtbcmjoaggammcaaGreatDoor.Ex
open List
open Go.Proofs.Tryz
open Go.RowKit V Pk Vl Go.Proofs.YtbcmjoaggammcaaGreatDoor.Nm Pc
variable {k:Int} {a b:Vl} {l:List cu} {row:List Vl} {o:aV} {α:Type} {ks:List Int}
theorem GS(b:Bool):dB (pR b)=0:=by cases b<;>decide
theorem Zo(n:Int):dB ⟨2,n,⟨#[]⟩⟩=0:=aep n
theorem Eu(h:¬(k=8∨k=9∨k=10)):wu k=1:=if_neg h
theorem acJ(h:k=8∨k=9∨k=10):wu k=2:=if_pos h
theorem HO(b:Bool):(pR b).k=1:=by cases b<;>rfl
theorem DQ{v:Vl}(h:iG v=0):dB v=0:=by
 unfold iG at h;split at h
 ·cases h
 exact h
def jB(k:Int)(v:Vl):Prop:=dB v=0∧(v.k=k∨v.k=0)
theorem AT:jB 0 bP:=⟨E4,.inl rfl⟩
structure yN (l:List cu) (o:aV):Prop where
 nm:o.nm.size≤maxLen
 ok:o.v.Ok
 ck:dB o.v=0
 k1:1≤o.k
 k2:o.k≤11
 WJ:o.k=2→0≤bL l o.nm
def E5(l:List cu)(row:List Vl):Prop:=∀i:Nat,jB (l.getD i ⟨⟨#[]⟩,0⟩).k (row.getD i bP)
theorem yO{a b:Int}(h:q9 a b=true):a=b∨a=0:=by
 unfold q9 at h;simpa using h
theorem Yo{d:Int}(ha:dB a=0)(hb:dB b=0)(h1:a.k=1∨a.k=0)(h2:b.k=1∨b.k=0):(kQ a b d).2=0∧jB 1 (kQ a b d).1:=by
 unfold kQ;rw[if_neg w4];split
 ·exact⟨rfl,ha,h1⟩
 split
 ·exact⟨rfl,hb,h2⟩
 split
 ·exact⟨rfl,E4,.inr rfl⟩
 exact⟨rfl,ha,h1⟩
theorem acK(ha:dB a=0)(hb:dB b=0):Cd.mo a b=0:=by unfold Cd.mo;rw[ha,hb];rfl
theorem Zp(h:Cd.mo a b=0)(hk:k=3∨k=4):∃d,gY k a b=kQ a b d:=by
 unfold gY;rw[if_neg (by simp[h])];rcases hk with rfl|rfl
 ·exact⟨0,if_pos rfl⟩
 exact⟨1,by rw[if_neg w7,if_pos rfl]⟩
theorem aa3(h:Cd.mo a b=0)(hk:k=6∨k=7):gY k a b=if qC a b=true then (bP,0) else if a.k≠b.k then (bP,4) else (pR ((Cd.gl a b==0&&k==6)||(decide (Cd.gl a b<0)&&k==7)),0):=by
 unfold gY;rw[if_neg (by simp[h]),if_neg w4,if_neg w4,if_pos hk]
theorem Zq(hr:E5 l row)(ho:yN l o){a b:Int}{E vb:Vl}(ha:jB a E)(hb:jB b vb)(h:(iO l o a b).2=0) :
  (fO l row o E vb).2=5∨((fO l row o E vb).2=0∧jB (iO l o a b).1 (fO l row o E vb).1):=by
 have k1:=ho.k1;have k2:=ho.k2;obtain⟨ca,ka⟩:=ha;obtain⟨cb,kb⟩:=hb;have O:=acK ca cb;unfold iO at h ⊢;by_cases e1:o.k=1
 ·rw[if_pos e1];have:fO l row o E vb=(o.v,0):=(by unfold fO bN;rw[if_neg w4,if_neg (by rw[if_pos (.inl e1)];omega),if_neg w4]<;>(try rw[if_pos (.inl e1)];omega))
  rw[this];exact .inr ⟨rfl,ho.ck,.inl rfl⟩
 rw[if_neg e1] at h ⊢;by_cases e2:o.k=2
 ·rw[if_pos e2] at h ⊢;have hp:bN o.k=0:=(by unfold bN;rw[if_pos (.inr e2)])
  have hc:=ho.WJ e2;have:fO l row o E vb=(row.getD (bL l o.nm).toNat bP,0):=(by unfold fO;rw[if_neg w4,if_neg w4,if_pos e2])
  rw[this];unfold uD;rw[if_neg w4];exact .inr ⟨rfl,hr _⟩
 rw[if_neg e2] at h ⊢;have aQ:okF o.k a b=true:=by
  by_cases hk:okF o.k a b=true
  ·exact hk
  rw[if_neg hk] at h;cases h
 rw[if_pos aQ];unfold okF at aQ;by_cases I:o.k=5∨o.k=11
 ·have hp:bN o.k=1:=(by unfold bN;rw[if_neg w4,if_pos I])
  have he:fO l row o E vb=tu o.k E:=(by unfold fO;rw[if_pos hp])
  rw[he];unfold tu;rw[if_neg (by simp[ca])];rcases I with I|I
  ·have U:¬(o.k=3∨o.k=4):=(by omega)
   have Z:¬o.k=11:=(by omega)
   rw[if_neg U,if_pos I] at aQ;have hi:=yO aQ;rw[if_neg Z,if_pos I,Eu w4];by_cases z:E.k=0
   ·rw[if_pos z];exact .inr ⟨rfl,ca,.inr z⟩
   rw[if_neg z,if_pos w4];exact .inr ⟨rfl,GS _,.inl (HO _)⟩
  rw[if_pos I,Eu w4];exact .inr ⟨rfl,GS _,.inl (HO _)⟩
 have hp:bN o.k=2:=(by unfold bN;rw[if_neg w4,if_neg I])
 have he:fO l row o E vb=gY o.k E vb:=(by unfold fO;rw[if_neg w4,if_pos hp])
 rw[he];by_cases e3:o.k=3∨o.k=4
 ·rw[if_pos e3,Bool.and_eq_true] at aQ;have i1:=yO aQ.1;have i2:=yO aQ.2;obtain⟨d,hd⟩:=Zp O e3;rw[hd,Eu w4];exact .inr (Yo ca cb w4 w4)
 have n5:¬o.k=5:=(by omega)
 rw[if_neg e3,if_neg n5] at aQ;by_cases e6:o.k=6∨o.k=7
 ·rw[if_pos e6,Bool.or_eq_true] at aQ;rw[aa3 O e6,Eu w4];by_cases hn:qC E vb=true
  ·rw[if_pos hn];exact .inr ⟨rfl,E4,.inr rfl⟩
  rw[if_neg hn];unfold qC at hn;simp only[Bool.or_eq_true,beq_iff_eq,not_or] at hn;have kV:E.k=vb.k:=by
   rcases aQ with aQ|aQ
   ·have:=yO aQ;omega
   have:b=0:=(by simpa using aQ)
   omega
  rw[if_neg (by simpa using kV)];exact .inr ⟨rfl,GS _,.inl (HO _)⟩
 have e8:o.k=8∨o.k=9∨o.k=10:=(by omega)
 rw[if_neg e6,if_pos e8,Bool.and_eq_true] at aQ;have i1:=yO aQ.1;have i2:=yO aQ.2;rw[NW O e8 w4,acJ e8];split
 ·exact .inr ⟨rfl,E4,.inr rfl⟩
 split
 ·exact .inr ⟨rfl,Zo _,.inl rfl⟩
 exact .inl rfl
theorem IE{z:α}{f:aV→α→α→α × Int}{r:List aV}{st:List α}(h:(f o (fa z o.k st) (eS z o.k st)).2=0):js z f (o::r) st=js z f r (st.take (st.length-(bN o.k).toNat)++[(f o (fa z o.k st) (eS z o.k st)).1]):=by
 rw[js,if_neg (by rw[h];simp)]
theorem HP{z:α}{f:aV→α→α→α × Int}{r:List aV}{st:List α}(h:(f o (fa z o.k st) (eS z o.k st)).2≠0):js z f (o::r) st=(z,(f o (fa z o.k st) (eS z o.k st)).2):=by
 rw[js,if_pos h]
def BE(ks:List Int)(vs:List Vl):Prop:=ks.length=vs.length∧∀i:Nat,jB (ks.getD i 0) (vs.getD i bP)
theorem PU(z x:α)(l:List α)(n i:Nat)(hn:n≤l.length):(l.take n++[x]).getD i z=if i<n then l.getD i z else if i=n then x else z:=by
 have hl:(l.take n).length=n:=(by rw[length_take];omega)
 by_cases h1:i<n
 ·rw[if_pos h1,getD_eq_getElem?_getD,getD_eq_getElem?_getD,getElem?_append_left w4,getElem?_take,if_pos h1]
 rw[if_neg h1,getD_eq_getElem?_getD,getElem?_append_right w4,hl];by_cases h2:i=n
 ·rw[if_pos h2,h2,Nat.sub_self];rfl
 rw[if_neg h2,getElem?_eq_none (by rw[length_singleton];omega)];rfl
theorem acL{vs:List Vl}(h:BE ks vs){v:Vl}(hr:jB k v){n:Nat}(hn:n≤ks.length):BE (ks.take n++[k]) (vs.take n++[v]):=by
 have hl:=h.1;refine⟨by simp only[length_append,length_take,length_singleton];omega,fun i=>?_⟩;rw[PU _ _ _ _ _ hn,PU _ _ _ _ _ w4];split
 ·exact h.2 i
 split
 ·exact hr
 exact AT
theorem acM{vs:List Vl}(h:BE ks vs)(k:Int):jB (fa 0 k ks) (fa bP k vs)∧jB (eS 0 k ks) (eS bP k vs):=by
 have hl:=h.1;unfold fa eS;rw[hl];refine⟨?_,?_⟩
 ·split
  ·exact h.2 _
  exact AT
 split
 ·exact h.2 _
 exact AT
theorem Oq{l:List cu}{row:List Vl}(hr:E5 l row):∀(ops:List aV),(∀o∈ops,yN l o)→∀(ks:List Int) (vs:List Vl),BE ks vs→(js 0 (iO l) ops ks).2=0 →
  (js bP (fO l row) ops vs).2=5∨((js bP (fO l row) ops vs).2=0∧jB (js 0 (iO l) ops ks).1 (js bP (fO l row) ops vs).1)
 | [],_,ks,vs,h,_=>.inr ⟨rfl,h.2 0⟩
 | o::r,hg,ks,vs,h,h0=>by
  obtain⟨hA,hB⟩:=acM h o.k;by_cases hm:(iO l o (fa 0 o.k ks) (eS 0 o.k ks)).2=0
  ·rw[IE hm] at h0 ⊢;rcases Zq hr (hg o mem_cons_self) hA hB hm with h5|⟨hz,E⟩
   ·rw[HP (by rw[h5];decide)];exact .inl h5
   rw[IE hz];have:=acL h E (n:=ks.length-(bN o.k).toNat) (Nat.sub_le _ _);rw[show vs.length-(bN o.k).toNat=ks.length-(bN o.k).toNat by rw[h.1]];exact Oq hr r (fun x hx=>hg x (mem_cons_of_mem _ hx)) _ _ this h0
  rw[HP hm] at h0;exact absurd h0 hm
theorem aa4(ho:yN l o)(a b:Int):(iO l o a b).2=0∨(iO l o a b).2=4:=by
 unfold iO;split
 ·exact .inl rfl
 split
 ·rename_i h2;have:=ho.WJ h2;unfold uD;rw[if_neg w4];exact .inl rfl
 split
 ·exact .inl rfl
 exact .inr rfl
theorem PV{l:List cu}:∀(ops:List aV),(∀o∈ops,yN l o)→∀ks,(js 0 (iO l) ops ks).2=0∨(js 0 (iO l) ops ks).2=4
 | [],_,ks=>.inl rfl
 | o::r,hg,ks=>by
  rw[js];split
  ·rename_i hne;rcases aa4 (hg o mem_cons_self) (fa 0 o.k ks) (eS 0 o.k ks) with h|h
   ·exact absurd h hne
   exact .inr h
  exact PV r (fun x hx=>hg x (mem_cons_of_mem _ hx)) _
theorem acN:BE [] []:=⟨rfl,fun i=>by rw[getD_nil,getD_nil];exact AT⟩
theorem Zr{ops:List aV}(hl:fw l=0)(hw:dU l row=0)(hr:E5 l row)(hg:∀o∈ops,yN l o)(hx:iF ops=0) :
  dZ l ops=tc l ops∧((dZ l ops).2=0∨(dZ l ops).2=4)∧((dZ l ops).2=4→fh l row ops=(bP,4)) ∧
  ((dZ l ops).2=0→fh l row ops=uM l row ops∧((fh l row ops).2=5∨((fh l row ops).2=0∧jB (dZ l ops).1 (fh l row ops).1))):=by
 have hk:dZ l ops=tc l ops:=(by unfold dZ;rw[if_neg (by simp[hl]),if_neg (by simp[hx])])
 refine⟨hk,by rw[hk];exact PV ops hg [],fun h4=>?_,fun h0=>?_⟩
 ·unfold fh;rw[if_neg (by simp[hw]),if_pos yR,h4]
 have he:fh l row ops=uM l row ops:=(by unfold fh;rw[if_neg (by simp[hw]),if_neg (by simp[h0])])
 refine⟨he,?_⟩;rw[he,hk];exact Oq hr ops hg [] [] acN (by rw[hk] at h0;exact h0)
/-! ### Ops of twigs, the columns and rows of the statements -/

end Go.Proofs.YtbcmjoaggammcaaGreatDoor.Ex
namespace Go.Proofs.YtbcmjoaggammcaaGreatDoor.Pc
open List
open Go.Proofs.Tryz
open Go.RowKit V Pk Vl Go.Proofs.YtbcmjoaggammcaaGreatDoor.Nm
abbrev TypesTab(w:World):Prop:=Tab.mj w 0 typesC

end Go.Proofs.YtbcmjoaggammcaaGreatDoor.Pc
namespace Go.Proofs.YtbcmjoaggammcaaGreatDoor.Ex





open List
open Go.Proofs.Tryz
open Go.RowKit V Pk Vl Go.Proofs.YtbcmjoaggammcaaGreatDoor.Nm Pc Cd
open Go.Lib (compareBytes)
variable {ops:List aV} {k:List UInt8}
def nc(ops:List aV)(i:Nat):Int:=(ops.getD i (qx 0)).k
def iH(ops:List aV):Nat→Int→Nat
 | 0,_=>0
 | i+1,need=>if need+(bN (nc ops i)-1)>0 then iH ops i (need+(bN (nc ops i)-1)) else i
theorem uA{i:Nat}(h:i<ops.length):nc ops i=ops[i].k:=by unfold nc;rw[getD_eq_getElem?_getD,getElem?_eq_getElem h];rfl
theorem SL{h h':Int}{o:aV}(he:eX h o=0)(hp:bN o.k≤h'):eX h' o=0:=by
 unfold eX at he ⊢;split at he
 ·cases he
 rename_i q1;rw[if_neg q1];split at he
 ·rename_i h2;exact absurd he h2
 rename_i q2;rw[if_neg q2];split at he
 ·cases he
 rename_i E;rw[if_neg E];split at he
 ·rename_i h4;exact absurd he h4.2
 rename_i I;rw[if_neg I,if_neg w4]
theorem Hj{n:Nat}{h:Int}(hn:n<ops.length)(e:runs 0 (ops.take (n+1))=some h):∃h',runs 0 (ops.take n)=some h'∧eX h' ops[n]=0∧h=h'+(1-bN ops[n].k):=by
 rw[take_succ_eq_append_getElem hn,xQ] at e;cases hr:runs 0 (ops.take n) with
 | none=>rw[hr] at e;cases e
 | some h' =>
  rw[hr,Option.bind_some,runs] at e;split at e
  ·rename_i he;rw[runs] at e;cases e;exact⟨h',rfl,he,rfl⟩
  cases e
theorem PW{ops:List aV}:∀(n:Nat) (need h:Int),n≤ops.length→runs 0 (ops.take n)=some h→1≤need→need≤h →
  iH ops n need<n∧runs 0 (ops.take (iH ops n need))=some (h-need)∧∀k:Int,0≤k→runs k ((ops.take n).drop (iH ops n need))=some (k+need)
 | 0,need,h,_,e,h1,h2=>by rw[List.take_zero,runs] at e;cases e;omega
 | n+1,need,h,hn,e,h1,h2=>by
  have aa:n<ops.length:=(by omega)
  obtain⟨h',e1,e2,U⟩:=Hj aa e;have I:=sU ops[n].k;have qV:=(vK e2).1;have E:∀m,m≤n→(ops.take (n+1)).drop m=(ops.take n).drop m++[ops[n]]:=fun m hm=>by
   rw[take_succ_eq_append_getElem aa,drop_append,show m-(ops.take n).length=0 by rw[length_take];omega,drop_zero]
  rw[iH,uA aa];by_cases hc:need+(bN ops[n].k-1)>0
  ·rw[if_pos hc];obtain⟨q1,q2,O⟩:=PW n (need+(bN ops[n].k-1)) h' w4 e1 w4 w4;refine⟨by omega,by rw[q2];congr 1;omega,fun k hk=>?_⟩;rw[E _ w4,xQ,O k hk,Option.bind_some,runs,if_pos (SL e2 w4),runs];congr 1;omega
  rw[if_neg hc];refine⟨by omega,by rw[e1];congr 1;omega,fun k hk=>?_⟩;rw[E n (Nat.le_refl _),drop_of_length_le nT,nil_append,runs,if_pos (SL e2 w4),runs];congr 1;omega
def lO(key:ByteArray)(o:aV):Bool:=o.k==2&&o.nm.toList==key.toList
def gz(o:aV):Bool:=o.k==1 && !(o.v.k==0)
abbrev kL:=List UInt8×List UInt8
variable {b:kL}
def nQ(k:List UInt8)(b:kL):kL:=if compareBytes k b.1>0 then (k,b.2) else b
def rI(k:List UInt8)(b:kL):kL:=if b.2.length=0∨compareBytes k b.2<0 then (b.1,k) else b
def uS(kc:Int)(eq not:Bool)(k:List UInt8)(b:kL):kL :=
 bif eq||(kc==0)!=not then rI k (bif eq||(kc==0)==not then nQ k b else b) else bif eq||(kc==0)==not then nQ k b else b
def za(ops:List aV):List UInt8:=(fL [(ops.getD (dM gz (ops.take 2)).toNat (qx 0)).v]).1
def mN(key:ByteArray)(ops:List aV)(not:Bool)(b:kL):kL :=
 if ops.length≠3∨(not=true∧nc ops (ops.length-1)≠7)∨(nc ops (ops.length-1)≠6∧nc ops (ops.length-1)≠7) then b
 else if dM (lO key) (ops.take 2)<0∨dM gz (ops.take 2)<0 then b
 else uS (dM (lO key) (ops.take 2)) (nc ops (ops.length-1)==6) not (za ops) b
def fS(key:ByteArray):Nat→List aV→kL→kL
 | 0,_,b=>b
 | f+1,ops,b =>
  if nc ops (ops.length-1)=3 then fS key f ((ops.take (ops.length-1)).drop (iH ops (ops.length-1) 1)) (fS key f (ops.take (iH ops (ops.length-1) 1)) b)
  else if nc ops (ops.length-1)=5 then mN key (ops.take (ops.length-1)) true b
  else mN key ops false b
variable {G:List (Nat×List Value)} {m:Int}
theorem Zs(ops:List aV)(pE:ops.length≤40)(n:Nat)(hn:n≤ops.length)(h:Int)(hr:runs 0 (ops.take n)=some h)(h1:1≤h):VP Tryz.prog G 169 [.list 5 (ops.flatMap cO) ops.length,.v (.int .i64 (n:Nat))] (.v (.int .i64 (iH ops n 1:Nat))):=by
 refine VC.body func169 rfl ntmps169 aO fun X0 w0 aZ=>?_;refine ae [0,1] ?_;refine ae [0,5] ?_;refine ae [0,5,6] ?_;refine eH [0] (fun aW _ (E:Nat×Int) aK=>match E with|(i,need)=>(i≤n)∧(0≤need)∧(need≤1+2*((n:Int)-i))∧((need=0∧iH ops n 1=i)∨(1≤need∧iH ops n 1=iH ops i need∧∃h,runs 0 (ops.take i)=some h∧need≤h))∧aK=(⟨22,(5,.v (.int .i64 (i:Nat)))::(6,.v (.int .i64 need))::aW,[]⟩:St)) (fun (E:Nat×Int)=>match E with|(i,need)=>i) (n,1) ⟨(Nat.le_refl _),w7,w4,(.inr ⟨by decide,rfl,h,hr,h1⟩),rfl⟩ ?_;rintro⟨i,need⟩ _ ⟨hi,gv,Ws,hinv,rfl⟩;refine ae [0,5,6,9] ?_;refine aq (fun az aG=>?_) (fun az aG=>?_)
 ·obtain⟨hz,_⟩|⟨gb,I,h2,e1,e2⟩:=hinv
  ·omega
  have Mz:0<i:=(by rcases Nat.eq_zero_or_pos i with rfl|h;rw[List.take_zero,runs] at e1;cases e1;omega;exact h)
  have O:-9223372036854775808≤((i-1:Nat):Int):=(by omega)
  have U:((i-1:Nat):Int)≤9223372036854775807:=(by omega)
  have jU:(i:Int)-1=((i-1:Nat):Int):=(by omega)
  have aa:i-1<ops.length:=(by omega)
  have Cx:=sU ops[i-1].k;obtain⟨h3,e3,e4,e5⟩:=Hj aa (by rw[show i-1+1=i by omega];exact e1);have qV:=(vK e4).1;have Z:iH ops i need=if need+(bN ops[i-1].k-1)>0 then iH ops (i-1) (need+(bN ops[i-1].k-1)) else i-1:=by obtain⟨j,rfl⟩:∃j,i=j+1:=⟨i-1,by omega⟩;rw[iH,uA w4];rfl
  have ny:(need+(bN ops[i-1].k-1)=0∧iH ops n 1=i-1)∨(1≤need+(bN ops[i-1].k-1)∧iH ops n 1=iH ops (i-1) (need+(bN ops[i-1].k-1))∧∃h,runs 0 (ops.take (i-1))=some h∧need+(bN ops[i-1].k-1)≤h):=(by (by_cases hc:need+(bN ops[i-1].k-1)>0);exact .inr ⟨by omega,by rw[I,Z,if_pos hc],h3,e3,by omega⟩;exact .inl ⟨by omega,by rw[I,Z,if_neg hc]⟩)
  refine cL [0,5,6] ?_;refine aP 1 ?_ (h:=by exact(cX rfl ot bH (fV (r:=((i-1:Nat):Int)) (by rw[jU];exact wrap_i64 O U))));refine bG ?_;refine ij [0,5,6] ?_;refine cU (D7 ops[i-1].k) ?_;refine bG ?_;refine⟨((i-1),(need+(bN ops[i-1].k-1))),_,cz,aM,w4,w4,w4,ny,rfl⟩
 have aS:iH ops n 1=i:=(by rcases hinv with ⟨_,h⟩|⟨h,_⟩;exact h;omega)
 refine ae [4] ?_;exact tN
theorem Ot(ls:List aV)(g:Nat)(E:List D)(S:List ag)(p:aV→Bool)(fg:∀args w,(callFunc g args).run Tryz.prog w = .ok (.enter g args) w)(hp:∀x∈ls,VC Tryz.prog G g (.agg (cO x)::E) S (fun r S'=>r = .v (.bool (p x))∧S'=S))(hlen:ls.length≤1000000):VC Tryz.prog G 170 [.list 5 (ls.flatMap cO) ls.length,.ek (.func g) E] S (fun r S'=>r = .v (.int .i64 (dM p ls))∧S'=S):=by
 refine VC.body func170 rfl ntmps170 aO fun X0 w0 aZ=>?_;unfold cO at hp;exact Va
theorem Zt(o:aV)(nm:ByteArray)(b:Nat):VC Tryz.prog G 171 [.agg (cO o),.v (.pointer (some ⟨b,0,none⟩))] [⟨b,9,1,[.v (.string nm)]⟩] (fun r S=>r = .v (.bool (lO nm o))∧S=[⟨b,9,1,[.v (.string nm)]⟩]):=by
 refine VC.body func171 rfl ntmps171 aO fun X0 w0 aZ=>?_;unfold cO lO;refine cj ?_;refine OD.box (ds:=[_,_,_,_,_]) an rfl rfl ot rfl rfl (fun b2=>?_);refine aj 13 [1,2] ?_;refine aC 4 ?_;refine bS 7 (fun I E=>?_) (fun I E=>?_)
 ·refine aY [3] ?_;refine aJ [⟨b,9,1,[.v (.string nm)]⟩] ?_;first|exact⟨rfl,rfl⟩|(refine⟨vb ?_,rfl⟩;simp_all)
 refine aY [3] ?_;refine aJ [⟨b,9,1,[.v (.string nm)]⟩] ?_;first|exact⟨rfl,rfl⟩|(refine⟨vb ?_,rfl⟩;simp_all)
theorem Zu(o:aV):VC Tryz.prog G 172 [.agg (cO o)] [] (fun r S=>r = .v (.bool (gz o))∧S=[]):=by
 refine VC.body func172 rfl ntmps172 aO fun X0 w0 aZ=>?_;unfold cO gz;refine cj ?_;refine OD.box (ds:=[_,_,_,_,_]) an rfl rfl ot rfl rfl (fun b1=>?_);refine aj 12 [1] ?_;refine aC 4 ?_;refine bS 6 (fun I E=>?_) (fun I E=>?_)
 ·refine aY [2] ?_;refine eE ?_;first|exact⟨rfl,rfl⟩|(refine⟨vb ?_,rfl⟩;simp_all;done)|(refine⟨vb ?_,rfl⟩;simp_all;rfl)
 refine aY [2] ?_;refine eE ?_;first|exact⟨rfl,rfl⟩|(refine⟨vb ?_,rfl⟩;simp_all;done)|(refine⟨vb ?_,rfl⟩;simp_all;rfl)
theorem QA(a b:List UInt8):VP Tryz.prog G 35 [.list 1 (a.flatMap cB) a.length,.list 1 (b.flatMap cB) b.length] (.v (.int .i64 (compareBytes a b))):=by
 exact Uc
theorem Zv:(Tryz.prog.info? 5).map (fun i=>(i.zero,i.size,i.bytes))=some (some (.int .u8 0),1,1):=by kernel_rfl
theorem HE(a:List UInt8)(ha:a.length≤1000):VP Tryz.prog G 59 [.list 1 (a.flatMap cB) a.length] (.list 1 (a.flatMap cB) a.length):=by
 refine VC.body func59 rfl ntmps59 aO fun X0 w0 aZ=>?_;have dr:maxLen=9223372036854775807:=rfl;refine ae [0] ?_;refine aC 1 ?_;refine OD.yF an rfl rfl ot bH underlying49 (fun O xj=>?_);refine aj 8 [0,4] ?_;refine aq (fun az aG=>?_) (fun az aG=>?_)
 ·exact VN
 refine cj ?_;refine OD.yG an rfl rfl runUnderlying49 sizeOf5 (fun b5=>?_);refine aD 1 ?_;refine OD.oO (ls:=([]:List UInt8)) (new:=a) (Sq:=[⟨b5,5,0*1,[]⟩]) oU vS an rfl rfl underlying49 Zv rfl w7 runUnderlying49 sizeOf5 ot (.inr ⟨b5,rfl,Nat.le_refl _,Nat.zero_le _,rfl⟩) (dA (A:=[])) ot gN gN (fun E I S7 pz=>?_);exact Ud
theorem Ep(l:List Vl):(fL l).1.length≤100:=by
 unfold fL;split
 ·simp
 split
 ·simp
 split
 ·simp
 simpa using by omega
theorem acO(hk:k.length≤100)(h1:b.1.length≤100)(h2:b.2.length≤100):(nQ k b).1.length≤100∧(nQ k b).2.length≤100:=by unfold nQ;split<;>exact⟨by assumption,by assumption⟩
theorem PX(hk:k.length≤100)(h1:b.1.length≤100)(h2:b.2.length≤100):(rI k b).1.length≤100∧(rI k b).2.length≤100:=by unfold rI;split<;>exact⟨by assumption,by assumption⟩
theorem acP{E:Int}{eq not:Bool}(hk:k.length≤100)(h1:b.1.length≤100)(h2:b.2.length≤100):(uS E eq not k b).1.length≤100∧(uS E eq not k b).2.length≤100:=by
 unfold uS;have q1:=acO hk h1 h2;have q2:=PX hk h1 h2;have I:=PX hk q1.1 q1.2;cases(eq||(E==0)!=not)<;>cases(eq||(E==0)==not)
 ·exact⟨h1,h2⟩
 ·exact q1
 ·exact q2
 exact I
theorem x6{key:ByteArray}{not:Bool}(h1:b.1.length≤100)(h2:b.2.length≤100):(mN key ops not b).1.length≤100∧(mN key ops not b).2.length≤100:=by
 unfold mN;split
 ·exact⟨h1,h2⟩
 split
 ·exact⟨h1,h2⟩
 exact acP (Ep _) h1 h2
theorem IF(key:ByteArray):∀(f:Nat) (ops:List aV) (b:kL),b.1.length≤100→b.2.length≤100→(fS key f ops b).1.length≤100∧(fS key f ops b).2.length≤100
 | 0,_,b,h1,h2=>⟨h1,h2⟩
 | f+1,ops,b,h1,h2=>by
  rw[fS];split
  ·have q:=IF key f (ops.take (iH ops (ops.length-1) 1)) b h1 h2;exact IF key f _ _ q.1 q.2
  split
  ·exact x6 h1 h2
  exact x6 h1 h2
theorem D8(h:runs 0 ops=some 1):1≤ops.length:=by
 cases ops with
 | nil=>rw[runs] at h;cases h
 | cons=>simp
theorem PY(h:runs 0 ops=some 1):∃(hn:ops.length-1<ops.length),runs 0 (ops.take (ops.length-1))=some (bN ops[ops.length-1].k):=by
 have hp:=D8 h;have aa:ops.length-1<ops.length:=(by omega)
 refine⟨aa,?_⟩;obtain⟨h',e1,e2,E⟩:=Hj aa (by rw[show ops.length-1+1=ops.length by omega,take_length];exact h);rw[e1];congr 1;omega
theorem acQ(h:runs 0 ops=some 1)(hk:nc ops (ops.length-1)=3):iH ops (ops.length-1) 1<ops.length-1∧runs 0 (ops.take (iH ops (ops.length-1) 1))=some 1∧runs 0 ((ops.take (ops.length-1)).drop (iH ops (ops.length-1) 1))=some 1∧runs 0 (ops.take (ops.length-1))=some 2:=by
 obtain⟨hn,e⟩:=PY h;rw[uA hn] at hk;rw[hk] at e;obtain⟨q1,q2,E⟩:=PW (ops.length-1) 1 2 w4 e w7 w7;exact⟨q1,q2,E 0 w7,e⟩
variable {key:ByteArray}
theorem aeq{ls:List aV}{j:Nat}(h:j<ls.length):((ls.flatMap cO).drop (j*5+1)).take 3=cV ls[j].v:=by
 rw[←drop_drop,uu mL,drop_eq_getElem_cons h,flatMap_cons];rfl
theorem aa5(hG:(1,[Value.int .i64 m])∈G)(key:ByteArray)(f:Nat)(hf:f≤40)(IH:∀(ops:List aV) (lo hi:List UInt8),ops.length≤f→runs 0 ops=some 1→(∀o∈ops,o.v.Ok)→lo.length≤100→hi.length≤100→∀b0,VC Tryz.prog G 146 [.v (.pointer (some ⟨b0,0,none⟩)),.v (.string key),.list 5 (ops.flatMap cO) ops.length] [⟨b0,224,2,[.list 1 (lo.flatMap cB) lo.length,.list 1 (hi.flatMap cB) hi.length]⟩] (fun r S=>r = .dy []∧S=[⟨b0,224,2,[.list 1 ((fS key f ops (lo,hi)).1.flatMap cB) (fS key f ops (lo,hi)).1.length,.list 1 ((fS key f ops (lo,hi)).2.flatMap cB) (fS key f ops (lo,hi)).2.length]⟩]))(ops:List aV)(lo hi:List UInt8)(hl:ops.length≤f+1)(pE:ops.length≤40)(hr:runs 0 ops=some 1)(aQ:∀o∈ops,o.v.Ok)(eO:lo.length≤100)(er:hi.length≤100)(b0:Nat):VC Tryz.prog G 146 [.v (.pointer (some ⟨b0,0,none⟩)),.v (.string key),.list 5 (ops.flatMap cO) ops.length] [⟨b0,224,2,[.list 1 (lo.flatMap cB) lo.length,.list 1 (hi.flatMap cB) hi.length]⟩] (fun r S=>r = .dy []∧S=[⟨b0,224,2,[.list 1 ((fS key (f+1) ops (lo,hi)).1.flatMap cB) (fS key (f+1) ops (lo,hi)).1.length,.list 1 ((fS key (f+1) ops (lo,hi)).2.flatMap cB) (fS key (f+1) ops (lo,hi)).2.length]⟩]):=by
 refine VC.body func146 rfl ntmps146 aO fun X0 w0 aZ=>?_;have hp0:=D8 hr;obtain⟨gb,WK⟩:=PY hr;have I:=uA gb;have dr:maxLen=9223372036854775807:=rfl;have Cx:=sU ops[ops.length-1].k;refine cj ?_;refine OD.box (ds:=[_]) an rfl rfl ot rfl rfl (fun b4=>?_);refine aj 155 [0,2,4] ?_;refine cL [0,2,4,6] ?_;refine aP 2 ?_ (h:=by exact(cX rfl ot bH (fV (r:=((ops.length-1:Nat):Int)) (by rw[show((ops.length:Nat):Int)-1=((ops.length-1:Nat):Int) by omega];exact wrap_i64 w4 w4))));refine bG ?_;refine ae [0,2,4,6,22] ?_;refine aq (fun az aG=>?_) (fun az aG=>?_)
 ·have lF:nc ops (ops.length-1)=3:=(by rw[I];omega)
  obtain⟨CJ,V0,hm3,hm4⟩:=acQ hr lF;have aS:(fS key (f+1) ops (lo,hi))=fS key f ((ops.take (ops.length-1)).drop (iH ops (ops.length-1) 1)) (fS key f (ops.take (iH ops (ops.length-1) 1)) (lo,hi)):=(by rw[fS,if_pos lF])
  have CK:=IF key f (ops.take (iH ops (ops.length-1) 1)) (lo,hi) eO er;refine cM [0,2,4,6,7] (Zs ops w4 (ops.length-1) w4 2 hm4 w7) ?_;refine CD.seq ?_;refine lX 5 [0,2,4,6,7,26,27,30] ?_;refine aP 4 ?_ (h:=by exact(dY (l:=0) rfl ot trivial ⟨_,ot⟩ FR));refine jQ ?_;refine OD.call an rfl rfl rfl call146 (IH (ops.take (iH ops (ops.length-1) 1)) (lo) (hi) (by simp only[length_drop,length_take];omega) V0 (fun o ho=>aQ o (mem_of_mem_take ho)) w4 w4 b0) ⟨ot,ot,ot,trivial⟩ (jX (k:=1) rfl) ?_;rintro _ _ ⟨rfl,rfl⟩;refine aj 155 [0,2,4,6,7] ?_;refine CD.seq ?_;refine lX 6 [32,33,37] ?_;refine aP 5 ?_ (h:=by exact(dY (l:=(iH ops (ops.length-1) 1)) (h:=(ops.length-1)) rfl ot ⟨_,ot⟩ ⟨_,ot⟩ (ad9 mL (fun h=>by cases h) (fun h=>by cases h) runUnderlying40 sizeOf61 w4 w4)));refine jQ ?_;refine OD.call an rfl rfl rfl call146 (IH ((ops.take (ops.length-1)).drop (iH ops (ops.length-1) 1)) ((fS key f (ops.take (iH ops (ops.length-1) 1)) (lo,hi)).1) ((fS key f (ops.take (iH ops (ops.length-1) 1)) (lo,hi)).2) (by simp only[length_drop,length_take];omega) hm3 (fun o ho=>aQ o (mem_of_mem_take (mem_of_mem_drop ho))) w4 w4 b0) ⟨ot,ot,ot,trivial⟩ (jX (k:=0) rfl) ?_;rintro _ _ ⟨rfl,rfl⟩;refine aj 155 [] ?_;exact Vp
 have lF:¬nc ops (ops.length-1)=3:=(by rw[I];omega)
 refine ae [0,2,4,6,8] ?_;refine CD.cut (fun aK=>∃(bj:List aV),∃(nt:Bool),((fS key (f+1) ops (lo,hi))=mN key bj nt (lo,hi))∧(1≤bj.length)∧(bj.length≤40)∧(∀o∈bj,o.v.Ok)∧(bj.length-1<bj.length)∧aK=(⟨155,[(0,.v (.pointer (some ⟨b0,0,none⟩))),(2,.list 5 (bj.flatMap cO) bj.length),(4,.v (.pointer (some ⟨b4,0,none⟩))),(6,.v (.int .i64 ((bj.length-1):Nat))),(8,.v (.bool nt))],[⟨b4,9,1,[.v (.string key)]⟩,⟨b0,224,2,[.list 1 (lo.flatMap cB) lo.length,.list 1 (hi.flatMap cB) hi.length]⟩]⟩:St)) ?_ ?_
 ·refine ae [0,2,4,6,8,45] ?_;refine aq (fun aH aT=>?_) (fun aH aT=>?_)
  ·have U:nc ops (ops.length-1)=5:=(by rw[I];simpa using aH)
   have iB:2≤ops.length:=(by rw[←I,U] at WK;have:=D8 WK;rw[length_take] at this;omega)
   have zX:(fS key (f+1) ops (lo,hi))=mN key (ops.take (ops.length-1)) true (lo,hi):=(by rw[fS,if_neg lF,if_pos U])
   have ox:(ops.take (ops.length-1)).length=(ops.length-1):=(by rw[length_take];omega)
   refine cL [0,2,4,6,8] ?_;refine aP 2 ?_ (h:=by exact(dY (l:=0) rfl ot trivial ⟨_,ot⟩ FR));refine bG ?_;refine ij [0,2,4,6,8] ?_;refine aP 1 ?_ (h:=by exact(cX rfl ot bH (fV (r:=((ops.length-1-1:Nat):Int)) (by rw[show((ops.length-1:Nat):Int)-1=((ops.length-1-1:Nat):Int) by omega];exact wrap_i64 w4 w4))));refine bG ?_;refine⟨_,(aM (h:=by repeat (first|exact trivial|refine⟨(by (repeat (first|exact fu|(apply fN;focus (first|rfl|(rw[ox];done)|(rw[aH];done)))|(apply fE;focus rfl)));done),?_⟩))),(ops.take (ops.length-1)),true,zX,w4,w4,(fun o ho=>aQ o (mem_of_mem_take ho)),w4,rfl⟩
  have U:¬nc ops (ops.length-1)=5:=(by rw[I];simpa using aH)
  have zX:(fS key (f+1) ops (lo,hi))=mN key ops false (lo,hi):=(by rw[fS,if_neg lF,if_neg U])
  refine CD.skip ?_;refine⟨_,(aM (h:=by repeat (first|exact trivial|refine⟨(by (repeat (first|exact fu|(apply fN;focus (first|rfl|(rw[ox];done)|(rw[aH];done)))|(apply fE;focus rfl)));done),?_⟩))),ops,false,zX,hp0,pE,aQ,gb,rfl⟩
 rintro _ ⟨bj,nt,aS,nV,anY,jD,uT,rfl⟩;refine jI [0,2,4,6,8] (fun aW uc aK=>(¬(bj.length≠3∨(nt=true∧bj[bj.length-1].k≠7)∨(bj[bj.length-1].k≠6∧bj[bj.length-1].k≠7)))∧aK=(⟨155,aW,uc⟩:St)) ?_ ?_
 ·refine aC 3 ?_;refine bS 53 (fun Kv JG=>?_) (fun Kv JG=>?_)
  ·refine aY [0,2,4,6,8,79] ?_;refine ez ?_;exact z37
  refine aD 2 ?_;refine bS 55 (fun tq afG=>?_) (fun tq afG=>?_)
  ·refine aD 9 ?_;refine bS 64 (fun KC JJ=>?_) (fun KC JJ=>?_)
   ·refine aY [0,2,4,6,8,79] ?_;refine ez ?_;exact z37
   refine aD 7 ?_;exact Vk
  refine xn 6 ?_;refine aD 10 ?_;exact Vk
 rintro _ ⟨rP,rfl⟩;refine aC 1 ?_;refine bQ (dY (l:=0) (h:=2) rfl ot trivial ⟨_,bH⟩ FR) ?_;refine bQ (oP (ds:=[_]) rfl ⟨ot,trivial⟩) ?_;refine OD.call an rfl rfl rfl call170 (Ot (bj.take 2) 171 [.v (.pointer (some ⟨b4,0,none⟩))] _ (lO key) call171 (fun h _=>Zt h key b4) nT) ⟨ot,ot,trivial⟩ (jX (k:=0) rfl) ?_;rintro _ SS2 ⟨rfl,E⟩;rw[E];clear E;refine aj 155 [0,2,6,8,9] ?_;refine aC 1 ?_;refine bQ (dY (l:=0) (h:=2) rfl ot trivial ⟨_,bH⟩ FR) ?_;refine OD.call an rfl rfl rfl call170 (Ot (bj.take 2) 172 [] [] gz call172 (fun h _=>Zu h) nT) ⟨ot,sM,trivial⟩ (eK _) ?_;rintro _ SS2 ⟨rfl,E⟩;rw[E];clear E;refine aj 155 [0,2,6,8,9,10] ?_;refine aC 3 ?_;refine bS 89 (fun ah0 afH=>?_) (fun ah0 afH=>?_)
 ·refine aY [0,2,6,8,9,10,92] ?_;refine ez ?_;exact Ua
 refine aY [0,2,6,8,9,10,92] ?_;refine aq (fun bC bW=>?_) (fun bC bW=>?_)
 ·exact Ua
 have aX:¬((dM (lO key) (bj.take 2))<0∨(dM gz (bj.take 2))<0):=(by first|omega|(simp_all;omega)|simp_all)
 have hLb:=ym gz (bj.take 2);have Gc:bj.length=3:=(by omega)
 rw[length_take] at hLb;have O:(dM gz (bj.take 2)).toNat<bj.length:=(by omega)
 have Mc:za bj=(fL [bj[(dM gz (bj.take 2)).toNat].v]).1:=(by unfold za;rw[getD_eq_getElem?_getD,getElem?_eq_getElem O];rfl)
 have Th:(fS key (f+1) ops (lo,hi))=uS (dM (lO key) (bj.take 2)) (bj[bj.length-1].k==6) nt (fL [bj[(dM gz (bj.take 2)).toNat].v]).1 (lo,hi):=(by rw[aS];unfold mN;rw[uA uT,if_neg rP,if_neg aX,Mc])
 have xF:=SG hG [bj[(dM gz (bj.take 2)).toNat].v] gN (fun v hv=>by rw[mem_singleton] at hv;rw[hv];exact jD _ (getElem_mem O));have dR:=Ep [bj[(dM gz (bj.take 2)).toNat].v];unfold Fv AS at xF;refine cL [0,2,6,8,9,11] ?_;refine aP 2 ?_ (h:=by exact(dx 5 (h:=by first|exact .l (j:=(dM gz (bj.take 2)).toNat) w4 O|exact .r (j:=(dM gz (bj.take 2)).toNat) w4 O)));refine aP 1 ?_ (h:=by exact(cH (mk:=Op.load 30) rfl ot (pU isAgg30 sizeOf30 rfl (aeq O))));refine cU (xF) ?_;refine bG ?_;refine ae [0,8,9,11,13] ?_;refine jI [0,8,9,11,13] (fun aW _ aK=>∃(b1:kL),(b1=(bif (bj[bj.length-1].k==6)||(((dM (lO key) (bj.take 2))==0)==nt) then nQ (fL [bj[(dM gz (bj.take 2)).toNat].v]).1 (lo,hi) else (lo,hi)))∧(b1.1.length≤100)∧(b1.2.length≤100)∧aK=(⟨155,aW,[⟨b0,224,2,[.list 1 (b1.1.flatMap cB) b1.1.length,.list 1 (b1.2.flatMap cB) b1.2.length]⟩]⟩:St)) ?_ ?_
 ·refine aC 2 ?_;refine bS 110 (fun Ju Z=>?_) (fun Ju Z=>?_)
  ·refine aY [0,8,9,11,13,115] ?_;refine ez ?_;exact Vf
  refine aD 3 ?_;refine OD.still gH rfl (cX rfl ot ot (DY underlying4)) ?_;refine aj 155 [0,8,9,11,13,115] ?_;refine aq (fun cx c9=>?_) (fun cx c9=>?_)
  ·exact Vf
  have B7:(lo,hi)=(bif (bj[bj.length-1].k==6)||(((dM (lO key) (bj.take 2))==0)==nt) then nQ (fL [bj[(dM gz (bj.take 2)).toNat].v]).1 (lo,hi) else (lo,hi)):=(by rw[Ju,cx];rfl)
  refine CD.skip ?_;refine⟨_,aM,(lo,hi),B7,(by first|exact dR|exact eO),er,rfl⟩
 rintro _ ⟨b1,iT,anZ,an0,rfl⟩;refine aC 2 ?_;refine bS 129 (fun Jt aer=>?_) (fun Jt aer=>?_)
 ·refine aY [0,11,134] ?_;refine ez ?_;exact U8
 refine aD 3 ?_;refine OD.still gH rfl (cX rfl ot ot (Pf underlying4)) ?_;refine aj 155 [0,11,134] ?_;refine aq (fun eN fT=>?_) (fun eN fT=>?_)
 ·exact U8
 have Ls:((bj[bj.length-1].k==6) || !(((dM (lO key) (bj.take 2))==0)==nt))=false:=(by rw[Jt,eN];rfl)
 have sy:(fS key (f+1) ops (lo,hi))=b1:=(by rw[Th];unfold uS;rw[show((bj[bj.length-1].k==6)||((dM (lO key) (bj.take 2))==0)!=nt)=false from Ls,←iT];rfl)
 refine aJ [⟨b0,_,_,_⟩] ?_;refine⟨rfl,?_⟩;first|rw[sy]|rw[aS]
theorem SM(hG:(1,[Value.int .i64 m])∈G)(key:ByteArray):∀(f:Nat),f≤40→∀(ops:List aV) (lo hi:List UInt8),ops.length≤f→runs 0 ops=some 1→(∀o∈ops,o.v.Ok)→lo.length≤100→hi.length≤100→∀b0,VC Tryz.prog G 146 [.v (.pointer (some ⟨b0,0,none⟩)),.v (.string key),.list 5 (ops.flatMap cO) ops.length] [⟨b0,224,2,[.list 1 (lo.flatMap cB) lo.length,.list 1 (hi.flatMap cB) hi.length]⟩] (fun r S=>r = .dy []∧S=[⟨b0,224,2,[.list 1 ((fS key f ops (lo,hi)).1.flatMap cB) (fS key f ops (lo,hi)).1.length,.list 1 ((fS key f ops (lo,hi)).2.flatMap cB) (fS key f ops (lo,hi)).2.length]⟩]):=by
 intro f;induction f with
 | zero =>
  intro _ ops lo hi hl hr;have:=D8 hr;omega
 | succ f IH =>
  intro hf ops lo hi hl hr aQ eO er b0;exact aa5 hG key f w4 (IH w4) ops lo hi hl w4 hr aQ eO er b0
def iD(l:List cu)(ops:List aV):kL×Int :=
 if fw l≠0 then (([],[]),fw l) else if ops.length=0 then (([],[]),0) else if (dZ l ops).2≠0 then (([],[]),(dZ l ops).2)
 else if (dZ l ops).1≠1∧(dZ l ops).1≠0 then (([],[]),4) else (fS (l.getD 0 ⟨⟨#[]⟩,0⟩).n ops.length ops ([],[]),0)
def MA(r:kL×Int):D:=.dy [AS r.1.1,AS r.1.2,.v (.int .i64 r.2)]
theorem aa6{l:List cu}(h:fw l=0):0<l.length:=by
 unfold fw at h;split at h
 ·cases h
 omega
theorem Yp(h:iF ops=0):runs 0 ops=some 1:=by
  obtain⟨_,h0⟩:=vN h;have key:∀(l:List aV) (k:Int),fy k l=0→runs k l=some 1:=by
    intro l;induction l with
    | nil => intro k h; rw[fy] at h; split at h; · rename_i e; rw[runs, e]
             · cases h
    | cons o r ih =>
      intro k h;rw[fy] at h;split at h
      · rename_i e;rw[runs,if_pos e];exact ih _ h
      rename_i e;exact absurd h e
  exact key ops 0 h0
theorem Zw(hm:(3,marksC)∈G)(hw:(2,wordsC)∈G)(ht:(0,typesC)∈G)(hG:(1,[Value.int .i64 m])∈G)(l:List cu)(hl:l.length≤6)(I:∀c∈l,c.n.size≤maxLen)(ops:List aV)(ho:∀o∈ops,o.nm.size≤maxLen)(aQ:∀o∈ops,o.v.Ok):VP Tryz.prog G 121 [.list 2 (l.flatMap cC) l.length,.list 5 (ops.flatMap cO) ops.length] (MA (iD l ops)):=by
 refine VC.body func121 rfl ntmps121 aO fun X0 w0 aZ=>?_;have dr:maxLen=9223372036854775807:=rfl;have eZ:=Es hm hw ht l w4 I;have Z:=IC hm hw ht l hl I ops ho;unfold pi at Z;unfold MA AS;refine ae [0,1] ?_;refine cM [0,1,7] (eZ) ?_;refine ae [0,1,7,13] ?_;refine aq (fun az aG=>?_) (fun az aG=>?_)
 ·have h0:fw l≠0:=(by simpa using az)
  have aS:iD l ops=(([],[]),fw l):=(by unfold iD;rw[if_pos h0])
  exact z119
 have h0:¬fw l≠0:=(by simpa using az)
 have E:=aa6 (Classical.not_not.1 h0);refine ae [0,1,17] ?_;refine aq (fun aH aT=>?_) (fun aH aT=>?_)
 ·have h1:ops.length=0:=(by simpa using aH)
  have aS:iD l ops=(([],[]),0):=(by unfold iD;rw[if_neg h0,if_pos h1])
  exact z119
 have h1:¬ops.length=0:=(by simpa using aH)
 refine cM [0,1,6,8] (Z) ?_;refine ae [0,1,6,8,25] ?_;refine aq (fun aX bw=>?_) (fun aX bw=>?_)
 ·have h2:(dZ l ops).2≠0:=(by simpa using aX)
  have aS:iD l ops=(([],[]),(dZ l ops).2):=(by unfold iD;rw[if_neg h0,if_neg h1,if_pos h2])
  exact z119
 have h2:¬(dZ l ops).2≠0:=(by simpa using aX)
 obtain⟨k1,k2,k3⟩:=Et (Classical.not_not.1 h2);have zX:=Yp k2;obtain⟨pE,_⟩:=vN k2;refine aC 3 ?_;refine bS 29 (fun ah1 O=>?_) (fun ah1 O=>?_)
 ·refine aY [0,1,32] ?_;refine aq (fun bC bW=>?_) (fun bC bW=>?_)
  ·have h3:(dZ l ops).1≠1∧(dZ l ops).1≠0:=(by simp_all)
   have aS:iD l ops=(([],[]),4):=(by unfold iD;rw[if_neg h0,if_neg h1,if_neg h2,if_pos h3])
   exact z119
  have h3:¬((dZ l ops).1≠1∧(dZ l ops).1≠0):=(by simp_all)
  have aS:iD l ops=(fS l[0].n ops.length ops ([],[]),0):=(by unfold iD;rw[if_neg h0,if_neg h1,if_neg h2,if_neg h3,getD_eq_getElem?_getD,getElem?_eq_getElem E];rfl)
  refine aC 1 ?_;refine OD.box (ds:=[_,_]) an rfl rfl ot rfl rfl (fun U=>?_);refine OD.wk (Wk.Uq (k:=0) (sz:=1) (sz':=1) rfl) ?_;refine aj 50 [0,1,9] ?_;refine aC 2 ?_;refine bQ (qq (mk:=Op.indexAddr 38) rfl ot bH (by first|exact rC runUnderlying38 sizeOf111 (j:=0) rfl E|exact rF runUnderlying38 sizeOf111 (j:=0) rfl E)) ?_;refine aD 3 ?_;refine OD.call an rfl rfl rfl call146 (SM hG l[0].n ops.length pE ops [] [] (Nat.le_refl _) zX aQ (Nat.zero_le _) (Nat.zero_le _) U) ⟨ot,ot,ot,trivial⟩ (jX (k:=0) rfl) ?_;rintro _ _ ⟨rfl,rfl⟩;refine aj 50 [9] ?_;refine ae [4,5,6] ?_;exact oC
 refine aY [0,1,32] ?_;refine fG ?_;have h3:¬((dZ l ops).1≠1∧(dZ l ops).1≠0):=(by simp_all)
 have aS:iD l ops=(fS l[0].n ops.length ops ([],[]),0):=(by unfold iD;rw[if_neg h0,if_neg h1,if_neg h2,if_neg h3,getD_eq_getElem?_getD,getElem?_eq_getElem E];rfl)
 refine aC 1 ?_;refine OD.box (ds:=[_,_]) an rfl rfl ot rfl rfl (fun U=>?_);refine OD.wk (Wk.Uq (k:=0) (sz:=1) (sz':=1) rfl) ?_;refine aj 50 [0,1,9] ?_;refine aC 2 ?_;refine bQ (qq (mk:=Op.indexAddr 38) rfl ot bH (by first|exact rC runUnderlying38 sizeOf111 (j:=0) rfl E|exact rF runUnderlying38 sizeOf111 (j:=0) rfl E)) ?_;refine aD 3 ?_;refine OD.call an rfl rfl rfl call146 (SM hG l[0].n ops.length pE ops [] [] (Nat.le_refl _) zX aQ (Nat.zero_le _) (Nat.zero_le _) U) ⟨ot,ot,ot,trivial⟩ (jX (k:=0) rfl) ?_;rintro _ _ ⟨rfl,rfl⟩;refine aj 50 [9] ?_;refine ae [4,5,6] ?_;exact tN

end Go.Proofs.YtbcmjoaggammcaaGreatDoor.Ex
namespace Go.Proofs.YtbcmjoaggammcaaGreatDoor.Tr
open List
open Go.Proofs.Tryz
open Go.Lib (compareBytes)
/-! ### The order of keys -/
variable {i j:Nat}
abbrev K:=List UInt8
variable {a b c k low:K}
theorem Gr(a b:UInt8)(x y:K):compareBytes (a::x) (b::y)=if a<b then -1 else if b<a then 1 else compareBytes x y:=by rw[compareBytes]
theorem u8{a b:UInt8}:a<b↔a.toNat<b.toNat:=UInt8.lt_iff_toNat_lt
theorem xG:∀(x y:K),(compareBytes x y = -1∧compareBytes y x=1)∨(compareBytes x y=0∧x=y)∨(compareBytes x y=1∧compareBytes y x = -1)
 | [],[]=>.inr (.inl ⟨rfl,rfl⟩)
 | [],_::_=>.inl ⟨rfl,rfl⟩
 | _::_,[]=>.inr (.inr ⟨rfl,rfl⟩)
 | a::x,b::y=>by
  rw[Gr,Gr];by_cases h1:a<b
  ·have h2:¬b<a:=(by rw[u8] at h1 ⊢;omega)
   rw[if_pos h1,if_neg h2,if_pos h1];exact .inl ⟨rfl,rfl⟩
  by_cases h2:b<a
  ·rw[if_neg h1,if_pos h2,if_pos h2];exact .inr (.inr ⟨rfl,rfl⟩)
  rw[if_neg h1,if_neg h2,if_neg h2,if_neg h1];have qk:a=b:=by
   apply UInt8.toNat_inj.1;rw[u8] at h1 h2;omega
  subst qk;rcases xG x y with h|⟨h,e⟩|h
  ·exact .inl h
  ·exact .inr (.inl ⟨h,by rw[e]⟩)
  exact .inr (.inr h)
theorem Tv:∀(x y z:K),compareBytes x y = -1→compareBytes y z = -1→compareBytes x z = -1
 | [],[],_,h,_=>by cases h
 | _::_,[],_,h,_=>by cases h
 | _,_::_,[],_,h=>by cases h
 | [],_::_,_::_,_,_=>rfl
 | a::x,b::y,c::z,h1,h2=>by
  rw[Gr] at h1 h2 ⊢;by_cases p:a<b
  ·by_cases q:b<c
   ·rw[if_pos (by rw[u8] at p q ⊢;omega)]
   rw[if_neg q] at h2;by_cases r:c<b
   ·rw[if_pos r] at h2;cases h2
   rw[if_pos (by rw[u8] at p q r ⊢;omega)]
  rw[if_neg p] at h1;by_cases p':b<a
  ·rw[if_pos p'] at h1;cases h1
  rw[if_neg p'] at h1;by_cases q:b<c
  ·rw[if_pos (by rw[u8] at p p' q ⊢;omega)]
  rw[if_neg q] at h2;by_cases r:c<b
  ·rw[if_pos r] at h2;cases h2
  rw[if_neg r] at h2;rw[if_neg (by rw[u8] at p p' q r ⊢;omega),if_neg (by rw[u8] at p p' q r ⊢;omega)];exact Tv x y z h1 h2
def bM(a b:K):Prop:=compareBytes a b<0
instance (a b:K):Decidable (bM a b):=inferInstanceAs (Decidable (_<_))
theorem IG:bM a b↔compareBytes a b = -1:=by
 unfold bM;rcases xG a b with ⟨h,_⟩|⟨h,_⟩|⟨h,_⟩<;>rw[h]<;>decide
theorem Sj:0<compareBytes a b↔bM b a:=by
 unfold bM;rcases xG a b with ⟨h,h'⟩|⟨h,rfl⟩|⟨h,h'⟩
 ·rw[h,h'];decide
 ·rw[h]
 rw[h,h'];decide
theorem Jf(a:K):¬bM a []:=by
 unfold bM;cases a with
 | nil=>decide
 | cons x y=>show ¬(1:Int)<0;decide
theorem j3(a:K):¬bM a a:=fun h=>by
 rcases xG a a with ⟨h1,h2⟩|⟨h1,_⟩|⟨h1,h2⟩
 ·omega
 ·unfold bM at h;omega
 omega
theorem mh(h1:bM a b)(h2:bM b c):bM a c:=IG.2 (Tv a b c (IG.1 h1) (IG.1 h2))
theorem yu(h:bM a b):¬bM b a:=fun h'=>j3 a (mh h h')
theorem yw(a b:K):bM a b∨a=b∨bM b a:=by
 unfold bM;rcases xG a b with ⟨h,_⟩|⟨_,h⟩|⟨_,h⟩
 ·exact .inl w4
 ·exact .inr (.inl h)
 exact .inr (.inr w4)
theorem JK:compareBytes a b=0↔a=b:=⟨fun h=>by
 rcases xG a b with ⟨h1,_⟩|⟨_,h1⟩|⟨h1,_⟩
 ·omega
 ·exact h1
 ·omega,fun h=>by
 subst h;rcases xG a a with ⟨h1,h2⟩|⟨h1,_⟩|⟨h1,h2⟩
 ·omega
 ·exact h1
 omega⟩
theorem Nu(h1:¬bM b a)(h2:bM b c):bM a c:=by
 rcases yw a b with h|rfl|h
 ·exact mh h h2
 ·exact h2
 exact absurd h h1
theorem X3(h1:bM a b)(h2:¬bM c b):bM a c:=by
 rcases yw b c with h|rfl|h
 ·exact mh h1 h
 ·exact h1
 exact absurd h h2
theorem Ty(h1:¬bM b a)(h2:¬bM c b):¬bM c a:=fun h=>by
 rcases yw a b with h'|rfl|h'
 ·exact h2 (mh h h')
 ·exact h2 h
 exact h1 h'
theorem qt{α β:Type}{l:List α}{f g:α→List β}(h:∀a∈l,f a=g a):l.flatMap f=l.flatMap g:=by
 induction l with
 | nil=>rfl
 | cons a r ih=>rw[flatMap_cons,flatMap_cons,h a mem_cons_self,ih fun x hx=>h x (mem_cons_of_mem _ hx)]
/-! ### Pages and trees -/
structure cR where
 leaf:Bool
 keys:List K
 kids:List Int
 high:K
 next:Int
variable {p:cR}
def ah2:cR:=⟨false,[],[],[],0⟩
structure aE where
 af:List cR
 root:Int
def aE.pg(t:aE)(i:Int):cR:=t.af.getD i.toNat ah2
def rV:aE:=⟨[⟨true,[],[],[],-1⟩],0⟩
structure ew (p:cR) (many:Int):Prop where
 eI:p.keys.length≤4
 hlen:p.high.length≤100
 wo:-1≤p.next
 vW:p.next<many
 wq:p.next<0↔p.high=[]
 leaf:p.leaf=true→p.kids.length=p.keys.length
 node:p.leaf=false→p.kids.length=p.keys.length+1∧p.keys≠[]
 kR:∀k∈p.keys,1≤k.length∧k.length≤100
 pX:p.high≠[]→∀k∈p.keys,bM k p.high
 jF:p.keys.Pairwise bM
 aB:∀n∈p.kids,0≤n
 uX:p.leaf=false→∀n∈p.kids,n<many
theorem ew.more{m E:Int}(h:ew p m)(hm:m≤E):ew p E :=
 ⟨h.eI,h.hlen,h.wo,by have:=h.vW;omega,h.wq,h.leaf,h.node,h.kR,h.pX,h.jF,h.aB,fun hl n hn=>by have:=h.uX hl n hn;omega⟩
def gQ(low:K)(p:cR)(j:Nat):K:=if j=0 then low else p.keys.getD (j-1) []
def gC(p:cR)(j:Nat):K:=p.keys.getD j p.high
def dP(t:aE):Nat→Int→K→K→Prop
 | 0,i,low,high=>(0≤i∧i<t.af.length)∧(t.pg i).leaf=true∧(t.pg i).high=high∧∀k∈(t.pg i).keys,¬bM k low
 | h+1,i,low,high=>(0≤i∧i<t.af.length)∧(t.pg i).leaf=false∧(t.pg i).high=high∧(∀k∈(t.pg i).keys,¬bM k low) ∧
  ∀j (hj:j<(t.pg i).kids.length),dP t h (t.pg i).kids[j] (gQ low (t.pg i) j) (gC (t.pg i) j)
def ids(t:aE):Nat→Int→List Int
 | 0,i=>[i]
 | h+1,i=>i::(t.pg i).kids.flatMap (ids t h)
def cy(t:aE):Nat→Int→List Int
 | 0,i=>[i]
 | d+1,i=>(t.pg i).kids.flatMap (cy t d)
def eU(p:cR):List (K×Int):=p.keys.zip p.kids
def dX(t:aE):Nat→Int→List (K×Int)
 | 0,i=>eU (t.pg i)
 | h+1,i=>(t.pg i).kids.flatMap (dX t h)
def eV(t:aE):List Int→Int→Prop
 | [],_=>True
 | [i],e=>(t.pg i).next=e
 | i::j::r,e=>(t.pg i).next=j∧eV t (j::r) e
structure Valid (t:aE) (h:Nat):Prop where
 pos:1≤t.af.length
 mT:t.af.length≤4000
 page:∀p∈t.af,ew p t.af.length
 ok:dP t h t.root [] []
 zb:(ids t h t.root).Nodup
 all:(ids t h t.root).length=t.af.length
 oL:∀d,d≤h→eV t (cy t d t.root) (-1)
theorem dP.idx{t:aE}:∀{h:Nat} {i:Int} {low high:K},dP t h i low high→0≤i∧i<t.af.length
 | 0,_,_,_,h=>h.1
 | _+1,_,_,_,h=>h.1
theorem dP.high{t:aE}:∀{h:Nat} {i:Int} {low high:K},dP t h i low high→(t.pg i).high=high
 | 0,_,_,_,h=>h.2.2.1
 | _+1,_,_,_,h=>h.2.2.1
theorem uO{t:aE}{i:Int}(h:0≤i∧i<t.af.length):t.pg i=t.af[i.toNat]'w4:=by
 unfold aE.pg;rw[getD_eq_getElem?_getD,getElem?_eq_getElem w4];rfl
theorem jq{t:aE}{i:Int}(h:0≤i∧i<t.af.length):t.pg i∈t.af:=by rw[uO h];exact getElem_mem _
theorem sK{t:aE}(h:Nat)(i:Int):i∈ids t h i:=by cases h<;>simp[ids]
theorem frame{t u:aE}:∀(h:Nat) (i:Int),(∀j∈ids t h i,u.pg j=t.pg j)→ids u h i=ids t h i∧dX u h i=dX t h i∧∀d,d≤h→cy u d i=cy t d i
 | 0,i,hp=>by
  have h0:=hp i (sK 0 i);refine⟨rfl,by unfold dX;rw[h0],fun d hd=>?_⟩;obtain rfl:d=0:=(by omega)
  rfl
 | h+1,i,hp=>by
  have h0:=hp i (sK _ i);have hs:∀j∈(t.pg i).kids,ids u h j=ids t h j∧dX u h j=dX t h j∧∀d,d≤h→cy u d j=cy t d j:=fun j hj=>frame h j fun x hx=>hp x (by
   rw[ids];exact mem_cons_of_mem _ (mem_flatMap.2 ⟨j,hj,hx⟩))
  refine⟨?_,?_,fun d hd=>?_⟩
  ·rw[ids,ids,h0];congr 1;exact qt (fun j hj=>(hs j hj).1)
  ·rw[dX,dX,h0];exact qt (fun j hj=>(hs j hj).2.1)
  cases d with
  | zero=>rfl
  | succ d=>rw[cy,cy,h0];exact qt (fun j hj=>(hs j hj).2.2 d w4)
theorem dP.frame{t u:aE}(hl:t.af.length≤u.af.length):∀{h:Nat} {i:Int} {low high:K},dP t h i low high→(∀j∈ids t h i,u.pg j=t.pg j)→dP u h i low high
 | 0,i,low,high,⟨q1,q2,E,I⟩,hp=>by
  have h0:=hp i (sK 0 i);exact⟨⟨q1.1,by omega⟩,by rw[h0];exact q2,by rw[h0];exact E,by rw[h0];exact I⟩
 | h+1,i,low,high,⟨q1,q2,E,I,O⟩,hp=>by
  have h0:=hp i (sK _ i);refine⟨⟨q1.1,by omega⟩,by rw[h0];exact q2,by rw[h0];exact E,by rw[h0];exact I,?_⟩;rw[h0];exact fun j hj=>dP.frame hl (O j hj) fun x hx=>hp x (by rw[ids];exact mem_cons_of_mem _ (mem_flatMap.2 ⟨_,getElem_mem hj,hx⟩))
theorem dP.ids{t:aE}:∀{h:Nat} {i:Int} {low high:K},dP t h i low high→∀j∈Tr.ids t h i,0≤j∧j<t.af.length
 | 0,i,low,high,q,j,hj=>by
  rw[Tr.ids,mem_singleton] at hj;subst hj;exact q.1
 | h+1,i,low,high,⟨q1,q2,I,O,E⟩,j,hj=>by
  rw[Tr.ids] at hj;rcases mem_cons.1 hj with rfl|hj
  ·exact q1
  obtain⟨x,hx,hj⟩:=mem_flatMap.1 hj;obtain⟨n,hn,rfl⟩:=mem_iff_getElem.1 hx;exact dP.ids (E n hn) j hj

theorem JL{α:Type}{p:α→Bool}:∀{l:List α} {i:Nat} (h:i<(l.takeWhile p).length),∃(h':i<l.length),p l[i]=true
 | a::r,i,h=>by
  rw[takeWhile_cons] at h;by_cases ha:p a=true
  ·rw[if_pos ha] at h;cases i with
   | zero=>exact⟨by simp,ha⟩
   | succ i =>
    obtain⟨h',q⟩:=JL (l:=r) (i:=i) oB;exact⟨by simpa using h',by simpa using q⟩
  rw[if_neg ha] at h;simp at h
theorem Jg{α:Type}{p:α→Bool}:∀{l:List α} (h:(l.takeWhile p).length<l.length),p l[(l.takeWhile p).length]=false
 | a::r,h=>by
  by_cases ha:p a=true
  ·have e:((a::r).takeWhile p).length=(r.takeWhile p).length+1:=(by rw[takeWhile_cons,if_pos ha];rfl)
   have h2:(r.takeWhile p).length<r.length:=(by rw[e] at h;simpa using h)
   have:=Jg (l:=r) h2;simp only[e,getElem_cons_succ];exact this
  have e:((a::r).takeWhile p).length=0:=(by rw[takeWhile_cons,if_neg ha];rfl)
  simp only[e,getElem_cons_zero];simpa using ha
theorem Tz{α:Type}(p:α→Bool)(l:List α):(l.takeWhile p).length≤l.length:=(takeWhile_sublist p).length_le
def gh(keys:List K)(k:K):Nat:=(keys.takeWhile fun x=>decide (bM x k)).length
def mq(keys:List K)(k:K):Nat:=(keys.takeWhile fun x=>decide (¬bM k x)).length
def aL(p:cR)(k:K):Nat:=if p.leaf=true then gh p.keys k else mq p.keys k
theorem Aw{keys:List K}(h:i<gh keys k):∃(h':i<keys.length),bM keys[i] k:=by
 obtain⟨h',q⟩:=JL h;exact⟨h',by simpa using q⟩
theorem Ao{keys:List K}(h:gh keys k<keys.length):¬bM keys[gh keys k] k:=by
 exact of_decide_eq_false (Jg h)
theorem x7(keys:List K)(k:K):gh keys k≤keys.length:=Tz _ _
theorem HQ{keys:List K}(h:i<mq keys k):∃(h':i<keys.length),¬bM k keys[i]:=by
 obtain⟨h',q⟩:=JL h;exact⟨h',by simpa using q⟩
theorem Hl{keys:List K}(h:mq keys k<keys.length):bM k keys[mq keys k]:=by
 exact Classical.not_not.1 (of_decide_eq_false (Jg h))
theorem Ax(keys:List K)(k:K):mq keys k≤keys.length:=Tz _ _
theorem mK{keys:List K}(h:keys.Pairwise bM)(E:i<j)(hj:j<keys.length):bM keys[i] keys[j]:=pairwise_iff_getElem.1 h i j w4 hj E
theorem EL(h:j<p.keys.length):gC p j=p.keys[j]:=by unfold gC;rw[getD_eq_getElem?_getD,getElem?_eq_getElem h];rfl
theorem II(h:p.keys.length≤j):gC p j=p.high:=by unfold gC;rw[getD_eq_getElem?_getD,getElem?_eq_none h];rfl
theorem Ev(h:0<j)(h':j-1<p.keys.length):gQ low p j=p.keys[j-1]:=by unfold gQ;rw[if_neg w4,getD_eq_getElem?_getD,getElem?_eq_getElem h'];rfl
def kY(low high k:K):Prop:=¬bM k low∧(high≠[]→bM k high)
theorem sZ(k:K):kY [] [] k:=⟨Jf k,fun h=>absurd rfl h⟩
theorem down{n:Int}(hp:ew p n)(hl:p.leaf=false){high:K}(E:p.high=high)(hk:kY low high k):aL p k<p.kids.length∧kY (gQ low p (aL p k)) (gC p (aL p k)) k:=by
 have e:aL p k=mq p.keys k:=(by unfold aL;rw[if_neg (by rw[hl];decide)])
 have I:=Ax p.keys k;rw[e];refine⟨by rw[(hp.node hl).1];omega,?_,?_⟩
 ·rcases Nat.eq_zero_or_pos (mq p.keys k) with h0|h0
  ·rw[h0];exact hk.1
  obtain⟨h',q⟩:=HQ (keys:=p.keys) (k:=k) (i:=mq p.keys k-1) w4;rw[Ev h0 h'];exact q
 intro hne;by_cases aa:mq p.keys k<p.keys.length
 ·rw[EL aa];exact Hl aa
 rw[II w4] at hne ⊢;rw[E] at hne ⊢;exact hk.2 hne
def aI(t:aE)(k:K):Nat→Int→Int
 | 0,i=>i
 | h+1,i=>aI t k h ((t.pg i).kids.getD (aL (t.pg i) k) 0)
def iP(t:aE)(k:K):Nat→Int→List Int
 | 0,i=>[i]
 | h+1,i=>i::iP t k h ((t.pg i).kids.getD (aL (t.pg i) k) 0)
theorem Ou(t:aE)(k:K):∀(h:Nat) (i:Int),(iP t k h i).getLast?=some (aI t k h i)
 | 0,i=>rfl
 | h+1,i=>by
  have:=Ou t k h ((t.pg i).kids.getD (aL (t.pg i) k) 0);rw[iP,aI,getLast?_cons,this];rfl
theorem vL(t:aE):∀(h:Nat) (i:Int),dX t h i=(cy t h i).flatMap fun l=>eU (t.pg l)
 | 0,i=>by simp[dX,cy]
 | h+1,i=>by
  rw[dX,cy,flatMap_assoc];exact qt fun j _=>vL t h j
theorem zip_fst{α β:Type}:∀{a:List α} {b:List β},b.length=a.length→(a.zip b).map Prod.fst=a
 | [],_,_=>by simp
 | x::a,[],h=>by simp at h
 | x::a,y::b,h=>by simp[zip_fst (a:=a) (b:=b) oB]
theorem PZ{x:K×Int}(h:x∈eU p):x.1∈p.keys:=(of_mem_zip h).1
theorem sR(h:j<p.kids.length):p.kids.getD j 0=p.kids[j]:=by rw[getD_eq_getElem?_getD,getElem?_eq_getElem h];rfl
variable {t:aE} {n:Int}
theorem Yq(hp:ew p n)(hl:p.leaf=false){high:K}(I:p.high=high)(E:∀k∈p.keys,¬bM k low)(hj:j<p.kids.length)(hk:kY (gQ low p j) (gC p j) k):kY low high k:=by
 have hn:=(hp.node hl).1;refine⟨?_,fun hne=>?_⟩
 ·rcases Nat.eq_zero_or_pos j with rfl|h0
  ·exact hk.1
  rw[Ev h0 w4] at hk;exact Ty (E _ (getElem_mem _)) hk.1
 by_cases aa:j<p.keys.length
 ·rw[EL aa] at hk;have hm:=getElem_mem aa;have h2:=hk.2 (by intro e;have:=(hp.kR _ hm).1;rw[e] at this;simp at this);exact mh h2 (by rw[←I];exact hp.pX (by rw[I];exact hne) _ hm)
 rw[II w4,I] at hk;exact hk.2 hne
theorem Ho(hp:ew p n)(hl:p.leaf=false)(I:i<j)(hj:j<p.kids.length)(ha:kY (gQ low p i) (gC p i) a)(hb:kY (gQ low p j) (gC p j) b):bM a b:=by
 have hn:=(hp.node hl).1;have E:i<p.keys.length:=(by omega)
 rw[EL E] at ha;have h1:=ha.2 (by intro e;have:=(hp.kR _ (getElem_mem E)).1;rw[e] at this;simp at this);rw[Ev w4 w4] at hb;refine X3 h1 ?_;refine Ty ?_ hb.1;rcases Nat.lt_or_ge i (j-1) with h|h
 ·exact yu (mK hp.jF h w4)
 have:j-1=i:=(by omega)
 simp only[this];exact j3 _
theorem IJ(hp:∀p∈t.af,ew p n):∀{h:Nat} {i:Int} {low high:K},dP t h i low high→(dX t h i).Pairwise (fun x y=>bM x.1 y.1)∧∀x∈dX t h i,kY low high x.1
 | 0,i,low,high,ok=>by
  obtain⟨q1,q2,E,I⟩:=ok;have po:=hp _ (jq q1);rw[dX];refine⟨?_,fun x hx=>⟨I _ (PZ hx),fun hne=>by rw[←E] at hne ⊢;exact po.pX hne _ (PZ hx)⟩⟩;have h1:((eU (t.pg i)).map Prod.fst).Pairwise bM:=(by unfold eU;rw[zip_fst (po.leaf q2)];exact po.jF)
  exact pairwise_map.1 h1
 | h+1,i,low,high,ok=>by
  obtain⟨q1,q2,E,I,O⟩:=ok;have po:=hp _ (jq q1);rw[dX];have hk:∀j (hj:j<(t.pg i).kids.length),(dX t h (t.pg i).kids[j]).Pairwise (fun x y=>bM x.1 y.1)∧∀x∈dX t h (t.pg i).kids[j],kY (gQ low (t.pg i) j) (gC (t.pg i) j) x.1:=fun j hj=>IJ hp (O j hj);refine⟨pairwise_flatMap.2 ⟨fun a ha=>?_,?_⟩,fun x hx=>?_⟩
  ·obtain⟨j,hj,rfl⟩:=mem_iff_getElem.1 ha;exact(hk j hj).1
  ·refine pairwise_iff_getElem.2 fun a b ha hb qk x hx y hy=>?_;exact Ho po q2 qk hb ((hk a ha).2 x hx) ((hk b hb).2 y hy)
  obtain⟨c,hc,hx⟩:=mem_flatMap.1 hx;obtain⟨j,hj,rfl⟩:=mem_iff_getElem.1 hc;exact Yq po q2 E I hj ((hk j hj).2 x hx)
theorem Ay(hp:∀p∈t.af,ew p n){k:K}:∀{h:Nat} {i:Int} {low high:K},dP t h i low high→kY low high k →
  ∃pre post lo hi,cy t h i=pre++aI t k h i::post∧(∀l∈pre,∀x∈eU (t.pg l),bM x.1 k)∧(∀l∈post,∀x∈eU (t.pg l),bM k x.1)∧dP t 0 (aI t k h i) lo hi∧kY lo hi k
 | 0,i,low,high,ok,hk=>⟨[],[],low,high,rfl,(fun _ h=>by cases h),(fun _ h=>by cases h),ok,hk⟩
 | h+1,i,low,high,ok,hk=>by
  obtain⟨q1,q2,I,O,E⟩:=ok;have po:=hp _ (jq q1);obtain⟨d1,d2⟩:=down po q2 I hk;obtain⟨pre,post,lo,hi,e,h1,h2,h3,h4⟩:=Ay hp (E _ d1) d2;have hm:∀j (hj:j<(t.pg i).kids.length),∀l∈cy t h (t.pg i).kids[j],∀x∈eU (t.pg l),kY (gQ low (t.pg i) j) (gC (t.pg i) j) x.1:=fun j hj l hl x hx =>
   (IJ hp (E j hj)).2 x (by rw[vL];exact mem_flatMap.2 ⟨l,hl,hx⟩)
  refine⟨((t.pg i).kids.take (aL (t.pg i) k)).flatMap (cy t h)++pre,post++((t.pg i).kids.drop (aL (t.pg i) k+1)).flatMap (cy t h),lo,hi,?_,?_,?_,?_,h4⟩
  ·rw[cy];conv=>lhs;rw[←take_append_drop (aL (t.pg i) k) (t.pg i).kids]
   rw[drop_eq_getElem_cons d1,flatMap_append,flatMap_cons,e,aI,sR d1];simp
  ·intro l hl x hx;rcases mem_append.1 hl with hl|hl
   ·obtain⟨c,hc,hl⟩:=mem_flatMap.1 hl;obtain⟨j,hj,rfl⟩:=mem_iff_getElem.1 hc;rw[length_take] at hj;rw[getElem_take] at hl;exact Ho po q2 (show j<aL (t.pg i) k by omega) d1 (hm j w4 l hl x hx) d2
   exact h1 l hl x hx
  ·intro l hl x hx;rcases mem_append.1 hl with hl|hl
   ·exact h2 l hl x hx
   obtain⟨c,hc,hl⟩:=mem_flatMap.1 hl;obtain⟨j,hj,rfl⟩:=mem_iff_getElem.1 hc;rw[length_drop] at hj;rw[getElem_drop] at hl;exact Ho po q2 (show aL (t.pg i) k<aL (t.pg i) k+1+j by omega) w4 d2 (hm _ w4 l hl x hx)
  rw[aI,sR d1];exact h3
theorem Zx(hp:∀p∈t.af,ew p n){h:Nat}{i:Int}{high:K}(ok:dP t h i low high)(hk:kY low high k) :
  ∃pre post,cy t h i=pre++aI t k h i::post∧(dX t h i).filter (fun x=>decide (¬bM x.1 k))=(eU (t.pg (aI t k h i))).drop (aL (t.pg (aI t k h i)) k)++post.flatMap fun l=>eU (t.pg l):=by
 obtain⟨pre,post,lo,hi,e,h1,h2,h3,h4⟩:=Ay hp ok hk;refine⟨pre,post,e,?_⟩;have po:=hp _ (jq h3.1);rw[vL,e,flatMap_append,flatMap_cons,filter_append,filter_append];rw[filter_eq_nil_iff.2 (by
  intro x hx;obtain⟨l,hl,hx⟩:=mem_flatMap.1 hx;simpa using h1 l hl x hx),nil_append]
 congr 1
 ·have fB:=h3.2.1;rw[show aL (t.pg (aI t k h i)) k=gh (t.pg (aI t k h i)).keys k by unfold aL;rw[if_pos fB]];generalize I:t.pg (aI t k h i)=p at *;have E:=take_append_drop (gh p.keys k) (eU p);conv=>lhs;rw[←E]
  have hlen:=po.leaf fB;rw[filter_append,filter_eq_nil_iff.2 (by
   intro x hx;obtain⟨j,hj,rfl⟩:=mem_iff_getElem.1 hx;rw[length_take] at hj;obtain⟨h',q⟩:=Aw (keys:=p.keys) (k:=k) (i:=j) w4;rw[getElem_take];simpa[eU] using q),nil_append,filter_eq_self.2]
  intro x hx;obtain⟨j,hj,rfl⟩:=mem_iff_getElem.1 hx;rw[length_drop] at hj;have fC:(eU p).length=p.keys.length:=(by unfold eU;rw[length_zip,hlen,Nat.min_self])
  have hd:gh p.keys k<p.keys.length:=(by omega)
  have he:=Ao hd;rw[getElem_drop];have:¬bM p.keys[gh p.keys k+j] k:=by
   rcases Nat.eq_zero_or_pos j with rfl|h0
   ·exact he
   exact fun aa=>he (mh (mK po.jF w4 w4) aa)
  simpa[eU] using this
 rw[filter_eq_self.2];intro x hx;obtain⟨l,hl,hx⟩:=mem_flatMap.1 hx;simpa using yu (h2 l hl x hx)

end Go.Proofs.YtbcmjoaggammcaaGreatDoor.Tr
namespace Go.Proofs.YtbcmjoaggammcaaGreatDoor.Tr
open List
open Go.Proofs.Tryz
open Go.Lib (compareBytes)
variable {α:Type} {i n:Int} {p:cR} {up low:K} {h:Nat}
def gA(l:List α)(i:Nat)(x:α):List α:=l.take i++x::l.drop i
def aE.set(t:aE)(i:Int)(p:cR):aE:={t with af:=t.af.set i.toNat p}
variable {t:aE}
def bB(p:cR)(up:K)(aB:Int):cR :=
 {p with keys:=gA p.keys (aL p up) up,kids:=gA p.kids (if p.leaf=true then aL p up else aL p up+1) aB}
def iV(p:cR):K:=p.keys.getD 2 []
def bn(p:cR)(n:Int):cR:={leaf:=p.leaf,keys:=p.keys.take 2,kids:=p.kids.take (if p.leaf=true then 2 else 3),high:=iV p,next:=n}
def bp(p:cR):cR:={leaf:=p.leaf,keys:=p.keys.drop (if p.leaf=true then 2 else 3),kids:=p.kids.drop (if p.leaf=true then 2 else 3),high:=p.high,next:=p.next}
def qK(t:aE)(i:Int)(up:K)(aB:Int):aE×Option (K×Int) :=
 if (bB (t.pg i) up aB).keys.length≤4 then (t.set i (bB (t.pg i) up aB),none)
 else (⟨(t.af.set i.toNat (bn (bB (t.pg i) up aB) t.af.length))++[bp (bB (t.pg i) up aB)],t.root⟩,some (iV (bB (t.pg i) up aB),t.af.length))
def gi(t:aE)(k:K)(row:Int):Nat→Int→aE×Option (K×Int)
 | 0,i=>qK t i k row
 | h+1,i=>match gi t k row h ((t.pg i).kids.getD (aL (t.pg i) k) 0) with
  | (t',none)=>(t',none)
  | (t',some (up,aB))=>qK t' i up aB
def afI(r:aE×Option (K×Int)):aE:=match r with
 | (t,none)=>t
 | (t,some (up,aB))=>⟨t.af++[⟨false,[up],[t.root,aB],[],-1⟩],t.af.length⟩
theorem nJ(t:aE)(i:Int)(p:cR):(t.set i p).af.length=t.af.length:=by simp[aE.set]
theorem Az(h:0≤i∧i<t.af.length)(p:cR):(t.set i p).pg i=p:=by
 unfold aE.pg aE.set;rw[getD_eq_getElem?_getD,getElem?_set_self w4];rfl
theorem vC{j:Int}(hi:0≤i)(hj:0≤j)(h:i≠j)(p:cR):(t.set i p).pg j=t.pg j:=by
 unfold aE.pg aE.set;rw[getD_eq_getElem?_getD,getD_eq_getElem?_getD,getElem?_set_ne w4]
theorem xU(l:List α){i:Nat}(h:i≤l.length)(x:α):(gA l i x).length=l.length+1:=by unfold gA;simp;omega
theorem uk{l:List α}{i:Nat}{x y:α}:y∈gA l i x↔y=x∨y∈l:=by
 unfold gA;conv=>rhs;rw[←take_append_drop i l]
 simp only[mem_append,mem_cons];constructor
 ·rintro(h|h|h)
  ·exact .inr (.inl h)
  ·exact .inl h
  exact .inr (.inr h)
 rintro(h|h|h)
 ·exact .inr (.inl h)
 ·exact .inl h
 exact .inr (.inr h)
theorem Zy{β:Type}{a:List α}{b:List β}(h:b.length=a.length){i:Nat}(hi:i≤a.length)(x:α)(y:β):(gA a i x).zip (gA b i y)=gA (a.zip b) i (x,y):=by
 unfold gA;rw[zip_append (by simp[h]),zip_cons_cons];have h1:(a.zip b).take i=(a.take i).zip (b.take i):=take_zipWith;have h2:(a.zip b).drop i=(a.drop i).zip (b.drop i):=drop_zipWith;rw[h1,h2]
theorem HR(hp:ew p n)(hn:up∉p.keys):(∀j (hj:j<p.keys.length),j<aL p up→bM p.keys[j] up)∧(∀j (hj:j<p.keys.length),aL p up≤j→bM up p.keys[j])∧aL p up≤p.keys.length:=by
 unfold aL;split
 ·refine⟨fun j hj h=>(Aw h).2,fun j hj h=>?_,x7 _ _⟩;have aa:gh p.keys up<p.keys.length:=(by omega)
  have h1:=Ao aa;have h2:¬bM p.keys[j] up:=by
   rcases Nat.lt_or_ge (gh p.keys up) j with h'|h'
   ·exact fun E=>h1 (mh (mK hp.jF h' hj) E)
   have:gh p.keys up=j:=(by omega)
   subst this;exact h1
  rcases yw p.keys[j] up with h|h|h
  ·exact absurd h h2
  ·exact absurd (h ▸ getElem_mem hj) hn
  exact h
 refine⟨fun j hj h=>?_,fun j hj h=>?_,Ax _ _⟩
 ·have h2:=(HQ h).2;rcases yw p.keys[j] up with h|h|h
  ·exact h
  ·exact absurd (h ▸ getElem_mem hj) hn
  exact absurd h h2
 have aa:mq p.keys up<p.keys.length:=(by omega)
 have h1:=Hl aa;rcases Nat.lt_or_ge (mq p.keys up) j with h'|h'
 ·exact mh h1 (mK hp.jF h' hj)
 have:mq p.keys up=j:=(by omega)
 subst this;exact h1
theorem aa7(hp:ew p n)(hn:up∉p.keys):(gA p.keys (aL p up) up).Pairwise bM:=by
 obtain⟨h1,h2,h3⟩:=HR hp hn;unfold gA;have hr:=hp.jF;conv at hr=>rw[←take_append_drop (aL p up) p.keys]
 rw[pairwise_append] at hr;rw[pairwise_append,pairwise_cons];refine⟨hr.1,⟨fun y hy=>?_,hr.2.1⟩,fun x hx y hy=>?_⟩
 ·obtain⟨j,hj,rfl⟩:=mem_iff_getElem.1 hy;rw[length_drop] at hj;rw[getElem_drop];exact h2 _ w4 w4
 rcases mem_cons.1 hy with rfl|hy
 ·obtain⟨j,hj,rfl⟩:=mem_iff_getElem.1 hx;rw[length_take] at hj;rw[getElem_take];exact h1 _ w4 w4
 exact hr.2.2 x hx y hy
structure vT (p:cR) (many:Int):Prop where
 eI:p.keys.length≤5
 hlen:p.high.length≤100
 wo:-1≤p.next
 vW:p.next<many
 wq:p.next<0↔p.high=[]
 leaf:p.leaf=true→p.kids.length=p.keys.length
 node:p.leaf=false→p.kids.length=p.keys.length+1∧p.keys≠[]
 kR:∀k∈p.keys,1≤k.length∧k.length≤100
 pX:p.high≠[]→∀k∈p.keys,bM k p.high
 jF:p.keys.Pairwise bM
 aB:∀n∈p.kids,0≤n
 uX:p.leaf=false→∀n∈p.kids,n<many
theorem vT.ok(h:vT p n)(hl:p.keys.length≤4):ew p n:=⟨hl,h.hlen,h.wo,h.vW,h.wq,h.leaf,h.node,h.kR,h.pX,h.jF,h.aB,h.uX⟩
theorem HS(hp:ew p n){aB:Int}(hn:up∉p.keys)(U:1≤up.length∧up.length≤100)(Z:p.high≠[]→bM up p.high)(hk:0≤aB)(O:p.leaf=false→aB<n):vT (bB p up aB) n:=by
 obtain⟨_,_,h3⟩:=HR hp hn;have hf:=hp.eI;refine⟨?_,hp.hlen,hp.wo,hp.vW,hp.wq,fun hl=>?_,fun hl=>?_,fun k I=>?_,fun hne k I=>?_,aa7 hp hn,fun m hm=>?_,fun hl m hm=>?_⟩
 ·show(gA _ _ _).length≤5;rw[xU _ h3];omega
 ·have E:p.leaf=true:=hl;show(gA _ _ _).length=(gA _ _ _).length;rw[if_pos E,xU _ h3,xU _ (by rw[hp.leaf E];exact h3),hp.leaf E]
 ·have E:p.leaf=false:=hl;refine⟨?_,?_⟩
  ·show(gA _ _ _).length=(gA _ _ _).length+1;rw[if_neg (by rw[E];decide),xU _ h3,xU _ (by rw[(hp.node E).1];omega),(hp.node E).1]
  show gA _ _ _≠[];intro e;have:=congrArg length e;rw[xU _ h3] at this;simp at this
 ·rcases uk.1 I with rfl|h
  ·exact U
  exact hp.kR k h
 ·rcases uk.1 I with rfl|h
  ·exact Z hne
  exact hp.pX hne k h
 ·rcases uk.1 hm with rfl|h
  ·exact hk
  exact hp.aB m h
 rcases uk.1 hm with rfl|h
 ·exact O hl
 exact hp.uX hl m h
theorem yx(h:p.keys.length=5):iV p=p.keys[2]:=by unfold iV;rw[getD_eq_getElem?_getD,getElem?_eq_getElem w4];rfl
theorem SN(hp:vT p n)(h5:p.keys.length=5)(h0:0≤n):ew (bn p n) (n+1):=by
 have U:=yx h5;have I:iV p∈p.keys:=(by rw[U];exact getElem_mem _)
 refine⟨?_,(hp.kR _ I).2,by show -1≤n;omega,by show n<n+1;omega,?_,fun hl=>?_,fun hl=>?_,fun k hk=>hp.kR k (mem_of_mem_take hk),fun _ k hk=>?_,hp.jF.sublist (take_sublist _ _),fun x hx=>hp.aB x (mem_of_mem_take hx),fun hl x hx=>?_⟩
 ·show(p.keys.take 2).length≤4;rw[length_take];omega
 ·show n<0↔iV p=[];have:=(hp.kR _ I).1;exact⟨fun h=>by omega,fun h=>by rw[h] at this;simp at this⟩
 ·have E:p.leaf=true:=hl;show(p.kids.take (if p.leaf=true then 2 else 3)).length=(p.keys.take 2).length;rw[if_pos E,length_take,length_take,hp.leaf E]
 ·have E:p.leaf=false:=hl;refine⟨?_,?_⟩
  ·show(p.kids.take (if p.leaf=true then 2 else 3)).length=(p.keys.take 2).length+1;rw[if_neg (by rw[E];decide),length_take,length_take,(hp.node E).1];omega
  show p.keys.take 2≠[];intro e;have:=congrArg length e;rw[length_take,h5] at this;cases this
 ·have O:k∈p.keys.take 2:=hk;obtain⟨j,hj,rfl⟩:=mem_iff_getElem.1 O;rw[length_take] at hj;show bM (p.keys.take 2)[j] (iV p);rw[getElem_take,U];exact mK hp.jF w4 w4
 have E:p.leaf=false:=hl;have:=hp.uX E x (mem_of_mem_take hx);omega
theorem Rn{m:Int}(hp:vT p n)(h5:p.keys.length=5)(hm:n≤m):ew (bp p) m:=by
 refine⟨?_,hp.hlen,hp.wo,by have:=hp.vW;show p.next<m;omega,hp.wq,fun hl=>?_,fun hl=>?_,fun k hk=>hp.kR k (mem_of_mem_drop hk),fun hne k hk=>hp.pX hne k (mem_of_mem_drop hk),hp.jF.sublist (drop_sublist _ _),fun x hx=>hp.aB x (mem_of_mem_drop hx),fun hl x hx=>?_⟩
 ·show(p.keys.drop _).length≤4;rw[length_drop];split<;>omega
 ·have E:p.leaf=true:=hl;show(p.kids.drop _).length=(p.keys.drop _).length;rw[length_drop,length_drop,hp.leaf E]
 ·have E:p.leaf=false:=hl;refine⟨?_,?_⟩
  ·show(p.kids.drop _).length=(p.keys.drop _).length+1;rw[length_drop,length_drop,(hp.node E).1,if_neg (by rw[E];decide)];omega
  show p.keys.drop _≠[];intro e;have:=congrArg length e;rw[length_drop,if_neg (by rw[E];decide)] at this;simp at this;omega
 have E:p.leaf=false:=hl;have:=hp.uX E x (mem_of_mem_drop hx);omega

def ja(t:aE)(h:Nat):K→List Int→List K→K→Prop
 | low,c::cs,ks,high=>match cs,ks with
  | [],[]=>dP t h c low high
  | _::_,k::ks=>dP t h c low k∧ja t h k cs ks high
  | _,_=>False
 | _,[],_,_=>False
theorem AA{high:K}{c:Int}:ja t h low [c] [] high↔dP t h c low high:=by rw[ja]
theorem pL{high k:K}{c d:Int}{cs:List Int}{ks:List K}:ja t h low (c::d::cs) (k::ks) high↔dP t h c low k∧ja t h k (d::cs) ks high:=by rw[ja]
theorem HT{t:aE}{h:Nat}{high:K}:∀{kids:List Int} {keys:List K} {low:K},kids.length=keys.length+1 →
  ((∀j (hj:j<kids.length),dP t h kids[j] (if j=0 then low else keys.getD (j-1) []) (keys.getD j high))↔ja t h low kids keys high)
 | [],keys,low,e=>by simp at e
 | [c],[],low,e=>by
  rw[AA];constructor
  ·intro q;exact q 0 bu
  intro q j hj;obtain rfl:j=0:=(by simpa using hj)
  exact q
 | [c],k::ks,low,e=>by simp at e
 | c::d::cs,[],low,e=>by simp at e
 | c::d::cs,k::ks,low,e=>by
  rw[pL,←HT (kids:=d::cs) (keys:=ks) (low:=k) (by simpa using e)];constructor
  ·intro q;refine⟨q 0 bu,fun j hj=>?_⟩;have:=q (j+1) (by simpa using hj);rw[if_neg w4] at this;simp only[getElem_cons_succ,Nat.add_sub_cancel,getD_cons_succ] at this;cases j with
   | zero=>exact this
   | succ j=>exact this
  rintro⟨q0,q⟩ j hj;cases j with
  | zero=>exact q0
  | succ j =>
   have:=q j (by simpa using hj);rw[if_neg w4];simp only[getElem_cons_succ,Nat.add_sub_cancel,getD_cons_succ];cases j with
   | zero=>exact this
   | succ j=>exact this
theorem AK{high:K}(hp:ew (t.pg i) n):dP t (h+1) i low high↔(0≤i∧i<t.af.length)∧(t.pg i).leaf=false∧(t.pg i).high=high∧(∀k∈(t.pg i).keys,¬bM k low)∧ja t h low (t.pg i).kids (t.pg i).keys high:=by
 constructor
 ·rintro⟨q1,q2,E,O,I⟩;refine⟨q1,q2,E,O,?_⟩;rw[←HT (hp.node q2).1];intro j hj;have:=I j hj;unfold gQ gC at this;rw[E] at this;exact this
 rintro⟨q1,q2,E,O,I⟩;refine⟨q1,q2,E,O,?_⟩;rw[←HT (hp.node q2).1] at I;intro j hj;have:=I j hj;unfold gQ gC;rw[E];exact this
theorem P0{t u:aE}{h:Nat}{high:K}:∀{kids:List Int} {keys:List K} {low:K},ja t h low kids keys high→(∀c∈kids,∀lo hi,dP t h c lo hi→dP u h c lo hi)→ja u h low kids keys high
 | [],keys,low,q,_=>by simp[ja] at q
 | [c],[],low,q,f=>by rw[AA] at q ⊢;exact f c bu _ _ q
 | [c],k::ks,low,q,f=>by simp[ja] at q
 | c::d::cs,[],low,q,f=>by simp[ja] at q
 | c::d::cs,k::ks,low,q,f=>by
  rw[pL] at q ⊢;exact⟨f c bu _ _ q.1,P0 q.2 fun x hx=>f x (by simp at hx ⊢;exact .inr hx)⟩
theorem P1{t u:aE}{h:Nat}{high up:K}{aB:Int}:∀(j:Nat) {kids:List Int} {keys:List K} {low:K} (hj:j<kids.length),ja t h low kids keys high →
  (∀c∈kids.eraseIdx j,∀lo hi,dP t h c lo hi→dP u h c lo hi) →
  (dP u h kids[j] (if j=0 then low else keys.getD (j-1) []) up)→dP u h aB up (keys.getD j high)→ja u h low (gA kids (j+1) aB) (gA keys j up) high
 | 0,[],keys,low,hj,q,f,q1,q2=>by simp at hj
 | 0,[c],[],low,hj,q,f,q1,q2=>by
  show ja u h low [c,aB] [up] high;rw[pL,AA];exact⟨q1,q2⟩
 | 0,[c],k::ks,low,hj,q,f,q1,q2=>by simp[ja] at q
 | 0,c::d::cs,[],low,hj,q,f,q1,q2=>by simp[ja] at q
 | 0,c::d::cs,k::ks,low,hj,q,f,q1,q2=>by
  show ja u h low (c::aB::d::cs) (up::k::ks) high;rw[pL,pL];rw[pL] at q;exact⟨q1,q2,P0 q.2 fun x hx=>f x (by simpa using hx)⟩
 | j+1,[],keys,low,hj,q,f,q1,q2=>by simp at hj
 | j+1,[c],keys,low,hj,q,f,q1,q2=>by simp at hj
 | j+1,c::d::cs,[],low,hj,q,f,q1,q2=>by simp[ja] at q
 | j+1,c::d::cs,k::ks,low,hj,q,f,q1,q2=>by
  rw[pL] at q;have e1:gA (c::d::cs) (j+1+1) aB=c::gA (d::cs) (j+1) aB:=rfl;have e2:gA (k::ks) (j+1) up=k::gA ks j up:=rfl;rw[e1,e2];have E:=P1 (t:=t) (u:=u) (up:=up) (aB:=aB) j (kids:=d::cs) (keys:=ks) (low:=k) (by simpa using hj) q.2 (fun x hx=>f x (by rw[eraseIdx_cons_succ];exact mem_cons_of_mem _ hx)) (by
   have:=q1;rw[if_neg w4] at this;simp only[getElem_cons_succ,Nat.add_sub_cancel] at this;cases j with
   | zero=>exact this
   | succ j=>exact this) (by simpa using q2)
  have I:gA (d::cs) (j+1) aB=d::gA cs j aB:=rfl;rw[I] at E ⊢;rw[pL];exact⟨f c (by rw[eraseIdx_cons_succ];simp) _ _ q.1,E⟩
theorem NL{t:aE}{h:Nat}{high:K}:∀(m:Nat) {kids:List Int} {keys:List K} {low:K} (hm:m<keys.length),ja t h low kids keys high→ja t h low (kids.take (m+1)) (keys.take m) keys[m]∧ja t h keys[m] (kids.drop (m+1)) (keys.drop (m+1)) high
 | 0,c::d::cs,k::ks,low,hm,q=>by
  rw[pL] at q;exact⟨AA.2 q.1,q.2⟩
 | m+1,c::d::cs,k::ks,low,hm,q=>by
  rw[pL] at q;obtain⟨q1,q2⟩:=NL m (kids:=d::cs) (keys:=ks) (by simpa using hm) q.2;refine⟨?_,q2⟩;have e:(c::d::cs).take (m+1+1)=c::d::cs.take m:=rfl;rw[e];show ja t h low (c::d::cs.take m) (k::ks.take m) _;rw[pL];exact⟨q.1,q1⟩
 | _,_,[],_,hm,_=>by simp at hm
 | _,[],_::_,_,_,q=>by simp[ja] at q
 | _,[c],_::_,_,_,q=>by simp[ja] at q
/-! ### Pages that lead to one another -/
theorem AL{t:aE}{e:Int}:∀{a b:List Int},eV t (a++b) e↔eV t a (b.headD e)∧eV t b e
 | [],b=>by simp[eV]
 | [i],[]=>by simp[eV]
 | [i],j::b=>by simp[eV]
 | i::j::a,b=>by
  have:=AL (t:=t) (e:=e) (a:=j::a) (b:=b);show(t.pg i).next=j∧eV t (j::a++b) e↔((t.pg i).next=j∧eV t (j::a) (b.headD e))∧eV t b e;rw[this,and_assoc]
theorem xV{t u:aE}:∀{a:List Int} {e:Int},(∀j∈a,(u.pg j).next=(t.pg j).next)→eV t a e→eV u a e
 | [],e,_,_=>trivial
 | [i],e,f,h=>by show(u.pg i).next=e;rw[f i bu];exact h
 | i::j::a,e,f,h=>⟨by rw[f i bu];exact h.1,xV (fun x hx=>f x (mem_cons_of_mem _ hx)) h.2⟩
theorem EM{t:aE}{n:Int}(hp:∀p∈t.af,ew p n):∀{h:Nat} {i:Int} {low high:K},dP t h i low high→∀d,d≤h→cy t d i≠[]
 | 0,i,low,high,ok,d,hd=>by
  obtain rfl:d=0:=(by omega)
  simp[cy]
 | h+1,i,low,high,ok,d,hd=>by
  cases d with
  | zero=>simp[cy]
  | succ d =>
   obtain⟨q1,q2,I,O,E⟩:=ok;have po:=hp _ (jq q1);have hl:=(po.node q2).1;have h0:0<(t.pg i).kids.length:=(by omega)
   have:=EM hp (E 0 h0) d w4;rw[cy];intro e;rw[flatMap_eq_nil_iff] at e;exact this (e _ (getElem_mem h0))
theorem rD{t:aE}:∀(h:Nat) (i:Int) (d:Nat),d≤h→∀x∈cy t d i,x∈ids t h i
 | 0,i,d,hd,x,hx=>by
  obtain rfl:d=0:=(by omega)
  exact hx
 | h+1,i,0,hd,x,hx=>by
  have:x=i:=(by simpa[cy] using hx)
  subst this;exact sK _ _
 | h+1,i,d+1,hd,x,hx=>by
  rw[cy] at hx;obtain⟨c,hc,hx⟩:=mem_flatMap.1 hx;rw[ids];exact mem_cons_of_mem _ (mem_flatMap.2 ⟨c,hc,rD h c d w4 x hx⟩)
theorem DR{a b:List α}(h:a≠[])(e:α):(a++b).headD e=a.headD e:=by
 cases a with
 | nil=>exact absurd rfl h
 | cons x r=>rfl

def nr(t:aE)(h:Nat)(i:Int):Option (K×Int)→List Int
 | none=>ids t h i
 | some (_,aB)=>ids t h i++ids t h aB
def E6(t:aE)(h:Nat)(i:Int):Option (K×Int)→List (K×Int)
 | none=>dX t h i
 | some (_,aB)=>dX t h i++dX t h aB
def rW(t:aE)(d:Nat)(i:Int):Option (K×Int)→List Int
 | none=>cy t d i
 | some (_,aB)=>cy t d i++cy t d aB
def nC(t:aE)(h:Nat)(i:Int)(low high:K):Option (K×Int)→Prop
 | none=>dP t h i low high
 | some (up,aB)=>(1≤up.length∧up.length≤100)∧bM low up∧(high≠[]→bM up high)∧dP t h i low up∧dP t h aB up high
structure nY (t u:aE) (h:Nat) (i:Int) (low high:K) (k:K) (row:Int) (r:Option (K×Int)):Prop where
 le:t.af.length≤u.af.length
 more:u.af.length≤t.af.length+(h+1)
 root:u.root=t.root
 page:∀p∈u.af,ew p u.af.length
 out:∀j:Int,0≤j→j<t.af.length→j∉ids t h i→u.pg j=t.pg j
 ok:nC u h i low high r
 sub:∀x∈nr u h i r,x∈ids t h i∨(t.af.length:Int)≤x
 nodup:(nr u h i r).Nodup
 WL:(nr u h i r).length+t.af.length=(ids t h i).length+u.af.length
 dX:∀x,x∈E6 u h i r↔x=(k,row)∨x∈dX t h i
 oL:∀d,d≤h→∀e,eV t (cy t d i) e→eV u (rW u d i r) e∧(rW u d i r).headD e=(cy t d i).headD e
/-! ### One page set, one page added -/
def jb(t:aE)(i:Int)(a b:cR):aE:=⟨(t.af.set i.toNat a)++[b],t.root⟩
theorem oR(t:aE)(i:Int)(a b:cR):(jb t i a b).af.length=t.af.length+1:=by simp[jb]
theorem Ov(h:0≤i∧i<t.af.length)(a b:cR):(jb t i a b).pg i=a:=by
 unfold aE.pg jb;rw[getD_eq_getElem?_getD,getElem?_append_left u7,getElem?_set_self w4];rfl
theorem P2(t:aE)(i:Int)(a b:cR):(jb t i a b).pg t.af.length=b:=by
 unfold aE.pg jb;rw[getD_eq_getElem?_getD,getElem?_append_right u7,length_set];simp
theorem NM{j:Int}(hi:0≤i)(hj:0≤j∧j<t.af.length)(h:i≠j)(a b:cR):(jb t i a b).pg j=t.pg j:=by
 unfold aE.pg jb;rw[getD_eq_getElem?_getD,getD_eq_getElem?_getD,getElem?_append_left u7,getElem?_set_ne w4]
theorem Hp{q:cR}(hp:∀p∈t.af,ew p n)(hq:ew q n):∀p∈(t.set i q).af,ew p n:=fun p h=>by
 rcases mem_or_eq_of_mem_set h with h|rfl
 ·exact hp p h
 exact hq
theorem NN{a b:cR}{m:Int}(hp:∀p∈t.af,ew p n)(hm:n≤m)(ha:ew a m)(hb:ew b m):∀p∈(jb t i a b).af,ew p m:=fun p h=>by
 unfold jb at h;rcases mem_append.1 h with h|h
 ·rcases mem_or_eq_of_mem_set h with h|rfl
  ·exact(hp p h).more hm
  exact ha
 rw[mem_singleton] at h;subst h;exact hb
theorem HU{aB:Int}(h:(bB (t.pg i) up aB).keys.length≤4):qK t i up aB=(t.set i (bB (t.pg i) up aB),none):=by unfold qK;rw[if_pos h]
theorem Hq{aB:Int}(h:¬(bB (t.pg i) up aB).keys.length≤4):qK t i up aB=(jb t i (bn (bB (t.pg i) up aB) t.af.length) (bp (bB (t.pg i) up aB)),some (iV (bB (t.pg i) up aB),(t.af.length:Int))):=by unfold qK;rw[if_neg h];rfl
theorem Ro{q:cR}(hr:q.keys.Pairwise bM)(h5:q.keys.length=5)(hl:∀k∈q.keys,¬bM k low):bM low (iV q)∧(∀k∈q.keys.drop 2,¬bM k (iV q)):=by
 rw[yx h5];refine⟨Nu (hl _ (getElem_mem (by omega:0<q.keys.length))) (mK hr w4 w4),fun k hk=>?_⟩;obtain⟨j,hj,rfl⟩:=mem_iff_getElem.1 hk;rw[length_drop] at hj;rw[getElem_drop];rcases Nat.eq_zero_or_pos j with rfl|h0
 ·exact j3 _
 exact yu (mK hr w4 w4)
/-! ### A leaf -/
theorem aa8(hp:∀p∈t.af,ew p t.af.length){high:K}(ok:dP t 0 i low high){k:K}{row:Int}(hk:kY low high k)(hn:∀x∈dX t 0 i,x.1≠k)(hl:1≤k.length∧k.length≤100)(hr:0≤row):nY t (qK t i k row).1 0 i low high k row (qK t i k row).2:=by
 obtain⟨q1,q2,O,q4⟩:=ok;have po:=hp _ (jq q1);have U:k∉(t.pg i).keys:=fun hm=>by
  obtain⟨j,hj,e⟩:=mem_iff_getElem.1 hm;have hlen:=po.leaf q2;refine hn ((t.pg i).keys[j],(t.pg i).kids[j]'w4) ?_ e;show _∈eU (t.pg i);unfold eU;exact mem_iff_getElem.2 ⟨j,by rw[length_zip];omega,by rw[getElem_zip]⟩
 have hf:vT (bB (t.pg i) k row) t.af.length:=HS po U hl (fun hne=>hk.2 (by rw[←O];exact hne) |> fun h=>by rw[O];exact h) hr (fun h=>by rw[q2] at h;cases h);have fC:=(HR po U).2.2;have hE:eU (bB (t.pg i) k row)=gA (eU (t.pg i)) (aL (t.pg i) k) (k,row):=by
  show(gA _ _ _).zip (gA _ _ _)=_;rw[if_pos q2];exact Zy (po.leaf q2) fC k row
 have E:∀x∈(bB (t.pg i) k row).keys,¬bM x low:=fun x hx=>by
  rcases uk.1 hx with rfl|h
  ·exact hk.1
  exact q4 x h
 by_cases h4:(bB (t.pg i) k row).keys.length≤4
 ·rw[HU h4];have Z:=Az q1 (bB (t.pg i) k row);refine⟨by rw[nJ];omega,by rw[nJ];omega,rfl,by rw[nJ];exact Hp hp (hf.ok h4),fun j h0 hj hne=>?_,?_,fun x hx=>.inl hx,?_,by rw[nJ];rfl,fun x=>?_,fun d hd e hs=>?_⟩
  ·exact vC q1.1 h0 (by intro e;subst e;simp[ids] at hne) _
  ·exact⟨by rw[nJ];exact q1,by rw[Z];exact q2,by rw[Z];exact O,by rw[Z];exact E⟩
  ·show[i].Nodup;simp
  ·show x∈eU ((t.set i _).pg i)↔_;rw[Z,hE,uk];rfl
  obtain rfl:d=0:=(by omega)
  refine⟨?_,rfl⟩;show((t.set i _).pg i).next=e;rw[Z];exact hs
 have h5:(bB (t.pg i) k row).keys.length=5:=(by have:=hf.eI;omega)
 rw[Hq h4];have I:(bB (t.pg i) k row).leaf=true:=q2;have ea:=Ov q1 (bn (bB (t.pg i) k row) t.af.length) (bp (bB (t.pg i) k row));have eb:=P2 t i (bn (bB (t.pg i) k row) t.af.length) (bp (bB (t.pg i) k row));obtain⟨u1,u2⟩:=Ro hf.jF h5 E;have CL:iV (bB (t.pg i) k row)∈(bB (t.pg i) k row).keys:=(by rw[yx h5];exact getElem_mem _)
 have gB:eU (bn (bB (t.pg i) k row) t.af.length)++eU (bp (bB (t.pg i) k row))=eU (bB (t.pg i) k row):=by
  show((bB (t.pg i) k row).keys.take 2).zip ((bB (t.pg i) k row).kids.take (if (bB (t.pg i) k row).leaf=true then 2 else 3))++((bB (t.pg i) k row).keys.drop (if (bB (t.pg i) k row).leaf=true then 2 else 3)).zip ((bB (t.pg i) k row).kids.drop (if (bB (t.pg i) k row).leaf=true then 2 else 3))=_;rw[if_pos I,←zip_append (by rw[length_take,length_take,hf.leaf I]),take_append_drop,take_append_drop];rfl
 refine⟨by rw[oR];omega,by rw[oR];omega,rfl,?_,fun j h0 hj hne=>?_,⟨hf.kR _ CL,u1,fun hne=>hf.pX (by show(t.pg i).high≠[];rw[O];exact hne) _ CL |> fun h=>by rw[←O];exact h,?_,?_⟩,fun x hx=>?_,?_,by rw[oR];show[i,(t.af.length:Int)].length+_=[i].length+_;simp;omega,fun x=>?_,fun d hd e hs=>?_⟩
 ·rw[oR];exact NN hp w4 (SN hf h5 w4) (Rn hf h5 w4)
 ·exact NM q1.1 ⟨h0,hj⟩ (by intro e;subst e;simp[ids] at hne) _ _
 ·exact⟨by rw[oR];omega,by rw[ea];exact I,by rw[ea];rfl,by rw[ea];exact fun x hx=>E x (mem_of_mem_take hx)⟩
 ·refine⟨by rw[oR];omega,by rw[eb];exact I,by rw[eb];exact O,?_⟩;rw[eb];show ∀x∈(bB (t.pg i) k row).keys.drop (if (bB (t.pg i) k row).leaf=true then 2 else 3),_;rw[if_pos I];exact u2
 ·have oD:x∈[i,(t.af.length:Int)]:=hx;simp only[mem_cons,not_mem_nil,or_false] at oD;rcases oD with rfl|rfl
  ·exact .inl (by simp[ids])
  exact .inr (Int.le_refl _)
 ·show[i,(t.af.length:Int)].Nodup;simp;omega
 ·show x∈eU ((jb t i _ _).pg i)++eU ((jb t i _ _).pg _)↔_;rw[ea,eb,gB,hE,uk];rfl
 obtain rfl:d=0:=(by omega)
 refine⟨?_,rfl⟩;show((jb t i _ _).pg i).next=_∧((jb t i _ _).pg _).next=e;rw[ea,eb];exact⟨rfl,hs⟩

end Go.Proofs.YtbcmjoaggammcaaGreatDoor.Tr

namespace Go.Proofs.YtbcmjoaggammcaaGreatDoor.Tr
open List
open Go.Proofs.Tryz
open Go.Lib (compareBytes)
variable {α:Type} {A B:List Int} {v:aE}
theorem IK{keys:List K}(hr:keys.Pairwise bM){up:K}{j:Nat}(hj:j≤keys.length)(h1:∀(h:0<j),¬bM up (keys[j-1]'w4))(h2:∀(h:j<keys.length),bM up keys[j]):mq keys up=j:=by
 have E:=Ax keys up;rcases Nat.lt_trichotomy (mq keys up) j with h|h|h
 ·exfalso;have aa:mq keys up<keys.length:=(by omega)
  have h3:=Hl aa;have h4:=h1 w4;rcases Nat.lt_or_ge (mq keys up) (j-1) with h5|h5
  ·exact h4 (mh h3 (mK hr h5 w4))
  have:mq keys up=j-1:=(by omega)
  simp only[this] at h3;exact h4 h3
 ·exact h
 exact absurd (h2 w4) (HQ h).2
theorem Nv{l:List α}{j:Nat}(hj:j<l.length)(x:α):gA l (j+1) x=l.take j++l[j]::x::l.drop (j+1):=by
 unfold gA;rw[take_succ_eq_append_getElem hj,append_assoc];rfl
theorem uo{l:List α}{j:Nat}(hj:j<l.length):l=l.take j++l[j]::l.drop (j+1):=by
 conv=>lhs;rw[←take_append_drop j l,drop_eq_getElem_cons hj]
theorem X4{l:List α}{j:Nat}{x:α}(h:x∈l.eraseIdx j):x∈l.take j∨x∈l.drop (j+1):=by
 rw[eraseIdx_eq_take_drop_succ] at h;exact mem_append.1 h
variable {t:aE}
theorem vD{h:Nat}{i:Int}{j:Nat}(hj:j<(t.pg i).kids.length)(hn:(ids t (h+1) i).Nodup):(ids t h (t.pg i).kids[j]).Nodup∧i∉ids t h (t.pg i).kids[j]∧(∀x∈(t.pg i).kids.take j++(t.pg i).kids.drop (j+1),(∀y∈ids t h x,y∉ids t h (t.pg i).kids[j])∧i∉ids t h x) ∧
  (((t.pg i).kids.take j).flatMap (ids t h)++((t.pg i).kids.drop (j+1)).flatMap (ids t h)).Nodup∧i∉((t.pg i).kids.take j).flatMap (ids t h)++((t.pg i).kids.drop (j+1)).flatMap (ids t h):=by
 rw[ids,nodup_cons] at hn;obtain⟨h0,hn⟩:=hn;have hs:=uo hj;rw[hs,flatMap_append,flatMap_cons] at hn h0;simp only[mem_append,not_or] at h0;rw[nodup_append] at hn;obtain⟨n1,n2,n3⟩:=hn;rw[nodup_append] at n2;obtain⟨n4,n5,n6⟩:=n2;refine⟨n4,h0.2.1,fun x hx=>?_,?_,?_⟩
 ·rcases mem_append.1 hx with hx|hx
  ·exact⟨fun y hy hc=>n3 y (mem_flatMap.2 ⟨x,hx,hy⟩) y (mem_append_left _ hc) rfl,fun hi=>h0.1 (mem_flatMap.2 ⟨x,hx,hi⟩)⟩
  exact⟨fun y hy hc=>n6 y hc y (mem_flatMap.2 ⟨x,hx,hy⟩) rfl,fun hi=>h0.2.2 (mem_flatMap.2 ⟨x,hx,hi⟩)⟩
 ·rw[nodup_append];exact⟨n1,n5,fun a ha b hb=>n3 a ha b (mem_append_right _ hb)⟩
 simp only[mem_append,not_or];exact⟨h0.1,h0.2.2⟩
theorem Hr{f g:Int→List α}{c aB:Int}(hA:∀x∈A,f x=g x)(E:∀x∈B,f x=g x):(A++c::aB::B).flatMap f=A.flatMap g++(f c++f aB)++B.flatMap g:=by
 rw[flatMap_append,flatMap_cons,flatMap_cons,qt hA,qt E];simp
theorem HV{f g:Int→List α}{c:Int}(hA:∀x∈A,f x=g x)(E:∀x∈B,f x=g x):(A++c::B).flatMap f=A.flatMap g++f c++B.flatMap g:=by
 rw[flatMap_append,flatMap_cons,qt hA,qt E];simp

structure jl (t u:aE) (h:Nat) (i:Int) (low high:K) (j:Nat) (k:K) (row:Int) (r:Option (K×Int)):Prop where
 hp:∀p∈t.af,ew p t.af.length
 ok:dP t (h+1) i low high
 nd:(ids t (h+1) i).Nodup
 hj:j<(t.pg i).kids.length
 hk:kY (gQ low (t.pg i) j) (gC (t.pg i) j) k
 ins:nY t u h ((t.pg i).kids.getD j 0) (gQ low (t.pg i) j) (gC (t.pg i) j) k row r
section
variable {u:aE} {h:Nat} {i:Int} {low high:K} {j:Nat} {k:K} {row:Int} {r:Option (K×Int)}
theorem jl.aB(m:jl t u h i low high j k row r):(t.pg i).kids.getD j 0=(t.pg i).kids[j]'m.hj:=sR m.hj
theorem jl.same(m:jl t u h i low high j k row r):u.pg i=t.pg i:=by
 have:=(vD m.hj m.nd).2.1;exact m.ins.out i m.ok.idx.1 m.ok.idx.2 (by rw[m.aB];exact this)
structure nL (u v:aE) (i:Int):Prop where
 le:u.af.length≤v.af.length
 pg:∀x:Int,0≤x→x<u.af.length→x≠i→v.pg x=u.pg x
theorem jl.others(m:jl t u h i low high j k row r)(ha:nL u v i):∀x∈(t.pg i).kids.take j++(t.pg i).kids.drop (j+1),∀y∈ids t h x,v.pg y=t.pg y:=fun x hx y hy=>by
 obtain⟨h1,h2⟩:=(vD m.hj m.nd).2.2.1 x hx;have I:y≠i:=fun e=>h2 (e ▸ hy);have E:0≤y∧y<t.af.length:=by
  have hm:y∈ids t (h+1) i:=by
   rw[ids];refine mem_cons_of_mem _ (mem_flatMap.2 ⟨x,?_,hy⟩);rcases mem_append.1 hx with hx|hx
   ·exact mem_of_mem_take hx
   exact mem_of_mem_drop hx
  exact m.ok.ids y hm
 have O:=m.ins.le;rw[ha.pg y E.1 w4 I,m.ins.out y E.1 E.2 (by rw[m.aB];exact h1 y hy)]
theorem jl.below(m:jl t u h i low high j k row r)(ha:nL u v i):∀y∈nr u h ((t.pg i).kids[j]'m.hj) r,0≤y→y<u.af.length→v.pg y=u.pg y:=fun y hy h0 hl=>by
 refine ha.pg y h0 hl fun e=>?_;have hs:=m.ins.sub y (by rw[m.aB];exact hy);rw[m.aB] at hs;rcases hs with hs|hs
 ·exact(vD m.hj m.nd).2.1 (e ▸ hs)
 have:=m.ok.idx;omega
theorem jl.pT(m:jl t u h i low high j k row r)(ha:nL u v i){x:Int}(hx:x∈(t.pg i).kids.take j++(t.pg i).kids.drop (j+1)):ids v h x=ids t h x∧dX v h x=dX t h x∧∀d,d≤h→cy v d x=cy t d x:=frame h x (m.others ha x hx)
theorem jl.Rp(m:jl t u h i low high j k row r)(ha:nL u v i){x:Int}(hx:x∈(t.pg i).kids.take j++(t.pg i).kids.drop (j+1)){lo hi:K}(aQ:dP t h x lo hi):dP v h x lo hi:=by
 have:=m.ins.le;have:=ha.le;exact aQ.frame w4 (m.others ha x hx)
theorem jl.P3(m:jl t u h i low high j k row r):(((t.pg i).kids.take j).flatMap (ids t h)++nr u h ((t.pg i).kids[j]'m.hj) r++((t.pg i).kids.drop (j+1)).flatMap (ids t h)).Nodup∧i∉((t.pg i).kids.take j).flatMap (ids t h)++nr u h ((t.pg i).kids[j]'m.hj) r++((t.pg i).kids.drop (j+1)).flatMap (ids t h):=by
 obtain⟨a1,a2,a3,a4,a5⟩:=vD m.hj m.nd;have hnd:=m.ins.nodup;have E:=m.ins.sub;rw[m.aB] at hnd E;have aa:∀x∈(t.pg i).kids.take j++(t.pg i).kids.drop (j+1),∀y∈ids t h x,y<t.af.length:=fun x hx y hy=>by
  refine(m.ok.ids y ?_).2;rw[ids];refine mem_cons_of_mem _ (mem_flatMap.2 ⟨x,?_,hy⟩);rcases mem_append.1 hx with hx|hx
  ·exact mem_of_mem_take hx
  exact mem_of_mem_drop hx
 have I:∀x∈(t.pg i).kids.take j++(t.pg i).kids.drop (j+1),∀y∈ids t h x,y∉nr u h ((t.pg i).kids[j]'m.hj) r:=fun x hx y hy hm=>by
  rcases E y hm with hs|hs
  ·exact(a3 x hx).1 y hy hs
  have:=aa x hx y hy;omega
 have O:i∉nr u h ((t.pg i).kids[j]'m.hj) r:=fun hm=>by
  rcases E i hm with hs|hs
  ·exact a2 hs
  have:=m.ok.idx;omega
 rw[nodup_append] at a4;obtain⟨b1,b2,b3⟩:=a4;refine⟨?_,?_⟩
 ·rw[nodup_append,nodup_append];refine⟨⟨b1,hnd,fun a ha b hb e=>?_⟩,b2,fun a ha b hb e=>?_⟩
  ·obtain⟨x,hx,ha⟩:=mem_flatMap.1 ha;subst e;exact I x (mem_append_left _ hx) a ha hb
  obtain⟨x,hx,jy⟩:=mem_flatMap.1 hb;subst e;rcases mem_append.1 ha with ha|ha
  ·exact b3 a ha a hb rfl
  exact I x (mem_append_right _ hx) a jy ha
 simp only[mem_append,not_or] at a5 ⊢;exact⟨⟨a5.1,O⟩,a5.2⟩
theorem jl.SO(m:jl t u h i low high j k row r):(((t.pg i).kids.take j).flatMap (ids t h)++nr u h ((t.pg i).kids[j]'m.hj) r++((t.pg i).kids.drop (j+1)).flatMap (ids t h)).length+1+t.af.length=(ids t (h+1) i).length+u.af.length:=by
 have hc:=m.ins.WL;rw[m.aB] at hc;have e:(ids t (h+1) i).length=1+((((t.pg i).kids.take j).flatMap (ids t h)).length+((ids t h ((t.pg i).kids[j]'m.hj)).length+(((t.pg i).kids.drop (j+1)).flatMap (ids t h)).length)):=by
  rw[ids];conv=>lhs;rw[uo m.hj]
  rw[length_cons,flatMap_append,flatMap_cons,length_append,length_append];omega
 rw[e,length_append,length_append];omega
theorem jl.Sn(m:jl t u h i low high j k row r):∀x∈((t.pg i).kids.take j).flatMap (ids t h)++nr u h ((t.pg i).kids[j]'m.hj) r++((t.pg i).kids.drop (j+1)).flatMap (ids t h),x∈ids t (h+1) i∨(t.af.length:Int)≤x:=fun x hx=>by
 have E:=m.ins.sub;rw[m.aB] at E;have up:∀c∈(t.pg i).kids,∀y∈ids t h c,y∈ids t (h+1) i:=fun c hc y hy=>by rw[ids];exact mem_cons_of_mem _ (mem_flatMap.2 ⟨c,hc,hy⟩)
 rcases mem_append.1 hx with hx|hx
 ·rcases mem_append.1 hx with hx|hx
  ·obtain⟨c,hc,hx⟩:=mem_flatMap.1 hx;exact .inl (up c (mem_of_mem_take hc) x hx)
  rcases E x hx with hs|hs
  ·exact .inl (up _ (getElem_mem _) x hs)
  exact .inr hs
 obtain⟨c,hc,hx⟩:=mem_flatMap.1 hx;exact .inl (up c (mem_of_mem_drop hc) x hx)
theorem jl.IL(m:jl t u h i low high j k row r)(x:K×Int):x∈((t.pg i).kids.take j).flatMap (dX t h)++E6 u h ((t.pg i).kids[j]'m.hj) r++((t.pg i).kids.drop (j+1)).flatMap (dX t h)↔x=(k,row)∨x∈dX t (h+1) i:=by
 have he:=m.ins.dX x;rw[m.aB] at he;have e:dX t (h+1) i=((t.pg i).kids.take j).flatMap (dX t h)++(dX t h ((t.pg i).kids[j]'m.hj)++((t.pg i).kids.drop (j+1)).flatMap (dX t h)):=by
  rw[dX];conv=>lhs;rw[uo m.hj]
  rw[flatMap_append,flatMap_cons]
 rw[e];simp only[mem_append,he];constructor
 ·rintro((h|h|h)|h)
  ·exact .inr (.inl h)
  ·exact .inl h
  ·exact .inr (.inr (.inl h))
  exact .inr (.inr (.inr h))
 rintro(h|h|h|h)
 ·exact .inl (.inr (.inl h))
 ·exact .inl (.inl h)
 ·exact .inl (.inr (.inr h))
 exact .inr h
theorem jl.Jh(m:jl t u h i low high j k row r)(ha:nL u v i){d:Nat}(hd:d≤h){e:Int}(hs:eV t (cy t (d+1) i) e) :
  eV v (((t.pg i).kids.take j).flatMap (cy t d)++rW u d ((t.pg i).kids[j]'m.hj) r++((t.pg i).kids.drop (j+1)).flatMap (cy t d)) e∧(((t.pg i).kids.take j).flatMap (cy t d)++rW u d ((t.pg i).kids[j]'m.hj) r++((t.pg i).kids.drop (j+1)).flatMap (cy t d)).headD e=(cy t (d+1) i).headD e:=by
 have hl:cy t (d+1) i=((t.pg i).kids.take j).flatMap (cy t d)++(cy t d ((t.pg i).kids[j]'m.hj)++((t.pg i).kids.drop (j+1)).flatMap (cy t d)):=by
  rw[cy];conv=>lhs;rw[uo m.hj]
  rw[flatMap_append,flatMap_cons]
 rw[hl] at hs ⊢;rw[AL,AL] at hs;obtain⟨s1,s2,s3⟩:=hs;obtain⟨g1,g2⟩:=m.ins.oL d hd _ (by rw[m.aB];exact s2);rw[m.aB] at g1 g2;obtain⟨_,_,_,_,O⟩:=m.ok;have hne:cy t d ((t.pg i).kids[j]'m.hj)≠[]:=EM m.hp (O j m.hj) d hd;have fr:∀x∈(t.pg i).kids.take j++(t.pg i).kids.drop (j+1),∀y∈cy t d x,(v.pg y).next=(t.pg y).next:=fun x hx y hy=>by rw[m.others ha x hx y (rD h x d hd y hy)]
 have U:∀y∈rW u d ((t.pg i).kids[j]'m.hj) r,(v.pg y).next=(u.pg y).next:=fun y hy=>by
  have aQ:=m.ins.ok;rw[m.aB] at aQ;cases r with
  | none =>
   have hi:=rD h _ d hd y hy;have hb:=dP.ids aQ y hi;rw[m.below ha y hi hb.1 hb.2]
  | some q =>
   obtain⟨up,aB⟩:=q;obtain⟨_,_,_,o1,o2⟩:=aQ;rcases mem_append.1 hy with hy|hy
   ·have hi:=rD h _ d hd y hy;have hb:=o1.ids y hi;rw[m.below ha y (mem_append_left _ hi) hb.1 hb.2]
   have hi:=rD h _ d hd y hy;have hb:=o2.ids y hi;rw[m.below ha y (mem_append_right _ hi) hb.1 hb.2]
 have E:rW u d ((t.pg i).kids[j]'m.hj) r≠[]:=fun e0=>by
  have aQ:=m.ins.ok;rw[m.aB] at aQ;cases r with
  | none=>exact EM m.ins.page aQ d hd e0
  | some q =>
   obtain⟨up,aB⟩:=q;exact EM m.ins.page aQ.2.2.2.1 d hd (append_eq_nil_iff.1 e0).1
 have I:=xV (u:=v) (fun y hy=>by obtain⟨x,hx,hy⟩:=mem_flatMap.1 hy;exact fr x (mem_append_left _ hx) y hy) s1;have Z:=xV (u:=v) (fun y hy=>by obtain⟨x,hx,hy⟩:=mem_flatMap.1 hy;exact fr x (mem_append_right _ hx) y hy) s3;have g1':=xV (u:=v) U g1;have hh:∀e':Int,(rW u d ((t.pg i).kids[j]'m.hj) r).headD e'=(cy t d ((t.pg i).kids[j]'m.hj)).headD e':=fun e'=>by
  cases h1:rW u d ((t.pg i).kids[j]'m.hj) r with
  | nil=>exact absurd h1 E
  | cons a b =>
   cases h2:cy t d ((t.pg i).kids[j]'m.hj) with
   | nil=>exact absurd h2 hne
   | cons a' b'=>rw[h1,h2] at g2;exact g2
 rw[append_assoc];refine⟨?_,?_⟩
 ·rw[AL,AL];refine⟨?_,g1',Z⟩;rw[DR E,hh];rw[DR hne] at I;exact I
 cases hA:((t.pg i).kids.take j).flatMap (cy t d) with
 | cons a b=>rfl
 | nil=>rw[nil_append,nil_append,DR E,DR hne,hh]
end
end Go.Proofs.YtbcmjoaggammcaaGreatDoor.Tr

namespace Go.Proofs.YtbcmjoaggammcaaGreatDoor.Tr
open List
open Go.Proofs.Tryz
open Go.Lib (compareBytes)
variable {t u:aE} {h:Nat} {i:Int} {low high:K} {j:Nat} {k:K} {row:Int}
theorem Zz{α:Type}{l:List α}{j E:Nat}(I:E<l.length)(hne:E≠j):l[E]∈l.take j++l.drop (j+1):=by
 rcases Nat.lt_or_ge E j with h|h
 ·exact mem_append_left _ (mem_iff_getElem.2 ⟨E,by rw[length_take];omega,by rw[getElem_take]⟩)
 refine mem_append_right _ (mem_iff_getElem.2 ⟨E-(j+1),by rw[length_drop];omega,?_⟩);rw[getElem_drop];congr 1;omega
theorem HW(m:jl t u h i low high j k row none):nY t u (h+1) i low high k row none:=by
 have E:nL u u i:=⟨Nat.le_refl _,fun _ _ _ _=>rfl⟩
 have I:=m.same;have zY:=m.ok.idx;obtain⟨q1,q2,q3,q4,q5⟩:=m.ok;have aQ:dP u h ((t.pg i).kids[j]'m.hj) (gQ low (t.pg i) j) (gC (t.pg i) j):=(by have:=m.ins.ok;rw[m.aB] at this;exact this)
 have o9:ids u (h+1) i=i::(((t.pg i).kids.take j).flatMap (ids t h)++nr u h ((t.pg i).kids[j]'m.hj) none++((t.pg i).kids.drop (j+1)).flatMap (ids t h)):=by
  rw[ids,I];conv=>lhs;rw[uo m.hj]
  rw[HV (fun x hx=>(m.pT E (mem_append_left _ hx)).1) (fun x hx=>(m.pT E (mem_append_right _ hx)).1)];rfl
 have O:dX u (h+1) i=((t.pg i).kids.take j).flatMap (dX t h)++E6 u h ((t.pg i).kids[j]'m.hj) none++((t.pg i).kids.drop (j+1)).flatMap (dX t h):=by
  rw[dX,I];conv=>lhs;rw[uo m.hj]
  rw[HV (fun x hx=>(m.pT E (mem_append_left _ hx)).2.1) (fun x hx=>(m.pT E (mem_append_right _ hx)).2.1)];rfl
 have U:∀d,d≤h→cy u (d+1) i=((t.pg i).kids.take j).flatMap (cy t d)++rW u d ((t.pg i).kids[j]'m.hj) none++((t.pg i).kids.drop (j+1)).flatMap (cy t d):=fun d hd=>by
  rw[cy,I];conv=>lhs;rw[uo m.hj]
  rw[HV (fun x hx=>(m.pT E (mem_append_left _ hx)).2.2 d hd) (fun x hx=>(m.pT E (mem_append_right _ hx)).2.2 d hd)];rfl
 have hle:=m.ins.le;have TA:=m.ins.more;have Z:=m.P3;refine⟨hle,by omega,m.ins.root,m.ins.page,fun x h0 hx hne=>?_,?_,?_,?_,?_,?_,?_⟩
 ·refine m.ins.out x h0 hx fun hm=>hne ?_;rw[m.aB] at hm;rw[ids];exact mem_cons_of_mem _ (mem_flatMap.2 ⟨_,getElem_mem _,hm⟩)
 ·refine⟨⟨zY.1,by omega⟩,by rw[I];exact q2,by rw[I];exact q3,by rw[I];exact q4,?_⟩;rw[I];intro j' jj;by_cases e:j'=j
  ·subst e;exact aQ
  exact m.Rp E (Zz jj e) (q5 j' jj)
 ·intro x hx;have oD:x∈ids u (h+1) i:=hx;exact TZ
 ·show(ids u (h+1) i).Nodup;rw[o9,nodup_cons];exact⟨Z.2,Z.1⟩
 ·show(ids u (h+1) i).length+_=_;rw[o9,length_cons];exact m.SO
 ·intro x;show x∈dX u (h+1) i↔_;rw[O];exact m.IL x
 intro d hd e hs;cases d with
 | zero=>exact⟨by show(u.pg i).next=e;rw[I];exact hs,rfl⟩
 | succ d =>
  show eV u (cy u (d+1) i) e∧(cy u (d+1) i).headD e=_;rw[U d w4];exact m.Jh E w4 hs
theorem jl.place{up:K}{aB:Int}(m:jl t u h i low high j k row (some (up,aB))):aL (t.pg i) up=j∧up∉(t.pg i).keys∧kY low high up∧bM low up:=by
 obtain⟨q1,q2,I,O,Z⟩:=m.ok;have po:=m.hp _ (jq q1);have hn:=(po.node q2).1;have aQ:=m.ins.ok;rw[m.aB] at aQ;obtain⟨o1,o2,o3,o4,o5⟩:=aQ;have U:=m.hj;have eO:∀(h0:0<j),bM ((t.pg i).keys[j-1]'w4) up:=fun h0=>by rw[Ev h0 w4] at o2;exact o2
 have er:∀(hl:j<(t.pg i).keys.length),bM up (t.pg i).keys[j]:=fun hl=>by
  rw[EL hl] at o3;exact o3 (by intro e;have:=(po.kR _ (getElem_mem hl)).1;rw[e] at this;simp at this)
 have fC:aL (t.pg i) up=j:=by
  unfold aL;rw[if_neg (by rw[q2];decide)];exact IK po.jF w4 (fun h0=>yu (eO h0)) er
 have E:bM low up:=by
  rcases Nat.eq_zero_or_pos j with h0|h0
  ·rw[h0] at o2;exact o2
  exact Nu (O _ (getElem_mem (by omega:j-1<_))) (eO h0)
 refine⟨fC,fun hm=>?_,⟨yu E,fun hne=>?_⟩,E⟩
 ·obtain⟨a,ha,e⟩:=mem_iff_getElem.1 hm;rcases Nat.lt_or_ge a j with h1|h1
  ·have h2:=eO w4;rcases Nat.lt_or_ge a (j-1) with h3|h3
   ·have:=mh (mK po.jF h3 w4) h2;rw[e] at this;exact j3 _ this
   have:a=j-1:=(by omega)
   subst this;rw[e] at h2;exact j3 _ h2
  have h2:=er w4;rcases Nat.lt_or_ge j a with h3|h3
  ·have:=mh h2 (mK po.jF h3 ha);rw[e] at this;exact j3 _ this
  have:a=j:=(by omega)
  subst this;rw[e] at h2;exact j3 _ h2
 by_cases hl:j<(t.pg i).keys.length
 ·exact mh (er hl) (by rw[←I];exact po.pX (by rw[I];exact hne) _ (getElem_mem hl))
 rw[II w4,I] at o3;exact o3 hne
theorem aa9{up:K}{aB:Int}(m:jl t u h i low high j k row (some (up,aB))):nY t (qK u i up aB).1 (h+1) i low high k row (qK u i up aB).2:=by
 obtain⟨p1,p2,p3,p4⟩:=m.place;have es:=m.same;have zY:=m.ok.idx;have aQ:=m.ins.ok;rw[m.aB] at aQ;obtain⟨o1,o2,o3,o4,o5⟩:=aQ;obtain⟨q1,q2,q3,q4,q5⟩:=m.ok;have hle:=m.ins.le;have TA:=m.ins.more;have O:0≤i∧i<u.af.length:=⟨zY.1,by omega⟩
 have WM:=m.hp _ (jq q1);have po:ew (t.pg i) u.af.length:=WM.more w4;have hn:=(po.node q2).1;have lH:=m.hj;have hf:vT (bB (t.pg i) up aB) u.af.length:=HS po p2 o1 (by rw[q3];exact p3.2) o5.idx.1 (fun _=>o5.idx.2);have I:(bB (t.pg i) up aB).kids=(t.pg i).kids.take j++((t.pg i).kids[j]'m.hj)::aB::(t.pg i).kids.drop (j+1):=by
  show gA _ (if (t.pg i).leaf=true then _ else _) aB=_;rw[if_neg (by rw[q2];decide),p1];exact Nv m.hj aB
 have afJ:(bB (t.pg i) up aB).keys=gA (t.pg i).keys j up:=by
  show gA _ _ _=_;rw[p1]
 have U:∀x∈(bB (t.pg i) up aB).keys,¬bM x low:=fun x hx=>by
  rcases uk.1 hx with rfl|h
  ·exact p3.1
  exact q4 x h
 have hKT:ja t h low (t.pg i).kids (t.pg i).keys high:=(AK WM).1 m.ok |>.2.2.2.2
 -- what is below,in any tree that amC
 have below:∀{v:aE},nL u v i→(∀x,x∈ids u h ((t.pg i).kids[j]'m.hj)++ids u h aB→v.pg x=u.pg x):=fun E x hx=>by
  refine m.below E x hx ?_ ?_
  ·rcases mem_append.1 hx with hx|hx
   ·exact(o4.ids x hx).1
   exact(o5.ids x hx).1
  rcases mem_append.1 hx with hx|hx
  ·exact(o4.ids x hx).2
  exact(o5.ids x hx).2
 have MB:∀{v:aE},nL u v i→_:=fun {v} E=>frame (t:=u) (u:=v) h ((t.pg i).kids[j]'m.hj) (fun x hx=>below E x (mem_append_left _ hx));have MC:∀{v:aE},nL u v i→_:=fun {v} E=>frame (t:=u) (u:=v) h aB (fun x hx=>below E x (mem_append_right _ hx));have WN:∀{v:aE},nL u v i→ja v h low (bB (t.pg i) up aB).kids (bB (t.pg i) up aB).keys high:=fun {v} E=>by
  have e1:(bB (t.pg i) up aB).kids=gA (t.pg i).kids (j+1) aB:=(by rw[I];exact(Nv m.hj aB).symm)
  rw[e1,afJ];refine P1 j m.hj hKT (fun c hc lo hi aQ=>m.Rp E ?_ aQ) ?_ ?_
  ·rcases X4 hc with hc|hc
   ·exact mem_append_left _ hc
   exact mem_append_right _ hc
  ·have:=o4.frame E.le (fun x hx=>below E x (mem_append_left _ hx));unfold gQ at this;exact this
  have:=o5.frame E.le (fun x hx=>below E x (mem_append_right _ hx));unfold gC at this;rw[q3] at this;exact this
 have Uz:∀{v:aE},nL u v i→(bB (t.pg i) up aB).kids.flatMap (ids v h)=((t.pg i).kids.take j).flatMap (ids t h)++nr u h ((t.pg i).kids[j]'m.hj) (some (up,aB))++((t.pg i).kids.drop (j+1)).flatMap (ids t h):=fun {v} E=>by
  rw[I,Hr (fun x hx=>(m.pT E (mem_append_left _ hx)).1) (fun x hx=>(m.pT E (mem_append_right _ hx)).1),(MB E).1,(MC E).1];rfl
 have Z:∀{v:aE},nL u v i→(bB (t.pg i) up aB).kids.flatMap (dX v h)=((t.pg i).kids.take j).flatMap (dX t h)++E6 u h ((t.pg i).kids[j]'m.hj) (some (up,aB))++((t.pg i).kids.drop (j+1)).flatMap (dX t h):=fun {v} E=>by
  rw[I,Hr (fun x hx=>(m.pT E (mem_append_left _ hx)).2.1) (fun x hx=>(m.pT E (mem_append_right _ hx)).2.1),(MB E).2.1,(MC E).2.1];rfl
 have UA:∀{v:aE},nL u v i→∀d,d≤h→(bB (t.pg i) up aB).kids.flatMap (cy v d)=((t.pg i).kids.take j).flatMap (cy t d)++rW u d ((t.pg i).kids[j]'m.hj) (some (up,aB))++((t.pg i).kids.drop (j+1)).flatMap (cy t d):=fun {v} E d hd=>by
  rw[I,Hr (fun x hx=>(m.pT E (mem_append_left _ hx)).2.2 d hd) (fun x hx=>(m.pT E (mem_append_right _ hx)).2.2 d hd),(MB E).2.2 d hd,(MC E).2.2 d hd];rfl
 have vo:=m.P3;have BF:=m.SO;have UB:∀x:Int,0≤x→x<t.af.length→x∉ids t (h+1) i→u.pg x=t.pg x∧x≠i:=fun x h0 hx hne=>by
  refine⟨m.ins.out x h0 hx fun hm=>hne ?_,fun e=>hne (by rw[e];exact sK _ _)⟩;rw[m.aB] at hm;rw[ids];exact mem_cons_of_mem _ (mem_flatMap.2 ⟨_,getElem_mem _,hm⟩)
 by_cases h4:(bB (u.pg i) up aB).keys.length≤4
 ·rw[HU h4];rw[es] at h4 ⊢;have ep:=Az O (bB (t.pg i) up aB);have E:nL u (u.set i (bB (t.pg i) up aB)) i:=⟨by rw[nJ];omega,fun x h0 hx hne=>vC O.1 h0 (Ne.symm hne) _⟩
  have o9:ids (u.set i (bB (t.pg i) up aB)) (h+1) i=i::(((t.pg i).kids.take j).flatMap (ids t h)++nr u h ((t.pg i).kids[j]'m.hj) (some (up,aB))++((t.pg i).kids.drop (j+1)).flatMap (ids t h)):=(by rw[ids,ep,Uz E])
  refine⟨by rw[nJ];omega,by rw[nJ];omega,m.ins.root,by rw[nJ];exact Hp m.ins.page (hf.ok h4),fun x h0 hx hne=>?_,?_,fun x hx=>?_,?_,?_,fun x=>?_,fun d hd e hs=>?_⟩
  ·obtain⟨e1,e2⟩:=UB x h0 hx hne;rw[E.pg x h0 w4 e2,e1]
  ·show dP _ (h+1) i low high;refine(AK (n:=u.af.length) (by rw[ep];exact hf.ok h4)).2 ?_;rw[ep];exact⟨by rw[nJ];exact O,q2,q3,U,WN E⟩
  ·have oD:x∈ids (u.set i (bB (t.pg i) up aB)) (h+1) i:=hx;exact TZ
  ·show(ids _ (h+1) i).Nodup;rw[o9,nodup_cons];exact⟨vo.2,vo.1⟩
  ·show(ids _ (h+1) i).length+_=_;rw[o9,length_cons,nJ];exact BF
  ·show x∈dX _ (h+1) i↔_;rw[dX,ep,Z E];exact m.IL x
  cases d with
  | zero=>exact⟨by show((u.set i _).pg i).next=e;rw[ep];exact hs,rfl⟩
  | succ d =>
   show eV _ (cy _ (d+1) i) e∧(cy _ (d+1) i).headD e=_;rw[cy,ep,UA E d w4];exact m.Jh E w4 hs
 have h5:(bB (t.pg i) up aB).keys.length=5:=(by rw[es] at h4;have:=hf.eI;omega)
 rw[Hq h4];rw[es] at h4 ⊢;have CM:(bB (t.pg i) up aB).leaf=false:=q2;have ea:=Ov O (bn (bB (t.pg i) up aB) u.af.length) (bp (bB (t.pg i) up aB));have eb:=P2 u i (bn (bB (t.pg i) up aB) u.af.length) (bp (bB (t.pg i) up aB));have E:nL u (jb u i (bn (bB (t.pg i) up aB) u.af.length) (bp (bB (t.pg i) up aB))) i:=⟨by rw[oR];omega,fun x h0 hx hne=>NM O.1 ⟨h0,hx⟩ (Ne.symm hne) _ _⟩
 obtain⟨u1,u2⟩:=Ro hf.jF h5 U;have CL:iV (bB (t.pg i) up aB)∈(bB (t.pg i) up aB).keys:=(by rw[yx h5];exact getElem_mem _)
 have eO:=SN hf h5 w4;have er:=Rn (m:=u.af.length+1) hf h5 w4;have zS:=NL 2 w4 (WN E);rw[←yx h5] at zS;have Gs:(bn (bB (t.pg i) up aB) u.af.length).kids=(bB (t.pg i) up aB).kids.take 3:=by
  show(bB (t.pg i) up aB).kids.take (if _ then _ else _)=_;rw[if_neg (by rw[CM];decide)]
 have Gt:(bp (bB (t.pg i) up aB)).kids=(bB (t.pg i) up aB).kids.drop 3:=by
  show(bB (t.pg i) up aB).kids.drop (if _ then _ else _)=_;rw[if_neg (by rw[CM];decide)]
 have ehy:(bp (bB (t.pg i) up aB)).keys=(bB (t.pg i) up aB).keys.drop 3:=by
  show(bB (t.pg i) up aB).keys.drop (if _ then _ else _)=_;rw[if_neg (by rw[CM];decide)]
 have parts:∀{α:Type} (f:Int→List α),((bB (t.pg i) up aB).kids.take 3).flatMap f++((bB (t.pg i) up aB).kids.drop 3).flatMap f=(bB (t.pg i) up aB).kids.flatMap f:=fun f=>by rw[←flatMap_append,take_append_drop]
 have o9:nr (jb u i (bn (bB (t.pg i) up aB) u.af.length) (bp (bB (t.pg i) up aB))) (h+1) i (some (iV (bB (t.pg i) up aB),(u.af.length:Int)))=(i::((bB (t.pg i) up aB).kids.take 3).flatMap (ids (jb u i (bn (bB (t.pg i) up aB) u.af.length) (bp (bB (t.pg i) up aB))) h))++((u.af.length:Int)::((bB (t.pg i) up aB).kids.drop 3).flatMap (ids (jb u i (bn (bB (t.pg i) up aB) u.af.length) (bp (bB (t.pg i) up aB))) h)):=by
  show ids _ (h+1) i++ids _ (h+1) _=_;rw[ids,ids,ea,eb,Gs,Gt]
 have pid:=(parts (ids (jb u i (bn (bB (t.pg i) up aB) u.af.length) (bp (bB (t.pg i) up aB))) h)).trans (Uz E);have ah3:∀x∈((t.pg i).kids.take j).flatMap (ids t h)++nr u h ((t.pg i).kids[j]'m.hj) (some (up,aB))++((t.pg i).kids.drop (j+1)).flatMap (ids t h),x<u.af.length:=fun x hx=>by
  rcases mem_append.1 hx with hx|hx
  ·rcases mem_append.1 hx with hx|hx
   ·obtain⟨c,hc,hx⟩:=mem_flatMap.1 hx;obtain⟨a,ha,rfl⟩:=mem_iff_getElem.1 (mem_of_mem_take hc);have:=(q5 a ha).ids x hx;omega
   rcases mem_append.1 hx with hx|hx
   ·exact(o4.ids x hx).2
   exact(o5.ids x hx).2
  obtain⟨c,hc,hx⟩:=mem_flatMap.1 hx;obtain⟨a,ha,rfl⟩:=mem_iff_getElem.1 (mem_of_mem_drop hc);have:=(q5 a ha).ids x hx;omega
 refine⟨by rw[oR];omega,by rw[oR];omega,m.ins.root,?_,fun x h0 hx hne=>?_,⟨hf.kR _ CL,u1,fun hne=>?_,?_,?_⟩,fun x hx=>?_,?_,?_,fun x=>?_,fun d hd e hs=>?_⟩
 ·rw[oR];exact NN m.ins.page w4 eO er
 ·obtain⟨e1,e2⟩:=UB x h0 hx hne;rw[E.pg x h0 w4 e2,e1]
 ·have:=hf.pX (by show(t.pg i).high≠[];rw[q3];exact hne) _ CL;rw[←q3];exact this
 ·refine(AK (n:=(u.af.length:Int)+1) (by rw[ea];exact eO)).2 ?_;rw[ea,Gs];exact⟨by rw[oR];omega,CM,rfl,fun x hx=>U x (mem_of_mem_take hx),zS.1⟩
 ·refine(AK (n:=(u.af.length:Int)+1) (by rw[eb];exact er)).2 ?_;rw[eb,Gt,ehy];refine⟨by rw[oR];omega,CM,q3,fun x hx=>u2 x ?_,zS.2⟩;rw[show 3=2+1 from rfl,←drop_drop] at hx;exact mem_of_mem_drop hx
 ·rw[o9] at hx;have eY:x=i∨x=(u.af.length:Int)∨x∈((bB (t.pg i) up aB).kids.take 3).flatMap (ids (jb u i (bn (bB (t.pg i) up aB) u.af.length) (bp (bB (t.pg i) up aB))) h)++((bB (t.pg i) up aB).kids.drop 3).flatMap (ids (jb u i (bn (bB (t.pg i) up aB) u.af.length) (bp (bB (t.pg i) up aB))) h):=by
   rcases mem_append.1 hx with hx|hx
   ·rcases mem_cons.1 hx with h|h
    ·exact .inl h
    exact .inr (.inr (mem_append_left _ h))
   rcases mem_cons.1 hx with h|h
   ·exact .inr (.inl h)
   exact .inr (.inr (mem_append_right _ h))
  rw[pid] at eY;rcases eY with rfl|rfl|hx
  ·exact .inl (sK _ _)
  ·exact .inr w4
  exact m.Sn x hx
 ·rw[o9];have hnd:=vo.1;rw[←pid,nodup_append] at hnd;have pB:=vo.2;rw[←pid] at pB;simp only[mem_append,not_or] at pB;have jP:∀x∈((bB (t.pg i) up aB).kids.take 3).flatMap (ids (jb u i (bn (bB (t.pg i) up aB) u.af.length) (bp (bB (t.pg i) up aB))) h)++((bB (t.pg i) up aB).kids.drop 3).flatMap (ids (jb u i (bn (bB (t.pg i) up aB) u.af.length) (bp (bB (t.pg i) up aB))) h),x<u.af.length:=fun x hx=>ah3 x (by rw[←pid];exact hx);rw[nodup_append,nodup_cons,nodup_cons];refine⟨⟨pB.1,hnd.1⟩,⟨fun hm=>?_,hnd.2.1⟩,fun a ha b hb e=>?_⟩
  ·have:=jP _ (mem_append_right _ hm);omega
  subst e;rcases mem_cons.1 ha with rfl|ha
  ·rcases mem_cons.1 hb with hb|hb
   ·omega
   exact pB.2 hb
  rcases mem_cons.1 hb with rfl|hb
  ·have:=jP _ (mem_append_left _ ha);omega
  exact hnd.2.2 a ha a hb rfl
 ·rw[o9,oR];have:=congrArg length pid;rw[length_append] at this;rw[length_append,length_cons,length_cons];omega
 ·show x∈dX _ (h+1) i++dX _ (h+1) _↔_;rw[dX,dX,ea,eb,Gs,Gt,parts,Z E];exact m.IL x
 cases d with
 | zero =>
  refine⟨?_,rfl⟩;show((jb u i _ _).pg i).next=_∧((jb u i _ _).pg _).next=e;rw[ea,eb];exact⟨rfl,hs⟩
 | succ d =>
  show eV _ (cy _ (d+1) i++cy _ (d+1) _) e∧(cy _ (d+1) i++cy _ (d+1) _).headD e=_;rw[cy,cy,ea,eb,Gs,Gt,parts,UA E d w4];exact m.Jh E w4 hs
theorem EN:∀{h:Nat} {t:aE} (hp:∀p∈t.af,ew p t.af.length) {i:Int} {low high:K} (ok:dP t h i low high) (nd:(ids t h i).Nodup) {k:K} {row:Int} (hk:kY low high k) (hn:∀x∈dX t h i,x.1≠k) (hl:1≤k.length∧k.length≤100) (hr:0≤row),nY t (gi t k row h i).1 h i low high k row (gi t k row h i).2
 | 0,t,hp,i,low,high,ok,nd,k,row,hk,hn,hl,hr=>aa8 hp ok hk hn hl hr
 | h+1,t,hp,i,low,high,ok,nd,k,row,hk,hn,hl,hr=>by
  obtain⟨q1,q2,O,Z,U⟩:=id ok;have po:=hp _ (jq q1);obtain⟨d1,d2⟩:=down po q2 O hk;have E:=(vD d1 nd).1;have I:=EN (h:=h) hp (U _ d1) E d2 (fun x hx=>hn x Lj) hl hr;rw[←sR d1] at I;rw[gi];generalize gi t k row h ((t.pg i).kids.getD (aL (t.pg i) k) 0)=R at I;obtain⟨u,r⟩:=R;have m:jl t u h i low high (aL (t.pg i) k) k row r:=⟨hp,ok,nd,d1,d2,I⟩
  cases r with
  | none=>exact HW m
  | some q=>obtain⟨up,aB⟩:=q;exact aa9 m

end Go.Proofs.YtbcmjoaggammcaaGreatDoor.Tr
namespace Go.Proofs.YtbcmjoaggammcaaGreatDoor.Tr
open List
open Go.Proofs.Tryz
open Go.Lib (compareBytes)
variable {t:aE} {h:Nat} {k:K} {row:Int}
variable {p:cR}
def kD(t:aE)(h:Nat):List (K×Int):=dX t h t.root
def gp(t:aE)(h:Nat)(k:K)(row:Int):aE:=afI (gi t k row h t.root)
def iM(u:aE)(up:K)(aB:Int):aE:=⟨u.af++[⟨false,[up],[u.root,aB],[],-1⟩],u.af.length⟩
theorem sS(u:aE)(up:K)(aB:Int):(iM u up aB).af.length=u.af.length+1:=by simp[iM]
theorem aba(u:aE)(up:K)(aB:Int):(iM u up aB).pg u.af.length=⟨false,[up],[u.root,aB],[],-1⟩:=by
 unfold aE.pg iM;rw[getD_eq_getElem?_getD,getElem?_append_right w4];simp
theorem abb{u:aE}{x:Int}(hx:0≤x∧x<u.af.length)(up:K)(aB:Int):(iM u up aB).pg x=u.pg x:=by
 unfold aE.pg iM;rw[getD_eq_getElem?_getD,getD_eq_getElem?_getD,getElem?_append_left w4]
theorem Valid.range(v:Valid t h):0≤t.root∧t.root<t.af.length:=v.ok.idx
theorem P4(hp:∀p∈t.af,ew p t.af.length):∀{h:Nat} {i:Int} {low high:K},dP t h i low high→h+1≤(ids t h i).length
 | 0,_,_,_,_=>by simp[ids]
 | h+1,i,low,high,⟨q1,q2,I,O,E⟩=>by
  have po:=hp _ (jq q1);have hn:=(po.node q2).1;have h0:0<(t.pg i).kids.length:=(by omega)
  have:=P4 hp (E 0 h0);rw[ids,length_cons,uo h0,flatMap_append,flatMap_cons,length_append,length_append];omega
theorem Valid.high(v:Valid t h):h<t.af.length:=by
 have:=P4 v.page v.ok;rw[v.all] at this;omega
theorem ZA(v:Valid t h)(hn:∀x∈kD t h,x.1≠k)(hl:1≤k.length∧k.length≤100)(hr:0≤row)(hm:t.af.length+(h+2)≤4000) :
  ∃h',(h≤h'∧h'≤h+1)∧Valid (gp t h k row) h'∧(t.af.length≤(gp t h k row).af.length∧(gp t h k row).af.length≤t.af.length+(h+2))∧∀x,x∈kD (gp t h k row) h'↔x=(k,row)∨x∈kD t h:=by
 have I:=EN v.page v.ok v.zb (sZ k) hn hl hr;unfold gp;generalize gi t k row h t.root=R at I;obtain⟨u,r⟩:=R;have hle:t.af.length≤u.af.length:=I.le;have TA:u.af.length≤t.af.length+(h+1):=I.more;have O:(nr u h t.root r).length+t.af.length=(ids t h t.root).length+u.af.length:=I.WL;rw[v.all] at O;have an1:=v.pos;have E:u.root=t.root:=I.root;cases r with
 | none =>
  refine⟨h,⟨Nat.le_refl _,by omega⟩,⟨by show 1≤u.af.length;omega,by show u.af.length≤4000;omega,I.page,?_,?_,?_,fun d hd=>?_⟩,⟨hle,by show u.af.length≤_;omega⟩,fun x=>?_⟩
  ·show dP u h u.root [] [];rw[E];exact I.ok
  ·show(ids u h u.root).Nodup;rw[E];exact I.nodup
  ·show(ids u h u.root).length=u.af.length;rw[E];have:(ids u h t.root).length+t.af.length=t.af.length+u.af.length:=O;omega
  ·show eV u (cy u d u.root) (-1);rw[E];exact(I.oL d hd (-1) (v.oL d hd)).1
  show x∈dX u h u.root↔_;rw[E];exact I.dX x
 | some q =>
  obtain⟨up,aB⟩:=q;obtain⟨o1,o2,o3,o4,o5⟩:(1≤up.length∧up.length≤100)∧bM [] up∧(([]:K)≠[]→bM up [])∧dP u h t.root [] up∧dP u h aB up []:=I.ok;have ho:∀x∈ids u h t.root++ids u h aB,(iM u up aB).pg x=u.pg x:=fun x hx=>by
   refine abb ?_ up aB;rcases mem_append.1 hx with hx|hx
   ·exact o4.ids x hx
   exact o5.ids x hx
  have f1:=frame (t:=u) (u:=iM u up aB) h t.root (fun x hx=>ho x (mem_append_left _ hx));have f2:=frame (t:=u) (u:=iM u up aB) h aB (fun x hx=>ho x (mem_append_right _ hx));have g1:dP (iM u up aB) h t.root [] up:=o4.frame (by rw[sS];omega) (fun x hx=>ho x (mem_append_left _ hx));have g2:dP (iM u up aB) h aB up []:=o5.frame (by rw[sS];omega) (fun x hx=>ho x (mem_append_right _ hx));have U:=aba u up aB;rw[E] at U;have hnd:=I.nodup;have o9:ids (iM u up aB) (h+1) u.af.length=(u.af.length:Int)::(ids u h t.root++ids u h aB):=by
   rw[ids,U];show _::([t.root,aB].flatMap (ids (iM u up aB) h))=_;rw[flatMap_cons,flatMap_cons,flatMap_nil,append_nil,f1.1,f2.1]
  have Z:ew (⟨false,[up],[t.root,aB],[],-1⟩:cR) (u.af.length+1:Nat):=by
   have i1:=o4.idx;have i2:=o5.idx;refine⟨by simp,by simp,by simp,by simp;omega,by simp,(fun h=>by cases h),fun _=>⟨rfl,by simp⟩,fun x hx=>?_,fun h=>absurd rfl h,by simp,fun x hx=>?_,fun _ x hx=>?_⟩
   ·have:x=up:=(by simpa using hx)
    subst this;exact o1
   ·have:x=t.root∨x=aB:=(by simpa using hx)
    rcases this with rfl|rfl
    ·exact i1.1
    exact i2.1
   have:x=t.root∨x=aB:=(by simpa using hx)
   rcases this with rfl|rfl<;>omega
  refine⟨h+1,⟨by omega,by omega⟩,⟨?_,?_,?_,?_,?_,?_,fun d hd=>?_⟩,⟨?_,?_⟩,fun x=>?_⟩
  ·show 1≤(iM u up aB).af.length;rw[sS];omega
  ·show(iM u up aB).af.length≤4000;rw[sS];omega
  ·show ∀p∈(iM u up aB).af,ew p (iM u up aB).af.length;rw[sS];intro p hp;rcases mem_append.1 hp with hp|hp
   ·have zJ:ew p u.af.length:=I.page p hp;exact zJ.more w4
   rw[mem_singleton] at hp;subst hp;rw[E];exact Z
  ·show dP (iM u up aB) (h+1) u.af.length [] [];refine(AK (n:=(u.af.length+1:Nat)) (by rw[U];exact Z)).2 ?_;rw[U];refine⟨by rw[sS];omega,rfl,rfl,fun x _=>Jf x,?_⟩;rw[pL,AA];exact⟨g1,g2⟩
  ·show(ids (iM u up aB) (h+1) u.af.length).Nodup;rw[o9,nodup_cons];refine⟨fun hm=>?_,hnd⟩;rcases mem_append.1 hm with hm|hm
   ·have:=o4.ids _ hm;omega
   have:=o5.ids _ hm;omega
  ·show(ids (iM u up aB) (h+1) u.af.length).length=(iM u up aB).af.length;rw[o9,sS,length_cons];have:(ids u h t.root++ids u h aB).length+t.af.length=t.af.length+u.af.length:=O;omega
  ·show eV (iM u up aB) (cy (iM u up aB) d u.af.length) (-1);cases d with
   | zero=>show((iM u up aB).pg u.af.length).next = -1;rw[U]
   | succ d =>
    rw[cy,U];show eV _ ([t.root,aB].flatMap (cy (iM u up aB) d)) (-1);rw[flatMap_cons,flatMap_cons,flatMap_nil,append_nil,f1.2.2 d w4,f2.2.2 d w4];refine xV (fun x hx=>?_) (I.oL d w4 (-1) (v.oL d w4)).1;have oD:x∈cy u d t.root++cy u d aB:=hx;rw[ho x ?_];rcases mem_append.1 oD with oD|oD
    ·exact mem_append_left _ (rD h _ d w4 x oD)
    exact mem_append_right _ (rD h _ d w4 x oD)
  ·show t.af.length≤(iM u up aB).af.length;rw[sS];omega
  ·show(iM u up aB).af.length≤_;rw[sS];omega
  show x∈dX (iM u up aB) (h+1) u.af.length↔_;rw[dX,U];show x∈[t.root,aB].flatMap (dX (iM u up aB) h)↔_;rw[flatMap_cons,flatMap_cons,flatMap_nil,append_nil,f1.2.1,f2.2.1];exact I.dX x
theorem Ow:Valid rV 0:=by
 refine⟨by decide,by decide,fun p hp=>?_,⟨by decide,rfl,rfl,fun k hk=>by cases hk⟩,by simp[ids],rfl,fun d hd=>?_⟩
 ·have:p=⟨true,[],[],[],-1⟩:=(by simpa[rV] using hp)
  subst this;exact⟨by simp,by simp,by simp,by simp[rV],by simp,fun _=>rfl,(fun h=>by cases h),(fun k hk=>by cases hk),(fun h=>absurd rfl h),by simp,(fun n hn=>by cases hn),(fun h=>by cases h)⟩
 obtain rfl:d=0:=(by omega)
 rfl
theorem abc:kD rV 0=[]:=rfl
/-! ### Found -/
theorem D9(hl:p.kids.length=p.keys.length){a:Nat}(ha:a<p.keys.length):(eU p)[a]'(by unfold eU;rw[length_zip];omega)=(p.keys[a],p.kids[a]'w4):=by unfold eU;rw[getElem_zip]
theorem Ap(hl:p.kids.length=p.keys.length){x:K×Int}:x∈eU p↔∃a,∃(ha:a<p.keys.length),x=(p.keys[a],p.kids[a]'w4):=by
 constructor
 ·intro h;obtain⟨a,ha,e⟩:=mem_iff_getElem.1 h;have E:a<p.keys.length:=(by unfold eU at ha;rw[length_zip] at ha;omega)
  exact⟨a,E,by rw[←e,D9 hl E]⟩
 rintro⟨a,ha,rfl⟩;exact mem_iff_getElem.2 ⟨a,by unfold eU;rw[length_zip];omega,D9 hl ha⟩
def AU(t:aE)(k:K)(h:Nat):Prop:=∃(ha:aL (t.pg (aI t k h t.root)) k<(t.pg (aI t k h t.root)).keys.length),(t.pg (aI t k h t.root)).keys[aL (t.pg (aI t k h t.root)) k]=k
theorem Valid.leaf(v:Valid t h)(k:K):(0≤aI t k h t.root∧aI t k h t.root<t.af.length)∧(t.pg (aI t k h t.root)).leaf=true:=by
 obtain⟨_,_,_,_,_,_,_,h3,_⟩:=Ay v.page v.ok (sZ k);exact⟨h3.1,h3.2.1⟩
theorem found(v:Valid t h)(k:K)(row:Int):(k,row)∈kD t h↔∃(ha:aL (t.pg (aI t k h t.root)) k<(t.pg (aI t k h t.root)).keys.length),(t.pg (aI t k h t.root)).keys[aL (t.pg (aI t k h t.root)) k]=k∧(t.pg (aI t k h t.root)).kids.getD (aL (t.pg (aI t k h t.root)) k) 0=row:=by
 obtain⟨pre,post,lo,hi,e,h1,h2,h3,h4⟩:=Ay v.page v.ok (sZ k);have po:=v.page _ (jq h3.1);have fB:=h3.2.1;have hlen:=po.leaf fB;unfold kD;rw[vL,e,flatMap_append,flatMap_cons];generalize I:t.pg (aI t k h t.root)=p at *;have fC:aL p k=gh p.keys k:=(by unfold aL;rw[if_pos fB])
 rw[fC];simp only[mem_append];constructor
 ·rintro(hx|hx|hx)
  ·obtain⟨l,hl,hx⟩:=mem_flatMap.1 hx;exact absurd (h1 l hl _ hx) (j3 k)
  ·obtain⟨a,ha,e2⟩:=(Ap hlen).1 hx;injection e2 with E O
   have:gh p.keys k=a:=by
    rcases Nat.lt_trichotomy (gh p.keys k) a with h5|h5|h5
    ·exfalso;have:=Ao (keys:=p.keys) (k:=k) w4;have h6:=mK po.jF h5 ha;rw[←E] at h6;exact this h6
    ·exact h5
    have:=(Aw h5).2;rw[←E] at this;exact absurd this (j3 k)
   subst this;exact⟨ha,E.symm,by rw[getD_eq_getElem?_getD,getElem?_eq_getElem w4];exact O.symm⟩
  obtain⟨l,hl,hx⟩:=mem_flatMap.1 hx;exact absurd (h2 l hl _ hx) (j3 k)
 rintro⟨ha,e1,e2⟩;refine .inr (.inl ((Ap hlen).2 ⟨_,ha,?_⟩));rw[getD_eq_getElem?_getD,getElem?_eq_getElem w4] at e2;rw[e1];congr 1;exact e2.symm
theorem Aq(v:Valid t h)(k:K):AU t k h↔∃row,(k,row)∈kD t h:=by
 constructor
 ·rintro⟨ha,e⟩;exact⟨_,(found v k _).2 ⟨ha,e,rfl⟩⟩
 rintro⟨row,hr⟩;obtain⟨ha,e,_⟩:=(found v k row).1 hr;exact⟨ha,e⟩
/-! ### Taken out -/
def ke(p:cR)(a:Nat):cR:={p with keys:=p.keys.eraseIdx a,kids:=p.kids.eraseIdx a}
def gq(t:aE)(h:Nat)(k:K):aE:=t.set (aI t k h t.root) (ke (t.pg (aI t k h t.root)) (aL (t.pg (aI t k h t.root)) k))
theorem aes{n:Int}(hp:ew p n)(hl:p.leaf=true){a:Nat}(ha:a<p.keys.length):ew (ke p a) n:=by
 have hlen:=hp.leaf hl;refine⟨?_,hp.hlen,hp.wo,hp.vW,hp.wq,fun _=>?_,fun h=>?_,fun k hk=>hp.kR k ((eraseIdx_sublist _ _).subset hk),fun hne k hk=>hp.pX hne k ((eraseIdx_sublist _ _).subset hk),hp.jF.sublist (eraseIdx_sublist _ _),fun x hx=>hp.aB x ((eraseIdx_sublist _ _).subset hx),fun h=>?_⟩
 ·show(p.keys.eraseIdx a).length≤4;rw[length_eraseIdx_of_lt ha];have:=hp.eI;omega
 ·show(p.kids.eraseIdx a).length=(p.keys.eraseIdx a).length;rw[length_eraseIdx_of_lt ha,length_eraseIdx_of_lt w4,hlen]
 ·have:p.leaf=false:=h;rw[hl] at this;cases this
 have:p.leaf=false:=h;rw[hl] at this;cases this
theorem Ox{α β:Type}:∀{a:List α} {b:List β} {n:Nat},(a.eraseIdx n).zip (b.eraseIdx n)=(a.zip b).eraseIdx n
 | [],_,n=>by simp
 | _::_,[],n=>by cases n<;>simp
 | x::a,y::b,0=>by simp
 | x::a,y::b,n+1=>by simp[Ox (a:=a) (b:=b) (n:=n)]
theorem P5{q:cR}{l:Int}(hq:q.leaf=true)(hh:q.high=(t.pg l).high)(hx:q.next=(t.pg l).next)(hl:0≤l∧l<t.af.length)(fB:(t.pg l).leaf=true)(E:∀k∈q.keys,k∈(t.pg l).keys):∀{h:Nat} {i:Int} {low high:K},dP t h i low high →
  dP (t.set l q) h i low high∧ids (t.set l q) h i=ids t h i∧∀d,d≤h→cy (t.set l q) d i=cy t d i
 | 0,i,low,high,⟨q1,q2,I,O⟩=>by
  refine⟨?_,rfl,fun d hd=>by cases Nat.le_zero.1 hd;rfl⟩;by_cases e:l=i
  ·subst e;rw[dP,Az hl,nJ];exact⟨q1,hq,by rw[hh];exact I,fun k hk=>O k (E k hk)⟩
  rw[dP,vC hl.1 q1.1 e,nJ];exact⟨q1,q2,I,O⟩
 | h+1,i,low,high,⟨q1,q2,I,O,q5⟩=>by
  have e:l≠i:=fun e=>by rw[e,q2] at fB;cases fB
  have U:=vC (t:=t) hl.1 q1.1 e q;have Z:=fun j (hj:j<(t.pg i).kids.length)=>P5 hq hh hx hl fB E (q5 j hj);refine⟨?_,?_,fun d hd=>?_⟩
  ·rw[dP,U,nJ];exact⟨q1,q2,I,O,fun j hj=>(Z j hj).1⟩
  ·rw[ids,ids,U];congr 1;refine qt fun c hc=>?_;obtain⟨j,hj,rfl⟩:=mem_iff_getElem.1 hc;exact(Z j hj).2.1
  cases d with
  | zero=>rfl
  | succ d =>
   rw[cy,cy,U];refine qt fun c hc=>?_;obtain⟨j,hj,rfl⟩:=mem_iff_getElem.1 hc;exact(Z j hj).2.2 d w4
theorem ZB(v:Valid t h)(ht:AU t k h):Valid (gq t h k) h∧(gq t h k).af.length=t.af.length∧∀x,x∈kD (gq t h k) h↔x∈kD t h∧x.1≠k:=by
 obtain⟨ha,hk⟩:=ht;obtain⟨hl,fB⟩:=v.leaf k;have po:=v.page _ (jq hl);have hq:=aes po fB ha;have hlen:=po.leaf fB;have S:=fun {i:Int} {low high:K} (ok:dP t h i low high)=>P5 (t:=t) (q:=ke (t.pg (aI t k h t.root)) (aL (t.pg (aI t k h t.root)) k)) (l:=aI t k h t.root) fB rfl rfl hl fB (fun k hk=>(eraseIdx_sublist _ _).subset hk) ok;obtain⟨s1,s2,s3⟩:=S v.ok;have E:(gq t h k).af.length=t.af.length:=nJ _ _ _;refine⟨⟨by rw[E];exact v.pos,by rw[E];exact v.mT,?_,s1,?_,?_,fun d hd=>?_⟩,E,fun x=>?_⟩
 ·rw[E];exact Hp v.page hq
 ·show(ids (gq t h k) h t.root).Nodup;unfold gq;rw[s2];exact v.zb
 ·show(ids (gq t h k) h t.root).length=_;rw[E];unfold gq;rw[s2];exact v.all
 ·show eV (gq t h k) (cy (gq t h k) d t.root) (-1);unfold gq;rw[s3 d hd];refine xV (fun y hy=>?_) (v.oL d hd);have I:=v.ok.ids y (rD h _ d hd y hy);by_cases e:aI t k h t.root=y
  ·rw[←e,Az hl];rfl
  rw[vC hl.1 I.1 e]
 obtain⟨pre,post,lo,hi,e,h1,h2,h3,h4⟩:=Ay v.page v.ok (sZ k);have hlv:(cy t h t.root).Nodup→aI t k h t.root∉pre∧aI t k h t.root∉post:=fun hn=>by
  rw[e,nodup_append,nodup_cons] at hn;exact⟨fun hm=>hn.2.2 _ hm _ (mem_cons_self) rfl,hn.2.1.1⟩
 have eO:∀y∈pre,eU ((gq t h k).pg y)=eU (t.pg y)∨y=aI t k h t.root:=fun y hy=>by
  by_cases e':aI t k h t.root=y
  ·exact .inr e'.symm
  left;have I:=v.ok.ids y (rD h _ h (Nat.le_refl _) y (by rw[e];exact mem_append_left _ hy));unfold gq;rw[vC hl.1 I.1 e']
 have qV:∀y∈post,eU ((gq t h k).pg y)=eU (t.pg y)∨y=aI t k h t.root:=fun y hy=>by
  by_cases e':aI t k h t.root=y
  ·exact .inr e'.symm
  left;have I:=v.ok.ids y (rD h _ h (Nat.le_refl _) y (by rw[e];exact mem_append_right _ (mem_cons_of_mem _ hy)));unfold gq;rw[vC hl.1 I.1 e']
 have Z:(k,(t.pg (aI t k h t.root)).kids.getD (aL (t.pg (aI t k h t.root)) k) 0)∈eU (t.pg (aI t k h t.root)):=(Ap hlen).2 ⟨_,ha,by rw[hk,getD_eq_getElem?_getD,getElem?_eq_getElem w4];rfl⟩;have ah4:aI t k h t.root∉pre:=fun hm=>absurd (h1 _ hm _ Z) (j3 k);have afK:aI t k h t.root∉post:=fun hm=>absurd (h2 _ hm _ Z) (j3 k);have ed:eU ((gq t h k).pg (aI t k h t.root))=(eU (t.pg (aI t k h t.root))).eraseIdx (aL (t.pg (aI t k h t.root)) k):=by
  unfold gq;rw[Az hl];exact Ox
 have fe:∀{A:List Int},(∀y∈A,eU ((gq t h k).pg y)=eU (t.pg y)∨y=aI t k h t.root)→aI t k h t.root∉A→A.flatMap (fun l=>eU ((gq t h k).pg l))=A.flatMap (fun l=>eU (t.pg l)):=fun {A} hA hn=>qt fun y hy=>(hA y hy).resolve_right fun e'=>hn (e' ▸ hy);have O:∀x:K×Int,x∈(eU (t.pg (aI t k h t.root))).eraseIdx (aL (t.pg (aI t k h t.root)) k)↔x∈eU (t.pg (aI t k h t.root))∧x.1≠k:=fun x=>by
  rw[mem_eraseIdx_iff_getElem];constructor
  ·rintro⟨a,WO,hne,rfl⟩;refine⟨getElem_mem _,fun hc=>hne ?_⟩;have U:a<(t.pg (aI t k h t.root)).keys.length:=(by unfold eU at WO;rw[length_zip] at WO;omega)
   rw[D9 hlen U] at hc;have hc:(t.pg (aI t k h t.root)).keys[a]=k:=hc;rcases Nat.lt_trichotomy a (aL (t.pg (aI t k h t.root)) k) with h5|h5|h5
   ·have:=mK po.jF h5 ha;rw[hc,hk] at this;exact absurd this (j3 k)
   ·exact h5
   have:=mK po.jF h5 U;rw[hc,hk] at this;exact absurd this (j3 k)
  rintro⟨hx,hne⟩;obtain⟨a,U,rfl⟩:=(Ap hlen).1 hx;refine⟨a,by unfold eU;rw[length_zip];omega,fun e'=>hne ?_,D9 hlen U⟩;subst e';exact hk
 show x∈dX (gq t h k) h t.root↔x∈dX t h t.root∧_;rw[vL,vL];have ah5:cy (gq t h k) h t.root=cy t h t.root:=s3 h (Nat.le_refl _);rw[ah5,e,flatMap_append,flatMap_cons,flatMap_append,flatMap_cons,fe eO ah4,fe qV afK,ed];simp only[mem_append,O];constructor
 ·rintro(hx|hx|hx)
  ·refine⟨.inl hx,fun hc=>?_⟩;obtain⟨l,lJ,hx⟩:=mem_flatMap.1 hx;have:=h1 l lJ x hx;rw[hc] at this;exact j3 k this
  ·exact⟨.inr (.inl hx.1),hx.2⟩
  refine⟨.inr (.inr hx),fun hc=>?_⟩;obtain⟨l,lJ,hx⟩:=mem_flatMap.1 hx;have:=h2 l lJ x hx;rw[hc] at this;exact j3 k this
 rintro⟨hx|hx|hx,hne⟩
 ·exact .inl hx
 ·exact .inr (.inl ⟨hx,hne⟩)
 exact .inr (.inr hx)

end Go.Proofs.YtbcmjoaggammcaaGreatDoor.Tr
namespace Go.Proofs.YtbcmjoaggammcaaGreatDoor.Tr
open List
open Go.Proofs.Tryz
open Go.Lib (compareBytes)
def rX(lv:List (List Int))(n:Nat):List (List Int):=lv++replicate (n-lv.length) []
def kj(lv:List (List Int))(level:Nat)(i:Int):List (List Int):=(rX lv (level+1)).set level ((rX lv (level+1)).getD level []++[i])
abbrev jm:=List Int×List (List Int)
def lp(go:Int→K→K→jm→Option (Nat×jm))(low:K)(p:cR):List Int→Nat→Option Nat→jm→Option (Nat×jm)
 | [],_,deep,s=>deep.map fun d=>(d,s)
 | c::cs,k,deep,s=>match go c (gQ low p k) (gC p k) s with
  | none=>none
  | some (d,s')=>if deep=none∨deep=some d then lp go low p cs (k+1) (some d) s' else none
def jd(t:aE):Nat→Int→K→K→Nat→jm→Option (Nat×jm)
 | 0,_,_,_,_,_=>none
 | f+1,i,low,high,level,s =>
  if i∈s.1 then none
  else if (t.pg i).high≠high∨(∃k,(t.pg i).keys.head?=some k∧bM k low) then none
  else if (t.pg i).leaf=true then some (level,(s.1++[i],kj s.2 level i))
  else lp (fun c lo hi s=>jd t f c lo hi (level+1) s) low (t.pg i) (t.pg i).kids 0 none (s.1++[i],kj s.2 level i)
def uw(t:aE):Prop:=∀p∈t.af,ew p t.af.length
open Classical in
noncomputable def gj(t:aE):Int :=
 if t.af.length<1∨t.af.length>4000∨t.root<0∨t.root≥t.af.length then 11
 else if ¬uw t then 11
 else match jd t (t.af.length+1) t.root [] [] 0 ([],[]) with
  | none=>11
  | some (_,s)=>if s.1.length≠t.af.length then 11 else if ∀l∈s.2,eV t l (-1) then 0 else 11
theorem P6(lv:List (List Int))(n:Nat):(rX lv n).length=max lv.length n:=by unfold rX;rw[length_append,length_replicate];omega
theorem IM(lv:List (List Int))(n m:Nat):(rX lv n).getD m []=lv.getD m []:=by
 unfold rX;rw[getD_eq_getElem?_getD,getD_eq_getElem?_getD];rcases Nat.lt_or_ge m lv.length with h|h
 ·rw[getElem?_append_left h]
 rw[getElem?_append_right h,getElem?_eq_none h,getElem?_replicate];split<;>rfl
theorem HX(lv:List (List Int))(level:Nat)(i:Int):(kj lv level i).length=max lv.length (level+1):=by unfold kj;rw[length_set,P6]
theorem Ew(lv:List (List Int))(level:Nat)(i:Int)(m:Nat):(kj lv level i).getD m []=lv.getD m []++(if m=level then [i] else []):=by
 unfold kj;rw[getD_eq_getElem?_getD];by_cases e:m=level
 ·subst e;rw[getElem?_set_self (by rw[P6];omega),IM,if_pos rfl];rfl
 rw[getElem?_set_ne (fun h=>e h.symm),if_neg e,append_nil,←getD_eq_getElem?_getD,IM]
def we(t:aE)(h level:Nat)(i:Int)(m:Nat):List Int:=if level≤m∧m≤level+h then cy t (m-level) i else []
variable {t:aE}
theorem P7 {h level:Nat} {low:K} {p:cR} (go:Int→K→K→jm→Option (Nat×jm))
  (O:∀(c:Int) (lo hi:K) (s:jm),dP t h c lo hi→(∀x∈ids t h c,x∉s.1)→(ids t h c).Nodup→∃lv,go c lo hi s=some (level+1+h,(s.1++ids t h c,lv))∧lv.length=max s.2.length (level+1+h+1)∧∀m,lv.getD m []=s.2.getD m []++we t h (level+1) c m) :
  ∀(cs:List Int) (k:Nat) (deep:Option Nat) (s:jm),(∀j (hj:j<cs.length),dP t h cs[j] (gQ low p (k+j)) (gC p (k+j)))→(cs.flatMap (ids t h)).Nodup→(∀x∈cs.flatMap (ids t h),x∉s.1)→(deep=none∨deep=some (level+1+h))→(cs≠[]∨deep≠none) →
   ∃lv,lp go low p cs k deep s=some (level+1+h,(s.1++cs.flatMap (ids t h),lv))∧lv.length=(if cs=[] then s.2.length else max s.2.length (level+1+h+1))∧∀m,lv.getD m []=s.2.getD m []++(if level+1≤m∧m≤level+1+h then cs.flatMap (cy t (m-(level+1))) else [])
 | [],k,deep,s,_,_,_,hd,hne=>by
  rcases hd with rfl|rfl
  ·rcases hne with h|h<;>exact absurd rfl h
  exact⟨s.2,by simp[lp],by simp,fun m=>by split<;>simp⟩
 | c::cs,k,deep,s,aQ,hnd,E,hd,_=>by
  rw[flatMap_cons] at hnd E;rw[nodup_append] at hnd;obtain⟨n1,n2,n3⟩:=hnd;obtain⟨I,e1,l1,m1⟩:=O c (gQ low p k) (gC p k) s (aQ 0 bu) (fun x hx=>E x (mem_append_left _ hx)) n1;obtain⟨U,e2,l2,m2⟩:=P7 go O cs (k+1) (some (level+1+h)) (s.1++ids t h c,I) (fun j hj=>by
   have:=aQ (j+1) (by simpa using hj);simp only[getElem_cons_succ] at this;rw[show k+1+j=k+(j+1) by omega];exact this) n2 (fun x hx hm=>by
    rcases mem_append.1 hm with hm|hm
    ·exact E x (mem_append_right _ hx) hm
    exact n3 x hm x hx rfl) (.inr rfl) (.inr bu)
  refine⟨U,?_,?_,fun m=>?_⟩
  ·rw[lp,e1];show(if deep=none∨deep=some (level+1+h) then _ else _)=_;rw[if_pos hd,e2,flatMap_cons,append_assoc]
  ·rw[l2];show(if cs=[] then I.length else max I.length _)=_;rw[l1,if_neg (cons_ne_nil c cs)];split<;>omega
  rw[m2,m1];unfold we;split
  ·rw[flatMap_cons,append_assoc]
  simp
theorem SP(hp:∀p∈t.af,ew p t.af.length):∀{h f:Nat} {i:Int} {low high:K} {level:Nat} {s:jm},h<f→dP t h i low high→(∀x∈ids t h i,x∉s.1)→(ids t h i).Nodup →
  ∃lv,jd t f i low high level s=some (level+h,(s.1++ids t h i,lv))∧lv.length=max s.2.length (level+h+1)∧∀m,lv.getD m []=s.2.getD m []++we t h level i m
 | h,0,_,_,_,_,_,hf,_,_,_=>by omega
 | 0,f+1,i,low,high,level,s,hf,ok,E,hnd=>by
  obtain⟨q1,q2,O,U⟩:=ok;refine⟨kj s.2 level i,?_,HX _ _ _,fun m=>?_⟩
  ·rw[jd,if_neg (E i (sK 0 i)),if_neg,if_pos q2];rfl;rintro(h|⟨k,hk,aa⟩)
   ·exact h O
   exact U k (mem_of_mem_head? hk) aa
  rw[Ew];unfold we;congr 1;by_cases e:m=level
  ·subst e;rw[if_pos rfl,if_pos ⟨Nat.le_refl _,Nat.le_refl _⟩,Nat.sub_self];rfl
  rw[if_neg e,if_neg w4]
 | h+1,f+1,i,low,high,level,s,hf,ok,E,hnd=>by
  obtain⟨q1,q2,O,U,Z⟩:=ok;have po:=hp _ (jq q1);have I:(t.pg i).kids≠[]:=fun e=>by have:=(po.node q2).1;rw[e] at this;simp at this
  rw[ids,nodup_cons] at hnd;rw[ids] at E;obtain⟨lv,e,l,mm⟩:=P7 (t:=t) (h:=h) (level:=level) (low:=low) (p:=t.pg i) (fun c lo hi s=>jd t f c lo hi (level+1) s)
   (fun c lo hi s ok hd hn=>SP hp (h:=h) (f:=f) (level:=level+1) w4 ok hd hn) (t.pg i).kids 0 none (s.1++[i],kj s.2 level i) (fun j hj=>by rw[Nat.zero_add];exact Z j hj) hnd.2 (fun x hx hm=>by
    rcases mem_append.1 hm with hm|hm
    ·exact E x (mem_cons_of_mem _ hx) hm
    rw[mem_singleton] at hm;subst hm;exact hnd.1 hx) (.inl rfl) (.inl I)
  refine⟨lv,?_,?_,fun m=>?_⟩
  ·rw[jd,if_neg (E i mem_cons_self),if_neg,if_neg (by rw[q2];decide),e,ids]
   ·simp;omega
   rintro(h|⟨k,hk,aa⟩)
   ·exact h O
   exact U k (mem_of_mem_head? hk) aa
  ·rw[l,if_neg I];show max (kj s.2 level i).length _=_;rw[HX];omega
  rw[mm];show(kj s.2 level i).getD m []++_=_;rw[Ew];unfold we;rw[append_assoc];congr 1;by_cases e1:m=level
  ·subst e1;rw[if_pos rfl,if_neg w4,if_pos ⟨Nat.le_refl _,by omega⟩,Nat.sub_self];rfl
  rw[if_neg e1,nil_append];by_cases e2:level+1≤m∧m≤level+1+h
  ·rw[if_pos e2,if_pos w4];obtain⟨d,rfl⟩:∃d,m=level+1+d:=⟨m-(level+1),by omega⟩
   rw[show level+1+d-(level+1)=d by omega,show level+1+d-level=d+1 by omega,cy]
  rw[if_neg e2,if_neg w4]
open Classical in
theorem HY{h:Nat}(v:Valid t h):gj t=0:=by
 have hr:=v.range;have E:=v.pos;have hm:=v.mT;unfold gj;rw[if_neg w4,if_neg (by exact fun hn=>hn v.page)];obtain⟨lv,e,l,I⟩:=SP v.page (f:=t.af.length+1) (level:=0) (s:=([],[])) (by have:=v.high;omega) v.ok (fun x _ hx=>by cases hx) v.zb;rw[e];show(if ([]++ids t h t.root).length≠t.af.length then _ else if ∀l∈lv,eV t l (-1) then (0:Int) else 11)=0;rw[if_neg (by rw[nil_append,v.all];simp),if_pos];intro x hx;obtain⟨m,sH,rfl⟩:=mem_iff_getElem.1 hx;have:=I m;rw[getD_eq_getElem?_getD,getElem?_eq_getElem sH] at this;have e2:lv[m]=we t h 0 t.root m:=(by simpa using this)
 rw[e2];unfold we;rw[l] at sH;rw[if_pos (by simp at sH;omega),Nat.sub_zero];exact v.oL m (by simp at sH;omega)

end Go.Proofs.YtbcmjoaggammcaaGreatDoor.Tr
namespace Go.Proofs.YtbcmjoaggammcaaGreatDoor.Tw
open List
open Go.Proofs.Tryz
open Go.RowKit V Tr Pk
open Go.Lib (compareBytes)
variable {l hi k:K} {p:cR} {n many:Int} {i:Nat} {t:aE}
def cK(k:K):List D:=[.list 1 (k.flatMap cB) k.length]
theorem fX(k:K):(cK k).length=1:=rfl
theorem oV(k:K):(cK k).all V.one=true:=rfl
def cI(n:Int):List D:=[.v (.int .i64 n)]
theorem eu(n:Int):(cI n).length=1:=rfl
theorem ng(n:Int):(cI n).all V.one=true:=rfl
def cP(p:cR):List D:=[.v (.bool p.leaf),.list 1 (p.keys.flatMap cK) p.keys.length,.list 1 (p.kids.flatMap cI) p.kids.length,.list 1 (p.high.flatMap cB) p.high.length,.v (.int .i64 p.next)]
theorem EO(p:cR):(cP p).length=5:=rfl
theorem aet(p:cR):(cP p).all V.one=true:=rfl
def cT(t:aE):List D:=[.list 5 (t.af.flatMap cP) t.af.length,.v (.int .i64 t.root)]
def nS(k:K):Bool:=decide (0<k.length∧k.length≤100)
def uI(p:cR)(i:Nat):Prop:=∀(h:i<p.keys.length),nS p.keys[i]=true∧(∀(h0:0<i),bM (p.keys[i-1]'w4) p.keys[i])∧(p.high≠[]→bM p.keys[i] p.high)
theorem abd{l:List K}(h:∀i (hi:i<l.length) (h0:0<i),bM (l[i-1]'w4) l[i]):l.Pairwise bM:=by
 refine pairwise_iff_getElem.2 fun i j hi hj E=>?_;obtain⟨d,rfl⟩:∃d,j=i+1+d:=⟨j-(i+1),by omega⟩
 induction d with
 | zero=>have:=h (i+1) hj w4;simpa using this
 | succ d ih =>
  have h1:=ih w4 w4;have h2:=h (i+1+(d+1)) hj w4;exact mh h1 (by simpa using h2)
theorem QB(h:ew p n)(i:Nat):uI p i:=fun hi=>by
 have hm:=getElem_mem hi;have:=h.kR _ hm;exact⟨by unfold nS;simp;omega,fun h0=>mK h.jF w4 hi,fun hne=>h.pX hne _ hm⟩
theorem I5(h:decide ((l.length:Int)>0)=true):l≠[]:=fun e=>by rw[e] at h;cases h
theorem len_nil(h:decide ((l.length:Int)>0)=false):l=[]:=by
 have:=of_decide_eq_false h;exact length_eq_zero_iff.1 w4
theorem TB(h:decide ((hi.length:Int)>0)=true):decide (compareBytes k hi≥0)=decide (hi≠[]∧¬bM k hi):=by
 have:=I5 h;unfold bM;simp[this]
theorem TC(h:decide ((hi.length:Int)>0)=false):false=decide (hi≠[]∧¬bM k hi):=by simp[len_nil h]
variable {G:List (Nat×List Value)}
theorem vO(a b:K):VP Tryz.prog G 35 [.list 1 (a.flatMap cB) a.length,.list 1 (b.flatMap cB) b.length] (.v (.int .i64 (compareBytes a b))):=by
 exact Uc
theorem TD(a b:K)(ha:a.length≤maxLen)(hb:b.length≤maxLen):VP Tryz.prog G 57 [.list 1 (a.flatMap cB) a.length,.list 1 (b.flatMap cB) b.length] (.v (.bool (decide (a=b)))):=by
 refine VC.body func57 rfl ntmps57 aO fun X0 w0 aZ=>?_;refine ae [0,1] ?_;refine cL [4] ?_;refine aP 1 ?_ (h:=by exact Cn);refine aP 1 ?_ (h:=by exact Cn);refine bG ?_;refine aJ [] ?_;refine⟨vb ?_,rfl⟩;rw[ByteArray.toList_eq,ByteArray.toList_eq];show(a==b)=decide (a=b);by_cases h:a=b<;>simp[h]
theorem yy(k:K):VP Tryz.prog G 54 [.list 1 (k.flatMap cB) k.length] (.v (.bool (nS k))):=by
 refine VC.body func54 rfl ntmps54 aO fun X0 w0 aZ=>?_;refine ae [0] ?_;refine aC 4 ?_;refine bS 6 (fun I E=>?_) (fun I E=>?_)
 ·refine aY [2] ?_;refine eE ?_;refine⟨vb ?_,rfl⟩;unfold nS;first|(simp_all;done)|(simp_all;omega)
 refine aY [2] ?_;refine eE ?_;refine⟨vb ?_,rfl⟩;unfold nS;first|(simp_all;done)|(simp_all;omega)
theorem ZC(p:cR)(k:K):VP Tryz.prog G 100 [.agg (cP p),.list 1 (k.flatMap cB) k.length] (.v (.bool (decide (p.high≠[]∧¬bM k p.high)))):=by
 refine VC.body func100 rfl ntmps100 aO fun X0 w0 aZ=>?_;unfold cP;refine cj ?_;refine OD.box (ds:=[_,_,_,_,_]) an rfl rfl ot rfl rfl (fun b2=>?_);refine aj 16 [1,2] ?_;refine aC 5 ?_;refine bS 9 (fun E I=>?_) (fun E I=>?_)
 ·refine aD 3 ?_;refine OD.gE gH rfl rfl rfl call35 (vO k p.high) ⟨ot,ot,trivial⟩ ?_;refine aj 16 [4] ?_;refine aJ [] ?_;refine⟨vb ?_,rfl⟩;first|exact TB E|exact TC E
 refine aY [4] ?_;refine eE ?_;refine⟨vb ?_,rfl⟩;first|exact TB E|exact TC E
theorem TE{a:Int}(h:(decide (a<0)!=((l.length:Int)==0))=false):a<0↔l=[]:=by
 have h:decide (a<0)=((l.length:Int)==0):=(by simpa using h)
 rw[←length_eq_zero_iff];constructor
 ·intro q;rw[decide_eq_true q] at h;have:=beq_iff_eq.1 h.symm;omega
 intro q;rw[q] at h;exact of_decide_eq_true h
theorem ae3{a:Int}(h:a<0↔l=[]):(!(decide (a<0)==((l.length:Int)==0)))=false:=by
 rw[←length_eq_zero_iff] at h;by_cases q:a<0
 ·rw[decide_eq_true q,h.1 q];rfl
 rw[decide_eq_false q];have:¬l.length=0:=fun e=>q (h.2 e);simp;exact fun e=>this (by rw[e];rfl)
open Classical in
noncomputable def A8(p:cR)(many:Int):Bool:=decide (ew p many)
open Classical in
theorem DX(h:¬ew p many):false=A8 p many:=(decide_eq_false h).symm
open Classical in
theorem ZD(h:ew p many):true=A8 p many:=(decide_eq_true h).symm
theorem ab2(h:ew p n)(hi:i<p.kids.length):0≤p.kids[i]∧(p.leaf=false→p.kids[i]<n):=⟨h.aB _ (getElem_mem hi),fun hl=>h.uX hl _ (getElem_mem hi)⟩
theorem abe(f1:p.keys.length≤4)(f2:p.high.length≤100)(f3:-1≤p.next)(f4:p.next<many)(I:(p.next<0↔p.high=[]))(O:(p.leaf=true→p.kids.length=p.keys.length))(E:(p.leaf=false→p.kids.length=p.keys.length+1∧p.keys.length≠0))(hk:∀j,j<p.keys.length→uI p j)(hc:∀j (hj:j<p.kids.length),0≤p.kids[j]∧(p.leaf=false→p.kids[j]<many)):ew p many:=by
 refine⟨f1,f2,f3,f4,I,O,fun h=>⟨(E h).1,fun e=>(E h).2 (by rw[e];rfl)⟩,fun k h=>?_,fun hne k h=>?_,abd fun i hi h0=>(hk i hi hi).2.1 h0,fun n h=>?_,fun hl n h=>?_⟩
 ·obtain⟨i,hi,rfl⟩:=mem_iff_getElem.1 h;have:=(hk i hi hi).1;unfold nS at this;have:=of_decide_eq_true this;omega
 ·obtain⟨i,hi,rfl⟩:=mem_iff_getElem.1 h;exact(hk i hi hi).2.2 hne
 ·obtain⟨i,hi,rfl⟩:=mem_iff_getElem.1 h;exact(hc i hi).1
 obtain⟨i,hi,rfl⟩:=mem_iff_getElem.1 h;exact(hc i hi).2 hl
theorem acR(p:cR)(many:Int)(dR:p.keys.length≤maxLen)(fi:p.kids.length≤maxLen):VP Tryz.prog G 36 [.agg (cP p),.v (.int .i64 many)] (.v (.bool (A8 p many))):=by
 refine VC.body func36 rfl ntmps36 aO fun X0 w0 aZ=>?_;unfold cP;have dr:maxLen=9223372036854775807:=rfl;refine cj ?_;refine OD.box (ds:=[_,_,_,_,_]) an rfl rfl ot rfl rfl (fun b2=>?_);refine aj 132 [1,2] ?_;refine aC 5 ?_;refine bS 13 (fun ah6 Z=>?_) (fun ah6 Z=>?_)
 ·exact z124
 refine aD 6 ?_;refine bS 19 (fun Ku afL=>?_) (fun Ku afL=>?_)
 ·exact z124
 refine aD 5 ?_;refine bS 24 (fun ah7 afM=>?_) (fun ah7 afM=>?_)
 ·exact z124
 refine aD 6 ?_;refine bS 30 (fun ah8 afN=>?_) (fun ah8 afN=>?_)
 ·exact z124
 refine aD 7 ?_;refine OD.still gH rfl (cX rfl ot ot (Pf underlying4)) ?_;refine aj 132 [1,2,39] ?_;refine aq (fun az aG=>?_) (fun az aG=>?_)
 ·refine ae [4] ?_;refine aJ [] ?_;exact FY
 refine CD.skip ?_;refine jI [1,2] (fun aW I aK=>(p.keys.length≤4)∧(p.high.length≤100)∧(-1≤p.next)∧(p.next<many)∧((p.next<0↔p.high=[]))∧((p.leaf=true→p.kids.length=p.keys.length))∧((p.leaf=false→p.kids.length=p.keys.length+1∧p.keys.length≠0))∧aK=(⟨132,aW,I⟩:St)) ?_ ?_
 ·refine aC 3 ?_;refine bS 42 (fun qH afO=>?_) (fun qH afO=>?_)
  ·refine aD 9 ?_;refine bS 51 (fun ah9 afP=>?_) (fun ah9 afP=>?_)
   ·exact Ug
   refine aD 4 ?_;refine bS 55 (fun tq E=>?_) (fun tq E=>?_)
   ·exact absurd tq (by rw[qH];decide)
   refine aY [1,2,71] ?_;refine fG ?_;refine CD.skip ?_;refine⟨_,aM,w4,w4,w4,w4,(TE az),(fun _=>by omega),(fun h=>absurd qH (by rw[h];decide)),rfl⟩
  refine xn 7 ?_;refine aD 6 ?_;refine bS 55 (fun tq E=>?_) (fun tq E=>?_)
  ·refine aD 9 ?_;refine bS 64 (fun KC JJ=>?_) (fun KC JJ=>?_)
   ·exact Ug
   refine aY [1,2,71] ?_;refine aq (fun aH aT=>?_) (fun aH aT=>?_)
   ·refine ae [4] ?_;refine eE ?_;exact FY
   refine CD.skip ?_;refine⟨_,aM,w4,w4,w4,w4,(TE az),(fun h=>absurd qH (by rw[h];decide)),(fun _=>⟨by omega,by omega⟩),rfl⟩
  exact absurd tq (by rw[qH];decide)
 rintro _ ⟨f1,f2,f3,f4,f5,f6,f7,rfl⟩;refine ae [1,2,73,74,75] ?_;refine eH [1,2,73,74] (fun aW I (i:Nat) aK=>(i≤p.keys.length)∧(∀j,j<i→uI p j)∧aK=(⟨132,(75,.v (.int .i64 (i:Nat)))::aW,I⟩:St)) (fun (i:Nat)=>p.keys.length-i) 0 ⟨(Nat.zero_le _),(fun j h=>by omega),rfl⟩ ?_;rintro i _ ⟨hi,wX,rfl⟩;refine ae [1,2,73,74,75,76] ?_;refine aq (fun aX bw=>?_) (fun aX bw=>?_)
 ·have aa:i<p.keys.length:=(by omega)
  refine ae [1,2,5,6,73,74,75] ?_;refine aC 1 ?_;refine dS call54 (yy p.keys[i]) ?_;refine aD 2 ?_;refine bS 83 (fun wv afQ=>?_) (fun wv afQ=>?_)
  ·refine aj 132 [1,2,73,74,75,110] ?_;refine ez ?_;exact Vn
  refine aD 3 ?_;refine bS 86 (fun aia afR=>?_) (fun aia afR=>?_)
  ·refine aD 4 ?_;refine bQ (dx 1 (h:=by first|exact .l (j:=i-1) w4 w4|exact .r (j:=i-1) w4 w4)) ?_;refine aD 2 ?_;refine OD.gE gH rfl rfl rfl call35 (vO (p.keys[i-1]'w4) p.keys[i]) ⟨ot,ot,trivial⟩ ?_;refine aD 4 ?_;refine bS 98 (fun yT E7=>?_) (fun yT E7=>?_)
   ·refine aj 132 [1,2,73,74,75,110] ?_;refine ez ?_;exact Vn
   refine aD 5 ?_;exact Ve
  refine xn 9 ?_;refine aD 8 ?_;exact Ve
 have afS:∀j,j<p.keys.length→uI p j:=fun j hj=>wX j w4;refine ae [1,2,113,114,115] ?_;refine eH [1,2,113,114] (fun aW I (i:Nat) aK=>(i≤p.kids.length)∧(∀j (_:j<i) (hj:j<p.kids.length),0≤p.kids[j]∧(p.leaf=false→p.kids[j]<many))∧aK=(⟨132,(115,.v (.int .i64 (i:Nat)))::aW,I⟩:St)) (fun (i:Nat)=>p.kids.length-i) 0 ⟨(Nat.zero_le _),(fun j h=>by omega),rfl⟩ ?_;rintro i _ ⟨jU,jO,rfl⟩;refine ae [1,2,113,114,115,116] ?_;refine aq (fun cx c9=>?_) (fun cx c9=>?_)
 ·have aa:i<p.kids.length:=(by omega)
  refine ae [1,2,8,113,114,115] ?_;refine aC 3 ?_;refine bS 121 (fun Jy O=>?_) (fun Jy O=>?_)
  ·refine aY [1,2,113,114,115,130] ?_;refine ez ?_;exact z70
  refine aD 4 ?_;refine bS 125 (fun EU U=>?_) (fun EU U=>?_)
  ·refine aY [1,2,113,114,115,130] ?_;refine aq (fun dN en=>?_) (fun dN en=>?_)
   ·exact z70
   exact Vy
  refine aY [1,2,113,114,115,130] ?_;refine fG ?_;exact Vy
 refine ae [4] ?_;refine aJ [] ?_;refine⟨vb (ZD (abe f1 f2 f3 f4 f5 f6 f7 afS fun j hj=>jO j w4 hj)),rfl⟩

def mM(keys:List K)(k:K):Bool:=decide (keys[gh keys k]?=some k)
theorem abf{keys:List K}(hi:i≤keys.length)(h1:∀m (hm:m<keys.length),m<i→bM keys[m] k)(h2:∀m (hm:m<keys.length),i≤m→¬bM keys[m] k):gh keys k=i:=by
 have E:=x7 keys k;rcases Nat.lt_trichotomy (gh keys k) i with h|h|h
 ·have aa:gh keys k<keys.length:=(by omega)
  exact absurd (h1 _ aa h) (Ao aa)
 ·exact h
 obtain⟨h',q⟩:=Aw h;exact absurd q (h2 _ h' (Nat.le_refl _))
theorem ZE{keys:List K}(hr:keys.Pairwise bM)(k:K):mq keys k=if mM keys k=true then gh keys k+1 else gh keys k:=by
 have E:=x7 keys k;split
 ·rename_i hf;unfold mM at hf;have hf:=of_decide_eq_true hf;obtain⟨aa,he⟩:=List.getElem?_eq_some_iff.1 hf;refine IK hr w4 (fun _=>?_) (fun h=>?_)
  ·show ¬bM k (keys[gh keys k+1-1]'w4);simp only[Nat.add_sub_cancel,he];exact j3 k
  have:=mK hr (Nat.lt_succ_self (gh keys k)) h;rw[he] at this;exact this
 rename_i hf;refine IK hr E (fun h0=>?_) (fun h=>?_)
 ·exact yu (Aw (by omega:gh keys k-1<gh keys k)).2
 have h1:=Ao h;rcases yw keys[gh keys k] k with h2|h2|h2
 ·exact absurd h2 h1
 ·exfalso;apply hf;unfold mM;rw[getElem?_eq_getElem h,h2];simp
 exact h2
theorem A9{a:Nat}:((a:Nat):Int).fdiv (2 ^ min (1:Int).toNat IntKind.u64.bits)=((a/2:Nat):Int):=by
 rw[show min (1:Int).toNat IntKind.u64.bits=1 from rfl,Int.fdiv_eq_ediv_of_nonneg _ w7];rfl
theorem SQ{keys:List K}(hd:gh keys k=i)(hi:i<keys.length):(D.dy [.v (.int .i64 (i:Nat)),.v (.bool (compareBytes keys[i] k==0))]) = .dy [.v (.int .i64 (gh keys k:Nat)),.v (.bool (mM keys k))]∧([]:List ag)=[]:=by
 subst hd;refine⟨?_,rfl⟩;have:(compareBytes keys[gh keys k] k==0)=mM keys k:=by
  unfold mM;rw[getElem?_eq_getElem hi];by_cases h:keys[gh keys k]=k
  ·have:=JK.2 h;rw[this];simp[h]
  have:¬compareBytes keys[gh keys k] k=0:=fun e=>h (JK.1 e);simp[h,this]
 rw[this]
theorem Rq{keys:List K}(hd:gh keys k=i)(hi:keys.length≤i):(D.dy [.v (.int .i64 (i:Nat)),.v (.bool false)]) = .dy [.v (.int .i64 (gh keys k:Nat)),.v (.bool (mM keys k))]∧([]:List ag)=[]:=by
 subst hd;refine⟨?_,rfl⟩;have:mM keys k=false:=(by unfold mM;rw[getElem?_eq_none hi];rfl)
 rw[this]
theorem ZF(keys:List K)(k:K)(hr:keys.Pairwise bM)(hl:keys.length≤1000):VP Tryz.prog G 101 [.list 1 (keys.flatMap cK) keys.length,.list 1 (k.flatMap cB) k.length,.ek (.func 35) []] (.dy [.v (.int .i64 (gh keys k:Nat)),.v (.bool (mM keys k))]):=by
 refine VC.body func101 rfl ntmps101 aO fun X0 w0 aZ=>?_;have dr:maxLen=9223372036854775807:=rfl;refine ae [0,1,2] ?_;refine ae [0,1,2,8] ?_;refine ae [0,1,2,8,9,10] ?_;refine eH [0,1,2,8] (fun aW _ (I:Nat×Nat) aK=>match I with|(i,j)=>(i≤j)∧(j≤keys.length)∧(∀m (hm:m<keys.length),m<i→bM keys[m] k)∧(∀m (hm:m<keys.length),j≤m→¬bM keys[m] k)∧aK=(⟨49,(9,.v (.int .i64 (i:Nat)))::(10,.v (.int .i64 (j:Nat)))::aW,[]⟩:St)) (fun (I:Nat×Nat)=>match I with|(i,j)=>j-i) (0,keys.length) ⟨(Nat.zero_le _),(Nat.le_refl _),(fun m hm h=>by omega),(fun m hm h=>by omega),rfl⟩ ?_;rintro⟨i,j⟩ _ ⟨WQ,hjn,h1,h2,rfl⟩;refine ae [0,1,2,8,9,10,17] ?_;refine aq (fun az aG=>?_) (fun az aG=>?_)
 ·have aa:i<j:=(by omega)
  have E:((i+j)/2)<keys.length:=(by omega)
  refine cL [0,1,2,8,9,10,11] ?_;refine aP 2 ?_ (h:=by exact(cX rfl ot ot (jZ (r:=((i+j:Nat):Int)) zz)));refine aP 0 ?_ (h:=by exact(n9 rfl ot (oc (r:=((i+j:Nat):Int)) runUnderlying3 runUnderlying211 (IntWalk.u64_in _ w4))));refine aP 0 ?_ (h:=by exact(cX rfl ot bH (yl w7 A9)));refine aP 0 ?_ (h:=by exact(n9 rfl ot (oc (r:=((((i+j)/2):Nat):Int)) runUnderlying211 runUnderlying3 (wrap_i64 w4 w4))));refine bG ?_;refine aC 6 ?_;refine OD.j4 (f:=35) (args:=[_,_]) (all:=[_,_]) (Sf:=[]) an rfl rfl ot call35 (vO (keys[((i+j)/2)]'E) k) rfl ⟨ot,ot,trivial⟩ (eK _) ?_;rintro _ _ ⟨rfl,rfl⟩;refine aj 49 [0,1,2,8,9,10,11,31] ?_;refine aq (fun aH aT=>?_) (fun aH aT=>?_)
  ·have hc:bM (keys[((i+j)/2)]'E) k:=of_decide_eq_true aH;have Z:∀m (hm:m<keys.length),m<((i+j)/2)+1→bM keys[m] k:=fun m hm h=>by (rcases Nat.lt_or_ge m ((i+j)/2) with q|q);exact mh (mK hr q E) hc;(have:m=((i+j)/2):=by omega);subst this;exact hc
   refine cg [0,1,2,8,9,10] ?_;refine⟨((((i+j)/2)+1),j),_,cz,aM,w4,w4,(fun m hm h=>by rcases Nat.lt_or_ge m i with q|q;exact h1 m hm q;exact Z m hm w4),h2,rfl⟩
  have hc:¬bM (keys[((i+j)/2)]'E) k:=of_decide_eq_false aH;have O:∀m (hm:m<keys.length),((i+j)/2)≤m→¬bM keys[m] k:=fun m hm h hh=>by (rcases Nat.lt_or_ge ((i+j)/2) m with q|q);exact hc (mh (mK hr q hm) hh);(have:m=((i+j)/2):=by omega);subst this;exact hc hh
  refine cg [0,1,2,8,9,10] ?_;refine⟨(i,((i+j)/2)),_,cz,aM,w4,w4,h1,O,rfl⟩
 obtain rfl:i=j:=(by omega)
 have hd:=abf hjn h1 h2;refine aC 5 ?_;refine bS 39 (fun aib U=>?_) (fun aib U=>?_)
 ·refine aD 6 ?_;refine OD.j4 (f:=35) (args:=[_,_]) (all:=[_,_]) (Sf:=[]) gH rfl rfl ot call35 (vO (keys[i]'w4) k) rfl ⟨ot,ot,trivial⟩ (eK _) ?_;rintro _ _ ⟨rfl,rfl⟩;refine aj 49 [6,7] ?_;refine aJ [] ?_;first|exact SQ hd w4|exact Rq hd w4
 refine aY [6,7] ?_;refine LF ?_;first|exact SQ hd w4|exact Rq hd w4
theorem HZ(p:cR)(k:K)(hr:p.keys.Pairwise bM)(hl:p.keys.length≤1000):VP Tryz.prog G 56 [.agg (cP p),.list 1 (k.flatMap cB) k.length] (.v (.int .i64 (aL p k:Nat))):=by
 refine VC.body func56 rfl ntmps56 aO fun X0 w0 aZ=>?_;unfold cP;have dr:maxLen=9223372036854775807:=rfl;have I:=x7 p.keys k;have VR:=ZE hr k;refine cj ?_;refine OD.box (ds:=[_,_,_,_,_]) an rfl rfl ot rfl rfl (fun b2=>?_);refine aj 23 [1,2] ?_;refine cM [2,5,6] (ZF p.keys k hr hl) ?_;refine aC 2 ?_;refine bS 15 (fun Bs E=>?_) (fun Bs E=>?_)
 ·refine aY [5,19] ?_;refine aq (fun az aG=>?_) (fun az aG=>?_)
  ·refine cg [5] ?_;exact z91
  exact z91
 refine aY [5,19] ?_;refine fG ?_;refine ae [4] ?_;refine eE ?_;refine⟨vi ?_,rfl⟩;unfold aL;first|(rw[Bs] at VR;cases fB:p.leaf<;>simp_all;done)|(simp_all;done)|(simp_all;omega)

theorem ZG{d:Nat}{i:Int}{lo:K}(ok:dP t d i lo hi)(h:(t.pg i).leaf=true):d=0:=by
 cases d with
 | zero=>rfl
 | succ d=>obtain⟨_,q2,_⟩:=ok;rw[q2] at h;cases h
theorem ZH{d:Nat}{i:Int}{lo:K}(ok:dP t d i lo hi)(h:(t.pg i).leaf=false):∃d',d=d'+1:=by
 cases d with
 | zero=>obtain⟨_,q2,_⟩:=ok;rw[q2] at h;cases h
 | succ d=>exact⟨d,rfl⟩
theorem ZI:(Tryz.prog.info? 3).map (fun i=>(i.zero,i.size,i.bytes))=some (some (.int .i64 0),1,8):=by kernel_rfl
theorem Rr(t:aE)(h:Nat)(v:Valid t h)(k:K):VC Tryz.prog G 55 [.agg (cT t),.list 1 (k.flatMap cB) k.length] [] (ga cI 3 1 (iP t k h t.root)):=by
 refine VC.body func55 rfl ntmps55 aO fun X0 w0 aZ=>?_;unfold cT;have dr:maxLen=9223372036854775807:=rfl;have hval:=v;have er:=v.high;have MD:=v.mT;refine cj ?_;refine OD.box (ds:=[_,_]) an rfl rfl ot rfl rfl (fun b2=>?_);refine aj 45 [1,2] ?_;refine aC 2 ?_;refine ei (cc 0 [_]) [.int .i64 0] [_] zeroValue3 runUnderlying91 sizeOf3 (fun kG=>?_);refine OD.perm (dV (S1:=[⟨kG,3,1*1,flatMap cI ([t.root])⟩]) (A:=[_])) ?_;refine aj 45 [1,2,5] ?_;refine CD.block ?_
 refine l5 (fun (U:Nat×Int×K×K×List Int×Option Addr×Nat×List ag) aK=>match U with|(d,i,lo,hi,pre,Gu,O,Sl)=>(dP t d i lo hi)∧(kY lo hi k)∧(pre++iP t k d i=iP t k h t.root)∧(pre.length+d≤h)∧(bq 3 1 (((pre++[i])).flatMap cI) ((pre++[i])).length Gu O Sl)∧aK=(⟨45,[(1,.list 1 (k.flatMap cB) k.length),(2,.v (.pointer (some ⟨b2,0,none⟩))),(5,.v (.slice Gu ((pre++[i])).length O))],(⟨b2,46,2,[.list 5 (t.af.flatMap cP) t.af.length,.v (.int .i64 t.root)]⟩::Sl)⟩:St)) (fun (U:Nat×Int×K×K×List Int×Option Addr×Nat×List ag)=>match U with|(d,i,lo,hi,pre,Gu,O,Sl)=>d) (h,t.root,[],[],[],(some ⟨kG,0,none⟩),1,[⟨kG,3,1*1,flatMap cI ([t.root])⟩]) ⟨v.ok,(sZ k),(nil_append _),bu,(bq.cast (bI (g:=cI) (sz:=1) (e:=3) (ls:=[t.root]) (Nat.le_refl _) (show 1≤maxLen by decide)) lB),rfl⟩ (aM (h:=by repeat (first|exact trivial|refine⟨(by (repeat (first|exact fu|(apply fN;focus (first|rfl|(simp;done)|(congr 2;omega)|(apply eB;rw[Z])|(apply eB;simp;done)))|(apply fE;focus rfl)));done),?_⟩))) ?_;rintro⟨d,i,lo,hi,pre,Gu,O,Sl⟩ _ ⟨ok,jV,TF,fC,Mr,rfl⟩;obtain⟨bl,rfl,BG,Bb,rfl⟩:=Mr.pos bu;have q1:=ok.idx;have aa:i.toNat<t.af.length:=(by omega)
 have E:t.pg i=(t.af[i.toNat]'aa):=uO q1;have po:=v.page _ (jq q1);have Bc:=ok.high;rw[E] at po Bc;refine cL [1,2,5,6] ?_;refine aP 4 ?_ (h:=by exact(dx 1 (h:=by first|exact .l (j:=pre.length) bu bu|exact .r (j:=pre.length) bu bu)));refine aP 0 ?_ (h:=by exact(cH (mk:=Op.load 3) rfl ot (iL (k:=1) (d:=.v (.int .i64 i)) (i:=pre.length) eu rfl rfl rfl isAgg3 bu (by simp[cI]))));refine bG ?_;refine aC 3 ?_;refine bQ (dx 5 (h:=by first|exact .l (j:=i.toNat) (Int.toNat_of_nonneg q1.1).symm aa|exact .r (j:=i.toNat) (Int.toNat_of_nonneg q1.1).symm aa)) ?_;refine aD 1 ?_;refine OD.alloc (ds:=[_,_,_,_,_]) an rfl rfl zeroValue93 rfl (fun b7=>?_);refine aN 0 [_,_,_,_,_] sizeOf93 ?_;refine aj 45 [1,2,5,7] ?_;refine cM [1,2,5,7,24] (ZC (t.af[i.toNat]'aa) k) ?_;refine aq (fun az aG=>?_) (fun az aG=>?_)
 ·exact absurd az (by intro e;have e:=of_decide_eq_true e;rw[Bc] at e;exact e.2 (jV.2 e.1))
 refine ae [1,2,5,7,33] ?_;refine aq (fun aH aT=>?_) (fun aH aT=>?_)
 ·obtain rfl:=ZG ok (by rw[E];exact aH);have aS:pre++[i]=iP t k h t.root:=(by rw[←TF];rfl)
  refine ae [4] ?_;refine aJ [⟨bl,3,O*1,flatMap cI (pre++[i])⟩] ?_;rw[←aS];exact⟨_,_,rfl,(bI (g:=cI) (ls:=pre++[i]) BG Bb)⟩
 obtain⟨dd,rfl⟩:=ZH ok (by rw[E];exact aH);have ok0:=ok;obtain⟨_,fB,hh,ahk,pn⟩:=ok0;obtain⟨d1,d2⟩:=down (p:=t.pg i) (by rw[E];exact po) fB hh jV;have jD:=pn _ d1;rw[←sR d1] at jD;have KD:=d2;have aeu:pre++[i]++iP t k dd ((t.pg i).kids.getD (aL (t.pg i) k) 0)=iP t k h t.root:=(by rw[←TF,append_assoc];rfl)
 have qf:=HZ (G:=G) (t.pg i) k (by rw[E];exact po.jF) (by rw[E];have:=po.eI;omega);have I:aL (t.af[i.toNat]'aa) k<(t.af[i.toNat]'aa).kids.length:=(by rw[←E];exact d1)
 have aic:VP Tryz.prog G 56 [.agg (cP (t.af[i.toNat]'aa)),.list 1 (k.flatMap cB) k.length] (.v (.int .i64 (aL (t.af[i.toNat]'aa) k:Nat))):=(by rw[←E];exact qf)
 have Z:(t.pg i).kids.getD (aL (t.pg i) k) 0=(t.af[i.toNat]'aa).kids[aL (t.af[i.toNat]'aa) k]'I:=(by rw[E];exact sR I)
 refine CD.skip ?_;refine fF 10 (ap (take 2 _)) ?_ (fun _ h=>(Sublist.map _ (take_sublist _ _)).subset h);refine ax 0 rfl bg ?_;refine ax 1 rfl (cY 2) ?_;refine ax 2 rfl (dw 0) ?_;refine ax 3 rfl (Br 0 [_,_,_,_,_]) ?_;refine ax 4 rfl bg ?_;refine dh.later rfl ?_;refine AD.one (i:=5) ay ?_;refine ju call56 (aic) ?_;refine cq 6 rfl (dx 1 (h:=by first|exact .l (j:=aL (t.af[i.toNat]'aa) k) rfl I|exact .r (j:=aL (t.af[i.toNat]'aa) k) rfl I)) ?_;refine AD.one (i:=7) ay ?_;refine at_ rfl eP ?_;refine AD.one (i:=8) ay ?_;refine jf (cc 0 [_]) [.int .i64 0] [_] zeroValue3 runUnderlying91 sizeOf3 (fun WG=>?_);refine jg 0 43 1 1 ?_;refine AD.one (i:=9) ay ?_;refine bf.ee (ls:=(pre++[i])) (new:=[(t.af[i.toNat]'aa).kids[aL (t.af[i.toNat]'aa) k]'I]) (Sq:=[⟨bl,3,O*1,flatMap cI (pre++[i])⟩]) eu ng rfl an rfl rfl underlying91 ZI rfl w7 ot (bI (g:=cI) (ls:=pre++[i]) BG Bb) (dA (A:=[_,_])) ot bu vc gN (fun ME KE aid aie=>?_);refine AD.perm (dV (S1:=[⟨ME,3,KE*1,flatMap cI ((pre++[i])++[(t.af[i.toNat]'aa).kids[aL (t.af[i.toNat]'aa) k]'I])⟩]) (A:=[_,_])) ?_;refine ey ?_;refine aY [1,2,5] ?_
 refine⟨(dd,((t.pg i).kids.getD (aL (t.pg i) k) 0),(gQ lo (t.pg i) (aL (t.pg i) k)),(gC (t.pg i) (aL (t.pg i) k)),(pre++[i]),(some ⟨ME,0,none⟩),KE,[⟨ME,3,KE*1,flatMap cI ((pre++[i])++[(t.af[i.toNat]'aa).kids[aL (t.af[i.toNat]'aa) k]'I])⟩]),_,cz,(aM (h:=by repeat (first|exact trivial|refine⟨(by (repeat (first|exact fu|(apply fN;focus (first|rfl|(simp;done)|(congr 2;omega)|(apply eB;rw[Z])|(apply eB;simp;done)))|(apply fE;focus rfl)));done),?_⟩))),jD,KD,aeu,gN,(bq.cast (bI aid aie) (by rw[Z])),rfl⟩
theorem acS(t:aE)(h:Nat)(v:Valid t h)(k:K):VP Tryz.prog G 55 [.agg (cT t),.list 1 (k.flatMap cB) k.length] (.list 1 ((iP t k h t.root).flatMap cI) (iP t k h t.root).length):=(Rr t h v k).given eu

def gU(t:aE)(k:K)(h:Nat):Bool:=mM (t.pg (aI t k h t.root)).keys k
theorem DD{h:Nat}(v:Valid t h)(k:K):gU t k h=true↔AU t k h:=by
 unfold gU mM AU;have hl:=(v.leaf k).2;have fC:aL (t.pg (aI t k h t.root)) k=gh (t.pg (aI t k h t.root)).keys k:=(by unfold aL;rw[if_pos hl])
 rw[fC,decide_eq_true_iff,List.getElem?_eq_some_iff]
theorem Rt(hl:p.leaf=true)(ha:aL p k<p.keys.length):decide (p.keys[aL p k]=k)=mM p.keys k:=by
 unfold mM;have fC:aL p k=gh p.keys k:=(by unfold aL;rw[if_pos hl])
 simp only[fC] at ha ⊢;rw[getElem?_eq_getElem ha];simp
theorem Ru(hl:p.leaf=true)(ha:¬aL p k<p.keys.length):false=mM p.keys k:=by
 unfold mM;have fC:aL p k=gh p.keys k:=(by unfold aL;rw[if_pos hl])
 rw[fC] at ha;rw[getElem?_eq_none w4];rfl
theorem acT{h:Nat}{i:Int}:∃(hn:(iP t k h i).length-1<(iP t k h i).length),(iP t k h i)[(iP t k h i).length-1]=aI t k h i:=by
 have h1:=Ou t k h i;rw[getLast?_eq_getElem?] at h1;exact List.getElem?_eq_some_iff.1 h1
theorem P8(hp:ew p n)(k:K):aL p k≤p.keys.length:=by
 unfold aL;split
 ·exact x7 _ _
 exact Ax _ _
theorem Ea(t:aE)(k:K):∀(h:Nat) (i:Int),(iP t k h i).length=h+1
 | 0,i=>rfl
 | h+1,i=>by rw[iP,length_cons,Ea t k h]
theorem qv(t:aE)(h:Nat)(v:Valid t h)(k:K)(dR:k.length≤maxLen)(U:(iP t k h t.root).length≤1000000):VP Tryz.prog G 33 [.agg (cT t),.list 1 (k.flatMap cB) k.length] (.dy [.v (.int .i64 (aI t k h t.root)),.v (.int .i64 (aL (t.pg (aI t k h t.root)) k:Nat)),.v (.bool (gU t k h))]):=by
 refine VC.body func33 rfl ntmps33 aO fun X0 w0 aZ=>?_;unfold cT;have dr:maxLen=9223372036854775807:=rfl;have qf:=acS (G:=G) t h v k;unfold cT at qf;obtain⟨fU,Z⟩:=acT (t:=t) (k:=k) (h:=h) (i:=t.root);obtain⟨q1,JM⟩:=v.leaf k;have aa:(aI t k h t.root).toNat<t.af.length:=(by omega)
 have I:t.pg (aI t k h t.root)=(t.af[(aI t k h t.root).toNat]'aa):=uO q1;have po:=v.page _ (jq q1);have MD:=v.mT;have UC:(iP t k h t.root).length≤1000000:=U;have aif:=HZ (G:=G) (t.pg (aI t k h t.root)) k po.jF (by have:=po.eI;omega);have aih:VP Tryz.prog G 56 [.agg (cP (t.af[(aI t k h t.root).toNat]'aa)),.list 1 (k.flatMap cB) k.length] (.v (.int .i64 (aL (t.af[(aI t k h t.root).toNat]'aa) k:Nat))):=(by rw[←I];exact aif)
 have aii:∀x∈(t.af[(aI t k h t.root).toNat]'aa).keys,x.length≤maxLen:=fun x hx=>by rw[←I] at hx;have:=(po.kR x hx).2;omega
 have E:(t.af[(aI t k h t.root).toNat]'aa).leaf=true:=(by rw[←I];exact JM)
 have O:gU t k h=mM (t.af[(aI t k h t.root).toNat]'aa).keys k:=(by unfold gU;rw[I])
 have mw:=po.eI;have aij:=(P8 po k)
 rw[I] at mw aij;refine cj ?_;refine OD.box (ds:=[_,_]) an rfl rfl ot rfl rfl (fun b2=>?_);refine aj 42 [1,2] ?_;refine cM [1,2,7] (qf) ?_;refine cL [1,2,4] ?_;refine aP 4 ?_ (h:=by exact(dx 1 (h:=by first|exact .l (j:=(iP t k h t.root).length-1) w4 fU|exact .r (j:=(iP t k h t.root).length-1) w4 fU)));refine aP 0 ?_ (h:=by exact(cH (mk:=Op.load 3) rfl ot (pQ (d:=.v (.int .i64 (aI t k h t.root))) (i:=(iP t k h t.root).length-1) eu isAgg3 fU (by rw[Z];rfl))));refine bG ?_;refine aC 5 ?_;refine OD.alloc (ds:=[_,_,_,_,_]) an rfl rfl zeroValue93 rfl (fun b8=>?_);refine aN 0 [_,_,_,_,_] sizeOf93 ?_;refine aj 42 [1,4,8] ?_;refine cM [1,4,5,8] (aih) ?_;refine aC 8 ?_;refine bS 33 (fun aik afT=>?_) (fun aik afT=>?_)
 ·refine aD 6 ?_;refine OD.gE gH rfl rfl rfl call57 (TD ((t.af[(aI t k h t.root).toNat]'aa).keys[aL (t.af[(aI t k h t.root).toNat]'aa) k]'w4) k (aii _ (getElem_mem _)) dR) ⟨ot,ot,trivial⟩ ?_;refine aj 42 [4,5,6] ?_;refine aJ [] ?_;rw[O,I];first|exact⟨by rw[Rt E w4],rfl⟩|exact⟨by rw[←Ru E w4],rfl⟩
 refine aY [4,5,6] ?_;refine aJ [] ?_;rw[O,I];first|exact⟨by rw[Rt E w4],rfl⟩|exact⟨by rw[←Ru E w4],rfl⟩

end Go.Proofs.YtbcmjoaggammcaaGreatDoor.Tw
namespace Go.Proofs.YtbcmjoaggammcaaGreatDoor.Tw
open List
open Go.Proofs.Tryz
open Go.RowKit V Tr Pk
abbrev lu(ls:List Int)(ad:Option Addr)(cap:Nat)(S:List ag):Prop:=bq 3 1 (ls.flatMap cI) ls.length ad cap S
abbrev oq(ls:List K)(ad:Option Addr)(cap:Nat)(S:List ag):Prop:=bq 49 1 (ls.flatMap cK) ls.length ad cap S
variable {G:List (Nat×List Value)}
theorem ZJ:(Tryz.prog.info? 5).map (fun i=>(i.zero,i.size,i.bytes))=some (some (.int .u8 0),1,1):=by kernel_rfl
theorem jK(a:List UInt8)(ha:a.length≤1000000):VP Tryz.prog G 59 [.list 1 (a.flatMap cB) a.length] (.list 1 (a.flatMap cB) a.length):=by
 refine VC.body func59 rfl ntmps59 aO fun X0 w0 aZ=>?_;have dr:maxLen=9223372036854775807:=rfl;refine ae [0] ?_;refine aC 1 ?_;refine OD.yF an rfl rfl ot bH underlying49 (fun O xj=>?_);refine aj 8 [0,4] ?_;refine aq (fun az aG=>?_) (fun az aG=>?_)
 ·exact VN
 refine cj ?_;refine OD.yG an rfl rfl runUnderlying49 sizeOf5 (fun b5=>?_);refine aD 1 ?_;refine OD.oO (ls:=([]:List UInt8)) (new:=a) (Sq:=[⟨b5,5,0*1,[]⟩]) oU vS an rfl rfl underlying49 ZJ rfl w7 runUnderlying49 sizeOf5 ot (.inr ⟨b5,rfl,Nat.le_refl _,Nat.zero_le _,rfl⟩) (dA (A:=[])) ot gN gN (fun E I S7 pz=>?_);exact Ud
theorem ZK:(Tryz.prog.info? 3).map (fun i=>(i.zero,i.size,i.bytes))=some (some (.int .i64 0),1,8):=by kernel_rfl
theorem nE(a:List Int)(ha:a.length≤1000000):VC Tryz.prog G 114 [.list 1 (a.flatMap cI) a.length] [] (fun r S=>∃ad cap,r = .v (.slice ad a.length cap)∧lu a ad cap S):=by
 refine VC.body func114 rfl ntmps114 aO fun X0 w0 aZ=>?_;have dr:maxLen=9223372036854775807:=rfl;refine ae [0] ?_;refine aC 1 ?_;refine OD.yF an rfl rfl ot bH underlying91 (fun O xj=>?_);refine aj 8 [0,4] ?_;refine aq (fun az aG=>?_) (fun az aG=>?_)
 ·exact z59
 refine cj ?_;refine OD.yG an rfl rfl runUnderlying91 sizeOf3 (fun b5=>?_);refine aD 1 ?_;refine OD.oO (ls:=([]:List Int)) (new:=a) (Sq:=[⟨b5,3,0*1,[]⟩]) eu ng an rfl rfl underlying91 ZK rfl w7 runUnderlying91 sizeOf3 ot (.inr ⟨b5,rfl,Nat.le_refl _,Nat.zero_le _,rfl⟩) (dA (A:=[])) ot gN gN (fun E I S7 pz=>?_);exact F6
theorem Yr:(Tryz.prog.info? 49).map (fun i=>(i.zero,i.size,i.bytes))=some (some (.slice none 0 0),1,24):=by kernel_rfl
theorem vE(a:List K)(ha:a.length≤1000000):VC Tryz.prog G 145 [.list 1 (a.flatMap cK) a.length] [] (fun r S=>∃ad cap,r = .v (.slice ad a.length cap)∧oq a ad cap S):=by
 refine VC.body func145 rfl ntmps145 aO fun X0 w0 aZ=>?_;have dr:maxLen=9223372036854775807:=rfl;refine ae [0] ?_;refine aC 1 ?_;refine OD.yF an rfl rfl ot bH underlying90 (fun O xj=>?_);refine aj 8 [0,4] ?_;refine aq (fun az aG=>?_) (fun az aG=>?_)
 ·exact z59
 refine cj ?_;refine OD.yG an rfl rfl runUnderlying90 sizeOf49 (fun b5=>?_);refine aD 1 ?_;refine OD.oO (ls:=([]:List K)) (new:=a) (Sq:=[⟨b5,49,0*1,[]⟩]) fX oV an rfl rfl underlying90 Yr rfl w7 runUnderlying90 sizeOf49 ot (.inr ⟨b5,rfl,Nat.le_refl _,Nat.zero_le _,rfl⟩) (dA (A:=[])) ot gN gN (fun E I S7 pz=>?_);exact F6

end Go.Proofs.YtbcmjoaggammcaaGreatDoor.Tw
