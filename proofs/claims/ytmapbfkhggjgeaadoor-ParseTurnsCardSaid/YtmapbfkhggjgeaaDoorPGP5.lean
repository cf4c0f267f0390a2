/-
  GP: walks and plain facts, part 5.
-/
import Derived.Test.YtmapbfkhggjgeaaDoorPGP4
set_option linter.unusedVariables false
set_option linter.unusedSimpArgs false
set_option maxRecDepth 100000
set_option maxHeartbeats 4000000
namespace Go.Proofs.YtmapbfkhggjgeaaDoor
open List
namespace Pa
open Go.Proofs.Tryd
open Go.RowKit V Pk Vl Go.Proofs.YtmapbfkhggjgeaaDoor.Nm
section
variable {G:List (Nat×List Value)}
variable {E:List ByteArray} {s:cc}
theorem vX:∀(l:List aT) (H:List (List Tk)),(l.foldl gx H).flatten.length<=H.flatten.length+5*l.length
 | [],H=>by simp
 | o::r,H=>by
  have h1:=vX r (gx H o);have h2:=vV (h:=H) (o:=o);rw[foldl_cons,length_cons];omega
theorem pg(l:List aT):(ie l).length<=5*l.length:=by
 have h:=vX l [];have h2:=(kJ (h:=l.foldl gx []) (n:=0)).1;have E:=ng (l.foldl gx []) 0;simp only[take_zero,flatten_nil,length_nil] at h E;unfold ie;omega
theorem vY(l:List aT):(er l).length<=5*l.length+1:=by
 have h:=pg l;unfold er;split
 ·simp
 rw[length_append,length_map];simp only[length_cons,length_nil];omega
def ek(ns:List ByteArray):Nat->List Tk
 | 0=>[]
 | i+1=>ek ns i++(if i>0 then [aW ⟨#[44]⟩] else [])++[aM (ns.getD i ⟨#[]⟩)]
theorem rG(E:List ByteArray):∀i,(ek E i).length<=2*i
 | 0=>Nat.le_refl _
 | i+1=>by
  have I:=rG E i;have J:(if i>0 then [aW ⟨#[44]⟩] else []).length<=1:=(by split<;>simp)
  unfold ek;rw[length_append,length_append];simp only[length_cons,length_nil];omega
theorem ry{i:Nat}(hi:i<E.length)(h:0<i)(X:List Tk):((X++ek E i)++[aW ⟨#[44]⟩])++[aM E[i]]=X++ek E (i+1):=by
 rw[ek,if_pos h,hM hi];simp only[append_assoc]
theorem rh{i:Nat}(hi:i<E.length)(h:¬0<i)(X:List Tk):(X++ek E i)++[aM E[i]]=X++ek E (i+1):=by
 rw[ek,if_neg h,hM hi];simp only[append_assoc,append_nil]
def mG(s:cc):List Tk:=if s.count=true then [aM ⟨#[67,79,85,78,84]⟩,aW ⟨#[40]⟩,aW ⟨#[42]⟩,aW ⟨#[41]⟩] else if s.names.length=0 then [aW ⟨#[42]⟩] else ek s.names s.names.length
def n7(s:cc):List Tk:=if cj s.order ⟨#[]⟩=true then [] else [⟨#[79,82,68,69,82]⟩,⟨#[66,89]⟩,s.order].map aM++(if s.down=true then [aM ⟨#[68,69,83,67]⟩] else [])
def tw(s:cc):List Tk:=if 0<=s.ea then [aM ⟨#[76,73,77,73,84]⟩,⟨2,⟨#[]⟩,s.ea⟩] else []
def nN(s:cc):List Tk:=((([⟨#[83,69,76,69,67,84]⟩].map aM++mG s)++[⟨#[70,82,79,77]⟩,s.table].map aM++er s.bw)++n7 s)++tw s
theorem ji:(Tryd.prog.info? 28).map (fun i=>(i.zero,i.size,i.bytes))=some (some (.agg #[.int .i64 0,.string ⟨#[]⟩,.int .i64 0]),3,32):=by kernel_rfl
theorem zZ : ∀ w, ((#[{ name := "Kind", type := 3, offset := 0, embedded := false, tag := "", pkgPath := "", byteOffset := 0 }, { name := "Text", type := 9, offset := 1, embedded := false, tag := "", pkgPath := "", byteOffset := 8 }, { name := "Int", type := 3, offset := 2, embedded := false, tag := "", pkgPath := "", byteOffset := 24 }] : Array Field).mapM fun f => do pure (f.offset, ← sizeOf f.type) : Sem (Array (Nat × Nat))).run Tryd.prog w = .ok #[(0, 1), (1, 1), (2, 1)] w := fun w => by simp [sizeOf3, sizeOf9]
theorem z8(s:cc)(hf:j4 s)(Ew:s.bw.length=0\/eN 0 s.bw=0):VP Tryd.prog G 42 [.agg (dW s)] (.list 3 ((nN s).flatMap cT) (nN s).length):=by
 refine cL func42 rfl ntmps42 aV fun X0 w0 dM=>?_;have gg:=ju;have h6:=hf.ok.2.2.1;have eF:=hf.ok.2.2.2.1;have Ex:=vY s.bw;have g5:=pg s.bw;unfold dW;refine ag ?_;refine fi (ds:=[_,_,_,_,_,_,_,_,_,_,_,_]) av rfl rfl ot rfl rfl (fun J=>?_);refine ae ?_;refine aF [(1,_)] [⟨J,35,12,[_,_,_,_,_,_,_,_,_,_,_,_]⟩] ?_;refine ag ?_;refine dj (aP 0 [_]) [.string ⟨#[]⟩] [_] zeroValue9 runUnderlying32 sizeOf9 (fun b6=>?_);refine aS (cR (S1:=[⟨b6,9,1*1,flatMap cS ([⟨#[83,69,76,69,67,84]⟩])⟩]) (A:=[_])) ?_;refine gr (t:=6) (Sq:=[⟨b6,9,1*1,flatMap cS ([⟨#[83,69,76,69,67,84]⟩])⟩]) lk (cA (g:=cS) (sz:=1) (e:=9) (ls:=[⟨#[83,69,76,69,67,84]⟩]) (Nat.le_refl _) (show 1<=maxLen by decide)) (dg dz _) (cy (A:=[_])) ?_;refine cG av rfl rfl rfl call39 (mC [⟨#[83,69,76,69,67,84]⟩] mV) ⟨ot,trivial⟩ (kI _) ?_;rintro _ S7 ⟨ow,y9,rfl,ox⟩;refine aS (cR (A:=[_])) ?_;refine ae ?_;refine aY (Wk.aO (n:=84) (l':=[(1,_),(3,_)]) (S':=(⟨J,35,12,[_,_,_,_,_,_,_,_,_,_,_,_]⟩::S7)) rfl rfl bi) ?_;refine bg ?_
 refine jX (fun Z=>∃(Q:List Tk),∃(ad:Option Addr),∃(cp:Nat),∃(Sx:List ay),(Q=[⟨#[83,69,76,69,67,84]⟩].map aM++mG s)/\(bQ 28 3 (Q.flatMap cT) Q.length ad cp Sx)/\(Q.length<=20)/\Z=(⟨84,[(1,bE J),(3,aB ad Q.length cp)],(⟨J,35,12,[aj s.kind,bH s.table,ap 2 cC s.b9,ap 3 cV s.row,ap 1 cS s.names,bI s.count,ap 5 cO s.bw,bH s.order,bI s.down,aj s.ea,bH s.set,ap 5 cO s.cN]⟩::Sx)⟩:St)) ?_ ?_
 ·refine bO ?_;refine ag ?_;refine aa (aq 5) ?_;refine aa (aC 0) ?_;refine ae ?_;refine ak [1,3,28] ?_;refine aI ot (fun ax=>?_) (fun ax=>?_)
  ·have M:=ax
   (try simp only[V.ah,ne_eq] at M)
   refine aR ?_;refine ae ?_;refine bK call56 (jV ⟨#[67,79,85,78,84]⟩) ?_;refine bK call44 (dP ⟨#[40]⟩) ?_;refine bK call44 (dP ⟨#[42]⟩) ?_;refine bK call44 (dP ⟨#[41]⟩) ?_;refine dj (aP 0 [_,_,_,_]) [.int .i64 0,.string ⟨#[]⟩,.int .i64 0,.int .i64 0,.string ⟨#[]⟩,.int .i64 0,.int .i64 0,.string ⟨#[]⟩,.int .i64 0,.int .i64 0,.string ⟨#[]⟩,.int .i64 0] [_,_,_,_,_,_,_,_,_,_,_,_] zeroValue28 runUnderlying29 sizeOf28 (fun Fs=>?_);refine eT 0 36 3 4 ?_;refine fA (ls:=([⟨#[83,69,76,69,67,84]⟩].map aM)) (new:=[aM ⟨#[67,79,85,78,84]⟩,aW ⟨#[40]⟩,aW ⟨#[42]⟩,aW ⟨#[41]⟩]) (Sq:=S7) cZ ff av rfl rfl underlying29 ji rfl bR ot ox (cy (A:=[_])) ot cl ij gd (fun oF N Dw Dx=>?_);refine aS (cR (S1:=[⟨oF,28,N*3,flatMap cT (([⟨#[83,69,76,69,67,84]⟩].map aM)++[aM ⟨#[67,79,85,78,84]⟩,aW ⟨#[40]⟩,aW ⟨#[42]⟩,aW ⟨#[41]⟩])⟩]) (A:=[_])) ?_;refine ae ?_;refine aY (Wk.aO (n:=84) (l':=[(1,_),(3,_)]) (S':=(⟨J,35,12,[_,_,_,_,_,_,_,_,_,_,_,_]⟩::[⟨oF,28,N*3,flatMap cT (([⟨#[83,69,76,69,67,84]⟩].map aM)++[aM ⟨#[67,79,85,78,84]⟩,aW ⟨#[40]⟩,aW ⟨#[42]⟩,aW ⟨#[41]⟩])⟩])) rfl rfl bi) ?_;refine bg ?_
   refine⟨_,?_,(([⟨#[83,69,76,69,67,84]⟩].map aM)++[aM ⟨#[67,79,85,78,84]⟩,aW ⟨#[40]⟩,aW ⟨#[42]⟩,aW ⟨#[41]⟩]),(some ⟨oF,0,none⟩),N,[⟨oF,28,N*3,flatMap cT (([⟨#[83,69,76,69,67,84]⟩].map aM)++[aM ⟨#[67,79,85,78,84]⟩,aW ⟨#[40]⟩,aW ⟨#[42]⟩,aW ⟨#[41]⟩])⟩],(by unfold mG;rw[if_pos M]),(cA Dw Dx),tK,rfl⟩;exact Wk.bz (n:=84) rfl (Sublist.refl _) fw
  have M:=ax
  (try simp only[V.ah,ne_eq] at M)
  refine ag ?_;refine aa (aq 4) ?_;refine aa (aC 0) ?_;refine aa bV ?_;refine aa az ?_;refine ae ?_;refine ak [1,3,38] ?_;refine aI ot (fun bW=>?_) (fun bW=>?_)
  ·have dL:=bW
   (try simp only[V.ah,ne_eq] at dL)
   refine aR ?_;refine ae ?_;refine bK call44 (dP ⟨#[42]⟩) ?_;refine dj (aP 0 [_]) [.int .i64 0,.string ⟨#[]⟩,.int .i64 0] [_,_,_] zeroValue28 runUnderlying29 sizeOf28 (fun Ft=>?_);refine eT 0 45 3 1 ?_;refine fA (ls:=([⟨#[83,69,76,69,67,84]⟩].map aM)) (new:=[aW ⟨#[42]⟩]) (Sq:=S7) cZ ff av rfl rfl underlying29 ji rfl bR ot ox (cy (A:=[_])) ot cl ij gd (fun qS O Dy Dz=>?_);refine aS (cR (S1:=[⟨qS,28,O*3,flatMap cT (([⟨#[83,69,76,69,67,84]⟩].map aM)++[aW ⟨#[42]⟩])⟩]) (A:=[_])) ?_;refine ae ?_;refine aY (Wk.aO (n:=84) (l':=[(1,_),(3,_)]) (S':=(⟨J,35,12,[_,_,_,_,_,_,_,_,_,_,_,_]⟩::[⟨qS,28,O*3,flatMap cT (([⟨#[83,69,76,69,67,84]⟩].map aM)++[aW ⟨#[42]⟩])⟩])) rfl rfl bi) ?_;refine bg ?_;refine⟨_,?_,(([⟨#[83,69,76,69,67,84]⟩].map aM)++[aW ⟨#[42]⟩]),(some ⟨qS,0,none⟩),O,[⟨qS,28,O*3,flatMap cT (([⟨#[83,69,76,69,67,84]⟩].map aM)++[aW ⟨#[42]⟩])⟩],(by unfold mG;rw[if_neg jC,if_pos w8]),(cA Dy Dz),tK,rfl⟩;exact Wk.bz (n:=84) rfl (Sublist.refl _) fw
  have dL:=bW
  (try simp only[V.ah,ne_eq] at dL)
  refine ag ?_;refine aa (aq 4) ?_;refine aa (aC 0) ?_;refine aa bV ?_;refine ae ?_;refine ak [1,3,9,10,11] ?_;refine bO ?_;refine ed (fun (gA:Nat×Option Addr×Nat×List ay) Z=>match gA with|(i,fa,fb,So)=>(i<=s.names.length)/\(bQ 28 3 ((([⟨#[83,69,76,69,67,84]⟩].map aM++ek s.names i)).flatMap cT) (([⟨#[83,69,76,69,67,84]⟩].map aM++ek s.names i)).length fa fb So)/\Z=(⟨84,[(1,bE J),(3,aB fa (([⟨#[83,69,76,69,67,84]⟩].map aM++ek s.names i)).length fb),(9,ap 1 cS s.names),(10,aj (s.names.length:Nat)),(11,aj (i:Nat))],((⟨J,35,12,[aj s.kind,bH s.table,ap 2 cC s.b9,ap 3 cV s.row,ap 1 cS s.names,bI s.count,ap 5 cO s.bw,bH s.order,bI s.down,aj s.ea,bH s.set,ap 5 cO s.cN]⟩:ay)::So)⟩:St)) (fun (gA:Nat×Option Addr×Nat×List ay)=>match gA with|(i,fa,fb,So)=>s.names.length-i) (0,ow,y9,S7) ⟨(Nat.zero_le _),(bQ.cast ox (by simp[ek])),rfl⟩ (Wk.bz rfl cw tL) ?_;rintro⟨i,fa,fb,So⟩ _ ⟨hi,iS,rfl⟩;refine ag ?_;refine aa az ?_;refine ak [1,3,9,10,11,12] ?_;refine aA ?_;refine aI ot (fun ck=>?_) (fun ck=>?_)
  ·have aX:=ck
   (try simp only[V.ah,ne_eq] at aX)
   have aH:i<s.names.length:=(by simp at ck;omega)
   have gj:=rG s.names i;refine aN ?_;refine aA ?_;refine bO ?_;refine ag ?_;refine ae ?_;refine aa (di 1 (h:=kZ)) ?_;refine aa eA ?_;refine ae ?_;refine ae ?_;refine ak [1,3,4,5,9,10,11] ?_;refine aA ?_;refine ag ?_;refine ae ?_;refine aa az ?_;refine ak [1,3,5,9,10,11,17] ?_;refine aI ot (fun cx=>?_) (fun cx=>?_)
   ·have bn:=cx
    (try simp only[V.ah,ne_eq] at bn)
    refine aR ?_;refine ae ?_;refine bK call44 (dP ⟨#[44]⟩) ?_;refine dj (aP 0 [_]) [.int .i64 0,.string ⟨#[]⟩,.int .i64 0] [_,_,_] zeroValue28 runUnderlying29 sizeOf28 (fun qO=>?_);refine eT 0 20 3 1 ?_;refine fA (ls:=(([⟨#[83,69,76,69,67,84]⟩].map aM++ek s.names i))) (new:=[aW ⟨#[44]⟩]) (Sq:=So) cZ ff av rfl rfl underlying29 ji rfl bR ot iS (cy (A:=[_])) ot cl ij gd (fun uZ tC DA DB=>?_);refine aS (cR (S1:=[⟨uZ,28,tC*3,flatMap cT ((([⟨#[83,69,76,69,67,84]⟩].map aM++ek s.names i))++[aW ⟨#[44]⟩])⟩]) (A:=[_])) ?_;refine ae ?_;refine aY (Wk.aO (n:=84) (l':=[(1,_),(3,_),(5,_),(9,_),(10,_),(11,_)]) (S':=(⟨J,35,12,[_,_,_,_,_,_,_,_,_,_,_,_]⟩::[⟨uZ,28,tC*3,flatMap cT ((([⟨#[83,69,76,69,67,84]⟩].map aM++ek s.names i))++[aW ⟨#[44]⟩])⟩])) rfl rfl bi) ?_;refine bg ?_;refine aR ?_;refine ae ?_;refine ae ?_;refine bK call56 (jV s.names[i]) ?_;refine dj (aP 0 [_]) [.int .i64 0,.string ⟨#[]⟩,.int .i64 0] [_,_,_] zeroValue28 runUnderlying29 sizeOf28 (fun uu=>?_);refine eT 0 25 3 1 ?_
    refine fA (ls:=((([⟨#[83,69,76,69,67,84]⟩].map aM++ek s.names i))++[aW ⟨#[44]⟩])) (new:=[aM s.names[i]]) (Sq:=[⟨uZ,28,tC*3,flatMap cT ((([⟨#[83,69,76,69,67,84]⟩].map aM++ek s.names i))++[aW ⟨#[44]⟩])⟩]) cZ ff av rfl rfl underlying29 ji rfl bR ot (cA DA DB) (cy (A:=[_])) ot cl ij gd (fun I E tD tE=>?_);refine aS (cR (S1:=[⟨I,28,E*3,flatMap cT (((([⟨#[83,69,76,69,67,84]⟩].map aM++ek s.names i))++[aW ⟨#[44]⟩])++[aM s.names[i]])⟩]) (A:=[_])) ?_;refine ae ?_;refine aY (Wk.aO (n:=84) (l':=[(1,_),(3,_),(9,_),(10,_),(11,_)]) (S':=(⟨J,35,12,[_,_,_,_,_,_,_,_,_,_,_,_]⟩::[⟨I,28,E*3,flatMap cT (((([⟨#[83,69,76,69,67,84]⟩].map aM++ek s.names i))++[aW ⟨#[44]⟩])++[aM s.names[i]])⟩])) rfl rfl bi) ?_;refine bg ?_;refine aR ?_;refine aa az ?_;refine ae ?_;refine ak [1,3,9,10,11] ?_;refine⟨((i+1),(some ⟨I,0,none⟩),E,[⟨I,28,E*3,flatMap cT (((([⟨#[83,69,76,69,67,84]⟩].map aM++ek s.names i))++[aW ⟨#[44]⟩])++[aM s.names[i]])⟩]),_,?_,?_,w8,(bQ.cast (cA tD tE) (by first|exact ry aH w8 _|exact rh aH w8 _)),rfl⟩
    ·first|omega|(simp only[];omega)
    exact Wk.bz (n:=84) rfl cw tL
   have bn:=cx
   (try simp only[V.ah,ne_eq] at bn)
   refine aN ?_;refine aR ?_;refine ae ?_;refine ae ?_;refine bK call56 (jV s.names[i]) ?_;refine dj (aP 0 [_]) [.int .i64 0,.string ⟨#[]⟩,.int .i64 0] [_,_,_] zeroValue28 runUnderlying29 sizeOf28 (fun uu=>?_);refine eT 0 25 3 1 ?_;refine fA (ls:=(([⟨#[83,69,76,69,67,84]⟩].map aM++ek s.names i))) (new:=[aM s.names[i]]) (Sq:=So) cZ ff av rfl rfl underlying29 ji rfl bR ot iS (cy (A:=[_])) ot cl ij gd (fun I E tD tE=>?_);refine aS (cR (S1:=[⟨I,28,E*3,flatMap cT ((([⟨#[83,69,76,69,67,84]⟩].map aM++ek s.names i))++[aM s.names[i]])⟩]) (A:=[_])) ?_;refine ae ?_;refine aY (Wk.aO (n:=84) (l':=[(1,_),(3,_),(9,_),(10,_),(11,_)]) (S':=(⟨J,35,12,[_,_,_,_,_,_,_,_,_,_,_,_]⟩::[⟨I,28,E*3,flatMap cT ((([⟨#[83,69,76,69,67,84]⟩].map aM++ek s.names i))++[aM s.names[i]])⟩])) rfl rfl bi) ?_;refine bg ?_;refine aR ?_;refine aa az ?_;refine ae ?_;refine ak [1,3,9,10,11] ?_;refine⟨((i+1),(some ⟨I,0,none⟩),E,[⟨I,28,E*3,flatMap cT ((([⟨#[83,69,76,69,67,84]⟩].map aM++ek s.names i))++[aM s.names[i]])⟩]),_,?_,?_,w8,(bQ.cast (cA tD tE) (by first|exact ry aH w8 _|exact rh aH w8 _)),rfl⟩
   ·first|omega|(simp only[];omega)
   exact Wk.bz (n:=84) rfl cw tL
  have aX:=ck
  (try simp only[V.ah,ne_eq] at aX)
  have iZ:i=s.names.length:=(by simp at ck;omega)
  refine dJ ?_;refine⟨_,?_,(([⟨#[83,69,76,69,67,84]⟩].map aM++ek s.names i)),fa,fb,So,(by unfold mG;rw[if_neg jC,if_neg w8,iZ]),iS,tK,rfl⟩;exact Wk.bz (n:=84) rfl (Sublist.refl _) fw
 rintro _ ⟨Q,ad,cp,Sx,hQ,gl,Ey,rfl⟩;refine aA ?_;refine aR ?_;refine ae ?_;refine aa (aq 1) ?_;refine aa (aC 0) ?_;refine dj (aP 0 [_,_]) [.string ⟨#[]⟩,.string ⟨#[]⟩] [_,_] zeroValue9 runUnderlying32 sizeOf9 (fun oH=>?_);refine aS (lI (S2:=[⟨oH,9,2*1,flatMap cS ([⟨#[70,82,79,77]⟩,s.table])⟩]) (A:=[_])) ?_;refine gr (t:=50) (Sq:=[⟨oH,9,2*1,flatMap cS ([⟨#[70,82,79,77]⟩,s.table])⟩]) lk (cA (g:=cS) (sz:=1) (e:=9) (ls:=[⟨#[70,82,79,77]⟩,s.table]) (Nat.le_refl _) (show 2<=maxLen by decide)) (dg dz _) (mz (A:=[_])) ?_;refine bK call39 (gS [⟨#[70,82,79,77]⟩,s.table] l5) ?_;refine fA (ls:=Q) (new:=([⟨#[70,82,79,77]⟩,s.table].map aM)) (Sq:=Sx) cZ ff av rfl rfl underlying29 ji rfl bR ot gl (cy (A:=[_])) ot cl ij gd (fun u0 tF DC DD=>?_);refine aS (cR (S1:=[⟨u0,28,tF*3,flatMap cT (Q++([⟨#[70,82,79,77]⟩,s.table].map aM))⟩]) (A:=[_])) ?_;refine ae ?_;refine aY (Wk.aO (n:=84) (l':=[(1,_),(3,_)]) (S':=(⟨J,35,12,[_,_,_,_,_,_,_,_,_,_,_,_]⟩::[⟨u0,28,tF*3,flatMap cT (Q++([⟨#[70,82,79,77]⟩,s.table].map aM))⟩])) rfl rfl bi) ?_;refine bg ?_;refine ag ?_;refine ae ?_;refine aa (aq 6) ?_;refine aa (aC 0) ?_;refine bK call46 (ni s.bw eF Ew (fun o h=>(hf.w o h).2) w8) ?_
 refine mr (ls:=(Q++([⟨#[70,82,79,77]⟩,s.table].map aM))) (new:=(er s.bw)) (Sq:=[⟨u0,28,tF*3,flatMap cT (Q++([⟨#[70,82,79,77]⟩,s.table].map aM))⟩]) cZ ff av rfl rfl underlying29 ji rfl bR runUnderlying29 sizeOf28 ot (cA DC DD) (cy (A:=[_])) ot ij gd (fun DE DF u3 ye=>?_);refine aS (cR (A:=[_])) ?_;refine ae ?_;refine aY (Wk.aO (n:=84) (l':=[(1,_),(3,_)]) (S':=(⟨J,35,12,[_,_,_,_,_,_,_,_,_,_,_,_]⟩::u3)) rfl rfl bi) ?_;refine bg ?_;refine jX (fun Z=>∃(Q:List Tk),∃(ad:Option Addr),∃(cp:Nat),∃(Sx:List ay),(Q=(([⟨#[83,69,76,69,67,84]⟩].map aM++mG s)++[⟨#[70,82,79,77]⟩,s.table].map aM++er s.bw)++n7 s)/\(bQ 28 3 (Q.flatMap cT) Q.length ad cp Sx)/\(Q.length<=500)/\Z=(⟨84,[(1,bE J),(3,aB ad Q.length cp)],(⟨J,35,12,[aj s.kind,bH s.table,ap 2 cC s.b9,ap 3 cV s.row,ap 1 cS s.names,bI s.count,ap 5 cO s.bw,bH s.order,bI s.down,aj s.ea,bH s.set,ap 5 cO s.cN]⟩::Sx)⟩:St)) ?_ ?_
 ·refine ag ?_;refine aa (aq 7) ?_;refine aa (aC 0) ?_;refine aa az ?_;refine ak [1,3,60] ?_;refine aI ot (fun Y=>?_) (fun Y=>?_)
  ·have bJ:=Y
   (try simp only[V.ah,ne_eq] at bJ)
   refine ag ?_;refine ae ?_;refine aa (aq 7) ?_;refine aa (aC 0) ?_;refine dj (aP 0 [_,_,_]) [.string ⟨#[]⟩,.string ⟨#[]⟩,.string ⟨#[]⟩] [_,_,_] zeroValue9 runUnderlying32 sizeOf9 (fun za=>?_);refine aS (lI (S2:=[⟨za,9,3*1,flatMap cS ([⟨#[79,82,68,69,82]⟩,⟨#[66,89]⟩,s.order])⟩]) (A:=[_])) ?_;refine gr (t:=64) (Sq:=[⟨za,9,3*1,flatMap cS ([⟨#[79,82,68,69,82]⟩,⟨#[66,89]⟩,s.order])⟩]) lk (cA (g:=cS) (sz:=1) (e:=9) (ls:=[⟨#[79,82,68,69,82]⟩,⟨#[66,89]⟩,s.order]) (Nat.le_refl _) (show 3<=maxLen by decide)) (dg dz _) (mz (A:=[_])) ?_;refine bK call39 (gS [⟨#[79,82,68,69,82]⟩,⟨#[66,89]⟩,s.order] (by show 3<=10;decide)) ?_;refine fA (ls:=((Q++([⟨#[70,82,79,77]⟩,s.table].map aM))++(er s.bw))) (new:=([⟨#[79,82,68,69,82]⟩,⟨#[66,89]⟩,s.order].map aM)) (Sq:=u3) cZ ff av rfl rfl underlying29 ji rfl bR ot ye (cy (A:=[_])) ot cl ij gd (fun kz K qf qg=>?_);refine aS (cR (S1:=[⟨kz,28,K*3,flatMap cT (((Q++([⟨#[70,82,79,77]⟩,s.table].map aM))++(er s.bw))++([⟨#[79,82,68,69,82]⟩,⟨#[66,89]⟩,s.order].map aM))⟩]) (A:=[_])) ?_;refine ae ?_;refine aY (Wk.aO (n:=84) (l':=[(1,_),(3,_)]) (S':=(⟨J,35,12,[_,_,_,_,_,_,_,_,_,_,_,_]⟩::[⟨kz,28,K*3,flatMap cT (((Q++([⟨#[70,82,79,77]⟩,s.table].map aM))++(er s.bw))++([⟨#[79,82,68,69,82]⟩,⟨#[66,89]⟩,s.order].map aM))⟩])) rfl rfl bi) ?_;refine bg ?_;refine ag ?_;refine aa (aq 8) ?_
   refine aa (aC 0) ?_;refine ak [1,3,68] ?_;refine aI ot (fun c7=>?_) (fun c7=>?_)
   ·have bA:=c7
    (try simp only[V.ah,ne_eq] at bA)
    refine aR ?_;refine ae ?_;refine bK call56 (jV ⟨#[68,69,83,67]⟩) ?_;refine dj (aP 0 [_]) [.int .i64 0,.string ⟨#[]⟩,.int .i64 0] [_,_,_] zeroValue28 runUnderlying29 sizeOf28 (fun Fu=>?_);refine eT 0 71 3 1 ?_;refine fA (ls:=(((Q++([⟨#[70,82,79,77]⟩,s.table].map aM))++(er s.bw))++([⟨#[79,82,68,69,82]⟩,⟨#[66,89]⟩,s.order].map aM))) (new:=[aM ⟨#[68,69,83,67]⟩]) (Sq:=[⟨kz,28,K*3,flatMap cT (((Q++([⟨#[70,82,79,77]⟩,s.table].map aM))++(er s.bw))++([⟨#[79,82,68,69,82]⟩,⟨#[66,89]⟩,s.order].map aM))⟩]) cZ ff av rfl rfl underlying29 ji rfl bR ot (cA qf qg) (cy (A:=[_])) ot cl ij gd (fun qT U DG DH=>?_);refine aS (cR (S1:=[⟨qT,28,U*3,flatMap cT ((((Q++([⟨#[70,82,79,77]⟩,s.table].map aM))++(er s.bw))++([⟨#[79,82,68,69,82]⟩,⟨#[66,89]⟩,s.order].map aM))++[aM ⟨#[68,69,83,67]⟩])⟩]) (A:=[_])) ?_;refine ae ?_;refine aY (Wk.aO (n:=84) (l':=[(1,_),(3,_)]) (S':=(⟨J,35,12,[_,_,_,_,_,_,_,_,_,_,_,_]⟩::[⟨qT,28,U*3,flatMap cT ((((Q++([⟨#[70,82,79,77]⟩,s.table].map aM))++(er s.bw))++([⟨#[79,82,68,69,82]⟩,⟨#[66,89]⟩,s.order].map aM))++[aM ⟨#[68,69,83,67]⟩])⟩])) rfl rfl bi) ?_;refine bg ?_
    refine⟨_,?_,((((Q++([⟨#[70,82,79,77]⟩,s.table].map aM))++(er s.bw))++([⟨#[79,82,68,69,82]⟩,⟨#[66,89]⟩,s.order].map aM))++[aM ⟨#[68,69,83,67]⟩]),(some ⟨qT,0,none⟩),U,[⟨qT,28,U*3,flatMap cT ((((Q++([⟨#[70,82,79,77]⟩,s.table].map aM))++(er s.bw))++([⟨#[79,82,68,69,82]⟩,⟨#[66,89]⟩,s.order].map aM))++[aM ⟨#[68,69,83,67]⟩])⟩],(by rw[hQ];unfold n7;rw[if_neg (by unfold cj;simpa using Y),if_pos bA];simp only[append_assoc]),(cA DG DH),gd,rfl⟩;exact Wk.bz (n:=84) rfl (Sublist.refl _) fw
   have bA:=c7
   (try simp only[V.ah,ne_eq] at bA)
   refine aN ?_;refine⟨_,?_,(((Q++([⟨#[70,82,79,77]⟩,s.table].map aM))++(er s.bw))++([⟨#[79,82,68,69,82]⟩,⟨#[66,89]⟩,s.order].map aM)),(some ⟨kz,0,none⟩),K,[⟨kz,28,K*3,flatMap cT (((Q++([⟨#[70,82,79,77]⟩,s.table].map aM))++(er s.bw))++([⟨#[79,82,68,69,82]⟩,⟨#[66,89]⟩,s.order].map aM))⟩],(by rw[hQ];unfold n7;rw[if_neg (by unfold cj;simpa using Y),if_neg (by simpa using c7)];simp only[append_assoc,append_nil]),(cA qf qg),gd,rfl⟩;exact Wk.bz (n:=84) rfl (Sublist.refl _) fw
  have bJ:=Y
  (try simp only[V.ah,ne_eq] at bJ)
  refine aN ?_;refine⟨_,?_,((Q++([⟨#[70,82,79,77]⟩,s.table].map aM))++(er s.bw)),DE,DF,u3,(by rw[hQ];unfold n7;rw[if_pos (by unfold cj;simpa using Y)];simp),ye,gd,rfl⟩;exact Wk.bz (n:=84) rfl (Sublist.refl _) fw
 rintro _ ⟨Q,ad,cp,Sx,hQ,gl,Ey,rfl⟩;refine aA ?_;refine aA ?_;refine aR ?_;refine aa (aq 9) ?_;refine aa (aC 0) ?_;refine aa az ?_;refine ak [1,3,75] ?_;refine aI ot (fun dk=>?_) (fun dk=>?_)
 ·have fu:=dk
  (try simp only[V.ah,ne_eq] at fu)
  refine dB (au (take 1 _)) af (fun _ h=>(Sublist.map _ (take_sublist _ _)).subset h) ?_;refine ai 0 rfl aU ?_;refine ai 2 rfl (aq 9) ?_;refine ai 3 rfl (aC 0) ?_;refine ai 4 rfl (ct (pl:=[(0,_),(2,_)]) (ds:=[_,_,_]) rfl zeroValue28 runUnderlying28 zZ ⟨rfl,aJ,rfl,ot,trivial⟩ rfl rfl) ?_;refine bp.later rfl ?_;refine aG (i:=1) af ?_;refine bS call56 (jV ⟨#[76,73,77,73,84]⟩) ?_;refine aG (i:=5) af ?_;refine bk (aP 0 [_,_]) [.int .i64 0,.string ⟨#[]⟩,.int .i64 0,.int .i64 0,.string ⟨#[]⟩,.int .i64 0] [_,_,_,_,_,_] zeroValue28 runUnderlying29 sizeOf28 (fun Fv=>?_);refine bj 0 81 3 2 ?_;refine aG (i:=6) af ?_;refine lB (ls:=Q) (new:=[aM ⟨#[76,73,77,73,84]⟩,(⟨2,⟨#[]⟩,s.ea⟩:Tk)]) (Sq:=Sx) cZ ff rfl av rfl rfl underlying29 ji rfl bR ot gl (cy (A:=[_])) ot cl ij gd (fun u4 tG DI DJ=>?_);refine fB (cR (S1:=[⟨u4,28,tG*3,flatMap cT (Q++[aM ⟨#[76,73,77,73,84]⟩,(⟨2,⟨#[]⟩,s.ea⟩:Tk)])⟩]) (A:=[_])) ?_;refine bx 7 rfl aU ?_;refine gw (y:=⟨84,[(3,_)],(⟨J,35,12,[_,_,_,_,_,_,_,_,_,_,_,_]⟩::[⟨u4,28,tG*3,flatMap cT (Q++[aM ⟨#[76,73,77,73,84]⟩,(⟨2,⟨#[]⟩,s.ea⟩:Tk)])⟩])⟩) (Wk.aO rfl rfl bi) rfl ?_;refine bC af ?_;refine ag ?_;refine ae ?_;refine ae ?_;refine ak [2] ?_
  refine iz (t:=2) (Sq:=[⟨u4,28,tG*3,flatMap cT (Q++[aM ⟨#[76,73,77,73,84]⟩,(⟨2,⟨#[]⟩,s.ea⟩:Tk)])⟩]) lk (cA DI DJ) (dg cZ _) (cy (A:=[_])) ?_;refine aD ?_;refine bf ?_;refine⟨?_,rfl⟩;rw[hQ];unfold nN tw;rw[if_pos w8]
 have fu:=dk
 (try simp only[V.ah,ne_eq] at fu)
 refine aN ?_;refine ag ?_;refine ae ?_;refine ae ?_;refine ak [2] ?_;refine iz (t:=2) (Sq:=Sx) lk gl (dg cZ _) (cy (A:=[_])) ?_;refine aD ?_;refine bf ?_;refine⟨?_,rfl⟩;rw[hQ];unfold nN tw;rw[if_neg w8];simp only[append_nil]
def sG(k:Int):ByteArray:=lO.getD k.toNat ⟨#[]⟩
theorem AW{k:Int}(h1:1<=k)(h2:k<=3):typesC[0+k.toNat*1]?=some (.string (sG k)):=by
 have h:k=1\/k=2\/k=3:=(by omega)
 rcases h with rfl|rfl|rfl<;>rfl
def eu(c:dc):List Tk:=[c.n,sG c.k].map aM
def j5:List ByteArray:=[⟨#[66,69,71,73,78]⟩,⟨#[67,79,77,77,73,84]⟩,⟨#[82,79,76,76,66,65,67,75]⟩]
def fQ(s:cc):List Tk :=
 if s.kind=1 then [⟨#[67,82,69,65,84,69]⟩,⟨#[84,65,66,76,69]⟩,s.table].map aM++fE (s.b9.map eu)
 else if s.kind=2 then [⟨#[68,82,79,80]⟩,⟨#[84,65,66,76,69]⟩,s.table].map aM
 else if s.kind=3 then [⟨#[73,78,83,69,82,84]⟩,⟨#[73,78,84,79]⟩,s.table,⟨#[86,65,76,85,69,83]⟩].map aM++fE (s.row.map dK)
 else if s.kind=4 then nN s
 else if s.kind=5 then [[⟨#[85,80,68,65,84,69]⟩,s.table,⟨#[83,69,84]⟩,s.set].map aM,[aW ⟨#[61]⟩],ie s.cN,er s.bw].flatten
 else if s.kind=6 then [⟨#[68,69,76,69,84,69]⟩,⟨#[70,82,79,77]⟩,s.table].map aM++er s.bw
 else [j5.getD (s.kind-7).toNat ⟨#[]⟩].map aM
structure zb (s:cc):Prop where
 fin:j4 s
 k1:1<=s.kind
 k9:s.kind<=9
 c:s.kind=1->∀c∈s.b9,1<=c.k/\c.k<=3
 r:s.kind=3->∀v∈s.row,qP v
 w:s.kind=4\/s.kind=5\/s.kind=6->s.bw.length=0\/eN 0 s.bw=0
 t:s.kind=5->eN 0 s.cN=0
theorem wz(ts:List (List Tk)):0<(fE ts).length:=by unfold fE;rw[length_append];simp
theorem wA{ts:List (List Tk)}(h:∀x∈ts,x.length<=10):(fE ts).length<=2+11*ts.length:=by
 have h1:=rY h ts.length;unfold fE;rw[length_append];simp only[length_cons,length_nil];omega
theorem wY(l:List dc):∀x∈l.map eu,x.length<=10:=fun x hx=>by obtain⟨c,_,rfl⟩:=mem_map.1 hx;show 2<=10;decide
theorem wB(l:List Vl):∀x∈l.map dK,x.length<=10:=fun x hx=>by obtain⟨v,_,rfl⟩:=mem_map.1 hx;have:=vU v;omega
theorem ru:(Tryd.prog.info? 28).map (fun i=>(i.zero,i.size,i.bytes))=some (some (.agg #[.int .i64 0,.string ⟨#[]⟩,.int .i64 0]),3,32):=by kernel_rfl
theorem vJ:(Tryd.prog.info? 29).map (fun i=>(i.zero,i.size,i.bytes))=some (some (.slice none 0 0),1,24):=by kernel_rfl
theorem wZ(iv:(1,typesC)∈G)(s:cc)(hs:zb s):VP Tryd.prog G 30 [.agg (dW s)] (.list 3 ((fQ s).flatMap cT) (fQ s).length):=by
 refine cL func30 rfl ntmps30 aV fun X0 w0 dM=>?_;have gg:=ju;have hf:=hs.fin;have h6:=hf.ok.1;have Fw:=hf.ok.2.1;have eF:=hf.ok.2.2.2.1;have yf:=hf.ok.2.2.2.2;have Ex:=vY s.bw;have g5:=pg s.bw;have EZ:=pg s.cN;have qU:=wA (wY s.b9);have l8:=wA (wB s.row);have U:=z8 (G:=G) s hf
 (first|rw[length_map] at qU|(unfold ap at qU;rw[length_map] at qU));(first|rw[length_map] at l8|(unfold ap at l8;rw[length_map] at l8))
 unfold dW at U;unfold dW;refine ag ?_;refine fi (ds:=[_,_,_,_,_,_,_,_,_,_,_,_]) av rfl rfl ot rfl rfl (fun K=>?_);refine ae ?_;refine aF [(1,_)] [⟨K,35,12,[_,_,_,_,_,_,_,_,_,_,_,_]⟩] ?_;refine aA ?_;refine ag ?_;refine aa (aq 0) ?_;refine aa eA ?_;refine aF [(1,_),(10,_)] [⟨K,35,12,[_,_,_,_,_,_,_,_,_,_,_,_]⟩] ?_;refine bO ?_;refine ag ?_;refine aa az ?_;refine ae ?_;refine ak [1,10,11] ?_;refine aI ot (fun ax=>?_) (fun ax=>?_)
 ·have E:=ax
  (try simp only[V.ah,ne_eq] at E)
  refine ag ?_;refine ae ?_;refine ak [1,3] ?_;refine aA ?_;refine ag ?_;refine aa (aq 2) ?_;refine aa eA ?_;refine aa bV ?_;refine ae ?_;refine aY (Wk.aO (n:=107) (l':=[(1,_),(3,_),(14,_),(15,_),(16,_)]) (S':=(⟨K,35,12,[_,_,_,_,_,_,_,_,_,_,_,_]⟩::[])) rfl rfl bi) ?_;refine bg ?_;refine bO ?_;refine ed (fun (J:Nat×Option Addr×Nat×List ay) cz=>match J with|(i,qV,qW,Sx)=>(i<=s.b9.length)/\(bQ 29 1 (((s.b9.take i).map eu).flatMap cK) ((s.b9.take i).map eu).length qV qW Sx)/\cz=(⟨107,[(1,bE K),(3,aB qV ((s.b9.take i).map eu).length qW),(14,ap 2 cC s.b9),(15,aj (s.b9.length:Nat)),(16,aj (i:Nat))],((⟨K,35,12,[aj s.kind,bH s.table,ap 2 cC s.b9,ap 3 cV s.row,ap 1 cS s.names,bI s.count,ap 5 cO s.bw,bH s.order,bI s.down,aj s.ea,bH s.set,ap 5 cO s.cN]⟩:ay)::Sx)⟩:St)) (fun (J:Nat×Option Addr×Nat×List ay)=>match J with|(i,qV,qW,Sx)=>s.b9.length-i) (0,none,0,[]) ⟨(Nat.zero_le _),(bQ.cast kM (by first|rfl|simp)),rfl⟩ (Wk.bz rfl cw yo) ?_;rintro⟨i,qV,qW,Sx⟩ _ ⟨hi,gl,rfl⟩;refine ag ?_;refine aa az ?_;refine ak [1,3,14,15,16,17] ?_;refine aA ?_;refine aI ot (fun Y=>?_) (fun Y=>?_)
  ·have Z:=Y
   (try simp only[V.ah,ne_eq] at Z)
   have aH:i<s.b9.length:=(by simp at Y;omega)
   have zc:=hs.c E _ (getElem_mem aH);refine aN ?_;refine aA ?_;refine bO ?_;refine ag ?_;refine aa (di 2 (h:=kZ)) ?_;refine aa (cn (mk:=Op.load 73) rfl ot (by first|exact nw (k:=0) (ds:=[_,_]) rfl rfl isAgg73 sizeOf73 rfl rfl|exact iC fj isAgg73 sizeOf73 w9|exact iC fO isAgg73 sizeOf73 w9|exact iC dz isAgg73 sizeOf73 w9|exact fU (k:=0) fj rfl rfl rfl isAgg73 sizeOf73 w9|exact fU (k:=0) fO rfl rfl rfl isAgg73 sizeOf73 w9|exact fU (k:=0) dz rfl rfl rfl isAgg73 sizeOf73 w9|exact nH (ds:=[_,_]) isAgg73 sizeOf73 rfl rfl)) ?_;refine ep (ds:=[_,_]) av rfl rfl zeroValue73 rfl (fun b5=>?_);refine bq 0 [_,_] sizeOf73 ?_;refine aY (Wk.aO (n:=107) (l':=[(1,_),(3,_),(5,_),(14,_),(15,_),(16,_)]) (S':=(⟨b5,73,2,[_,_]⟩::⟨K,35,12,[_,_,_,_,_,_,_,_,_,_,_,_]⟩::Sx)) rfl rfl bi) ?_;refine bg ?_;refine dB (au (take 2 _)) af (fun _ h=>(Sublist.map _ (take_sublist _ _)).subset h) ?_;refine ai 0 rfl aU ?_;refine ai 1 rfl (aq 0) ?_;refine ai 2 rfl eA ?_;refine ai 3 rfl (aq 1) ?_;refine ai 4 rfl eA ?_;refine ai 5 rfl (gq (mk:=Op.indexAddr 76) rfl kK ot (by first|exact xj runUnderlying76 sizeOf9 rfl w9|exact xj (j:=Int.toNat _) runUnderlying76 sizeOf9 (Int.toNat_of_nonneg w8).symm w8)) ?_
   refine ai 6 rfl (cn (mk:=Op.load 9) rfl ot (by first|exact nA (k:=0) rfl rfl isAgg9 rfl|exact nA (k:=1) rfl rfl isAgg9 rfl|exact jZ fj isAgg9 w9 rfl|exact jr fj isAgg9 w9 rfl|exact jZ fO isAgg9 w9 rfl|exact jr fO isAgg9 w9 rfl|exact jZ dz isAgg9 w9 rfl|exact jr dz isAgg9 w9 rfl|exact lM (k:=0) fj rfl rfl rfl isAgg9 w9 rfl|exact fT (k:=0) fj rfl rfl rfl isAgg9 w9 rfl|exact lM (k:=1) fj rfl rfl rfl isAgg9 w9 rfl|exact fT (k:=1) fj rfl rfl rfl isAgg9 w9 rfl|exact lM (k:=0) fO rfl rfl rfl isAgg9 w9 rfl|exact fT (k:=0) fO rfl rfl rfl isAgg9 w9 rfl|exact lM (k:=1) fO rfl rfl rfl isAgg9 w9 rfl|exact fT (k:=1) fO rfl rfl rfl isAgg9 w9 rfl|exact lM (k:=0) dz rfl rfl rfl isAgg9 w9 rfl|exact fT (k:=0) dz rfl rfl rfl isAgg9 w9 rfl|exact lM (k:=1) dz rfl rfl rfl isAgg9 w9 rfl|exact fT (k:=1) dz rfl rfl rfl isAgg9 w9 rfl|exact pS isAgg9 rfl|exact BN iv isAgg9 (AW zc.1 zc.2))) ?_;refine bp.later rfl ?_;refine aG (i:=7) af ?_;refine bk (aP 0 [_,_]) [.string ⟨#[]⟩,.string ⟨#[]⟩] [_,_] zeroValue9 runUnderlying32 sizeOf9 (fun Es=>?_);refine bj 0 27 1 2 ?_;refine aG (i:=8) af ?_;refine bS call39 (gS [s.b9[i].n,sG s.b9[i].k] l5) ?_;refine aG (i:=9) af ?_;refine bk (aP 0 [_]) [.slice none 0 0] [_] zeroValue29 runUnderlying79 sizeOf29 (fun Fx=>?_);refine bj 0 29 1 1 ?_
   refine aG (i:=10) af ?_;refine u6 (Sq:=Sx) (R:=[_,_]) rfl av rfl rfl underlying79 vJ rfl bR ot gl (perm_append_comm (l₁:=[_,_])) (dg gQ _) ot (nD so [eu s.b9[i]]) bR (by rw[length_map,length_take];simp only[maxLen];omega) (by rw[length_map,length_take];omega) uk (fun qX N DK DL=>?_);refine fB (cR (S1:=[⟨qX,29,N*1,flatMap cK ((s.b9.take i).map eu)++flatMap cK [eu s.b9[i]]⟩]) (A:=[_,_])) ?_;rw[show flatMap cK ((s.b9.take i).map eu)++flatMap cK [eu s.b9[i]]=flatMap cK ((s.b9.take i).map eu++[eu s.b9[i]]) from List.flatMap_append.symm,show((s.b9.take i).map eu).length+1=((s.b9.take i).map eu++[eu s.b9[i]]).length from by rw[length_append];rfl];refine bx 11 rfl aU ?_;refine gw (y:=⟨107,[(1,_),(3,_),(14,_),(15,_),(16,_)],(⟨b5,73,2,[_,_]⟩::⟨K,35,12,[_,_,_,_,_,_,_,_,_,_,_,_]⟩::[⟨qX,29,N*1,flatMap cK ((s.b9.take i).map eu++[eu s.b9[i]])⟩])⟩) (Wk.aO rfl rfl bi) rfl ?_;refine bC af ?_;refine aR ?_;refine aa az ?_;refine ae ?_;refine ak [1,3,14,15,16] ?_;refine⟨((i+1),(some ⟨qX,0,none⟩),N,[⟨qX,29,N*1,flatMap cK ((s.b9.take i).map eu++[eu s.b9[i]])⟩]),_,?_,?_,w8,(bQ.cast (cA (by rw[length_append];exact DK) DL) (by exact my eu aH)),rfl⟩
   ·first|omega|(simp only[];omega)
   exact Wk.bz (n:=107) rfl cw yo
  have Z:=Y
  (try simp only[V.ah,ne_eq] at Z)
  have kU:=r8 eu (show s.b9.length<=i by simp at Y;omega);have oL:=wW (G:=G) (s.b9.map eu) (by rw[length_map];omega) (wY s.b9);rw[<-kU] at oL qU;refine dJ ?_;refine ag ?_;refine aa (aq 1) ?_;refine aa eA ?_;refine dj (aP 0 [_,_,_]) [.string ⟨#[]⟩,.string ⟨#[]⟩,.string ⟨#[]⟩] [_,_,_] zeroValue9 runUnderlying32 sizeOf9 (fun uM=>?_);refine aS (lI (S2:=[⟨uM,9,3*1,flatMap cS ([⟨#[67,82,69,65,84,69]⟩,⟨#[84,65,66,76,69]⟩,s.table])⟩]) (A:=[_])) ?_;refine gr (t:=34) (Sq:=[⟨uM,9,3*1,flatMap cS ([⟨#[67,82,69,65,84,69]⟩,⟨#[84,65,66,76,69]⟩,s.table])⟩]) lk (cA (g:=cS) (sz:=1) (e:=9) (ls:=[⟨#[67,82,69,65,84,69]⟩,⟨#[84,65,66,76,69]⟩,s.table]) (Nat.le_refl _) (show 3<=maxLen by decide)) (dg dz _) (mz (A:=[_])) ?_;refine cG av rfl rfl rfl call39 (mC [⟨#[67,82,69,65,84,69]⟩,⟨#[84,65,66,76,69]⟩,s.table] (by show 3<=10;decide)) ⟨ot,trivial⟩ (kI _) ?_;rintro _ Ez ⟨E0,E1,rfl,DM⟩;refine aS (lI (A:=[_])) ?_;refine ae ?_;refine gr (t:=36) (Sq:=Sx) lk gl (dg gQ _) (rS (A:=[_])) ?_;refine bK call40 (oL) ?_;refine fA (ls:=([⟨#[67,82,69,65,84,69]⟩,⟨#[84,65,66,76,69]⟩,s.table].map aM)) (new:=(fE ((s.b9.take i).map eu))) (Sq:=Ez) cZ ff av rfl rfl underlying29 ru rfl bR ot DM (cy (A:=[_])) ot (wz _) ij gd (fun u5 tH DN DO=>?_)
  refine aS (cR (S1:=[⟨u5,28,tH*3,flatMap cT (([⟨#[67,82,69,65,84,69]⟩,⟨#[84,65,66,76,69]⟩,s.table].map aM)++(fE ((s.b9.take i).map eu)))⟩]) (A:=[_])) ?_;refine ae ?_;refine aY (Wk.aO (n:=107) (l':=[(2,_)]) (S':=(⟨K,35,12,[_,_,_,_,_,_,_,_,_,_,_,_]⟩::[⟨u5,28,tH*3,flatMap cT (([⟨#[67,82,69,65,84,69]⟩,⟨#[84,65,66,76,69]⟩,s.table].map aM)++(fE ((s.b9.take i).map eu)))⟩])) rfl rfl bi) ?_;refine bg ?_;refine iz (t:=2) (Sq:=[⟨u5,28,tH*3,flatMap cT (([⟨#[67,82,69,65,84,69]⟩,⟨#[84,65,66,76,69]⟩,s.table].map aM)++(fE ((s.b9.take i).map eu)))⟩]) lk (cA DN DO) (dg cZ _) (cy (A:=[_])) ?_;refine aD ?_;refine⟨.inr rfl,c6 results30 ?_⟩;refine⟨?_,rfl⟩;unfold fQ;rw[if_pos E,<-kU]
 have E:=ax
 (try simp only[V.ah,ne_eq] at E)
 refine ag ?_;refine aa az ?_;refine ae ?_;refine ak [1,10,39] ?_;refine aI ot (fun ck=>?_) (fun ck=>?_)
 ·have aX:=ck
  (try simp only[V.ah,ne_eq] at aX)
  refine ag ?_;refine aa (aq 1) ?_;refine aa eA ?_;refine dj (aP 0 [_,_,_]) [.string ⟨#[]⟩,.string ⟨#[]⟩,.string ⟨#[]⟩] [_,_,_] zeroValue9 runUnderlying32 sizeOf9 (fun ze=>?_);refine aS (cR (S1:=[⟨ze,9,3*1,flatMap cS ([⟨#[68,82,79,80]⟩,⟨#[84,65,66,76,69]⟩,s.table])⟩]) (A:=[_])) ?_;refine gr (t:=43) (Sq:=[⟨ze,9,3*1,flatMap cS ([⟨#[68,82,79,80]⟩,⟨#[84,65,66,76,69]⟩,s.table])⟩]) lk (cA (g:=cS) (sz:=1) (e:=9) (ls:=[⟨#[68,82,79,80]⟩,⟨#[84,65,66,76,69]⟩,s.table]) (Nat.le_refl _) (show 3<=maxLen by decide)) (dg dz _) (cy (A:=[_])) ?_;refine bK call39 (gS [⟨#[68,82,79,80]⟩,⟨#[84,65,66,76,69]⟩,s.table] (by show 3<=10;decide)) ?_;refine ae ?_;refine aF [(2,_)] [⟨K,35,12,[_,_,_,_,_,_,_,_,_,_,_,_]⟩] ?_;refine aD ?_;refine⟨.inr rfl,c6 results30 ?_⟩;refine⟨?_,rfl⟩;unfold fQ;rw[if_neg E,if_pos aX]
 have aX:=ck
 (try simp only[V.ah,ne_eq] at aX)
 refine ag ?_;refine aa az ?_;refine ae ?_;refine ak [1,10,45] ?_;refine aI ot (fun cx=>?_) (fun cx=>?_)
 ·have bn:=cx
  (try simp only[V.ah,ne_eq] at bn)
  refine ag ?_;refine ae ?_;refine ak [1,6] ?_;refine aA ?_;refine ag ?_;refine aa (aq 3) ?_;refine aa eA ?_;refine aa bV ?_;refine ae ?_;refine aY (Wk.aO (n:=107) (l':=[(1,_),(6,_),(48,_),(49,_),(50,_)]) (S':=(⟨K,35,12,[_,_,_,_,_,_,_,_,_,_,_,_]⟩::[])) rfl rfl bi) ?_;refine bg ?_;refine bO ?_;refine ed (fun (J:Nat×Option Addr×Nat×List ay) cz=>match J with|(i,qY,qZ,Sv)=>(i<=s.row.length)/\(bQ 29 1 (((s.row.take i).map dK).flatMap cK) ((s.row.take i).map dK).length qY qZ Sv)/\cz=(⟨107,[(1,bE K),(6,aB qY ((s.row.take i).map dK).length qZ),(48,ap 3 cV s.row),(49,aj (s.row.length:Nat)),(50,aj (i:Nat))],((⟨K,35,12,[aj s.kind,bH s.table,ap 2 cC s.b9,ap 3 cV s.row,ap 1 cS s.names,bI s.count,ap 5 cO s.bw,bH s.order,bI s.down,aj s.ea,bH s.set,ap 5 cO s.cN]⟩:ay)::Sv)⟩:St)) (fun (J:Nat×Option Addr×Nat×List ay)=>match J with|(i,qY,qZ,Sv)=>s.row.length-i) (0,none,0,[]) ⟨(Nat.zero_le _),(bQ.cast kM (by first|rfl|simp)),rfl⟩ (Wk.bz rfl cw yn) ?_;rintro⟨i,qY,qZ,Sv⟩ _ ⟨hi,zf,rfl⟩;refine ag ?_;refine aa az ?_;refine ak [1,6,48,49,50,51] ?_;refine aA ?_;refine aI ot (fun cm=>?_) (fun cm=>?_)
  ·have bJ:=cm
   (try simp only[V.ah,ne_eq] at bJ)
   have aH:i<s.row.length:=(by simp at cm;omega)
   refine aN ?_;refine aA ?_;refine bO ?_;refine ag ?_;refine aa (di 3 (h:=kZ)) ?_;refine aa (cn (mk:=Op.load 23) rfl ot (by first|exact nw (k:=0) (ds:=[_,_,_]) rfl rfl isAgg23 sizeOf23 rfl rfl|exact iC fj isAgg23 sizeOf23 w9|exact iC fO isAgg23 sizeOf23 w9|exact iC dz isAgg23 sizeOf23 w9|exact fU (k:=0) fj rfl rfl rfl isAgg23 sizeOf23 w9|exact fU (k:=0) fO rfl rfl rfl isAgg23 sizeOf23 w9|exact fU (k:=0) dz rfl rfl rfl isAgg23 sizeOf23 w9|exact nH (ds:=[_,_,_]) isAgg23 sizeOf23 rfl rfl)) ?_;refine ep (ds:=[_,_,_]) av rfl rfl zeroValue23 rfl (fun b8=>?_);refine bq 0 [_,_,_] sizeOf23 ?_;refine aY (Wk.aO (n:=107) (l':=[(1,_),(6,_),(8,_),(48,_),(49,_),(50,_)]) (S':=(⟨b8,23,3,[_,_,_]⟩::⟨K,35,12,[_,_,_,_,_,_,_,_,_,_,_,_]⟩::Sv)) rfl rfl bi) ?_;refine bg ?_;refine aR ?_;refine ae ?_
   refine aa (cn (mk:=Op.load 23) rfl ot (by first|exact nw (k:=0) (ds:=[_,_,_]) rfl rfl isAgg23 sizeOf23 rfl rfl|exact iC fj isAgg23 sizeOf23 w9|exact iC fO isAgg23 sizeOf23 w9|exact iC dz isAgg23 sizeOf23 w9|exact fU (k:=0) fj rfl rfl rfl isAgg23 sizeOf23 w9|exact fU (k:=1) fj rfl rfl rfl isAgg23 sizeOf23 w9|exact fU (k:=0) fO rfl rfl rfl isAgg23 sizeOf23 w9|exact fU (k:=1) fO rfl rfl rfl isAgg23 sizeOf23 w9|exact fU (k:=0) dz rfl rfl rfl isAgg23 sizeOf23 w9|exact fU (k:=1) dz rfl rfl rfl isAgg23 sizeOf23 w9|exact nH (ds:=[_,_,_]) isAgg23 sizeOf23 rfl rfl)) ?_;refine bK call41 (vj s.row[i] (hs.r bn _ (getElem_mem aH))) ?_;refine dj (aP 0 [_]) [.slice none 0 0] [_] zeroValue29 runUnderlying79 sizeOf29 (fun En=>?_);refine eT 0 57 1 1 ?_;refine fA (ls:=((s.row.take i).map dK)) (new:=[dK s.row[i]]) (Sq:=Sv) gQ so av rfl rfl underlying79 vJ rfl bR ot zf (cy (A:=[_,_])) ot cl (by simp only[maxLen,length_map,length_take,length_cons,length_nil];omega) (by simp only[length_map,length_take,length_cons,length_nil];omega) (fun oC O DP DQ=>?_);refine aS (cR (S1:=[⟨oC,29,O*1,flatMap cK (((s.row.take i).map dK)++[dK s.row[i]])⟩]) (A:=[_,_])) ?_;refine ae ?_
   refine aY (Wk.aO (n:=107) (l':=[(1,_),(6,_),(48,_),(49,_),(50,_)]) (S':=(⟨b8,23,3,[_,_,_]⟩::⟨K,35,12,[_,_,_,_,_,_,_,_,_,_,_,_]⟩::[⟨oC,29,O*1,flatMap cK (((s.row.take i).map dK)++[dK s.row[i]])⟩])) rfl rfl bi) ?_;refine bg ?_;refine aR ?_;refine aa az ?_;refine ae ?_;refine ak [1,6,48,49,50] ?_;refine⟨((i+1),(some ⟨oC,0,none⟩),O,[⟨oC,29,O*1,flatMap cK (((s.row.take i).map dK)++[dK s.row[i]])⟩]),_,?_,?_,w8,(bQ.cast (cA DP DQ) (by exact my dK aH)),rfl⟩
   ·first|omega|(simp only[];omega)
   exact Wk.bz (n:=107) rfl cw yn
  have bJ:=cm
  (try simp only[V.ah,ne_eq] at bJ)
  have xF:=r8 dK (show s.row.length<=i by simp at cm;omega);have oL:=wW (G:=G) (s.row.map dK) (by rw[length_map];omega) (wB s.row);rw[<-xF] at oL l8;refine dJ ?_;refine ag ?_;refine aa (aq 1) ?_;refine aa eA ?_;refine dj (aP 0 [_,_,_,_]) [.string ⟨#[]⟩,.string ⟨#[]⟩,.string ⟨#[]⟩,.string ⟨#[]⟩] [_,_,_,_] zeroValue9 runUnderlying32 sizeOf9 (fun oJ=>?_);refine aS (lI (S2:=[⟨oJ,9,4*1,flatMap cS ([⟨#[73,78,83,69,82,84]⟩,⟨#[73,78,84,79]⟩,s.table,⟨#[86,65,76,85,69,83]⟩])⟩]) (A:=[_])) ?_;refine gr (t:=62) (Sq:=[⟨oJ,9,4*1,flatMap cS ([⟨#[73,78,83,69,82,84]⟩,⟨#[73,78,84,79]⟩,s.table,⟨#[86,65,76,85,69,83]⟩])⟩]) lk (cA (g:=cS) (sz:=1) (e:=9) (ls:=[⟨#[73,78,83,69,82,84]⟩,⟨#[73,78,84,79]⟩,s.table,⟨#[86,65,76,85,69,83]⟩]) (Nat.le_refl _) (show 4<=maxLen by decide)) (dg dz _) (mz (A:=[_])) ?_;refine cG av rfl rfl rfl call39 (mC [⟨#[73,78,83,69,82,84]⟩,⟨#[73,78,84,79]⟩,s.table,⟨#[86,65,76,85,69,83]⟩] (by show 4<=10;decide)) ⟨ot,trivial⟩ (kI _) ?_;rintro _ EA ⟨E2,E3,rfl,DR⟩;refine aS (lI (A:=[_])) ?_;refine ae ?_;refine gr (t:=64) (Sq:=Sv) lk zf (dg gQ _) (rS (A:=[_])) ?_;refine bK call40 (oL) ?_
  refine fA (ls:=([⟨#[73,78,83,69,82,84]⟩,⟨#[73,78,84,79]⟩,s.table,⟨#[86,65,76,85,69,83]⟩].map aM)) (new:=(fE ((s.row.take i).map dK))) (Sq:=EA) cZ ff av rfl rfl underlying29 ru rfl bR ot DR (cy (A:=[_])) ot (wz _) ij gd (fun kz tI qf qg=>?_);refine aS (cR (S1:=[⟨kz,28,tI*3,flatMap cT (([⟨#[73,78,83,69,82,84]⟩,⟨#[73,78,84,79]⟩,s.table,⟨#[86,65,76,85,69,83]⟩].map aM)++(fE ((s.row.take i).map dK)))⟩]) (A:=[_])) ?_;refine ae ?_;refine aY (Wk.aO (n:=107) (l':=[(2,_)]) (S':=(⟨K,35,12,[_,_,_,_,_,_,_,_,_,_,_,_]⟩::[⟨kz,28,tI*3,flatMap cT (([⟨#[73,78,83,69,82,84]⟩,⟨#[73,78,84,79]⟩,s.table,⟨#[86,65,76,85,69,83]⟩].map aM)++(fE ((s.row.take i).map dK)))⟩])) rfl rfl bi) ?_;refine bg ?_;refine iz (t:=2) (Sq:=[⟨kz,28,tI*3,flatMap cT (([⟨#[73,78,83,69,82,84]⟩,⟨#[73,78,84,79]⟩,s.table,⟨#[86,65,76,85,69,83]⟩].map aM)++(fE ((s.row.take i).map dK)))⟩]) lk (cA qf qg) (dg cZ _) (cy (A:=[_])) ?_;refine aD ?_;refine⟨.inr rfl,c6 results30 ?_⟩;refine⟨?_,rfl⟩;unfold fQ;rw[if_neg E,if_neg aX,if_pos bn,<-xF]
 have bn:=cx
 (try simp only[V.ah,ne_eq] at bn)
 refine ag ?_;refine aa az ?_;refine ae ?_;refine ak [1,10,67] ?_;refine aI ot (fun c7=>?_) (fun c7=>?_)
 ·have bA:=c7
  (try simp only[V.ah,ne_eq] at bA)
  refine ag ?_;refine aa (cn (mk:=Op.load 35) rfl ot (by first|exact nw (k:=0) (ds:=[_,_,_,_,_,_,_,_,_,_,_,_]) rfl rfl isAgg35 sizeOf35 rfl rfl|exact iC fj isAgg35 sizeOf35 w9|exact iC fO isAgg35 sizeOf35 w9|exact iC dz isAgg35 sizeOf35 w9|exact fU (k:=0) fj rfl rfl rfl isAgg35 sizeOf35 w9|exact fU (k:=0) fO rfl rfl rfl isAgg35 sizeOf35 w9|exact fU (k:=0) dz rfl rfl rfl isAgg35 sizeOf35 w9|exact nH (ds:=[_,_,_,_,_,_,_,_,_,_,_,_]) isAgg35 sizeOf35 rfl rfl)) ?_;refine bK call42 (U (hs.w (.inl bA))) ?_;refine ae ?_;refine aF [(2,_)] [⟨K,35,12,[_,_,_,_,_,_,_,_,_,_,_,_]⟩] ?_;refine aD ?_;refine⟨.inr rfl,c6 results30 ?_⟩;refine⟨?_,rfl⟩;unfold fQ;rw[if_neg E,if_neg aX,if_neg bn,if_pos bA]
 have bA:=c7
 (try simp only[V.ah,ne_eq] at bA)
 refine ag ?_;refine aa az ?_;refine ae ?_;refine ak [1,10,71] ?_;refine aI ot (fun dk=>?_) (fun dk=>?_)
 ·have I:=dk
  (try simp only[V.ah,ne_eq] at I)
  refine aA ?_;refine dB (au _) af (fun _ h=>h) ?_;refine ai 0 rfl (aq 1) ?_;refine ai 1 rfl eA ?_;refine ai 2 rfl (aq 10) ?_;refine ai 3 rfl eA ?_;refine ai 8 rfl (aq 11) ?_;refine ai 9 rfl eA ?_;refine ai 11 rfl (aq 6) ?_;refine ai 12 rfl eA ?_;refine bp.later rfl ?_;refine aG (i:=4) af ?_;refine bk (aP 0 [_,_,_,_]) [.string ⟨#[]⟩,.string ⟨#[]⟩,.string ⟨#[]⟩,.string ⟨#[]⟩] [_,_,_,_] zeroValue9 runUnderlying32 sizeOf9 (fun jP=>?_);refine bj 0 77 1 4 ?_;refine aG (i:=5) af ?_;refine bS call39 (gS [⟨#[85,80,68,65,84,69]⟩,s.table,⟨#[83,69,84]⟩,s.set] (by show 4<=10;decide)) ?_;refine aG (i:=6) af ?_;refine bS call44 (dP ⟨#[61]⟩) ?_;refine dn (i:=7) (j:=10) af ?_ ?_
  ·refine bk (aP 0 [_]) [.int .i64 0,.string ⟨#[]⟩,.int .i64 0] [_,_,_] zeroValue28 runUnderlying29 sizeOf28 (fun zg=>?_);refine bj 0 80 3 1 ?_;refine aG (i:=10) af ?_;refine bS call45 (rq s.cN yf (hs.t I) (fun o h=>(hf.x o h).2)) ?_;refine aG (i:=13) af ?_;refine bS call46 (ni s.bw eF (hs.w (.inr (.inl I))) (fun o h=>(hf.w o h).2) w8) ?_;refine aG (i:=14) af ?_;refine bk (aP 0 [_,_,_,_]) [.slice none 0 0,.slice none 0 0,.slice none 0 0,.slice none 0 0] [_,_,_,_] zeroValue29 runUnderlying79 sizeOf29 (fun zh=>?_);refine bj 0 87 1 4 ?_;refine aG (i:=15) af ?_;refine bS call43 (dX [[⟨#[85,80,68,65,84,69]⟩,s.table,⟨#[83,69,84]⟩,s.set].map aM,[aW ⟨#[61]⟩],ie s.cN,er s.bw] (by show 4<=1000;decide) mR mR) ?_;refine bx 16 rfl aU ?_;refine bL [(2,_)] [⟨K,35,12,[_,_,_,_,_,_,_,_,_,_,_,_]⟩] ?_;refine bC af ?_;refine aD ?_;refine⟨.inr rfl,c6 results30 ?_⟩;refine⟨?_,rfl⟩;unfold fQ;rw[if_neg E,if_neg aX,if_neg bn,if_neg bA,if_pos I]
  refine bS call45 (rq s.cN yf (hs.t I) (fun o h=>(hf.x o h).2)) ?_;refine dn (i:=7) (j:=13) af ?_ ?_
  ·refine bk (aP 0 [_]) [.int .i64 0,.string ⟨#[]⟩,.int .i64 0] [_,_,_] zeroValue28 runUnderlying29 sizeOf28 (fun zg=>?_);refine bj 0 80 3 1 ?_;refine aG (i:=13) af ?_;refine bS call46 (ni s.bw eF (hs.w (.inr (.inl I))) (fun o h=>(hf.w o h).2) w8) ?_;refine aG (i:=14) af ?_;refine bk (aP 0 [_,_,_,_]) [.slice none 0 0,.slice none 0 0,.slice none 0 0,.slice none 0 0] [_,_,_,_] zeroValue29 runUnderlying79 sizeOf29 (fun zh=>?_);refine bj 0 87 1 4 ?_;refine aG (i:=15) af ?_;refine bS call43 (dX [[⟨#[85,80,68,65,84,69]⟩,s.table,⟨#[83,69,84]⟩,s.set].map aM,[aW ⟨#[61]⟩],ie s.cN,er s.bw] (by show 4<=1000;decide) mR mR) ?_;refine bx 16 rfl aU ?_;refine bL [(2,_)] [⟨K,35,12,[_,_,_,_,_,_,_,_,_,_,_,_]⟩] ?_;refine bC af ?_;refine aD ?_;refine⟨.inr rfl,c6 results30 ?_⟩;refine⟨?_,rfl⟩;unfold fQ;rw[if_neg E,if_neg aX,if_neg bn,if_neg bA,if_pos I]
  refine bS call46 (ni s.bw eF (hs.w (.inr (.inl I))) (fun o h=>(hf.w o h).2) w8) ?_;refine aG (i:=7) af ?_;refine bk (aP 0 [_]) [.int .i64 0,.string ⟨#[]⟩,.int .i64 0] [_,_,_] zeroValue28 runUnderlying29 sizeOf28 (fun zg=>?_);refine bj 0 80 3 1 ?_;refine aG (i:=14) af ?_;refine bk (aP 0 [_,_,_,_]) [.slice none 0 0,.slice none 0 0,.slice none 0 0,.slice none 0 0] [_,_,_,_] zeroValue29 runUnderlying79 sizeOf29 (fun zh=>?_);refine bj 0 87 1 4 ?_;refine aG (i:=15) af ?_;refine bS call43 (dX [[⟨#[85,80,68,65,84,69]⟩,s.table,⟨#[83,69,84]⟩,s.set].map aM,[aW ⟨#[61]⟩],ie s.cN,er s.bw] (by show 4<=1000;decide) mR mR) ?_;refine bx 16 rfl aU ?_;refine bL [(2,_)] [⟨K,35,12,[_,_,_,_,_,_,_,_,_,_,_,_]⟩] ?_;refine bC af ?_;refine aD ?_;refine⟨.inr rfl,c6 results30 ?_⟩;refine⟨?_,rfl⟩;unfold fQ;rw[if_neg E,if_neg aX,if_neg bn,if_neg bA,if_pos I]
 have I:=dk
 (try simp only[V.ah,ne_eq] at I)
 refine ag ?_;refine aa az ?_;refine ae ?_;refine ak [1,89] ?_;refine aI ot (fun fy=>?_) (fun fy=>?_)
 ·have M:=fy
  (try simp only[V.ah,ne_eq] at M)
  refine aA ?_;refine dB (au (take 1 _)) af (fun _ h=>(Sublist.map _ (take_sublist _ _)).subset h) ?_;refine ai 0 rfl (aq 1) ?_;refine ai 1 rfl eA ?_;refine ai 4 rfl (aq 6) ?_;refine ai 5 rfl eA ?_;refine bp.later rfl ?_;refine aG (i:=2) af ?_;refine bk (aP 0 [_,_,_]) [.string ⟨#[]⟩,.string ⟨#[]⟩,.string ⟨#[]⟩] [_,_,_] zeroValue9 runUnderlying32 sizeOf9 (fun Fy=>?_);refine bj 0 93 1 3 ?_;refine aG (i:=3) af ?_;refine lG rfl av rfl rfl rfl call39 (mC [⟨#[68,69,76,69,84,69]⟩,⟨#[70,82,79,77]⟩,s.table] (by show 3<=10;decide)) ⟨ot,trivial⟩ (kI _) uk ?_;rintro _ EB ⟨E4,E5,rfl,DS⟩;refine fB (cR (A:=[_])) ?_;refine aG (i:=6) af ?_;refine bS call46 (ni s.bw eF (hs.w (.inr (.inr M))) (fun o h=>(hf.w o h).2) w8) ?_;refine aG (i:=7) af ?_;refine zq (ls:=([⟨#[68,69,76,69,84,69]⟩,⟨#[70,82,79,77]⟩,s.table].map aM)) (new:=(er s.bw)) (Sq:=EB) cZ ff rfl av rfl rfl underlying29 ru rfl bR runUnderlying29 sizeOf28 ot DS (cy (A:=[_])) ot ij gd (fun E6 E7 zi DT=>?_);refine fB (cR (A:=[_])) ?_;refine bx 8 rfl aU ?_;refine gw (y:=⟨107,[(2,_)],(⟨K,35,12,[_,_,_,_,_,_,_,_,_,_,_,_]⟩::zi)⟩) (Wk.aO rfl rfl bi) rfl ?_;refine bC af ?_;refine iz (t:=2) (Sq:=zi) lk DT (dg cZ _) (cy (A:=[_])) ?_;refine aD ?_;refine⟨.inr rfl,c6 results30 ?_⟩
  refine⟨?_,rfl⟩;unfold fQ;rw[if_neg E,if_neg aX,if_neg bn,if_neg bA,if_neg I,if_pos M]
 have M:=fy
 (try simp only[V.ah,ne_eq] at M)
 refine aN ?_;refine aA ?_;obtain⟨j,hj,oM⟩:∃j:Nat,s.kind=((7+j:Nat):Int)/\j<j5.length:=⟨(s.kind-7).toNat,by have:=hs.k1;have:=hs.k9;omega,by have:=hs.k1;have:=hs.k9;show _<3;omega⟩
 refine aR ?_;refine dj (aP 0 [_,_,_]) [.string ⟨#[]⟩,.string ⟨#[]⟩,.string ⟨#[]⟩] [_,_,_] zeroValue9 runUnderlying32 sizeOf9 (fun zj=>?_);refine aS (cR (S1:=[⟨zj,9,3*1,flatMap cS (j5)⟩]) (A:=[_])) ?_;refine gr (t:=99) (Sq:=[⟨zj,9,3*1,flatMap cS (j5)⟩]) lk (cA (g:=cS) (sz:=1) (e:=9) (ls:=j5) (Nat.le_refl _) (show 3<=maxLen by decide)) (dg dz _) (cy (A:=[_])) ?_;refine aa (aq 0) ?_;refine aa eA ?_;refine aa (fc (r:=.int .i64 ((j:Nat):Int)) rfl ot aJ (nu (by rw[hj,show(((7+j:Nat)):Int)-7=((j:Nat):Int) by omega];exact wrap_i64 w8 (by have:j<3:=oM;omega)))) ?_;refine aa (di 1 (h:=by first|exact .l (j:=j) rfl oM|exact .r (j:=j) rfl oM)) ?_;refine aa (cn (mk:=Op.load 9) rfl ot (by exact jr (i:=j) dz isAgg9 oM rfl)) ?_;refine dj (aP 0 [_]) [.string ⟨#[]⟩] [_] zeroValue9 runUnderlying32 sizeOf9 (fun yg=>?_);refine aS (cR (S1:=[⟨yg,9,1*1,flatMap cS ([j5[j]])⟩]) (A:=[_])) ?_;refine gr (t:=105) (Sq:=[⟨yg,9,1*1,flatMap cS ([j5[j]])⟩]) lk (cA (g:=cS) (sz:=1) (e:=9) (ls:=[j5[j]]) (Nat.le_refl _) (show 1<=maxLen by decide)) (dg dz _) (cy (A:=[_])) ?_;refine bK call39 (gS [j5[j]] mV) ?_;refine ae ?_;refine aF [(2,_)] [⟨K,35,12,[_,_,_,_,_,_,_,_,_,_,_,_]⟩] ?_;refine aD ?_;refine⟨.inr rfl,c6 results30 ?_⟩
 refine⟨?_,rfl⟩;unfold fQ;rw[if_neg E,if_neg aX,if_neg bn,if_neg bA,if_neg I,if_neg M,hj,show(((7+j:Nat):Int)-7).toNat=j by omega,hM oM];first|done|rfl
theorem vK:∀(l pre:List dc),jt pre l=0->∀c∈l,cH c.n=0/\1<=c.k/\c.k<=3
 | [],_,_,c,hc=>by cases hc
 | a::l,pre,h,c,hc=>by
  have h:(if fH pre a≠0 then fH pre a else jt (pre++[a]) l)=0:=h;by_cases h0:fH pre a=0
  ·rw[if_neg (by simp[h0])] at h;rcases mem_cons.1 hc with rfl|hc
   ·unfold fH at h0;by_cases h1:cH c.n=0
    ·rw[if_neg (by simp[h1])] at h0;by_cases h2:c.k<1\/c.k>3
     ·rw[if_pos h2] at h0;cases h0
     exact⟨h1,by omega⟩
    rw[if_pos h1] at h0;exact absurd h0 h1
   exact vK l _ h c hc
  rw[if_pos h0] at h;exact absurd h h0
theorem Ay{l:List dc}(h:gV l=0):(1<=l.length/\l.length<=6)/\∀c∈l,cH c.n=0/\1<=c.k/\c.k<=3:=by
 unfold gV at h;split at h
 ·cases h
 exact⟨by omega,vK l [] h⟩
theorem xa{α:Type}{f:α->Int}:∀{l:List α},fl f l=0->∀a∈l,f a=0
 | [],_,a,h=>by cases h
 | b::r,h,a,ha=>by
  unfold fl at h;split at h
  ·exact absurd h dS
  rcases mem_cons.1 ha with rfl|ha
  ·have hn:¬f a≠0:=(by assumption)
   omega
  exact xa h a ha
theorem r9{l:List aT}(h:iV l=0):l.length=0\/eN 0 l=0:=by
 unfold iV at h;split at h
 ·exact .inl dS
 right;unfold ic at h;split at h
 ·cases h
 exact h
theorem Cc{l:List aT}(h:ic l=0):eN 0 l=0/\l.length<=40:=by
 unfold ic at h;split at h
 ·cases h
 exact⟨h,by omega⟩
theorem Cw(h:fm s=0):ig s=0/\gy s (jv s)=true/\(s.kind<7->cH s.table=0):=by
 unfold fm at h;split at h
 ·rename_i h1;exact absurd h h1.2
 rename_i h1;split at h
 ·cases h
 rename_i h2;refine⟨h,?_,fun hk=>?_⟩
 ·cases hb:gy s (jv s) with
  | true=>rfl
  | false=>exact absurd ⟨h,hb⟩ h2
 by_cases hn:cH s.table=0
 ·exact hn
 exact absurd ⟨hk,hn⟩ h1
theorem xG(hf:j4 s)(h1:1<=s.kind)(K:s.kind<=9)(h:fm s=0):zb s:=by
 have he:=(Cw h).1;unfold ig at he;refine⟨hf,h1,K,fun hk=>?_,fun hk v E=>?_,fun hk=>?_,fun hk=>?_⟩
 ·rw[if_pos hk] at he;exact fun c hc=>((Ay he).2 c hc).2
 ·rw[if_neg w8,if_pos hk] at he;unfold kV at he;split at he
  ·cases he
  exact xp (xa he v E) (hf.r v E).1 (hf.r v E).2
 ·by_cases I:s.kind=4
  ·rw[if_neg w8,if_neg w8,if_pos I] at he;unfold eD at he;repeat' split at he
   all_goals first|(exfalso;omega)|exact r9 w8
  by_cases J:s.kind=5
  ·rw[if_neg w8,if_neg w8,if_neg I,if_pos J] at he;repeat' split at he
   all_goals first|(exfalso;omega)|exact r9 he
  rw[if_neg w8,if_neg w8,if_neg I,if_neg J,if_pos w8] at he;exact r9 he
 rw[if_neg w8,if_neg w8,if_neg w8,if_pos hk] at he;repeat' split at he
 all_goals first|(exfalso;omega)|exact(Cc dS).1
def fC(s:cc):Int:=if s.kind<1\/s.kind>9 then 2 else if fm s≠0 then fm s else if (fQ s).length>100 then 10 else 0
def mH(s:cc):List Tk×Int:=if fC s≠0 then ([],fC s) else (fQ s,0)
theorem xb(h:fC s=0):1<=s.kind/\s.kind<=9/\fm s=0/\(fQ s).length<=100:=by
 unfold fC at h;split at h
 ·cases h
 split at h
 ·rename_i h2;exact absurd h h2
 split at h
 ·cases h
 rename_i h2 _;exact⟨by omega,by omega,by omega,by omega⟩
theorem AX(hm:(0,marksC)∈G)(hw:(2,wordsC)∈G)(Z:(1,typesC)∈G)(s:cc)(hf:j4 s):VP Tryd.prog G 29 [.agg (dW s)] (aj (fC s)):=by
 refine cL func29 rfl ntmps29 aV fun X0 w0 dM=>?_;have gg:=ju;have U:=Ax hm hw s hf;unfold dW at U;unfold dW;have Fz:(s.kind<1\/s.kind>9)\/¬(s.kind<1\/s.kind>9):=(by omega)
 refine ag ?_;refine fi (ds:=[_,_,_,_,_,_,_,_,_,_,_,_]) av rfl rfl ot rfl rfl (fun b1=>?_);refine ae ?_;refine aF [(1,_)] [⟨b1,35,12,[_,_,_,_,_,_,_,_,_,_,_,_]⟩] ?_;refine aA ?_;refine ag ?_;refine aa (aq 0) ?_;refine aa (aC 0) ?_;refine aa az ?_;refine ae ?_;refine cM (t:=7) lk (fun O=>?_) (fun O=>?_)
 ·have I:=O;(try simp only[V.ah,ne_eq] at I)
  refine an ?_;refine an ?_;refine an ?_;refine aa bZ ?_;refine ak [1,11] ?_;refine ei ot w5 ?_;have E:fC s=2:=if_pos w8;refine ag ?_;refine ae ?_;refine ak [2] ?_;refine aD ?_;refine bf ?_;rw[E];exact⟨rfl,rfl⟩
 have I:=O;(try simp only[V.ah,ne_eq] at I)
 refine aa (aq 0) ?_;refine aa (aC 0) ?_;refine aa az ?_;refine aa bt ?_;refine ak [1,11] ?_;refine aI ot (fun ax=>?_) (fun ax=>?_)
 ·have J:=ax
  (try simp only[V.ah,ne_eq] at J)
  have E:fC s=2:=if_pos w8;refine ag ?_;refine ae ?_;refine ak [2] ?_;refine aD ?_;refine bf ?_;rw[E];exact⟨rfl,rfl⟩
 have J:=ax
 (try simp only[V.ah,ne_eq] at J)
 have hk:¬(s.kind<1\/s.kind>9):=(by omega)
 refine aN ?_;refine aA ?_;refine ag ?_;refine aa (dF 0 [_,_,_,_,_,_,_,_,_,_,_,_]) ?_;refine bK call38 (U) ?_;refine ae ?_;refine aF [(1,_),(3,_)] [⟨b1,35,12,[_,_,_,_,_,_,_,_,_,_,_,_]⟩] ?_;refine ag ?_;refine ae ?_;refine aa az ?_;refine ak [1,3,15] ?_;refine aI ot (fun K=>?_) (fun K=>?_)
 ·have M:=K
  (try simp only[V.ah,ne_eq] at M)
  have hn:fm s≠0:=(by simpa using K)
  have E:fC s=fm s:=(by unfold fC;rw[if_neg hk,if_pos hn])
  refine ag ?_;refine ae ?_;refine ae ?_;refine ak [2] ?_;refine aD ?_;refine bf ?_;rw[E];exact⟨rfl,rfl⟩
 have M:=K
 (try simp only[V.ah,ne_eq] at M)
 have h0:fm s=0:=(by simpa using K)
 have Y:=wZ Z s (xG hf w8 w8 h0);unfold dW at Y;have dH:¬fm s≠0:=fun h=>h h0;refine aN ?_;refine aA ?_;refine ag ?_;refine aa (dF 0 [_,_,_,_,_,_,_,_,_,_,_,_]) ?_;refine bK call30 (Y) ?_;refine aa bV ?_;refine aa az ?_;refine aF [(20,_)] [⟨b1,35,12,[_,_,_,_,_,_,_,_,_,_,_,_]⟩] ?_;refine aI ot (fun N=>?_) (fun N=>?_)
 ·have aX:=N
  (try simp only[V.ah,ne_eq] at aX)
  have E:fC s=10:=(by unfold fC;rw[if_neg hk,if_neg dH,if_pos (by simp at N;omega)])
  refine ag ?_;refine ae ?_;refine ak [2] ?_;refine aD ?_;refine bf ?_;rw[E];exact⟨rfl,rfl⟩
 have aX:=N
 (try simp only[V.ah,ne_eq] at aX)
 have E:fC s=0:=(by unfold fC;rw[if_neg hk,if_neg dH,if_neg (by simp at N;omega)])
 refine aN ?_;refine ag ?_;refine ae ?_;refine ak [2] ?_;refine aD ?_;refine bf ?_;rw[E];exact⟨rfl,rfl⟩
theorem BE(hm:(0,marksC)∈G)(hw:(2,wordsC)∈G)(J:(1,typesC)∈G)(s:cc)(hf:j4 s):VP Tryd.prog G 13 [.agg (dW s)] (.dU [.list 3 ((mH s).1.flatMap cT) (mH s).1.length,aj (mH s).2]):=by
 refine cL func13 rfl ntmps13 aV fun Y w0 O=>?_;have gg:=ju;have K:=AX hm hw J s hf;unfold dW at K;unfold dW;refine ag ?_;refine fi (ds:=[_,_,_,_,_,_,_,_,_,_,_,_]) av rfl rfl ot rfl rfl (fun N=>?_);refine ae ?_;refine ae ?_;refine aF [(1,_)] [⟨N,35,12,[_,_,_,_,_,_,_,_,_,_,_,_]⟩] ?_;refine aA ?_;refine ag ?_;refine aa (dF 0 [_,_,_,_,_,_,_,_,_,_,_,_]) ?_;refine bK call29 (K) ?_;refine ae ?_;refine aF [(1,_),(4,_)] [⟨N,35,12,[_,_,_,_,_,_,_,_,_,_,_,_]⟩] ?_;refine ag ?_;refine ae ?_;refine aa az ?_;refine ak [1,4,8] ?_;refine aI ot (fun ax=>?_) (fun ax=>?_)
 ·have E:=ax
  (try simp only[V.ah,ne_eq] at E)
  have hn:fC s≠0:=(by simpa using ax)
  have I:mH s=([],fC s):=if_pos hn;refine ag ?_;refine ae ?_;refine ae ?_;refine ae ?_;refine ak [2,3] ?_;refine hU (Wk.py (t:=2) (sz:=3) lk) ?_;refine aD ?_;refine DZ ?_;rw[I];exact⟨rfl,rfl⟩
 have E:=ax
 (try simp only[V.ah,ne_eq] at E)
 have h0:fC s=0:=(by simpa using ax)
 have I:mH s=(fQ s,0):=if_neg (fun h=>h h0);obtain⟨q1,q2,U,_⟩:=xb h0;have M:=wZ J s (xG hf q1 q2 U);unfold dW at M;refine aN ?_;refine ag ?_;refine aa (dF 0 [_,_,_,_,_,_,_,_,_,_,_,_]) ?_;refine bK call30 (M) ?_;refine ae ?_;refine ae ?_;refine aF [(2,_),(3,_)] [⟨N,35,12,[_,_,_,_,_,_,_,_,_,_,_,_]⟩] ?_;refine aD ?_;refine⟨.inr rfl,_,[],nil_sublist _,gN results13 (dm aV lk) (dm aV lk),?_⟩;rw[I];exact⟨rfl,rfl⟩
theorem Cx(x y:Tk):∀w,(Op.equalIn 10000 28 (.agg [.int .i64 x.k,.string x.s,.int .i64 x.n].toArray) (.agg [.int .i64 y.k,.string y.s,.int .i64 y.n].toArray)).run Tryd.prog w = .ok (x.k==y.k&&(x.s.toList==y.s.toList&&x.n==y.n)) w:=fun w=>by
 have hS:Tryd.prog.underlying 28=some (.struct (Tryd.prog.fieldsOf 28)):=(by kernel_rfl)
 have hp:Tryd.prog.stoodInHeld 28=false:=(by kernel_rfl)
 rw[show(10000:Nat)=9999+1 from rfl,run_equalIn_agg w 9999 28 _ _ hS hp];have u:=underlying28;have I:=underlying3;have J:=underlying9;have K:=isAgg3;have M:=isAgg9;have N:=sizeOf3;have O:=sizeOf9;simp only[Program.fieldsOf,u];go_simp
 by_cases h1:x.k=y.k<;>by_cases h2:x.s.toList=y.s.toList<;>by_cases E:x.n=y.n<;>simp[h1,h2,E]
theorem AY(ts:List Tk)(hl:ts.length<=1000):VP Tryd.prog G 14 [ap 3 cT ts,ap 3 cT ts] (bI true):=by
 refine cL func14 rfl ntmps14 aV fun O w0 N=>?_;refine ag ?_;refine ae ?_;refine ak [0,1] ?_;refine aA ?_;refine ag ?_;refine ae ?_;refine aa bV ?_;refine ae ?_;refine aa bV ?_;refine aa az ?_;refine ak [0,1,10] ?_;refine aI ot (fun ax=>?_) (fun ax=>?_)
 ·exact absurd ax cl
 have K:=ax
 (try simp only[V.ah,ne_eq] at K)
 refine aN ?_;refine aA ?_;refine ag ?_;refine ae ?_;refine ak [0,1,5] ?_;refine bO ?_;refine ed (fun (i:Nat) M=>(i<=ts.length)/\M=(⟨26,[(0,ap 3 cT ts),(1,ap 3 cT ts),(5,aj (i:Nat))],[]⟩:St)) (fun (i:Nat)=>ts.length-i) 0 ⟨(Nat.zero_le _),rfl⟩ (Wk.bz rfl c5 cD) ?_;rintro i _ ⟨hi,rfl⟩;refine aA ?_;refine ag ?_;refine ae ?_;refine ae ?_;refine aa bV ?_;refine aa az ?_;refine ak [0,1,5,14] ?_;refine aI ot (fun I=>?_) (fun I=>?_)
 ·have E:=I
  (try simp only[V.ah,ne_eq] at E)
  have aH:i<ts.length:=(by omega)
  refine aN ?_;refine aA ?_;refine bO ?_;refine aA ?_;refine dB (au _) af (fun _ h=>h) ?_;refine ai 0 rfl aU ?_;refine ai 1 rfl aU ?_;refine ai 2 rfl (di 3) ?_;refine ai 3 rfl (jc [_,_,_]) ?_;refine ai 4 rfl aU ?_;refine ai 5 rfl aU ?_;refine ai 6 rfl (di 3) ?_;refine ai 7 rfl (jc [_,_,_]) ?_;refine ai 8 rfl (vN (us:=[_,_,_]) (jE:=[_,_,_]) rfl ot ot eqGuardType28 (Cx ts[i] ts[i])) ?_;refine bp.later rfl ?_;refine bL [(0,_),(1,_),(5,_),(25,_)] [] ?_;refine bC af ?_;refine aI ot (fun J=>?_) (fun J=>?_)
  ·exact absurd J cl
  have aX:=J
  (try simp only[V.ah,ne_eq] at aX)
  refine aN ?_;refine aR ?_;refine ae ?_;refine aa az ?_;refine ae ?_;refine ak [0,1,5] ?_;refine⟨(i+1),_,?_,?_,w8,rfl⟩
  ·first|omega|(simp only[];omega)
  exact Wk.bz (n:=26) rfl c5 cD
 have E:=I
 (try simp only[V.ah,ne_eq] at E)
 refine dJ ?_;refine ag ?_;refine ae ?_;refine ak [4] ?_;refine aD ?_;refine bf ?_;exact⟨by first|rfl|(simp[*];done),rfl⟩
theorem AZ(hm:(0,marksC)∈G)(hw:(2,wordsC)∈G)(iv:(1,typesC)∈G)(s:cc)(hf:j4 s)(h0:fC s=0):VP Tryd.prog G 7 [.agg (dW s),.agg (dW s)] (bI true):=by
 refine cL func7 rfl ntmps7 aV fun X0 w0 dM=>?_;have U:=BE hm hw iv s hf;rw[show mH s=(fQ s,0) from if_neg (fun h=>h h0)] at U;have Ev:=(xb h0).2.2.2;unfold dW at U;unfold dW;refine ag ?_;refine fi (ds:=[_,_,_,_,_,_,_,_,_,_,_,_]) av rfl rfl ot rfl rfl (fun b2=>?_);refine fi (ds:=[_,_,_,_,_,_,_,_,_,_,_,_]) av rfl rfl ot rfl rfl (fun b3=>?_);refine ae ?_;refine aF [(2,_),(3,_)] [⟨b3,35,12,[_,_,_,_,_,_,_,_,_,_,_,_]⟩,⟨b2,35,12,[_,_,_,_,_,_,_,_,_,_,_,_]⟩] ?_;refine ag ?_;refine aa (dF 1 [_,_,_,_,_,_,_,_,_,_,_,_]) ?_;refine bK call13 (U) ?_;refine ae ?_;refine aa gY ?_;refine aa gY ?_;refine ae ?_;refine ae ?_;refine aF [(2,_),(3,_),(5,_),(6,_)] [⟨b3,35,12,[_,_,_,_,_,_,_,_,_,_,_,_]⟩,⟨b2,35,12,[_,_,_,_,_,_,_,_,_,_,_,_]⟩] ?_;refine ag ?_;refine aa (dF 0 [_,_,_,_,_,_,_,_,_,_,_,_]) ?_;refine bK call13 (U) ?_;refine ae ?_;refine aa gY ?_;refine aa gY ?_;refine ae ?_;refine ae ?_;refine aF [(2,_),(3,_),(5,_),(6,_),(7,_),(8,_)] [⟨b3,35,12,[_,_,_,_,_,_,_,_,_,_,_,_]⟩,⟨b2,35,12,[_,_,_,_,_,_,_,_,_,_,_,_]⟩] ?_;refine ag ?_;refine ae ?_;refine aa az ?_;refine ae ?_;refine cM (t:=21) lk (fun E=>?_) (fun E=>?_)
 ·have Y:=E;(try simp only[V.ah,ne_eq] at Y)
  refine ae ?_;refine aa az ?_;refine aa bZ ?_;refine ae ?_;refine cM (t:=25) lk (fun I=>?_) (fun I=>?_)
  ·have Z:=I;(try simp only[V.ah,ne_eq] at Z)
   refine aa (aq 0) ?_;refine aa (aC 1) ?_;refine aa (aq 0) ?_;refine aa (aC 0) ?_;refine aa az ?_;refine aa bZ ?_;refine ae ?_;refine cM (t:=32) lk (fun J=>?_) (fun J=>?_)
   ·have Cy:=J;(try simp only[V.ah,ne_eq] at Cy)
    refine aa (aq 1) ?_;refine aa (aC 1) ?_;refine aa (aq 1) ?_;refine aa (aC 0) ?_;refine aa az ?_;refine aa bZ ?_;refine ae ?_;refine cM (t:=39) lk (fun K=>?_) (fun K=>?_)
    ·have Cz:=K;(try simp only[V.ah,ne_eq] at Cz)
     refine aa (aq 9) ?_;refine aa (aC 1) ?_;refine aa (aq 9) ?_;refine aa (aC 0) ?_;refine aa az ?_;refine aa bZ ?_;refine ae ?_;refine cM (t:=46) lk (fun M=>?_) (fun M=>?_)
     ·have CA:=M;(try simp only[V.ah,ne_eq] at CA)
      refine aa (aq 6) ?_;refine aa (aC 1) ?_;refine aa bV ?_;refine aa (aq 6) ?_;refine aa (aC 0) ?_;refine aa bV ?_;refine aa az ?_;refine aa bZ ?_;refine ae ?_;refine cM (t:=55) lk (fun N=>?_) (fun N=>?_)
      ·have CB:=N;(try simp only[V.ah,ne_eq] at CB)
       refine aa (aq 3) ?_;refine aa (aC 1) ?_;refine aa bV ?_;refine aa (aq 3) ?_;refine aa (aC 0) ?_;refine aa bV ?_;refine aa az ?_;refine aa bZ ?_;refine ae ?_;refine cM (t:=64) lk (fun O=>?_) (fun O=>?_)
       ·have CC:=O;(try simp only[V.ah,ne_eq] at CC)
        refine ae ?_;refine ae ?_;refine nn de rfl rfl rfl call14 (AY (fQ s) w8) ⟨ot,ot,trivial⟩ ?_;refine aa bZ ?_;refine ae ?_;refine aF [(4,_)] [⟨b3,35,12,[_,_,_,_,_,_,_,_,_,_,_,_]⟩,⟨b2,35,12,[_,_,_,_,_,_,_,_,_,_,_,_]⟩] ?_;refine aD ?_;refine⟨.inr rfl,c6 results7 ?_⟩;exact⟨rfl,rfl⟩
       exact absurd O cl
      exact absurd N cl
     exact absurd M cl
    exact absurd K cl
   exact absurd J cl
  exact absurd I cl
 exact absurd E cl
end
variable {x y:Int}
def iM(m:ByteArray)(x y:Int):List Tk:=[⟨1,⟨#[68,69,76,69,84,69]⟩,0⟩,⟨1,⟨#[70,82,79,77]⟩,0⟩,⟨1,⟨#[116]⟩,0⟩,⟨1,⟨#[87,72,69,82,69]⟩,0⟩,⟨2,⟨#[]⟩,x⟩,⟨4,m,0⟩,⟨2,⟨#[]⟩,y⟩]
def mP(x y:Int):List aT:=[⟨1,⟨2,y,⟨#[]⟩⟩,⟨#[]⟩⟩,⟨1,⟨2,x,⟨#[]⟩⟩,⟨#[]⟩⟩,⟨7,e7,⟨#[]⟩⟩]
def kW(x y:Int):cc:={bT with kind:=6,table:=⟨#[116]⟩,bw:=mP x y}
def qh:Rs cc->Option (cc×Nat)
 | .ok s p _=>some (s,p)
 | _=>none
theorem xd{r:Rs cc}{s:cc}{p:Nat}(h:qh r=some (s,p)):∃os,r = .ok s p os:=by
 cases r with
 | ok s' p' os=>unfold qh at h;obtain⟨rfl,rfl⟩:=Prod.mk.inj (Option.some.inj h);exact⟨os,rfl⟩
 | _=>cases h
theorem CE(x y:Int):qh (fR (iM ⟨#[62]⟩ x y) 0 [])=some (kW x y,7):=by kernel_rfl
theorem CF(x y:Int):qh (fR (iM ⟨#[60]⟩ y x) 0 [])=some (kW x y,7):=by kernel_rfl
theorem xq(h:0<=x):cP ⟨2,⟨#[]⟩,x⟩=0:=by
 unfold cP;rw[if_neg (by show ¬(2:Int)=1;decide),if_pos rfl,if_neg (by show ¬x<0;omega)];rfl
theorem xe{m:ByteArray}(hm:cP ⟨4,m,0⟩=0)(hx:0<=x)(hy:0<=y):dR (iM m x y) 0=none:=by
 have E:cP ⟨1,⟨#[68,69,76,69,84,69]⟩,0⟩=0:=(by kernel_rfl)
 have I:cP ⟨1,⟨#[70,82,79,77]⟩,0⟩=0:=(by kernel_rfl)
 have J:cP ⟨1,⟨#[116]⟩,0⟩=0:=(by kernel_rfl)
 have K:cP ⟨1,⟨#[87,72,69,82,69]⟩,0⟩=0:=(by kernel_rfl)
 unfold iM;rw[dR,if_pos E,dR,if_pos I,dR,if_pos J,dR,if_pos K,dR,if_pos (xq hx),dR,if_pos hm,dR,if_pos (xq hy),dR]
theorem Cd(hx:0<=x)(hy:0<=y):fk (iM ⟨#[62]⟩ x y)=(kW x y,0,0):=by
 obtain⟨os,h⟩:=xd (CE x y);exact rX (by show 7<=100;decide) (xe af hx hy) h (by show ¬7<7;decide)
theorem Ce(hx:0<=x)(hy:0<=y):fk (iM ⟨#[60]⟩ y x)=(kW x y,0,0):=by
 obtain⟨os,h⟩:=xd (CF x y);exact rX (by show 7<=100;decide) (xe af hy hx) h (by show ¬7<7;decide)
theorem BF(hx:0<=x/\x<1000)(hy:0<=y/\y<1000):j4 (kW x y):=by
 refine⟨⟨Nat.zero_le _,Nat.zero_le _,Nat.zero_le _,by show 3<=40;decide,Nat.zero_le _⟩,by show 1<=maxLen;decide,fun c h=>(by cases h),fun c h=>(by cases h),Nat.zero_le _,Nat.zero_le _,fun v h=>(by cases h),fun o ho=>?_,fun o h=>(by cases h)⟩;simp only[kW,mP,mem_cons,not_mem_nil,or_false] at ho;rcases ho with rfl|rfl|rfl
 ·exact⟨Nat.zero_le _,by dsimp only;omega,by dsimp only;omega⟩
 ·exact⟨Nat.zero_le _,by dsimp only;omega,by dsimp only;omega⟩
 exact⟨Nat.zero_le _,by decide,by decide⟩
theorem BG(hx:0<=x)(hy:0<=y):fC (kW x y)=0:=by
 obtain⟨a,rfl⟩:=Int.eq_ofNat_of_zero_le hx;obtain⟨b,rfl⟩:=Int.eq_ofNat_of_zero_le hy;clear hx hy;revert a b
 intro a b;kernel_rfl
abbrev TypesTab(w:World):Prop:=Tab.nI w 1 typesC
abbrev CmpTab(w:World):Prop:=Tab.nI w 3 cmpC
def typesB:List (List UInt8):=[[],[66,79,79,76],[73,78,84],[84,69,88,84]]
def cmpB:List (List UInt8×Int×Bool×Bool):=[([61],6,false,false),([60,62],6,false,true),([60],7,false,false),([62],7,true,false),([62,61],7,false,true),([60,61],7,true,true)]
def mq:List (Nat×List Value):=[(0,marksC),(2,wordsC),(1,typesC),(3,cmpC)]
theorem EC:(0,marksC)∈mq:=mem_cons_self
theorem ED:(2,wordsC)∈mq:=mem_cons_of_mem _ mem_cons_self
theorem EE:(1,typesC)∈mq:=mem_cons_of_mem _ (mem_cons_of_mem _ mem_cons_self)
theorem EF:(3,cmpC)∈mq:=mem_cons_of_mem _ (mem_cons_of_mem _ (mem_cons_of_mem _ mem_cons_self))
theorem DU{w:World}(h1:MarksTab w)(h2:WordsTab w)(E:TypesTab w)(I:CmpTab w):∀g∈mq,g.2≠[]/\nP w g.1 g.2:=fun g hg=>by
 simp only[mq,mem_cons,not_mem_nil,or_false] at hg;rcases hg with rfl|rfl|rfl|rfl
 ·exact⟨by decide,.of h1 rfl⟩
 ·exact⟨by decide,.of h2 rfl⟩
 ·exact⟨by decide,.of E rfl⟩
 exact⟨by decide,.of I rfl⟩
variable {G:List (Nat×List Value)}
theorem vk : ∀ w, ((#[{ name := "Kind", type := 3, offset := 0, embedded := false, tag := "", pkgPath := "", byteOffset := 0 }, { name := "Int", type := 3, offset := 1, embedded := false, tag := "", pkgPath := "", byteOffset := 8 }, { name := "Text", type := 9, offset := 2, embedded := false, tag := "", pkgPath := "", byteOffset := 16 }] : Array Field).mapM fun f => do pure (f.offset, ← sizeOf f.type) : Sem (Array (Nat × Nat))).run Tryd.prog w = .ok #[(0, 1), (1, 1), (2, 1)] w := fun w => by simp [sizeOf3, sizeOf9]
theorem lC : ∀ w, ((#[{ name := "Kind", type := 3, offset := 0, embedded := false, tag := "", pkgPath := "", byteOffset := 0 }, { name := "Text", type := 9, offset := 1, embedded := false, tag := "", pkgPath := "", byteOffset := 8 }, { name := "Int", type := 3, offset := 2, embedded := false, tag := "", pkgPath := "", byteOffset := 24 }] : Array Field).mapM fun f => do pure (f.offset, ← sizeOf f.type) : Sem (Array (Nat × Nat))).run Tryd.prog w = .ok #[(0, 1), (1, 1), (2, 1)] w := fun w => by simp [sizeOf3, sizeOf9]
theorem A0(hm:(0,marksC)∈G)(hw:(2,wordsC)∈G)(zk:(3,cmpC)∈G)(iv:(1,typesC)∈G)(n m:Int)(fI:-9223372036854775808<=n)(uh:n<=9223372036854775807)(mm:-9223372036854775808<=m)(EG:m<=9223372036854775807):VP Tryd.prog G 3 [aj n,aj m] (bI true):=by
 refine cL func3 rfl ntmps3 aV fun X0 w0 dM=>?_;have hX:=vB n (by decide:(1:Int)<=1000);have hY:=vB m (by decide:(1:Int)<=1000);have zl:=pe G n 1000 fI uh bR;have zm:=pe G m 1000 mm EG bR;generalize gO n 1000=X at hX zl;generalize gO m 1000=Y at hY zm;have hv:∀z:Int,0<=z->z<1000->VP Tryd.prog G 4 [.agg [aj 2,aj z,cQ]] (.agg [aj 2,aj z,cQ]):=fun z h0 h1=>by have h:=AO (G:=G) ⟨2,z,⟨#[]⟩⟩ ⟨by dsimp only;decide,by dsimp only;decide,by dsimp only;omega,by dsimp only;omega,by dsimp only;decide⟩;rw[show lN ⟨2,z,⟨#[]⟩⟩=⟨2,z,⟨#[]⟩⟩ from by unfold lN;rw[if_neg (by show ¬gO 2 4=1;decide),if_pos (by show gO 2 4=2;decide)]] at h;exact h
 have hA:VP Tryd.prog G 6 [.list 3 ((iM ⟨#[62]⟩ X Y).flatMap cT) 7] (.dU [.agg [aj 6,bH ⟨#[116]⟩,.list 2 [] 0,.list 3 [] 0,.list 1 [] 0,bI false,.list 5 ((mP X Y).flatMap cO) 3,cQ,bI false,aj (-1),cQ,.list 5 [] 0],aj ((0:Nat):Int),aj 0]):=(by have h:=wo (G:=G) hm hw zk iv (iM ⟨#[62]⟩ X Y) (fun t h=>by simp only[iM,mem_cons,not_mem_nil,or_false] at h;rcases h with rfl|rfl|rfl|rfl|rfl|rfl|rfl<;>exact⟨by dsimp only;decide,by dsimp only;omega⟩);rw[Cd hX.1 hY.1] at h;exact h)
 have hB:VP Tryd.prog G 6 [.list 3 ((iM ⟨#[60]⟩ Y X).flatMap cT) 7] (.dU [.agg [aj 6,bH ⟨#[116]⟩,.list 2 [] 0,.list 3 [] 0,.list 1 [] 0,bI false,.list 5 ((mP X Y).flatMap cO) 3,cQ,bI false,aj (-1),cQ,.list 5 [] 0],aj ((0:Nat):Int),aj 0]):=(by have h:=wo (G:=G) hm hw zk iv (iM ⟨#[60]⟩ Y X) (fun t h=>by simp only[iM,mem_cons,not_mem_nil,or_false] at h;rcases h with rfl|rfl|rfl|rfl|rfl|rfl|rfl<;>exact⟨by dsimp only;decide,by dsimp only;omega⟩);rw[Ce hX.1 hY.1] at h;exact h)
 have hS:VP Tryd.prog G 7 [.agg [aj 6,bH ⟨#[116]⟩,.list 2 [] 0,.list 3 [] 0,.list 1 [] 0,bI false,.list 5 ((mP X Y).flatMap cO) 3,cQ,bI false,aj (-1),cQ,.list 5 [] 0],.agg [aj 6,bH ⟨#[116]⟩,.list 2 [] 0,.list 3 [] 0,.list 1 [] 0,bI false,.list 5 ((mP X Y).flatMap cO) 3,cQ,bI false,aj (-1),cQ,.list 5 [] 0]] (bI true):=AZ hm hw iv (kW X Y) (BF hX hY) (BG hX.1 hY.1);refine ag ?_;refine ae ?_;refine ak [0,1] ?_;refine ag ?_;refine ae ?_;refine bK call5 (zl) ?_;refine aa (ct (pl:=[(0,_),(1,_)]) (ds:=[_,_,_]) rfl zeroValue26 runUnderlying26 vk ⟨rfl,aJ,rfl,ot,trivial⟩ rfl rfl) ?_;refine bK call4 (hv X hX.1 hX.2) ?_;refine ep (ds:=[_,_,_]) av rfl rfl zeroValue23 rfl (fun I=>?_);refine bq 0 [_,_,_] sizeOf23 ?_;refine aF [(1,_),(5,_)] [⟨I,23,3,[_,_,_]⟩] ?_;refine ag ?_;refine ae ?_;refine bK call5 (zm) ?_;refine aa (ct (pl:=[(0,_),(1,_)]) (ds:=[_,_,_]) rfl zeroValue26 runUnderlying26 vk ⟨rfl,aJ,rfl,ot,trivial⟩ rfl rfl) ?_;refine bK call4 (hv Y hY.1 hY.2) ?_;refine ep (ds:=[_,_,_]) av rfl rfl zeroValue23 rfl (fun O=>?_);refine bq 0 [_,_,_] sizeOf23 ?_;refine aF [(5,_),(6,_)] [⟨O,23,3,[_,_,_]⟩,⟨I,23,3,[_,_,_]⟩] ?_;refine ag ?_;refine aa (ct (pl:=[(0,_),(1,_)]) (ds:=[_,_,_]) rfl zeroValue28 runUnderlying28 lC ⟨rfl,aJ,rfl,aJ,trivial⟩ rfl rfl) ?_
 refine aa (ct (pl:=[(0,_),(1,_)]) (ds:=[_,_,_]) rfl zeroValue28 runUnderlying28 lC ⟨rfl,aJ,rfl,aJ,trivial⟩ rfl rfl) ?_;refine aa (ct (pl:=[(0,_),(1,_)]) (ds:=[_,_,_]) rfl zeroValue28 runUnderlying28 lC ⟨rfl,aJ,rfl,aJ,trivial⟩ rfl rfl) ?_;refine aa (ct (pl:=[(0,_),(1,_)]) (ds:=[_,_,_]) rfl zeroValue28 runUnderlying28 lC ⟨rfl,aJ,rfl,aJ,trivial⟩ rfl rfl) ?_;refine aa (aq 1) ?_;refine aa (aC 1) ?_;refine aa (ct (pl:=[(0,_),(2,_)]) (ds:=[_,_,_]) rfl zeroValue28 runUnderlying28 lC ⟨rfl,aJ,rfl,ot,trivial⟩ rfl rfl) ?_;refine aa (ct (pl:=[(0,_),(1,_)]) (ds:=[_,_,_]) rfl zeroValue28 runUnderlying28 lC ⟨rfl,aJ,rfl,aJ,trivial⟩ rfl rfl) ?_;refine aa (aq 1) ?_;refine aa (aC 0) ?_;refine aa (ct (pl:=[(0,_),(2,_)]) (ds:=[_,_,_]) rfl zeroValue28 runUnderlying28 lC ⟨rfl,aJ,rfl,ot,trivial⟩ rfl rfl) ?_;refine dj (aP 0 [_,_,_,_,_,_,_]) [.int .i64 0,.string ⟨#[]⟩,.int .i64 0,.int .i64 0,.string ⟨#[]⟩,.int .i64 0,.int .i64 0,.string ⟨#[]⟩,.int .i64 0,.int .i64 0,.string ⟨#[]⟩,.int .i64 0,.int .i64 0,.string ⟨#[]⟩,.int .i64 0,.int .i64 0,.string ⟨#[]⟩,.int .i64 0,.int .i64 0,.string ⟨#[]⟩,.int .i64 0] [_,_,_,_,_,_,_,_,_,_,_,_,_,_,_,_,_,_,_,_,_] zeroValue28 runUnderlying29 sizeOf28 (fun E=>?_);refine ae ?_
 refine aF [(5,_),(6,_),(7,_)] [⟨E,28,21,[_,_,_,_,_,_,_,_,_,_,_,_,_,_,_,_,_,_,_,_,_]⟩,⟨O,23,3,[_,_,_]⟩,⟨I,23,3,[_,_,_]⟩] ?_;refine ag ?_;refine ae ?_;refine wg av rfl rfl rfl call6 hA af ⟨⟨_,ot,rQ (k:=0) rfl rfl rfl rfl (Nat.le_refl _) bR⟩,trivial⟩ ?_;refine ae ?_;refine aa gY ?_;refine aa gY ?_;refine aa gY ?_;refine ep (ds:=[_,_,_,_,_,_,_,_,_,_,_,_]) av rfl rfl zeroValue35 rfl (fun Z=>?_);refine bq 0 [_,_,_,_,_,_,_,_,_,_,_,_] sizeOf35 ?_;refine ae ?_;refine ae ?_;refine aF [(5,_),(6,_),(7,_),(8,_),(10,_)] [⟨Z,35,12,[_,_,_,_,_,_,_,_,_,_,_,_]⟩,⟨E,28,21,[_,_,_,_,_,_,_,_,_,_,_,_,_,_,_,_,_,_,_,_,_]⟩,⟨O,23,3,[_,_,_]⟩,⟨I,23,3,[_,_,_]⟩] ?_;refine ag ?_;refine ae ?_;refine aa (gq (mk:=Op.indexAddr 29) rfl ot aJ (by first|exact lJ (j:=5) runUnderlying29 sizeOf28 rfl mU|exact nB (j:=5) runUnderlying29 sizeOf28 rfl mU)) ?_;refine aa (aq 1) ?_;first|refine bq 0 [_,_,_,_,_,_,_,_,_,_,_,_] sizeOf9 ?_|refine bq 1 [_,_,_,_,_,_,_,_,_,_,_,_,_,_,_,_,_,_,_,_,_] sizeOf9 ?_|refine bq 2 [_,_,_] sizeOf9 ?_|refine bq 3 [_,_,_] sizeOf9 ?_
 refine aF [(5,_),(6,_),(7,_),(8,_),(10,_)] [⟨Z,35,12,[_,_,_,_,_,_,_,_,_,_,_,_]⟩,⟨E,28,21,[_,_,_,_,_,_,_,_,_,_,_,_,_,_,_,_,_,_,_,_,_]⟩,⟨O,23,3,[_,_,_]⟩,⟨I,23,3,[_,_,_]⟩] ?_;refine ag ?_;refine ae ?_;refine aa (aq 1) ?_;refine aa (aC 2) ?_;refine aa (gq (mk:=Op.indexAddr 29) rfl ot aJ (by first|exact lJ (j:=4) runUnderlying29 sizeOf28 rfl mU|exact nB (j:=4) runUnderlying29 sizeOf28 rfl mU)) ?_;refine aa (aq 2) ?_;first|refine bq 0 [_,_,_,_,_,_,_,_,_,_,_,_] sizeOf3 ?_|refine bq 1 [_,_,_,_,_,_,_,_,_,_,_,_,_,_,_,_,_,_,_,_,_] sizeOf3 ?_|refine bq 2 [_,_,_] sizeOf3 ?_|refine bq 3 [_,_,_] sizeOf3 ?_
 refine aF [(5,_),(6,_),(7,_),(8,_),(10,_)] [⟨Z,35,12,[_,_,_,_,_,_,_,_,_,_,_,_]⟩,⟨E,28,21,[_,_,_,_,_,_,_,_,_,_,_,_,_,_,_,_,_,_,_,_,_]⟩,⟨O,23,3,[_,_,_]⟩,⟨I,23,3,[_,_,_]⟩] ?_;refine ag ?_;refine ae ?_;refine aa (aq 1) ?_;refine aa (aC 3) ?_;refine aa (gq (mk:=Op.indexAddr 29) rfl ot aJ (by first|exact lJ (j:=6) runUnderlying29 sizeOf28 rfl mU|exact nB (j:=6) runUnderlying29 sizeOf28 rfl mU)) ?_;refine aa (aq 2) ?_;first|refine bq 0 [_,_,_,_,_,_,_,_,_,_,_,_] sizeOf3 ?_|refine bq 1 [_,_,_,_,_,_,_,_,_,_,_,_,_,_,_,_,_,_,_,_,_] sizeOf3 ?_|refine bq 2 [_,_,_] sizeOf3 ?_|refine bq 3 [_,_,_] sizeOf3 ?_
 refine aF [(6,_),(7,_),(8,_),(10,_)] [⟨Z,35,12,[_,_,_,_,_,_,_,_,_,_,_,_]⟩,⟨E,28,21,[_,_,_,_,_,_,_,_,_,_,_,_,_,_,_,_,_,_,_,_,_]⟩,⟨O,23,3,[_,_,_]⟩,⟨I,23,3,[_,_,_]⟩] ?_;refine ag ?_;refine ae ?_;refine wg av rfl rfl rfl call6 hB af ⟨⟨_,ot,rQ (k:=1) rfl rfl rfl rfl (Nat.le_refl _) bR⟩,trivial⟩ ?_;refine ae ?_;refine aa gY ?_;refine aa gY ?_;refine aa gY ?_;refine ep (ds:=[_,_,_,_,_,_,_,_,_,_,_,_]) av rfl rfl zeroValue35 rfl (fun U=>?_);refine bq 0 [_,_,_,_,_,_,_,_,_,_,_,_] sizeOf35 ?_;refine ae ?_;refine ae ?_;refine aF [(6,_),(8,_),(10,_),(11,_),(13,_)] [⟨U,35,12,[_,_,_,_,_,_,_,_,_,_,_,_]⟩,⟨Z,35,12,[_,_,_,_,_,_,_,_,_,_,_,_]⟩,⟨E,28,21,[_,_,_,_,_,_,_,_,_,_,_,_,_,_,_,_,_,_,_,_,_]⟩,⟨O,23,3,[_,_,_]⟩,⟨I,23,3,[_,_,_]⟩] ?_;refine aA ?_;refine dB (au _) af (fun _ h=>h) ?_;refine ai 0 rfl aU ?_;refine ai 1 rfl az ?_;refine ai 2 rfl aU ?_;refine bp.split (t:=61) lk (fun J=>?_) (fun J=>?_)
 ·have CG:=J;(try simp only[V.ah,ne_eq] at CG)
  refine ai 3 rfl aU ?_;refine ai 4 rfl az ?_;refine ai 5 rfl bZ ?_;refine ai 6 rfl aU ?_;refine bp.split (t:=65) lk (fun K=>?_) (fun K=>?_)
  ·have CH:=K;(try simp only[V.ah,ne_eq] at CH)
   refine ai 7 rfl (dF 1 [_,_,_,_,_,_,_,_,_,_,_,_]) ?_;refine ai 8 rfl (dF 0 [_,_,_,_,_,_,_,_,_,_,_,_]) ?_;refine bp.later rfl ?_;refine aG (i:=9) af ?_;refine lF rfl de rfl rfl rfl call7 (hS) ⟨ot,ot,trivial⟩ ?_;refine bx 10 rfl bZ ?_;refine bx 11 rfl aU ?_;refine rP (t:=70) lk (fun M=>?_) (fun M=>?_)
   ·have CI:=M;(try simp only[V.ah,ne_eq] at CI)
    refine bx 12 rfl (aq 6) ?_;refine aG (i:=13) af ?_;refine at_ rfl (aC 1) ?_;refine bx 14 rfl bV ?_;refine bx 15 rfl az ?_;refine bx 16 rfl bZ ?_;refine bx 17 rfl aU ?_;refine rP (t:=76) lk (fun N=>?_) (fun N=>?_)
    ·have CJ:=N;(try simp only[V.ah,ne_eq] at CJ)
     refine bx 18 rfl (aq 6) ?_;refine dn (i:=19) (j:=23) af ?_ ?_
     ·refine at_ rfl (aC 1) ?_;refine bx 20 rfl (gq (mk:=Op.indexAddr 33) rfl ot aJ yt) ?_;refine bx 21 rfl (aq 1) ?_;refine dn (i:=22) (j:=23) af ?_ ?_
      ·refine at_ rfl (jc [_,_,_]) ?_;refine aG (i:=23) af ?_;refine at_ rfl (dF 3 [_,_,_]) ?_;refine bx 24 rfl (rC (us:=[.int .i64 2,.int .i64 Y,.string ⟨#[]⟩]) (jE:=[.int .i64 2,.int .i64 Y,.string ⟨#[]⟩]) rfl ot ot eqGuardType23 (Vl.nJ ⟨2,Y,⟨#[]⟩⟩ ⟨2,Y,⟨#[]⟩⟩)) ?_;refine bx 25 rfl bZ ?_;refine bx 26 rfl aU ?_;refine bL [(4,_)] [⟨U,35,12,[_,_,_,_,_,_,_,_,_,_,_,_]⟩,⟨Z,35,12,[_,_,_,_,_,_,_,_,_,_,_,_]⟩,⟨E,28,21,[_,_,_,_,_,_,_,_,_,_,_,_,_,_,_,_,_,_,_,_,_]⟩,⟨O,23,3,[_,_,_]⟩,⟨I,23,3,[_,_,_]⟩] ?_;refine bC af ?_;refine aD ?_;refine⟨.inr rfl,c6 results3 ?_⟩;refine⟨vb ?_,rfl⟩;simp
      refine at_ rfl (dF 3 [_,_,_]) ?_;refine aG (i:=22) af ?_;refine at_ rfl (jc [_,_,_]) ?_;refine bx 24 rfl (rC (us:=[.int .i64 2,.int .i64 Y,.string ⟨#[]⟩]) (jE:=[.int .i64 2,.int .i64 Y,.string ⟨#[]⟩]) rfl ot ot eqGuardType23 (Vl.nJ ⟨2,Y,⟨#[]⟩⟩ ⟨2,Y,⟨#[]⟩⟩)) ?_;refine bx 25 rfl bZ ?_;refine bx 26 rfl aU ?_;refine bL [(4,_)] [⟨U,35,12,[_,_,_,_,_,_,_,_,_,_,_,_]⟩,⟨Z,35,12,[_,_,_,_,_,_,_,_,_,_,_,_]⟩,⟨E,28,21,[_,_,_,_,_,_,_,_,_,_,_,_,_,_,_,_,_,_,_,_,_]⟩,⟨O,23,3,[_,_,_]⟩,⟨I,23,3,[_,_,_]⟩] ?_;refine bC af ?_;refine aD ?_;refine⟨.inr rfl,c6 results3 ?_⟩;refine⟨vb ?_,rfl⟩;simp
     refine at_ rfl (dF 3 [_,_,_]) ?_;refine aG (i:=19) af ?_;refine at_ rfl (aC 1) ?_;refine bx 20 rfl (gq (mk:=Op.indexAddr 33) rfl ot aJ yt) ?_;refine bx 21 rfl (aq 1) ?_;refine aG (i:=22) af ?_;refine at_ rfl (jc [_,_,_]) ?_;refine bx 24 rfl (rC (us:=[.int .i64 2,.int .i64 Y,.string ⟨#[]⟩]) (jE:=[.int .i64 2,.int .i64 Y,.string ⟨#[]⟩]) rfl ot ot eqGuardType23 (Vl.nJ ⟨2,Y,⟨#[]⟩⟩ ⟨2,Y,⟨#[]⟩⟩)) ?_;refine bx 25 rfl bZ ?_;refine bx 26 rfl aU ?_;refine bL [(4,_)] [⟨U,35,12,[_,_,_,_,_,_,_,_,_,_,_,_]⟩,⟨Z,35,12,[_,_,_,_,_,_,_,_,_,_,_,_]⟩,⟨E,28,21,[_,_,_,_,_,_,_,_,_,_,_,_,_,_,_,_,_,_,_,_,_]⟩,⟨O,23,3,[_,_,_]⟩,⟨I,23,3,[_,_,_]⟩] ?_;refine bC af ?_;refine aD ?_;refine⟨.inr rfl,c6 results3 ?_⟩;refine⟨vb ?_,rfl⟩;simp
    exact absurd N cl
   exact absurd M cl
  exact absurd K cl
 exact absurd J cl
theorem walkParseTurns(a:Int)(E:(Lit.int .i64 a).wf=true)(b:Int)(I:(Lit.int .i64 b).wf=true)(w:World)(h1:MarksTab w)(h2:WordsTab w)(J:TypesTab w)(K:CmpTab w):Calls Tryd.prog 3 #[.int .i64 a,.int .i64 b] w fun e w'=>e = .returned (.bool true)/\Below w.heap.size w w' :=
 (A0 (G:=mq) EC ED EF EE a b (pP E).1 (pP E).2 (pP I).1 (pP I).2).CO (DU h1 h2 J K) (vs:=[_,_]) (bY.vs w _ [_,_])
end Pa
end Go.Proofs.YtmapbfkhggjgeaaDoor
