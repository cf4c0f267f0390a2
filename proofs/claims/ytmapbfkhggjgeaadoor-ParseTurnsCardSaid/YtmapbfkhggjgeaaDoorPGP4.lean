/-
  GP: walks and plain facts, part 4.
-/
import Derived.Test.YtmapbfkhggjgeaaDoorPGP3
set_option linter.unusedVariables false
set_option linter.unusedSimpArgs false
set_option maxRecDepth 100000
set_option maxHeartbeats 4000000
namespace Go.Proofs.YtmapbfkhggjgeaaDoor.Pa
open List
open Go.Proofs.Tryd
open Go.RowKit V Pk Vl Go.Proofs.YtmapbfkhggjgeaaDoor.Nm
variable {G:List (Nat×List Value)}
variable {l:List Tk} {i p n:Nat} {os:List aT} {α:Type} {ts h:List (List Tk)} {o:aT}
def Eo(s:cc)(r:D):Prop:=r = .agg (dW s)/\qJ s
theorem zT : ∀ w, ((#[{ name := "Kind", type := 3, offset := 0, embedded := false, tag := "", pkgPath := "", byteOffset := 0 }, { name := "Table", type := 9, offset := 1, embedded := false, tag := "", pkgPath := "", byteOffset := 8 }, { name := "Cols", type := 30, offset := 2, embedded := false, tag := "", pkgPath := "", byteOffset := 24 }, { name := "Row", type := 31, offset := 3, embedded := false, tag := "", pkgPath := "", byteOffset := 48 }, { name := "Names", type := 32, offset := 4, embedded := false, tag := "", pkgPath := "", byteOffset := 72 }, { name := "Count", type := 4, offset := 5, embedded := false, tag := "", pkgPath := "", byteOffset := 96 }, { name := "Where", type := 33, offset := 6, embedded := false, tag := "", pkgPath := "", byteOffset := 104 }, { name := "Order", type := 9, offset := 7, embedded := false, tag := "", pkgPath := "", byteOffset := 128 }, { name := "Down", type := 4, offset := 8, embedded := false, tag := "", pkgPath := "", byteOffset := 144 }, { name := "Limit", type := 3, offset := 9, embedded := false, tag := "", pkgPath := "", byteOffset := 152 }, { name := "Set", type := 9, offset := 10, embedded := false, tag := "", pkgPath := "", byteOffset := 160 }, { name := "To", type := 33, offset := 11, embedded := false, tag := "", pkgPath := "", byteOffset := 176 }] : Array Field).mapM fun f => do pure (f.offset, ← sizeOf f.type) : Sem (Array (Nat × Nat))).run Tryd.prog w = .ok #[(0, 1), (1, 1), (2, 1), (3, 1), (4, 1), (5, 1), (6, 1), (7, 1), (8, 1), (9, 1), (10, 1), (11, 1)] w := fun w => by simp [sizeOf3, sizeOf30, sizeOf31, sizeOf32, sizeOf33, sizeOf4, sizeOf9]
theorem zU{br:Nat}(hl:l.length<=100)(hm:(0,marksC)∈G)(hw:(2,wordsC)∈G)(hk:(3,cmpC)∈G)(iv:(1,typesC)∈G)(ht:∀t∈l,t.s.size<=maxLen/\(t.k=2->0<=t.n/\t.n<=9223372036854775807))(p:Nat)(hp:p<=l.length)(os:List aT)(R:Rs cc)(hR:R=fR l p os)(ad:Option Addr)(n cap:Nat):VX Tryd.prog G 11 [bE br] [⟨br,49,3,[ap 3 cT l,aj ((p:Nat):Int),aB ad n cap]⟩] (fun r S'=>nV br l R Eo r S') (gX R):=by
 refine VX.body func11 rfl ntmps11 aV fun X0 w0 dM=>?_;refine ag ?_;refine ep (ds:=[_,_,_,_,_,_,_,_,_,_,_,_]) av rfl rfl zeroValue35 rfl (fun E=>?_);refine aF [(0,_),(2,_)] [⟨E,35,12,[_,_,_,_,_,_,_,_,_,_,_,_]⟩,⟨br,49,3,[_,_,_]⟩] ?_;refine ag ?_;refine aa (ct (pl:=[(9,_)]) (ds:=[_,_,_,_,_,_,_,_,_,_,_,_]) rfl zeroValue35 runUnderlying35 zT ⟨rfl,aJ,trivial⟩ rfl rfl) ?_;refine ep (ds:=[_,_,_,_,_,_,_,_,_,_,_,_]) av rfl rfl zeroValue35 rfl (fun I=>?_);refine bq 0 [_,_,_,_,_,_,_,_,_,_,_,_] sizeOf35 ?_;refine aF [(0,_),(2,_),(3,_)] [⟨I,35,12,[_,_,_,_,_,_,_,_,_,_,_,_]⟩,⟨E,35,12,[_,_,_,_,_,_,_,_,_,_,_,_]⟩,⟨br,49,3,[_,_,_]⟩] ?_;refine aA ?_;refine bO ?_;refine aA ?_;refine Bb (S':=[_,_,_]) (perm_append_comm (l₁:=[_,_]) (l₂:=[_])) ?_;refine iA (k:=1) (cs':=[_,_,.list 2 [] 0,.list 3 [] 0,_,_,.list 5 [] 0,_,_,_,_,.list 5 [] 0]) (S':=[⟨br,49,3,[ap 3 cT l,aj ((p:Nat):Int),aB ad n cap]⟩,_,_]) rfl w6 rfl ?_;refine aR ?_;refine ae ?_;refine cG av rfl rfl rfl call20 (dy l hl p 1 ⟨#[67,82,69,65,84,69]⟩ ad n cap br) ⟨ot,aJ,aJ,trivial⟩ (Perm.refl _) ?_;rintro _ _ ⟨rfl,rfl⟩;refine aS (S':=⟨br,49,3,[ap 3 cT l,aj (((if aE l p 1 ⟨#[67,82,69,65,84,69]⟩=true then p+1 else p):Nat):Int),aB ad n cap]⟩::[⟨I,35,12,[_,_,_,_,_,_,_,_,_,_,_,_]⟩,⟨E,35,12,[_,_,_,_,_,_,_,_,_,_,_,_]⟩]) (Perm.refl _) ?_;refine ae ?_
 refine aF [(0,_),(2,_),(3,_),(7,_)] [⟨br,49,3,[_,_,_]⟩,⟨I,35,12,[_,_,_,_,_,_,_,_,_,_,_,_]⟩,⟨E,35,12,[_,_,_,_,_,_,_,_,_,_,_,_]⟩] ?_;refine aI ot (fun ax=>?_) (fun ax=>?_)
 ·have ev:=ax
  (try simp only[V.ah,ne_eq] at ev)
  have mj:aE l p 1 ⟨#[67,82,69,65,84,69]⟩=true:=ax;rw[mj];simp only[if_true];have fg:R=(dw l [⟨#[84,65,66,76,69]⟩] (p+1) os).bind (fun _ p ops=>(cI l p ops).bind (fun t p ops=>(nL l p ops).bind (fun c p ops=>.ok {bT with kind:=1,table:=t,b9:=c} p ops))):=hR.trans (by unfold fR;rw[if_pos mj]);refine ag ?_;refine ae ?_;refine dj (aP 0 [_]) [.string ⟨#[]⟩] [_] zeroValue9 runUnderlying32 sizeOf9 (fun Ff=>?_);refine eT 0 11 1 1 ?_;refine OD.bB av rfl rfl rfl call21 (jU l hl [⟨#[84,65,66,76,69]⟩] bR (p+1) ad n cap br) ⟨ot,by exact rfl,trivial⟩ (Perm.refl _) (fun J aK=>(Or.inr ⟨J,rfl,by obtain⟨q,e,h1,h2⟩:=aK;exact⟨q,e,fg.trans cF,h2⟩⟩:bD _ _ _ _ _ _)) ?_;rintro _ _ ⟨p2,m7,rfl⟩;refine aS (S':=⟨br,49,3,[ap 3 cT l,aj ((p2:Nat):Int),aB ad n cap]⟩::[⟨I,35,12,[_,_,_,_,_,_,_,_,_,_,_,_]⟩,⟨E,35,12,[_,_,_,_,_,_,_,_,_,_,_,_]⟩]) (Perm.refl _) ?_;have ov:=(iU (m7 []) (cf mj)).2.1;have dO:R=(cI l p2 os).bind (fun t p ops=>(nL l p ops).bind (fun c p ops=>.ok {bT with kind:=1,table:=t,b9:=c} p ops)):=fg.trans (by rw[m7];rfl);refine aF [(0,_),(2,_),(3,_)] [⟨br,49,3,[_,_,_]⟩,⟨I,35,12,[_,_,_,_,_,_,_,_,_,_,_,_]⟩,⟨E,35,12,[_,_,_,_,_,_,_,_,_,_,_,_]⟩] ?_;refine ag ?_;refine ae ?_;refine OD.bB av rfl rfl rfl call22 (iB hm hw l hl ht p2 ad n cap br) ⟨ot,trivial⟩ (Perm.refl _) (fun J aK=>(Or.inr ⟨J,rfl,by obtain⟨q,e,h1,h2⟩:=aK;exact⟨q,e,dO.trans cF,h2⟩⟩:bD _ _ _ _ _ _)) ?_
  rintro _ _ ⟨t,gH,rfl,rfl⟩;refine aS (S':=⟨br,49,3,[ap 3 cT l,aj (((p2+1):Nat):Int),aB ad n cap]⟩::[⟨I,35,12,[_,_,_,_,_,_,_,_,_,_,_,_]⟩,⟨E,35,12,[_,_,_,_,_,_,_,_,_,_,_,_]⟩]) (Perm.refl _) ?_;have C8:=(hJ (gH [])).2.2;have dZ:R=(nL l (p2+1) os).bind (fun c p ops=>.ok {bT with kind:=1,table:=t,b9:=c} p ops):=dO.trans (by rw[gH];rfl);refine aa (aq 0) ?_;refine bq 1 [_,_,_,_,_,_,_,_,_,_,_,_] sizeOf3 ?_;refine aa (aq 1) ?_;refine bq 1 [_,_,_,_,_,_,_,_,_,_,_,_] sizeOf9 ?_;refine aF [(0,_),(2,_),(3,_)] [⟨br,49,3,[_,_,_]⟩,⟨I,35,12,[_,_,_,_,_,_,_,_,_,_,_,_]⟩,⟨E,35,12,[_,_,_,_,_,_,_,_,_,_,_,_]⟩] ?_;refine aR ?_;refine ae ?_;refine OD.bB av rfl rfl rfl call23 (Ag hl hm hw iv ht (p2+1) C8 os (nL l (p2+1) os) rfl ad n cap) ⟨ot,trivial⟩ (Perm.refl _) (fun J aK=>(Or.inr ⟨J,rfl,by obtain⟨q,e,h1,h2⟩:=aK;exact⟨q,e,dZ.trans cF,h2⟩⟩:bD _ _ _ _ _ _)) ?_;rintro _ _ ⟨c,p4,o4,fh,n4,kS,k7,⟨rfl,C9⟩,yR,rfl⟩;refine aS (S':=⟨br,49,3,[ap 3 cT l,aj ((p4:Nat):Int),aB fh n4 kS]⟩::[⟨I,35,12,[_,_,_,_,_,_,_,_,_,_,_,_]⟩,⟨E,35,12,[_,_,_,_,_,_,_,_,_,_,_,_]⟩]) (Perm.refl _) ?_;have ee:R = .ok {bT with kind:=1,table:=t,b9:=c} p4 o4:=dZ.trans l7;refine aa (aq 2) ?_;refine bq 1 [_,_,_,_,_,_,_,_,_,_,_,_] sizeOf30 ?_;refine aF [(2,_),(3,_)] [⟨br,49,3,[_,_,_]⟩,⟨I,35,12,[_,_,_,_,_,_,_,_,_,_,_,_]⟩,⟨E,35,12,[_,_,_,_,_,_,_,_,_,_,_,_]⟩] ?_;refine aA ?_
  refine iA (k:=1) (cs':=[_,_,_,_,.list 1 [] 0,_,_,_,_,_,_,_]) (S':=[⟨br,49,3,[ap 3 cT l,aj ((p4:Nat):Int),aB fh n4 kS]⟩,_,_]) rfl w6 rfl ?_;refine aR ?_;refine aa (dF 1 [_,_,_,_,_,_,_,_,_,_,_,_]) ?_;refine bq 2 [_,_,_,_,_,_,_,_,_,_,_,_] sizeOf35 ?_;refine aF [(2,_)] [⟨br,49,3,[_,_,_]⟩,⟨I,35,12,[_,_,_,_,_,_,_,_,_,_,_,_]⟩,⟨E,35,12,[_,_,_,_,_,_,_,_,_,_,_,_]⟩] ?_;refine aD ?_;refine Or.inl ?_;refine⟨.inr rfl,_,[⟨br,49,3,[ap 3 cT l,aj ((p4:Nat):Int),aB fh n4 kS]⟩],gZ,c8 results11 (dG (k:=2) (ds:=[_,_,_,_,_,_,_,_,_,_,_,_]) aV lk rfl rfl isAgg35 sizeOf35 rfl rfl),?_⟩;exact⟨{bT with kind:=1,table:=t,b9:=c},p4,o4,_,_,_,ee,⟨rfl,⟨C9,Nat.zero_le _,Nat.zero_le _,Nat.zero_le _,Nat.zero_le _⟩⟩,yR,rfl⟩
 have ev:=ax
 (try simp only[V.ah,ne_eq] at ev)
 have K:aE l p 1 ⟨#[67,82,69,65,84,69]⟩=false:=ax;rw[K];simp only[Bool.false_eq_true,if_false];refine ag ?_;refine ae ?_;refine cG av rfl rfl rfl call20 (dy l hl p 1 ⟨#[68,82,79,80]⟩ ad n cap br) ⟨ot,aJ,aJ,trivial⟩ (Perm.refl _) ?_;rintro _ _ ⟨rfl,rfl⟩;refine aS (S':=⟨br,49,3,[ap 3 cT l,aj (((if aE l p 1 ⟨#[68,82,79,80]⟩=true then p+1 else p):Nat):Int),aB ad n cap]⟩::[⟨I,35,12,[_,_,_,_,_,_,_,_,_,_,_,_]⟩,⟨E,35,12,[_,_,_,_,_,_,_,_,_,_,_,_]⟩]) (Perm.refl _) ?_;refine ae ?_;refine aF [(0,_),(2,_),(3,_),(20,_)] [⟨br,49,3,[_,_,_]⟩,⟨I,35,12,[_,_,_,_,_,_,_,_,_,_,_,_]⟩,⟨E,35,12,[_,_,_,_,_,_,_,_,_,_,_,_]⟩] ?_;refine aI ot (fun bW=>?_) (fun bW=>?_)
 ·have dL:=bW
  (try simp only[V.ah,ne_eq] at dL)
  have jM:aE l p 1 ⟨#[68,82,79,80]⟩=true:=bW;rw[jM];simp only[if_true];have eB:R=(dw l [⟨#[84,65,66,76,69]⟩] (p+1) os).bind (fun _ p ops=>(cI l p ops).bind (fun t p ops=>.ok {bT with kind:=2,table:=t} p ops)):=hR.trans (by unfold fR;rw[if_neg (F_ K),if_pos jM]);refine ag ?_;refine ae ?_;refine dj (aP 0 [_]) [.string ⟨#[]⟩] [_] zeroValue9 runUnderlying32 sizeOf9 (fun Ej=>?_);refine eT 0 24 1 1 ?_;refine OD.bB av rfl rfl rfl call21 (jU l hl [⟨#[84,65,66,76,69]⟩] bR (p+1) ad n cap br) ⟨ot,by exact rfl,trivial⟩ (Perm.refl _) (fun J aK=>(Or.inr ⟨J,rfl,by obtain⟨q,e,h1,h2⟩:=aK;exact⟨q,e,eB.trans cF,h2⟩⟩:bD _ _ _ _ _ _)) ?_;rintro _ _ ⟨p6,m4,rfl⟩;refine aS (S':=⟨br,49,3,[ap 3 cT l,aj ((p6:Nat):Int),aB ad n cap]⟩::[⟨I,35,12,[_,_,_,_,_,_,_,_,_,_,_,_]⟩,⟨E,35,12,[_,_,_,_,_,_,_,_,_,_,_,_]⟩]) (Perm.refl _) ?_;have uz:=(iU (m4 []) (cf jM)).2.1;have fL:R=(cI l p6 os).bind (fun t p ops=>.ok {bT with kind:=2,table:=t} p ops):=eB.trans (by rw[m4];rfl);refine aF [(0,_),(2,_),(3,_)] [⟨br,49,3,[_,_,_]⟩,⟨I,35,12,[_,_,_,_,_,_,_,_,_,_,_,_]⟩,⟨E,35,12,[_,_,_,_,_,_,_,_,_,_,_,_]⟩] ?_;refine aR ?_;refine ae ?_;refine OD.bB av rfl rfl rfl call22 (iB hm hw l hl ht p6 ad n cap br) ⟨ot,trivial⟩ (Perm.refl _) (fun J aK=>(Or.inr ⟨J,rfl,by obtain⟨q,e,h1,h2⟩:=aK;exact⟨q,e,fL.trans cF,h2⟩⟩:bD _ _ _ _ _ _)) ?_;rintro _ _ ⟨t,qA,rfl,rfl⟩
  refine aS (S':=⟨br,49,3,[ap 3 cT l,aj (((p6+1):Nat):Int),aB ad n cap]⟩::[⟨I,35,12,[_,_,_,_,_,_,_,_,_,_,_,_]⟩,⟨E,35,12,[_,_,_,_,_,_,_,_,_,_,_,_]⟩]) (Perm.refl _) ?_;have Da:=(hJ (qA [])).2.2;have gI:R = .ok {bT with kind:=2,table:=t} (p6+1) os:=fL.trans (by rw[qA];rfl);refine aa (aq 0) ?_;refine bq 1 [_,_,_,_,_,_,_,_,_,_,_,_] sizeOf3 ?_;refine aa (aq 1) ?_;refine bq 1 [_,_,_,_,_,_,_,_,_,_,_,_] sizeOf9 ?_;refine aF [(2,_),(3,_)] [⟨br,49,3,[_,_,_]⟩,⟨I,35,12,[_,_,_,_,_,_,_,_,_,_,_,_]⟩,⟨E,35,12,[_,_,_,_,_,_,_,_,_,_,_,_]⟩] ?_;refine aA ?_;refine iA (k:=1) (cs':=[_,_,_,_,.list 1 [] 0,_,_,_,_,_,_,_]) (S':=[⟨br,49,3,[ap 3 cT l,aj (((p6+1):Nat):Int),aB ad n cap]⟩,_,_]) rfl w6 rfl ?_;refine aR ?_;refine aa (dF 1 [_,_,_,_,_,_,_,_,_,_,_,_]) ?_;refine bq 2 [_,_,_,_,_,_,_,_,_,_,_,_] sizeOf35 ?_;refine aF [(2,_)] [⟨br,49,3,[_,_,_]⟩,⟨I,35,12,[_,_,_,_,_,_,_,_,_,_,_,_]⟩,⟨E,35,12,[_,_,_,_,_,_,_,_,_,_,_,_]⟩] ?_;refine aD ?_;refine Or.inl ?_;refine⟨.inr rfl,_,[⟨br,49,3,[ap 3 cT l,aj (((p6+1):Nat):Int),aB ad n cap]⟩],gZ,c8 results11 (dG (k:=2) (ds:=[_,_,_,_,_,_,_,_,_,_,_,_]) aV lk rfl rfl isAgg35 sizeOf35 rfl rfl),?_⟩;exact⟨{bT with kind:=2,table:=t},(p6+1),os,_,_,_,gI,⟨rfl,⟨Nat.zero_le _,Nat.zero_le _,Nat.zero_le _,Nat.zero_le _,Nat.zero_le _⟩⟩,Da,rfl⟩
 have dL:=bW
 (try simp only[V.ah,ne_eq] at dL)
 have M:aE l p 1 ⟨#[68,82,79,80]⟩=false:=bW;rw[M];simp only[Bool.false_eq_true,if_false];refine ag ?_;refine ae ?_;refine cG av rfl rfl rfl call20 (dy l hl p 1 ⟨#[73,78,83,69,82,84]⟩ ad n cap br) ⟨ot,aJ,aJ,trivial⟩ (Perm.refl _) ?_;rintro _ _ ⟨rfl,rfl⟩;refine aS (S':=⟨br,49,3,[ap 3 cT l,aj (((if aE l p 1 ⟨#[73,78,83,69,82,84]⟩=true then p+1 else p):Nat):Int),aB ad n cap]⟩::[⟨I,35,12,[_,_,_,_,_,_,_,_,_,_,_,_]⟩,⟨E,35,12,[_,_,_,_,_,_,_,_,_,_,_,_]⟩]) (Perm.refl _) ?_;refine ae ?_;refine aF [(0,_),(2,_),(3,_),(30,_)] [⟨br,49,3,[_,_,_]⟩,⟨I,35,12,[_,_,_,_,_,_,_,_,_,_,_,_]⟩,⟨E,35,12,[_,_,_,_,_,_,_,_,_,_,_,_]⟩] ?_;refine aI ot (fun ck=>?_) (fun ck=>?_)
 ·have aX:=ck
  (try simp only[V.ah,ne_eq] at aX)
  have uL:aE l p 1 ⟨#[73,78,83,69,82,84]⟩=true:=ck;rw[uL];simp only[if_true];have fM:R=(dw l [⟨#[73,78,84,79]⟩] (p+1) os).bind (fun _ p ops=>(cI l p ops).bind (fun t p ops=>(dw l [⟨#[86,65,76,85,69,83]⟩] p ops).bind (fun _ p ops=>(mI l p ops).bind (fun r p ops=>.ok {bT with kind:=3,table:=t,row:=r} p ops)))):=hR.trans (by unfold fR;rw[if_neg (F_ K),if_neg (F_ M),if_pos uL]);refine ag ?_;refine ae ?_;refine dj (aP 0 [_]) [.string ⟨#[]⟩] [_] zeroValue9 runUnderlying32 sizeOf9 (fun uM=>?_);refine eT 0 34 1 1 ?_;refine OD.bB av rfl rfl rfl call21 (jU l hl [⟨#[73,78,84,79]⟩] bR (p+1) ad n cap br) ⟨ot,by exact rfl,trivial⟩ (Perm.refl _) (fun J aK=>(Or.inr ⟨J,rfl,by obtain⟨q,e,h1,h2⟩:=aK;exact⟨q,e,fM.trans cF,h2⟩⟩:bD _ _ _ _ _ _)) ?_;rintro _ _ ⟨p9,kr,rfl⟩;refine aS (S':=⟨br,49,3,[ap 3 cT l,aj ((p9:Nat):Int),aB ad n cap]⟩::[⟨I,35,12,[_,_,_,_,_,_,_,_,_,_,_,_]⟩,⟨E,35,12,[_,_,_,_,_,_,_,_,_,_,_,_]⟩]) (Perm.refl _) ?_;have jg:=(iU (kr []) (cf uL)).2.1;have g6:R=(cI l p9 os).bind (fun t p ops=>(dw l [⟨#[86,65,76,85,69,83]⟩] p ops).bind (fun _ p ops=>(mI l p ops).bind (fun r p ops=>.ok {bT with kind:=3,table:=t,row:=r} p ops))):=fM.trans (by rw[kr];rfl);refine aF [(0,_),(2,_),(3,_)] [⟨br,49,3,[_,_,_]⟩,⟨I,35,12,[_,_,_,_,_,_,_,_,_,_,_,_]⟩,⟨E,35,12,[_,_,_,_,_,_,_,_,_,_,_,_]⟩] ?_;refine ag ?_;refine ae ?_
  refine OD.bB av rfl rfl rfl call22 (iB hm hw l hl ht p9 ad n cap br) ⟨ot,trivial⟩ (Perm.refl _) (fun J aK=>(Or.inr ⟨J,rfl,by obtain⟨q,e,h1,h2⟩:=aK;exact⟨q,e,g6.trans cF,h2⟩⟩:bD _ _ _ _ _ _)) ?_;rintro _ _ ⟨t,yb,rfl,rfl⟩;refine aS (S':=⟨br,49,3,[ap 3 cT l,aj (((p9+1):Nat):Int),aB ad n cap]⟩::[⟨I,35,12,[_,_,_,_,_,_,_,_,_,_,_,_]⟩,⟨E,35,12,[_,_,_,_,_,_,_,_,_,_,_,_]⟩]) (Perm.refl _) ?_;have Cr:=(hJ (yb [])).2.2;have iL:R=(dw l [⟨#[86,65,76,85,69,83]⟩] (p9+1) os).bind (fun _ p ops=>(mI l p ops).bind (fun r p ops=>.ok {bT with kind:=3,table:=t,row:=r} p ops)):=g6.trans (by rw[yb];rfl);refine aa (aq 0) ?_;refine bq 1 [_,_,_,_,_,_,_,_,_,_,_,_] sizeOf3 ?_;refine aa (aq 1) ?_;refine bq 1 [_,_,_,_,_,_,_,_,_,_,_,_] sizeOf9 ?_;refine aF [(0,_),(2,_),(3,_)] [⟨br,49,3,[_,_,_]⟩,⟨I,35,12,[_,_,_,_,_,_,_,_,_,_,_,_]⟩,⟨E,35,12,[_,_,_,_,_,_,_,_,_,_,_,_]⟩] ?_;refine ag ?_;refine ae ?_;refine dj (aP 0 [_]) [.string ⟨#[]⟩] [_] zeroValue9 runUnderlying32 sizeOf9 (fun Fg=>?_);refine eT 0 41 1 1 ?_;refine OD.bB av rfl rfl rfl call21 (jU l hl [⟨#[86,65,76,85,69,83]⟩] bR (p9+1) ad n cap br) ⟨ot,by exact rfl,trivial⟩ (Perm.refl _) (fun J aK=>(Or.inr ⟨J,rfl,by obtain⟨q,e,h1,h2⟩:=aK;exact⟨q,e,iL.trans cF,h2⟩⟩:bD _ _ _ _ _ _)) ?_;rintro _ _ ⟨qK,yc,rfl⟩
  refine aS (S':=⟨br,49,3,[ap 3 cT l,aj ((qK:Nat):Int),aB ad n cap]⟩::[⟨I,35,12,[_,_,_,_,_,_,_,_,_,_,_,_]⟩,⟨E,35,12,[_,_,_,_,_,_,_,_,_,_,_,_]⟩]) (Perm.refl _) ?_;have Db:=(iU (yc []) Cr).2.1;have p8:R=(mI l qK os).bind (fun r p ops=>.ok {bT with kind:=3,table:=t,row:=r} p ops):=iL.trans (by rw[yc];rfl);refine aF [(0,_),(2,_),(3,_)] [⟨br,49,3,[_,_,_]⟩,⟨I,35,12,[_,_,_,_,_,_,_,_,_,_,_,_]⟩,⟨E,35,12,[_,_,_,_,_,_,_,_,_,_,_,_]⟩] ?_;refine aR ?_;refine ae ?_;refine OD.bB av rfl rfl rfl call24 (B3 hl ht qK Db os (mI l qK os) rfl ad n cap) ⟨ot,trivial⟩ (Perm.refl _) (fun J aK=>(Or.inr ⟨J,rfl,by obtain⟨q,e,h1,h2⟩:=aK;exact⟨q,e,p8.trans cF,h2⟩⟩:bD _ _ _ _ _ _)) ?_;rintro _ _ ⟨r,oD,jh,kT,uN,U,mK,⟨rfl,Dc⟩,Dd,rfl⟩;refine aS (S':=⟨br,49,3,[ap 3 cT l,aj ((oD:Nat):Int),aB kT uN U]⟩::[⟨I,35,12,[_,_,_,_,_,_,_,_,_,_,_,_]⟩,⟨E,35,12,[_,_,_,_,_,_,_,_,_,_,_,_]⟩]) (Perm.refl _) ?_;have lW:R = .ok {bT with kind:=3,table:=t,row:=r} oD jh:=p8.trans (by rw[mK];rfl);refine aa (aq 3) ?_;refine bq 1 [_,_,_,_,_,_,_,_,_,_,_,_] sizeOf31 ?_;refine aF [(2,_),(3,_)] [⟨br,49,3,[_,_,_]⟩,⟨I,35,12,[_,_,_,_,_,_,_,_,_,_,_,_]⟩,⟨E,35,12,[_,_,_,_,_,_,_,_,_,_,_,_]⟩] ?_;refine aA ?_;refine iA (k:=1) (cs':=[_,_,_,_,.list 1 [] 0,_,_,_,_,_,_,_]) (S':=[⟨br,49,3,[ap 3 cT l,aj ((oD:Nat):Int),aB kT uN U]⟩,_,_]) rfl w6 rfl ?_;refine aR ?_
  refine aa (dF 1 [_,_,_,_,_,_,_,_,_,_,_,_]) ?_;refine bq 2 [_,_,_,_,_,_,_,_,_,_,_,_] sizeOf35 ?_;refine aF [(2,_)] [⟨br,49,3,[_,_,_]⟩,⟨I,35,12,[_,_,_,_,_,_,_,_,_,_,_,_]⟩,⟨E,35,12,[_,_,_,_,_,_,_,_,_,_,_,_]⟩] ?_;refine aD ?_;refine Or.inl ?_;refine⟨.inr rfl,_,[⟨br,49,3,[ap 3 cT l,aj ((oD:Nat):Int),aB kT uN U]⟩],gZ,c8 results11 (dG (k:=2) (ds:=[_,_,_,_,_,_,_,_,_,_,_,_]) aV lk rfl rfl isAgg35 sizeOf35 rfl rfl),?_⟩;exact⟨{bT with kind:=3,table:=t,row:=r},oD,jh,_,_,_,lW,⟨rfl,⟨Nat.zero_le _,Dc,Nat.zero_le _,Nat.zero_le _,Nat.zero_le _⟩⟩,Dd,rfl⟩
 have aX:=ck
 (try simp only[V.ah,ne_eq] at aX)
 have O:aE l p 1 ⟨#[73,78,83,69,82,84]⟩=false:=ck;rw[O];simp only[Bool.false_eq_true,if_false];refine ag ?_;refine ae ?_;refine cG av rfl rfl rfl call20 (dy l hl p 1 ⟨#[83,69,76,69,67,84]⟩ ad n cap br) ⟨ot,aJ,aJ,trivial⟩ (Perm.refl _) ?_;rintro _ _ ⟨rfl,rfl⟩;refine aS (S':=⟨br,49,3,[ap 3 cT l,aj (((if aE l p 1 ⟨#[83,69,76,69,67,84]⟩=true then p+1 else p):Nat):Int),aB ad n cap]⟩::[⟨I,35,12,[_,_,_,_,_,_,_,_,_,_,_,_]⟩,⟨E,35,12,[_,_,_,_,_,_,_,_,_,_,_,_]⟩]) (Perm.refl _) ?_;refine ae ?_;refine aF [(0,_),(2,_),(3,_),(46,_)] [⟨br,49,3,[_,_,_]⟩,⟨I,35,12,[_,_,_,_,_,_,_,_,_,_,_,_]⟩,⟨E,35,12,[_,_,_,_,_,_,_,_,_,_,_,_]⟩] ?_;refine aI ot (fun cx=>?_) (fun cx=>?_)
 ·have bn:=cx
  (try simp only[V.ah,ne_eq] at bn)
  have uO:aE l p 1 ⟨#[83,69,76,69,67,84]⟩=true:=cx;rw[uO];simp only[if_true];have mL:R=sy l (p+1) os:=hR.trans (by unfold fR;rw[if_neg (F_ K),if_neg (F_ M),if_neg (F_ O),if_pos uO]);refine ag ?_;refine aa (aq 0) ?_;refine bq 1 [_,_,_,_,_,_,_,_,_,_,_,_] sizeOf3 ?_;refine aF [(0,_),(2,_),(3,_)] [⟨br,49,3,[_,_,_]⟩,⟨I,35,12,[_,_,_,_,_,_,_,_,_,_,_,_]⟩,⟨E,35,12,[_,_,_,_,_,_,_,_,_,_,_,_]⟩] ?_;refine aR ?_;refine ae ?_;refine OD.bB av rfl rfl rfl call25 (Bv hl hm hw hk ht (p+1) (cf uO) os _ mL ad n cap I) ⟨ot,ot,trivial⟩ (Perm.refl _) (fun J aK=>(Or.inr ⟨J,rfl,aK⟩:bD _ _ _ _ _ _)) ?_;rintro _ _ ⟨s,p9,o9,jN,n9,jx,kr,De,jg,rfl⟩;refine aS (S':=[⟨br,49,3,[ap 3 cT l,aj ((p9:Nat):Int),aB jN n9 jx]⟩,⟨I,35,12,[_,_,_,_,_,_,_,_,_,_,_,_]⟩,⟨E,35,12,[_,_,_,_,_,_,_,_,_,_,_,_]⟩]) (Perm.refl _) ?_;refine aF [(2,_),(3,_)] [⟨br,49,3,[_,_,_]⟩,⟨I,35,12,[_,_,_,_,_,_,_,_,_,_,_,_]⟩,⟨E,35,12,[_,_,_,_,_,_,_,_,_,_,_,_]⟩] ?_;refine aA ?_;refine aR ?_;refine aa (dF 1 [_,_,_,_,_,_,_,_,_,_,_,_]) ?_;refine bq 2 [_,_,_,_,_,_,_,_,_,_,_,_] sizeOf35 ?_;refine aF [(2,_)] [⟨br,49,3,[_,_,_]⟩,⟨I,35,12,[_,_,_,_,_,_,_,_,_,_,_,_]⟩,⟨E,35,12,[_,_,_,_,_,_,_,_,_,_,_,_]⟩] ?_;refine aD ?_;refine Or.inl ?_;refine⟨.inr rfl,_,[⟨br,49,3,[ap 3 cT l,aj ((p9:Nat):Int),aB jN n9 jx]⟩],gZ,c8 results11 (dG (k:=2) (ds:=[_,_,_,_,_,_,_,_,_,_,_,_]) aV lk rfl rfl isAgg35 sizeOf35 rfl rfl),?_⟩
  exact⟨s,p9,o9,_,_,_,kr,⟨rfl,De⟩,jg,rfl⟩
 have bn:=cx
 (try simp only[V.ah,ne_eq] at bn)
 have Y:aE l p 1 ⟨#[83,69,76,69,67,84]⟩=false:=cx;rw[Y];simp only[Bool.false_eq_true,if_false];refine ag ?_;refine ae ?_;refine cG av rfl rfl rfl call20 (dy l hl p 1 ⟨#[85,80,68,65,84,69]⟩ ad n cap br) ⟨ot,aJ,aJ,trivial⟩ (Perm.refl _) ?_;rintro _ _ ⟨rfl,rfl⟩;refine aS (S':=⟨br,49,3,[ap 3 cT l,aj (((if aE l p 1 ⟨#[85,80,68,65,84,69]⟩=true then p+1 else p):Nat):Int),aB ad n cap]⟩::[⟨I,35,12,[_,_,_,_,_,_,_,_,_,_,_,_]⟩,⟨E,35,12,[_,_,_,_,_,_,_,_,_,_,_,_]⟩]) (Perm.refl _) ?_;refine ae ?_;refine aF [(0,_),(2,_),(3,_),(52,_)] [⟨br,49,3,[_,_,_]⟩,⟨I,35,12,[_,_,_,_,_,_,_,_,_,_,_,_]⟩,⟨E,35,12,[_,_,_,_,_,_,_,_,_,_,_,_]⟩] ?_;refine aI ot (fun cm=>?_) (fun cm=>?_)
 ·have bJ:=cm
  (try simp only[V.ah,ne_eq] at bJ)
  have m9:aE l p 1 ⟨#[85,80,68,65,84,69]⟩=true:=cm;rw[m9];simp only[if_true];have mM:R=(cI l (p+1) os).bind (fun t p ops=>(dw l [⟨#[83,69,84]⟩] p ops).bind (fun _ p ops=>(cI l p ops).bind (fun c p ops=>(cE l ⟨#[61]⟩ p ops).bind (fun _ p ops=>(iH l p).bind (fun e p ops=>(eM l p ops).bind (fun w p ops=>.ok {bT with kind:=5,table:=t,set:=c,cN:=e,bw:=w} p ops)))))):=hR.trans (by unfold fR;rw[if_neg (F_ K),if_neg (F_ M),if_neg (F_ O),if_neg (F_ Y),if_pos m9]);refine ag ?_;refine ae ?_;refine OD.bB av rfl rfl rfl call22 (iB hm hw l hl ht (p+1) ad n cap br) ⟨ot,trivial⟩ (Perm.refl _) (fun J aK=>(Or.inr ⟨J,rfl,by obtain⟨q,e,h1,h2⟩:=aK;exact⟨q,e,mM.trans cF,h2⟩⟩:bD _ _ _ _ _ _)) ?_;rintro _ _ ⟨t,yd,rfl,rfl⟩;refine aS (S':=⟨br,49,3,[ap 3 cT l,aj ((((p+1)+1):Nat):Int),aB ad n cap]⟩::[⟨I,35,12,[_,_,_,_,_,_,_,_,_,_,_,_]⟩,⟨E,35,12,[_,_,_,_,_,_,_,_,_,_,_,_]⟩]) (Perm.refl _) ?_;have Cs:=(hJ (yd [])).2.2;have pY:R=(dw l [⟨#[83,69,84]⟩] ((p+1)+1) os).bind (fun _ p ops=>(cI l p ops).bind (fun c p ops=>(cE l ⟨#[61]⟩ p ops).bind (fun _ p ops=>(iH l p).bind (fun e p ops=>(eM l p ops).bind (fun w p ops=>.ok {bT with kind:=5,table:=t,set:=c,cN:=e,bw:=w} p ops))))):=mM.trans (by rw[yd];rfl);refine aa (aq 0) ?_;refine bq 1 [_,_,_,_,_,_,_,_,_,_,_,_] sizeOf3 ?_;refine aa (aq 1) ?_;refine bq 1 [_,_,_,_,_,_,_,_,_,_,_,_] sizeOf9 ?_
  refine aF [(0,_),(2,_),(3,_)] [⟨br,49,3,[_,_,_]⟩,⟨I,35,12,[_,_,_,_,_,_,_,_,_,_,_,_]⟩,⟨E,35,12,[_,_,_,_,_,_,_,_,_,_,_,_]⟩] ?_;refine ag ?_;refine ae ?_;refine dj (aP 0 [_]) [.string ⟨#[]⟩] [_] zeroValue9 runUnderlying32 sizeOf9 (fun Fh=>?_);refine eT 0 60 1 1 ?_;refine OD.bB av rfl rfl rfl call21 (jU l hl [⟨#[83,69,84]⟩] bR ((p+1)+1) ad n cap br) ⟨ot,by exact rfl,trivial⟩ (Perm.refl _) (fun J aK=>(Or.inr ⟨J,rfl,by obtain⟨q,e,h1,h2⟩:=aK;exact⟨q,e,pY.trans cF,h2⟩⟩:bD _ _ _ _ _ _)) ?_;rintro _ _ ⟨N,nW,rfl⟩;refine aS (S':=⟨br,49,3,[ap 3 cT l,aj ((N:Nat):Int),aB ad n cap]⟩::[⟨I,35,12,[_,_,_,_,_,_,_,_,_,_,_,_]⟩,⟨E,35,12,[_,_,_,_,_,_,_,_,_,_,_,_]⟩]) (Perm.refl _) ?_;have EV:=(iU (nW []) Cs).2.1;have jy:R=(cI l N os).bind (fun c p ops=>(cE l ⟨#[61]⟩ p ops).bind (fun _ p ops=>(iH l p).bind (fun e p ops=>(eM l p ops).bind (fun w p ops=>.ok {bT with kind:=5,table:=t,set:=c,cN:=e,bw:=w} p ops)))):=pY.trans (by rw[nW];rfl);refine aF [(0,_),(2,_),(3,_)] [⟨br,49,3,[_,_,_]⟩,⟨I,35,12,[_,_,_,_,_,_,_,_,_,_,_,_]⟩,⟨E,35,12,[_,_,_,_,_,_,_,_,_,_,_,_]⟩] ?_;refine ag ?_;refine ae ?_;refine OD.bB av rfl rfl rfl call22 (iB hm hw l hl ht N ad n cap br) ⟨ot,trivial⟩ (Perm.refl _) (fun J aK=>(Or.inr ⟨J,rfl,by obtain⟨q,e,h1,h2⟩:=aK;exact⟨q,e,jy.trans cF,h2⟩⟩:bD _ _ _ _ _ _)) ?_;rintro _ _ ⟨c,pZ,rfl,rfl⟩
  refine aS (S':=⟨br,49,3,[ap 3 cT l,aj (((N+1):Nat):Int),aB ad n cap]⟩::[⟨I,35,12,[_,_,_,_,_,_,_,_,_,_,_,_]⟩,⟨E,35,12,[_,_,_,_,_,_,_,_,_,_,_,_]⟩]) (Perm.refl _) ?_;have EQ:=(hJ (pZ [])).2.2;have lX:R=(cE l ⟨#[61]⟩ (N+1) os).bind (fun _ p ops=>(iH l p).bind (fun e p ops=>(eM l p ops).bind (fun w p ops=>.ok {bT with kind:=5,table:=t,set:=c,cN:=e,bw:=w} p ops))):=jy.trans (by rw[pZ];rfl);refine aa (aq 10) ?_;refine bq 1 [_,_,_,_,_,_,_,_,_,_,_,_] sizeOf9 ?_;refine aF [(0,_),(2,_),(3,_)] [⟨br,49,3,[_,_,_]⟩,⟨I,35,12,[_,_,_,_,_,_,_,_,_,_,_,_]⟩,⟨E,35,12,[_,_,_,_,_,_,_,_,_,_,_,_]⟩] ?_;refine ag ?_;refine ae ?_;refine OD.bB av rfl rfl rfl call26 (jT l hl (N+1) ⟨#[61]⟩ ad n cap br) ⟨ot,aJ,trivial⟩ (Perm.refl _) (fun J aK=>(Or.inr ⟨J,rfl,⟨_,_,lX.trans k4,aK.2⟩⟩:bD _ _ _ _ _ _)) ?_;rintro _ _ ⟨s0,rfl⟩;refine aS (S':=⟨br,49,3,[ap 3 cT l,aj ((((N+1)+1):Nat):Int),aB ad n cap]⟩::[⟨I,35,12,[_,_,_,_,_,_,_,_,_,_,_,_]⟩,⟨E,35,12,[_,_,_,_,_,_,_,_,_,_,_,_]⟩]) (Perm.refl _) ?_;have lY:R=(iH l ((N+1)+1)).bind (fun e p ops=>(eM l p ops).bind (fun w p ops=>.ok {bT with kind:=5,table:=t,set:=c,cN:=e,bw:=w} p ops)):=lX.trans (by rw[jS s0];rfl);refine aF [(0,_),(2,_),(3,_)] [⟨br,49,3,[_,_,_]⟩,⟨I,35,12,[_,_,_,_,_,_,_,_,_,_,_,_]⟩,⟨E,35,12,[_,_,_,_,_,_,_,_,_,_,_,_]⟩] ?_;refine ag ?_;refine ae ?_;have Df:=wV (cf s0)
  refine OD.bB av rfl rfl rfl call27 (wT hl hm hw hk ht ((N+1)+1) (cf s0) _ rfl Df ad n cap) ⟨ot,trivial⟩ (Perm.refl _) (fun J aK=>(Or.inr ⟨J,rfl,by obtain⟨q,e,h1,h2⟩:=aK;exact⟨q,e,lY.trans cF,h2⟩⟩:bD _ _ _ _ _ _)) ?_;rintro _ _ ⟨e,qL,lm,mN,yU,mF,sV,⟨rfl,Dg⟩,Dh,rfl⟩;refine aS (S':=⟨br,49,3,[ap 3 cT l,aj ((qL:Nat):Int),aB mN yU mF]⟩::[⟨I,35,12,[_,_,_,_,_,_,_,_,_,_,_,_]⟩,⟨E,35,12,[_,_,_,_,_,_,_,_,_,_,_,_]⟩]) (Perm.refl _) ?_;have mO:R=(eM l qL lm).bind (fun w p ops=>.ok {bT with kind:=5,table:=t,set:=c,cN:=e,bw:=w} p ops):=lY.trans (by rw[sV];rfl);refine aa (aq 11) ?_;refine bq 1 [_,_,_,_,_,_,_,_,_,_,_,_] sizeOf33 ?_;refine aF [(0,_),(2,_),(3,_)] [⟨br,49,3,[_,_,_]⟩,⟨I,35,12,[_,_,_,_,_,_,_,_,_,_,_,_]⟩,⟨E,35,12,[_,_,_,_,_,_,_,_,_,_,_,_]⟩] ?_;refine aR ?_;refine ae ?_;have nR:=(rW:eM l qL lm≠.stuck)
  refine OD.bB av rfl rfl rfl call28 (rV hl hm hw hk ht qL Dh lm _ rfl nR mN yU mF) ⟨ot,trivial⟩ (Perm.refl _) (fun J aK=>(Or.inr ⟨J,rfl,by obtain⟨q,e,h1,h2⟩:=aK;exact⟨q,e,mO.trans cF,h2⟩⟩:bD _ _ _ _ _ _)) ?_;rintro _ _ ⟨w,oE,yV,s4,uP,Z,Di,⟨rfl,Dj⟩,Dk,rfl⟩;refine aS (S':=⟨br,49,3,[ap 3 cT l,aj ((oE:Nat):Int),aB s4 uP Z]⟩::[⟨I,35,12,[_,_,_,_,_,_,_,_,_,_,_,_]⟩,⟨E,35,12,[_,_,_,_,_,_,_,_,_,_,_,_]⟩]) (Perm.refl _) ?_;have nU:R = .ok {bT with kind:=5,table:=t,set:=c,cN:=e,bw:=w} oE yV:=mO.trans (by rw[Di];rfl);refine aa (aq 6) ?_;refine bq 1 [_,_,_,_,_,_,_,_,_,_,_,_] sizeOf33 ?_;refine aF [(2,_),(3,_)] [⟨br,49,3,[_,_,_]⟩,⟨I,35,12,[_,_,_,_,_,_,_,_,_,_,_,_]⟩,⟨E,35,12,[_,_,_,_,_,_,_,_,_,_,_,_]⟩] ?_;refine aA ?_;refine iA (k:=1) (cs':=[_,_,_,_,.list 1 [] 0,_,_,_,_,_,_,_]) (S':=[⟨br,49,3,[ap 3 cT l,aj ((oE:Nat):Int),aB s4 uP Z]⟩,_,_]) rfl w6 rfl ?_;refine aR ?_;refine aa (dF 1 [_,_,_,_,_,_,_,_,_,_,_,_]) ?_;refine bq 2 [_,_,_,_,_,_,_,_,_,_,_,_] sizeOf35 ?_;refine aF [(2,_)] [⟨br,49,3,[_,_,_]⟩,⟨I,35,12,[_,_,_,_,_,_,_,_,_,_,_,_]⟩,⟨E,35,12,[_,_,_,_,_,_,_,_,_,_,_,_]⟩] ?_;refine aD ?_;refine Or.inl ?_;refine⟨.inr rfl,_,[⟨br,49,3,[ap 3 cT l,aj ((oE:Nat):Int),aB s4 uP Z]⟩],gZ,c8 results11 (dG (k:=2) (ds:=[_,_,_,_,_,_,_,_,_,_,_,_]) aV lk rfl rfl isAgg35 sizeOf35 rfl rfl),?_⟩
  exact⟨{bT with kind:=5,table:=t,set:=c,cN:=e,bw:=w},oE,yV,_,_,_,nU,⟨rfl,⟨Nat.zero_le _,Nat.zero_le _,Nat.zero_le _,Dj,Dg⟩⟩,Dk,rfl⟩
 have bJ:=cm
 (try simp only[V.ah,ne_eq] at bJ)
 have kv:aE l p 1 ⟨#[85,80,68,65,84,69]⟩=false:=cm;rw[kv];simp only[Bool.false_eq_true,if_false];refine ag ?_;refine ae ?_;refine cG av rfl rfl rfl call20 (dy l hl p 1 ⟨#[68,69,76,69,84,69]⟩ ad n cap br) ⟨ot,aJ,aJ,trivial⟩ (Perm.refl _) ?_;rintro _ _ ⟨rfl,rfl⟩;refine aS (S':=⟨br,49,3,[ap 3 cT l,aj (((if aE l p 1 ⟨#[68,69,76,69,84,69]⟩=true then p+1 else p):Nat):Int),aB ad n cap]⟩::[⟨I,35,12,[_,_,_,_,_,_,_,_,_,_,_,_]⟩,⟨E,35,12,[_,_,_,_,_,_,_,_,_,_,_,_]⟩]) (Perm.refl _) ?_;refine ae ?_;refine aF [(0,_),(2,_),(3,_),(73,_)] [⟨br,49,3,[_,_,_]⟩,⟨I,35,12,[_,_,_,_,_,_,_,_,_,_,_,_]⟩,⟨E,35,12,[_,_,_,_,_,_,_,_,_,_,_,_]⟩] ?_;refine aI ot (fun c7=>?_) (fun c7=>?_)
 ·have bA:=c7
  (try simp only[V.ah,ne_eq] at bA)
  have kw:aE l p 1 ⟨#[68,69,76,69,84,69]⟩=true:=c7;rw[kw];simp only[if_true];have lZ:R=(dw l [⟨#[70,82,79,77]⟩] (p+1) os).bind (fun _ p ops=>(cI l p ops).bind (fun t p ops=>(eM l p ops).bind (fun w p ops=>.ok {bT with kind:=6,table:=t,bw:=w} p ops))):=hR.trans (by unfold fR;rw[if_neg (F_ K),if_neg (F_ M),if_neg (F_ O),if_neg (F_ Y),if_neg (F_ kv),if_pos kw]);refine ag ?_;refine ae ?_;refine dj (aP 0 [_]) [.string ⟨#[]⟩] [_] zeroValue9 runUnderlying32 sizeOf9 (fun jP=>?_);refine eT 0 77 1 1 ?_;refine OD.bB av rfl rfl rfl call21 (jU l hl [⟨#[70,82,79,77]⟩] bR (p+1) ad n cap br) ⟨ot,by exact rfl,trivial⟩ (Perm.refl _) (fun J aK=>(Or.inr ⟨J,rfl,by obtain⟨q,e,h1,h2⟩:=aK;exact⟨q,e,lZ.trans cF,h2⟩⟩:bD _ _ _ _ _ _)) ?_;rintro _ _ ⟨gK,nX,rfl⟩;refine aS (S':=⟨br,49,3,[ap 3 cT l,aj ((gK:Nat):Int),aB ad n cap]⟩::[⟨I,35,12,[_,_,_,_,_,_,_,_,_,_,_,_]⟩,⟨E,35,12,[_,_,_,_,_,_,_,_,_,_,_,_]⟩]) (Perm.refl _) ?_;have C2:=(iU (nX []) (cf kw)).2.1;have nY:R=(cI l gK os).bind (fun t p ops=>(eM l p ops).bind (fun w p ops=>.ok {bT with kind:=6,table:=t,bw:=w} p ops)):=lZ.trans (by rw[nX];rfl);refine aF [(0,_),(2,_),(3,_)] [⟨br,49,3,[_,_,_]⟩,⟨I,35,12,[_,_,_,_,_,_,_,_,_,_,_,_]⟩,⟨E,35,12,[_,_,_,_,_,_,_,_,_,_,_,_]⟩] ?_;refine ag ?_;refine ae ?_
  refine OD.bB av rfl rfl rfl call22 (iB hm hw l hl ht gK ad n cap br) ⟨ot,trivial⟩ (Perm.refl _) (fun J aK=>(Or.inr ⟨J,rfl,by obtain⟨q,e,h1,h2⟩:=aK;exact⟨q,e,nY.trans cF,h2⟩⟩:bD _ _ _ _ _ _)) ?_;rintro _ _ ⟨t,nZ,rfl,rfl⟩;refine aS (S':=⟨br,49,3,[ap 3 cT l,aj (((gK+1):Nat):Int),aB ad n cap]⟩::[⟨I,35,12,[_,_,_,_,_,_,_,_,_,_,_,_]⟩,⟨E,35,12,[_,_,_,_,_,_,_,_,_,_,_,_]⟩]) (Perm.refl _) ?_;have sD:=(hJ (nZ [])).2.2;have n5:R=(eM l (gK+1) os).bind (fun w p ops=>.ok {bT with kind:=6,table:=t,bw:=w} p ops):=nY.trans (by rw[nZ];rfl);refine aa (aq 0) ?_;refine bq 1 [_,_,_,_,_,_,_,_,_,_,_,_] sizeOf3 ?_;refine aa (aq 1) ?_;refine bq 1 [_,_,_,_,_,_,_,_,_,_,_,_] sizeOf9 ?_;refine aF [(0,_),(2,_),(3,_)] [⟨br,49,3,[_,_,_]⟩,⟨I,35,12,[_,_,_,_,_,_,_,_,_,_,_,_]⟩,⟨E,35,12,[_,_,_,_,_,_,_,_,_,_,_,_]⟩] ?_;refine aR ?_;refine ae ?_;have sW:=(rW:eM l (gK+1) os≠.stuck)
  refine OD.bB av rfl rfl rfl call28 (rV hl hm hw hk ht (gK+1) sD os _ rfl sW ad n cap) ⟨ot,trivial⟩ (Perm.refl _) (fun J aK=>(Or.inr ⟨J,rfl,by obtain⟨q,e,h1,h2⟩:=aK;exact⟨q,e,n5.trans cF,h2⟩⟩:bD _ _ _ _ _ _)) ?_;rintro _ _ ⟨w,fN,jO,s5,gL,sF,sX,⟨rfl,qa⟩,sY,rfl⟩;refine aS (S':=⟨br,49,3,[ap 3 cT l,aj ((fN:Nat):Int),aB s5 gL sF]⟩::[⟨I,35,12,[_,_,_,_,_,_,_,_,_,_,_,_]⟩,⟨E,35,12,[_,_,_,_,_,_,_,_,_,_,_,_]⟩]) (Perm.refl _) ?_;have qb:R = .ok {bT with kind:=6,table:=t,bw:=w} fN jO:=n5.trans (by rw[sX];rfl);refine aa (aq 6) ?_;refine bq 1 [_,_,_,_,_,_,_,_,_,_,_,_] sizeOf33 ?_;refine aF [(2,_),(3,_)] [⟨br,49,3,[_,_,_]⟩,⟨I,35,12,[_,_,_,_,_,_,_,_,_,_,_,_]⟩,⟨E,35,12,[_,_,_,_,_,_,_,_,_,_,_,_]⟩] ?_;refine aA ?_;refine iA (k:=1) (cs':=[_,_,_,_,.list 1 [] 0,_,_,_,_,_,_,_]) (S':=[⟨br,49,3,[ap 3 cT l,aj ((fN:Nat):Int),aB s5 gL sF]⟩,_,_]) rfl w6 rfl ?_;refine aR ?_;refine aa (dF 1 [_,_,_,_,_,_,_,_,_,_,_,_]) ?_;refine bq 2 [_,_,_,_,_,_,_,_,_,_,_,_] sizeOf35 ?_;refine aF [(2,_)] [⟨br,49,3,[_,_,_]⟩,⟨I,35,12,[_,_,_,_,_,_,_,_,_,_,_,_]⟩,⟨E,35,12,[_,_,_,_,_,_,_,_,_,_,_,_]⟩] ?_;refine aD ?_;refine Or.inl ?_;refine⟨.inr rfl,_,[⟨br,49,3,[ap 3 cT l,aj ((fN:Nat):Int),aB s5 gL sF]⟩],gZ,c8 results11 (dG (k:=2) (ds:=[_,_,_,_,_,_,_,_,_,_,_,_]) aV lk rfl rfl isAgg35 sizeOf35 rfl rfl),?_⟩
  exact⟨{bT with kind:=6,table:=t,bw:=w},fN,jO,_,_,_,qb,⟨rfl,⟨Nat.zero_le _,Nat.zero_le _,Nat.zero_le _,qa,Nat.zero_le _⟩⟩,sY,rfl⟩
 have bA:=c7
 (try simp only[V.ah,ne_eq] at bA)
 have lq:aE l p 1 ⟨#[68,69,76,69,84,69]⟩=false:=c7;rw[lq];simp only[Bool.false_eq_true,if_false];refine ag ?_;refine ae ?_;refine cG av rfl rfl rfl call20 (dy l hl p 1 ⟨#[66,69,71,73,78]⟩ ad n cap br) ⟨ot,aJ,aJ,trivial⟩ (Perm.refl _) ?_;rintro _ _ ⟨rfl,rfl⟩;refine aS (S':=⟨br,49,3,[ap 3 cT l,aj (((if aE l p 1 ⟨#[66,69,71,73,78]⟩=true then p+1 else p):Nat):Int),aB ad n cap]⟩::[⟨I,35,12,[_,_,_,_,_,_,_,_,_,_,_,_]⟩,⟨E,35,12,[_,_,_,_,_,_,_,_,_,_,_,_]⟩]) (Perm.refl _) ?_;refine ae ?_;refine aF [(0,_),(2,_),(3,_),(86,_)] [⟨br,49,3,[_,_,_]⟩,⟨I,35,12,[_,_,_,_,_,_,_,_,_,_,_,_]⟩,⟨E,35,12,[_,_,_,_,_,_,_,_,_,_,_,_]⟩] ?_;refine aI ot (fun dk=>?_) (fun dk=>?_)
 ·have fu:=dk
  (try simp only[V.ah,ne_eq] at fu)
  have uQ:aE l p 1 ⟨#[66,69,71,73,78]⟩=true:=dk;rw[uQ];simp only[if_true];have qc:R = .ok {bT with kind:=7} (p+1) os:=hR.trans (by unfold fR;rw[if_neg (F_ K),if_neg (F_ M),if_neg (F_ O),if_neg (F_ Y),if_neg (F_ kv),if_neg (F_ lq),if_pos uQ]);refine aR ?_;refine aa (aq 0) ?_;refine bq 1 [_,_,_,_,_,_,_,_,_,_,_,_] sizeOf3 ?_;refine aF [(2,_),(3,_)] [⟨br,49,3,[_,_,_]⟩,⟨I,35,12,[_,_,_,_,_,_,_,_,_,_,_,_]⟩,⟨E,35,12,[_,_,_,_,_,_,_,_,_,_,_,_]⟩] ?_;refine aA ?_;refine iA (k:=1) (cs':=[_,_,_,_,.list 1 [] 0,_,_,_,_,_,_,_]) (S':=[⟨br,49,3,[ap 3 cT l,aj (((p+1):Nat):Int),aB ad n cap]⟩,_,_]) rfl w6 rfl ?_;refine aR ?_;refine aa (dF 1 [_,_,_,_,_,_,_,_,_,_,_,_]) ?_;refine bq 2 [_,_,_,_,_,_,_,_,_,_,_,_] sizeOf35 ?_;refine aF [(2,_)] [⟨br,49,3,[_,_,_]⟩,⟨I,35,12,[_,_,_,_,_,_,_,_,_,_,_,_]⟩,⟨E,35,12,[_,_,_,_,_,_,_,_,_,_,_,_]⟩] ?_;refine aD ?_;refine Or.inl ?_;refine⟨.inr rfl,_,[⟨br,49,3,[ap 3 cT l,aj (((p+1):Nat):Int),aB ad n cap]⟩],gZ,c8 results11 (dG (k:=2) (ds:=[_,_,_,_,_,_,_,_,_,_,_,_]) aV lk rfl rfl isAgg35 sizeOf35 rfl rfl),?_⟩;exact⟨{bT with kind:=7},(p+1),os,_,_,_,qc,⟨rfl,⟨Nat.zero_le _,Nat.zero_le _,Nat.zero_le _,Nat.zero_le _,Nat.zero_le _⟩⟩,(cf uQ),rfl⟩
 have fu:=dk
 (try simp only[V.ah,ne_eq] at fu)
 have qM:aE l p 1 ⟨#[66,69,71,73,78]⟩=false:=dk;rw[qM];simp only[Bool.false_eq_true,if_false];refine ag ?_;refine ae ?_;refine cG av rfl rfl rfl call20 (dy l hl p 1 ⟨#[67,79,77,77,73,84]⟩ ad n cap br) ⟨ot,aJ,aJ,trivial⟩ (Perm.refl _) ?_;rintro _ _ ⟨rfl,rfl⟩;refine aS (S':=⟨br,49,3,[ap 3 cT l,aj (((if aE l p 1 ⟨#[67,79,77,77,73,84]⟩=true then p+1 else p):Nat):Int),aB ad n cap]⟩::[⟨I,35,12,[_,_,_,_,_,_,_,_,_,_,_,_]⟩,⟨E,35,12,[_,_,_,_,_,_,_,_,_,_,_,_]⟩]) (Perm.refl _) ?_;refine ae ?_;refine aF [(0,_),(2,_),(3,_),(90,_)] [⟨br,49,3,[_,_,_]⟩,⟨I,35,12,[_,_,_,_,_,_,_,_,_,_,_,_]⟩,⟨E,35,12,[_,_,_,_,_,_,_,_,_,_,_,_]⟩] ?_;refine aI ot (fun fy=>?_) (fun fy=>?_)
 ·have lU:=fy
  (try simp only[V.ah,ne_eq] at lU)
  have uR:aE l p 1 ⟨#[67,79,77,77,73,84]⟩=true:=fy;rw[uR];simp only[if_true];have qd:R = .ok {bT with kind:=8} (p+1) os:=hR.trans (by unfold fR;rw[if_neg (F_ K),if_neg (F_ M),if_neg (F_ O),if_neg (F_ Y),if_neg (F_ kv),if_neg (F_ lq),if_neg (F_ qM),if_pos uR]);refine aR ?_;refine aa (aq 0) ?_;refine bq 1 [_,_,_,_,_,_,_,_,_,_,_,_] sizeOf3 ?_;refine aF [(2,_),(3,_)] [⟨br,49,3,[_,_,_]⟩,⟨I,35,12,[_,_,_,_,_,_,_,_,_,_,_,_]⟩,⟨E,35,12,[_,_,_,_,_,_,_,_,_,_,_,_]⟩] ?_;refine aA ?_;refine iA (k:=1) (cs':=[_,_,_,_,.list 1 [] 0,_,_,_,_,_,_,_]) (S':=[⟨br,49,3,[ap 3 cT l,aj (((p+1):Nat):Int),aB ad n cap]⟩,_,_]) rfl w6 rfl ?_;refine aR ?_;refine aa (dF 1 [_,_,_,_,_,_,_,_,_,_,_,_]) ?_;refine bq 2 [_,_,_,_,_,_,_,_,_,_,_,_] sizeOf35 ?_;refine aF [(2,_)] [⟨br,49,3,[_,_,_]⟩,⟨I,35,12,[_,_,_,_,_,_,_,_,_,_,_,_]⟩,⟨E,35,12,[_,_,_,_,_,_,_,_,_,_,_,_]⟩] ?_;refine aD ?_;refine Or.inl ?_;refine⟨.inr rfl,_,[⟨br,49,3,[ap 3 cT l,aj (((p+1):Nat):Int),aB ad n cap]⟩],gZ,c8 results11 (dG (k:=2) (ds:=[_,_,_,_,_,_,_,_,_,_,_,_]) aV lk rfl rfl isAgg35 sizeOf35 rfl rfl),?_⟩;exact⟨{bT with kind:=8},(p+1),os,_,_,_,qd,⟨rfl,⟨Nat.zero_le _,Nat.zero_le _,Nat.zero_le _,Nat.zero_le _,Nat.zero_le _⟩⟩,(cf uR),rfl⟩
 have lU:=fy
 (try simp only[V.ah,ne_eq] at lU)
 have uS:aE l p 1 ⟨#[67,79,77,77,73,84]⟩=false:=fy;rw[uS];simp only[Bool.false_eq_true,if_false];refine ag ?_;refine ae ?_;refine cG av rfl rfl rfl call20 (dy l hl p 1 ⟨#[82,79,76,76,66,65,67,75]⟩ ad n cap br) ⟨ot,aJ,aJ,trivial⟩ (Perm.refl _) ?_;rintro _ _ ⟨rfl,rfl⟩;refine aS (S':=⟨br,49,3,[ap 3 cT l,aj (((if aE l p 1 ⟨#[82,79,76,76,66,65,67,75]⟩=true then p+1 else p):Nat):Int),aB ad n cap]⟩::[⟨I,35,12,[_,_,_,_,_,_,_,_,_,_,_,_]⟩,⟨E,35,12,[_,_,_,_,_,_,_,_,_,_,_,_]⟩]) (Perm.refl _) ?_;refine ae ?_;refine aF [(0,_),(2,_),(3,_),(94,_)] [⟨br,49,3,[_,_,_]⟩,⟨I,35,12,[_,_,_,_,_,_,_,_,_,_,_,_]⟩,⟨E,35,12,[_,_,_,_,_,_,_,_,_,_,_,_]⟩] ?_;refine aI ot (fun fK=>?_) (fun fK=>?_)
 ·have iW:=fK
  (try simp only[V.ah,ne_eq] at iW)
  have uT:aE l p 1 ⟨#[82,79,76,76,66,65,67,75]⟩=true:=fK;rw[uT];simp only[if_true];have sZ:R = .ok {bT with kind:=9} (p+1) os:=hR.trans (by unfold fR;rw[if_neg (F_ K),if_neg (F_ M),if_neg (F_ O),if_neg (F_ Y),if_neg (F_ kv),if_neg (F_ lq),if_neg (F_ qM),if_neg (F_ uS),if_pos uT]);refine aR ?_;refine aa (aq 0) ?_;refine bq 1 [_,_,_,_,_,_,_,_,_,_,_,_] sizeOf3 ?_;refine aF [(2,_),(3,_)] [⟨br,49,3,[_,_,_]⟩,⟨I,35,12,[_,_,_,_,_,_,_,_,_,_,_,_]⟩,⟨E,35,12,[_,_,_,_,_,_,_,_,_,_,_,_]⟩] ?_;refine aA ?_;refine iA (k:=1) (cs':=[_,_,_,_,.list 1 [] 0,_,_,_,_,_,_,_]) (S':=[⟨br,49,3,[ap 3 cT l,aj (((p+1):Nat):Int),aB ad n cap]⟩,_,_]) rfl w6 rfl ?_;refine aR ?_;refine aa (dF 1 [_,_,_,_,_,_,_,_,_,_,_,_]) ?_;refine bq 2 [_,_,_,_,_,_,_,_,_,_,_,_] sizeOf35 ?_;refine aF [(2,_)] [⟨br,49,3,[_,_,_]⟩,⟨I,35,12,[_,_,_,_,_,_,_,_,_,_,_,_]⟩,⟨E,35,12,[_,_,_,_,_,_,_,_,_,_,_,_]⟩] ?_;refine aD ?_;refine Or.inl ?_;refine⟨.inr rfl,_,[⟨br,49,3,[ap 3 cT l,aj (((p+1):Nat):Int),aB ad n cap]⟩],gZ,c8 results11 (dG (k:=2) (ds:=[_,_,_,_,_,_,_,_,_,_,_,_]) aV lk rfl rfl isAgg35 sizeOf35 rfl rfl),?_⟩;exact⟨{bT with kind:=9},(p+1),os,_,_,_,sZ,⟨rfl,⟨Nat.zero_le _,Nat.zero_le _,Nat.zero_le _,Nat.zero_le _,Nat.zero_le _⟩⟩,(cf uT),rfl⟩
 have iW:=fK
 (try simp only[V.ah,ne_eq] at iW)
 have yW:aE l p 1 ⟨#[82,79,76,76,66,65,67,75]⟩=false:=fK;rw[yW];simp only[Bool.false_eq_true,if_false];have Dl:R=gv l p 6:=hR.trans (by unfold fR;rw[if_neg (F_ K),if_neg (F_ M),if_neg (F_ O),if_neg (F_ Y),if_neg (F_ kv),if_neg (F_ lq),if_neg (F_ qM),if_neg (F_ uS),if_neg (F_ yW)]);refine aR ?_;refine ae ?_;exact OD.bB av rfl rfl rfl call12 (eV l hl p 6 ad n cap br) ⟨ot,aJ,trivial⟩ (Perm.refl _) (fun J aK=>(Or.inr ⟨J,rfl,⟨_,_,Dl,aK⟩⟩:bD _ _ _ _ _ _)) (fun r S' h=>h.elim)
theorem B9(h:i<l.length)(E:dR l 0=dR (l.drop i) i)(hc:cP l[i]≠0):dR l 0=some (i,cP l[i]):=by
 rw[E,drop_eq_getElem_cons h,dR,if_neg hc]
theorem Ca(h:i<l.length)(E:dR l 0=dR (l.drop i) i)(hc:cP l[i]=0):dR l 0=dR (l.drop (i+1)) (i+1):=by
 rw[E,drop_eq_getElem_cons h,dR,if_pos hc]
theorem wm:∀{l:List Tk} {i:Nat},dR l i=none->∀t∈l,cP t=0
 | [],_,_,t,h=>by cases h
 | a::r,i,h,t,ht=>by
  unfold dR at h;split at h
  ·rename_i hc;rcases mem_cons.1 ht with rfl|ht
   ·exact hc
   exact wm h t ht
  cases h
theorem Bw{t:Tk}(h:cP t=0)(hk:t.k=2):0<=t.n:=by
 unfold cP at h;rw[if_neg w8,if_pos hk] at h;split at h
 ·cases h
 omega
theorem As(h:l.length>100):fk l=(iO,0,10):=by unfold fk;rw[if_pos h]
theorem At{e:Int}(h:l.length<=100)(hb:dR l 0=some (i,e)):fk l=(iO,i,e):=by unfold fk;rw[if_neg w8,hb]
theorem AT{e:Int}(h:l.length<=100)(hb:dR l 0=none)(hs:fR l 0 [] = .no p e):fk l=(iO,p,e):=by unfold fk;rw[if_neg w8,hb,hs];rfl
theorem rX{s:cc}(h:l.length<=100)(hb:dR l 0=none)(hs:fR l 0 [] = .ok s p os)(hp:¬p<l.length):fk l=(s,0,0):=by
 unfold fk;rw[if_neg w8,hb,hs];simp only[Rs.bind,if_neg hp]
theorem Ah{s:cc}(h:l.length<=100)(hb:dR l 0=none)(hs:fR l 0 [] = .ok s p os)(hp:p<l.length):fk l=(iO,p,if l.length<=p then 7 else 6):=by
 unfold fk;rw[if_neg w8,hb,hs];simp only[Rs.bind,if_pos hp,gv]
def lu(r:cc×Nat×Int):D:=.dU [.agg (dW r.1),aj ((r.2.1:Nat):Int),aj r.2.2]
theorem zV(E:Frame)(cs:List Frame)(h:E.mode = .returning):(recoverD (E::cs)=some (.nilIface,{E with mode:=.returning}::cs))\/(recoverD (E::cs)=none/\Value.nilIface = .nilIface/\FrameMode.returning = .returning):=.inr ⟨by simp[recoverD,h],rfl,rfl⟩
theorem zW(v:Value)(E:Frame)(cs:List Frame)(h:E.mode = .panicking [{v:=v,recovered:=false}]):(recoverD (E::cs)=some (v,{E with mode:=.panicking [{v:=v,recovered:=true}]}::cs))\/(recoverD (E::cs)=none/\v = .nilIface/\FrameMode.panicking [{v:=v,recovered:=true}] = .panicking [{v:=v,recovered:=false}]):=.inl (by simp[recoverD,h])
theorem Cb(E I J:Nat)(S:List ay):mg Tryd.prog G 10 [bE E,bE I,bE J] S .returning .returning (fun S'=>S'=S):=by
 refine mg.recover (v:=.nilIface) func10 rfl ntmps10 results10 aV rfl rfl rfl rfl rfl rfl bR (fun K cs h=>zV K cs h) fun M w0=>?_;refine ag ?_;refine ae ?_;refine aa (z5 rfl ot underlying20) ?_;refine aY (Wk.aO (n:=15) (l':=[(0,_),(1,_),(2,_),(3,_),(7,_)]) (S':=S) rfl rfl bi) ?_;refine bg ?_;refine aI ot (fun ax=>?_) (fun ax=>?_)
 ·exact absurd ax bR
 refine aN ?_;exact⟨rfl,rfl⟩
theorem q7 : ∀ w, ((#[{ name := "Kind", type := 3, offset := 0, embedded := false, tag := "", pkgPath := "", byteOffset := 0 }, { name := "Table", type := 9, offset := 1, embedded := false, tag := "", pkgPath := "", byteOffset := 8 }, { name := "Cols", type := 30, offset := 2, embedded := false, tag := "", pkgPath := "", byteOffset := 24 }, { name := "Row", type := 31, offset := 3, embedded := false, tag := "", pkgPath := "", byteOffset := 48 }, { name := "Names", type := 32, offset := 4, embedded := false, tag := "", pkgPath := "", byteOffset := 72 }, { name := "Count", type := 4, offset := 5, embedded := false, tag := "", pkgPath := "", byteOffset := 96 }, { name := "Where", type := 33, offset := 6, embedded := false, tag := "", pkgPath := "", byteOffset := 104 }, { name := "Order", type := 9, offset := 7, embedded := false, tag := "", pkgPath := "", byteOffset := 128 }, { name := "Down", type := 4, offset := 8, embedded := false, tag := "", pkgPath := "", byteOffset := 144 }, { name := "Limit", type := 3, offset := 9, embedded := false, tag := "", pkgPath := "", byteOffset := 152 }, { name := "Set", type := 9, offset := 10, embedded := false, tag := "", pkgPath := "", byteOffset := 160 }, { name := "To", type := 33, offset := 11, embedded := false, tag := "", pkgPath := "", byteOffset := 176 }] : Array Field).mapM fun f => do pure (f.offset, ← sizeOf f.type) : Sem (Array (Nat × Nat))).run Tryd.prog w = .ok #[(0, 1), (1, 1), (2, 1), (3, 1), (4, 1), (5, 1), (6, 1), (7, 1), (8, 1), (9, 1), (10, 1), (11, 1)] w := fun w => by simp [sizeOf3, sizeOf30, sizeOf31, sizeOf32, sizeOf33, sizeOf4, sizeOf9]
theorem Bx(k2 k3 E p:Nat)(e:Int)(J K:D)(cs:List D)(cB:cs.length=12):mg Tryd.prog G 10 [bE k2,bE k3,bE E] [⟨E,36,1,[J]⟩,⟨k3,3,1,[K]⟩,⟨k2,35,12,cs⟩] (.panicking (jH p e)) (.panicking [{v:=.iface 46 (.agg #[.int .i64 (p:Nat),.int .i64 e]),recovered:=true}]) (fun S'=>∃B,S'=[B,⟨E,36,1,[aj e]⟩,⟨k3,3,1,[aj ((p:Nat):Int)]⟩,⟨k2,35,12,[aj 0,cQ,cX,cX,cX,bI false,cX,cQ,bI false,aj 0,cQ,cX]⟩]):=by
 rcases cs with _|⟨Y,_|⟨Z,_|⟨x2,_|⟨x3,_|⟨x4,_|⟨x5,_|⟨x6,_|⟨x7,_|⟨x8,_|⟨x9,_|⟨M,_|⟨N,_|⟨O,cs⟩⟩⟩⟩⟩⟩⟩⟩⟩⟩⟩⟩⟩<;>first|(simp at cB;done)|skip
 refine mg.recover (v:=.iface 46 (.agg #[.int .i64 (p:Nat),.int .i64 e])) func10 rfl ntmps10 results10 aV rfl rfl rfl rfl rfl rfl bR (fun U cs h=>zW _ U cs h) fun X0 w0=>?_;refine ag ?_;refine ae ?_;refine aa (zO rfl ot underlying20) ?_;refine aF [(0,_),(1,_),(2,_),(3,_),(7,_)] [⟨E,36,1,[_]⟩,⟨k3,3,1,[_]⟩,⟨k2,35,12,[_,_,_,_,_,_,_,_,_,_,_,_]⟩] ?_;refine aI ot (fun ax=>?_) (fun ax=>?_)
 ·refine ag ?_;refine ae ?_;refine aa (zx (vs:=[.int .i64 ((p:Nat):Int),.int .i64 e]) rfl ot underlying46) ?_;refine ep (ds:=[_,_]) av rfl rfl zeroValue46 rfl (fun I=>?_);refine bq 0 [_,_] sizeOf46 ?_;refine aF [(0,_),(1,_),(2,_),(4,_)] [⟨I,46,2,[_,_]⟩,⟨E,36,1,[_]⟩,⟨k3,3,1,[_]⟩,⟨k2,35,12,[_,_,_,_,_,_,_,_,_,_,_,_]⟩] ?_;refine dB (au (take 1 _)) af (fun _ h=>(Sublist.map _ (take_sublist _ _)).subset h) ?_;refine ai 0 rfl (ct (pl:=[]) (ds:=[_,_,_,_,_,_,_,_,_,_,_,_]) rfl zeroValue35 runUnderlying35 q7 trivial rfl rfl) ?_;refine ai 1 rfl (aq 0) ?_;refine ai 2 rfl (aC 0) ?_;refine ai 3 rfl (aq 1) ?_;refine ai 4 rfl (aC 0) ?_;refine bp.later rfl ?_;refine aG (i:=5) af ?_;refine aO 3 [_,_,_,_,_,_,_,_,_,_,_,_] sizeOf35 ?_;refine aG (i:=6) af ?_;refine aO 2 [_] sizeOf3 ?_;refine aG (i:=7) af ?_;refine aO 1 [_] sizeOf36 ?_;refine bL [] [⟨I,46,2,[_,_]⟩,⟨E,36,1,[_]⟩,⟨k3,3,1,[_]⟩,⟨k2,35,12,[_,_,_,_,_,_,_,_,_,_,_,_]⟩] ?_;refine bC af ?_;exact⟨rfl,_,rfl⟩
 exact absurd ax bR
theorem zX : ∀ w, ((#[{ name := "l", type := 29, offset := 0, embedded := false, tag := "", pkgPath := "padlock/parse", byteOffset := 0 }, { name := "at", type := 3, offset := 1, embedded := false, tag := "", pkgPath := "padlock/parse", byteOffset := 24 }, { name := "ops", type := 33, offset := 2, embedded := false, tag := "", pkgPath := "padlock/parse", byteOffset := 32 }] : Array Field).mapM fun f => do pure (f.offset, ← sizeOf f.type) : Sem (Array (Nat × Nat))).run Tryd.prog w = .ok #[(0, 1), (1, 1), (2, 1)] w := fun w => by simp [sizeOf29, sizeOf3, sizeOf33]
theorem wo(hm:(0,marksC)∈G)(hw:(2,wordsC)∈G)(hk:(3,cmpC)∈G)(iv:(1,typesC)∈G)(l:List Tk)(hs:∀t∈l,t.s.size<=maxLen/\t.n<=9223372036854775807):VP Tryd.prog G 6 [ap 3 cT l] (lu (fk l)):=by
 refine VC.closing func6 rfl ntmps6 aV fun X w0=>?_;refine KD.sJ (Q1:=fun e y=>e = .normal/\∃E I J,y=(⟨44,[(0,ap 3 cT l),(2,bE E),(3,bE I),(4,bE J)],[⟨J,36,1,[aj 0]⟩,⟨I,3,1,[aj 0]⟩,⟨E,35,12,[aj 0,cQ,cX,cX,cX,bI false,cX,cQ,bI false,aj 0,cQ,cX]⟩]⟩:St)) (fun _ _ h=>h) ?_ ?_ (fun e a w y he _ h=>absurd h.1 he)
 ·refine aR ?_;refine ep (ds:=[_,_,_,_,_,_,_,_,_,_,_,_]) av rfl rfl zeroValue35 rfl (fun E=>?_);refine ep (ds:=[_]) av rfl rfl zeroValue3 rfl (fun I=>?_);refine ep (ds:=[_]) av rfl rfl zeroValue36 rfl (fun J=>?_);refine aF [(0,_),(2,_),(3,_),(4,_)] [⟨J,36,1,[_]⟩,⟨I,3,1,[_]⟩,⟨E,35,12,[_,_,_,_,_,_,_,_,_,_,_,_]⟩] ?_;exact⟨rfl,_,_,_,rfl⟩
 rintro _ ⟨-,E,I,J,rfl⟩;refine KD.sJ (Q1:=fun e y=>(e = .normal/\l.length<=100/\y=(⟨44,[(0,ap 3 cT l),(2,bE E),(3,bE I),(4,bE J)],[⟨J,36,1,[aj 0]⟩,⟨I,3,1,[aj 0]⟩,⟨E,35,12,[aj 0,cQ,cX,cX,cX,bI false,cX,cQ,bI false,aj 0,cQ,cX]⟩]⟩:St))\/(e = .ret/\∃r S',Sublist S' y.S/\iq Tryd.prog Tryd.f6 y r/\(r=lu (fk l)/\S'=[]))) (fun _ _ h=>h) ?_ ?_ (fun e a w y he hs h=>by (rcases h with h|⟨rfl,h⟩;exact absurd h.1 he;exact vP hs h))
 ·refine ag ?_;refine ae ?_;refine aa bV ?_;refine aa az ?_;refine ak [0,2,3,4,11] ?_;refine aI ot (fun ax=>?_) (fun ax=>?_)
  ·have N:=ax
   (try simp only[V.ah,ne_eq] at N)
   have Dm:l.length>100:=(by simp at ax;omega)
   refine ag ?_;refine aa (ct (pl:=[]) (ds:=[_,_,_,_,_,_,_,_,_,_,_,_]) rfl zeroValue35 runUnderlying35 q7 trivial rfl rfl) ?_;refine bq 2 [_,_,_,_,_,_,_,_,_,_,_,_] sizeOf35 ?_;refine bq 1 [_] sizeOf3 ?_;refine bq 0 [_] sizeOf36 ?_;refine aF [(0,_),(2,_),(3,_),(4,_)] [⟨J,36,1,[_]⟩,⟨I,3,1,[_]⟩,⟨E,35,12,[_,_,_,_,_,_,_,_,_,_,_,_]⟩] ?_;refine aD ?_;exact Or.inr ⟨rfl,lu (iO,0,10),[],nil_sublist _,(oZ results6 (dG (k:=2) (ds:=[_,_,_,_,_,_,_,_,_,_,_,_]) aV lk rfl rfl isAgg35 sizeOf35 rfl rfl) (kL (k:=1) aV lk rfl rfl isAgg3 rfl) (kL (k:=0) aV lk rfl rfl isAgg36 rfl)).gv (sj ⟨si w6,jq,jq,trivial⟩),(by rw[As Dm]),rfl⟩
  have N:=ax
  (try simp only[V.ah,ne_eq] at N)
  have hl:l.length<=100:=(by simp at ax;omega)
  refine hU (Wk.aO (n:=44) (l':=[(0,_),(2,_),(3,_),(4,_)]) (S':=[⟨J,36,1,[_]⟩,⟨I,3,1,[_]⟩,⟨E,35,12,[_,_,_,_,_,_,_,_,_,_,_,_]⟩]) rfl rfl bi) ?_;refine aN ?_;exact Or.inl ⟨rfl,hl,rfl⟩
 intro y hy;obtain⟨hl,rfl⟩:l.length<=100/\y=(⟨44,[(0,ap 3 cT l),(2,bE E),(3,bE I),(4,bE J)],[⟨J,36,1,[aj 0]⟩,⟨I,3,1,[aj 0]⟩,⟨E,35,12,[aj 0,cQ,cX,cX,cX,bI false,cX,cQ,bI false,aj 0,cQ,cX]⟩]⟩:St):=(by (rcases hy with ⟨-,h⟩|⟨h,-⟩;exact h;cases h))
 refine KD.sJ (Q1:=fun e y=>(e = .normal/\dR l 0=none/\y=(⟨44,[(0,ap 3 cT l),(2,bE E),(3,bE I),(4,bE J)],[⟨J,36,1,[aj 0]⟩,⟨I,3,1,[aj 0]⟩,⟨E,35,12,[aj 0,cQ,cX,cX,cX,bI false,cX,cQ,bI false,aj 0,cQ,cX]⟩]⟩:St))\/(e = .ret/\∃r S',Sublist S' y.S/\iq Tryd.prog Tryd.f6 y r/\(r=lu (fk l)/\S'=[]))) (fun _ _ h=>h) ?_ ?_ (fun e a w y he hs h=>by (rcases h with h|⟨rfl,h⟩;exact absurd h.1 he;exact vP hs h))
 ·refine ag ?_;refine ae ?_;refine aa bV ?_;refine ae ?_;refine ak [0,2,3,4,13,14,15] ?_;refine bO ?_;refine ed (fun (i:Nat) cz=>(i<=l.length)/\(dR l 0=dR (l.drop i) i)/\cz=(⟨44,[(0,ap 3 cT l),(2,bE E),(3,bE I),(4,bE J),(13,ap 3 cT l),(14,aj l.length),(15,aj (i:Nat))],[⟨J,36,1,[aj 0]⟩,⟨I,3,1,[aj 0]⟩,⟨E,35,12,[aj 0,cQ,cX,cX,cX,bI false,cX,cQ,bI false,aj 0,cQ,cX]⟩]⟩:St)) (fun (i:Nat)=>l.length-i) 0 ⟨(Nat.zero_le _),(by rw[drop_zero]),rfl⟩ (Wk.bz rfl c5 cD) ?_;rintro i _ ⟨hi,hq,rfl⟩;refine ag ?_;refine aa az ?_;refine ak [0,2,3,4,13,14,15,16] ?_;refine aA ?_;refine aI ot (fun O=>?_) (fun O=>?_)
  ·have U:=O
   (try simp only[V.ah,ne_eq] at U)
   have aH:i<l.length:=(by simp at O;omega)
   refine aN ?_;refine aA ?_;refine bO ?_;refine ag ?_;refine ae ?_;refine aa (di 3 (h:=kZ)) ?_;refine aa (jc [_,_,_]) ?_;refine ep (ds:=[_,_,_]) av rfl rfl zeroValue28 rfl (fun b6=>?_);refine ae ?_;refine bq 0 [_,_,_] sizeOf28 ?_;refine aF [(0,_),(2,_),(3,_),(4,_),(5,_),(6,_),(13,_),(14,_),(15,_)] [⟨b6,28,3,[_,_,_]⟩,⟨J,36,1,[_]⟩,⟨I,3,1,[_]⟩,⟨E,35,12,[_,_,_,_,_,_,_,_,_,_,_,_]⟩] ?_;refine ag ?_;refine aa (dF 0 [_,_,_]) ?_;refine bK call9 (Nm.nq hm l[i] (hs _ (getElem_mem aH)).1) ?_;refine ae ?_;refine aF [(0,_),(2,_),(3,_),(4,_),(5,_),(7,_),(13,_),(14,_),(15,_)] [⟨b6,28,3,[_,_,_]⟩,⟨J,36,1,[_]⟩,⟨I,3,1,[_]⟩,⟨E,35,12,[_,_,_,_,_,_,_,_,_,_,_,_]⟩] ?_;refine ag ?_;refine ae ?_;refine aa az ?_;refine ak [0,2,3,4,5,7,13,14,15,23] ?_;refine aI ot (fun Y=>?_) (fun Y=>?_)
   ·have aX:=Y
    (try simp only[V.ah,ne_eq] at aX)
    have Ep:cP l[i]≠0:=(by simpa using Y)
    refine ag ?_;refine aa (ct (pl:=[]) (ds:=[_,_,_,_,_,_,_,_,_,_,_,_]) rfl zeroValue35 runUnderlying35 q7 trivial rfl rfl) ?_;refine ae ?_;refine ae ?_;refine bq 3 [_,_,_,_,_,_,_,_,_,_,_,_] sizeOf35 ?_;refine bq 2 [_] sizeOf3 ?_;refine bq 1 [_] sizeOf36 ?_;refine aF [(0,_),(2,_),(3,_),(4,_)] [⟨b6,28,3,[_,_,_]⟩,⟨J,36,1,[_]⟩,⟨I,3,1,[_]⟩,⟨E,35,12,[_,_,_,_,_,_,_,_,_,_,_,_]⟩] ?_;refine aD ?_;exact Or.inr ⟨rfl,lu (iO,i,cP l[i]),[],nil_sublist _,(oZ results6 (dG (k:=3) (ds:=[_,_,_,_,_,_,_,_,_,_,_,_]) aV lk rfl rfl isAgg35 sizeOf35 rfl rfl) (kL (k:=2) aV lk rfl rfl isAgg3 rfl) (kL (k:=1) aV lk rfl rfl isAgg36 rfl)).gv (sj ⟨si w6,jq,jq,trivial⟩),(by rw[At hl (B9 aH hq Ep)]),rfl⟩
   have aX:=Y
   (try simp only[V.ah,ne_eq] at aX)
   have hz:cP l[i]=0:=(by simpa using Y)
   refine aN ?_;refine aR ?_;refine aa az ?_;refine ae ?_;refine ak [0,2,3,4,13,14,15] ?_;refine⟨(i+1),_,?_,?_,w8,(Ca aH hq hz),rfl⟩
   ·first|omega|(simp only[];omega)
   exact Wk.bz (n:=44) rfl c5 cD
  have U:=O
  (try simp only[V.ah,ne_eq] at U)
  have iZ:l.length<=i:=(by simp at O;omega)
  have K:dR l 0=none:=(by rw[hq,drop_of_length_le iZ];rfl)
  refine hU (Wk.aO (n:=44) (l':=[(0,_),(2,_),(3,_),(4,_)]) (S':=[⟨J,36,1,[_]⟩,⟨I,3,1,[_]⟩,⟨E,35,12,[_,_,_,_,_,_,_,_,_,_,_,_]⟩]) rfl rfl bi) ?_;refine dJ ?_;exact Or.inl ⟨rfl,K,rfl⟩
 intro y hy;obtain⟨K,rfl⟩:dR l 0=none/\y=(⟨44,[(0,ap 3 cT l),(2,bE E),(3,bE I),(4,bE J)],[⟨J,36,1,[aj 0]⟩,⟨I,3,1,[aj 0]⟩,⟨E,35,12,[aj 0,cQ,cX,cX,cX,bI false,cX,cQ,bI false,aj 0,cQ,cX]⟩]⟩:St):=(by (rcases hy with ⟨-,h⟩|⟨h,-⟩;exact h;cases h))
 have ht:∀t∈l,t.s.size<=maxLen/\(t.k=2->0<=t.n/\t.n<=9223372036854775807):=fun t h=>⟨(hs t h).1,fun hk=>⟨Bw (wm K t h) hk,(hs t h).2⟩⟩
 refine KD.defer (vs:=[(.pointer (some ⟨E,0,none⟩)),(.pointer (some ⟨I,0,none⟩)),(.pointer (some ⟨J,0,none⟩))]) rfl rfl (show bG _ _ _ _ _ (.dV (.func 10) [bE E,bE I,bE J]) from rN rfl ⟨ot,ot,ot,trivial⟩) rfl rfl rfl rfl ?_;refine KD.of (Q:=fun e y=>(e = .ret/\∃B s,fk l=(s,0,0)/\y=(⟨44,[(2,bE E),(3,bE I),(4,bE J)],[B,⟨J,36,1,[aj 0]⟩,⟨I,3,1,[aj 0]⟩,⟨E,35,12,(dW s)⟩]⟩:St))\/∃ch,e = .panic ch/\∃q e,ch=jH q e/\fk l=(iO,q,e)/\∃(env:List (Nat×D)) (c4 c3:D) (cs:List D),y=(⟨44,env,[⟨J,36,1,[c4]⟩,⟨I,3,1,[c3]⟩,⟨E,35,12,cs⟩]⟩:St)/\cs.length=12/\V.look 2 env=bE E/\V.look 3 env=bE I/\V.look 4 env=bE J) ?_ ?_
 ·refine ag ?_;refine ae ?_;refine aa (ct (pl:=[(0,_)]) (ds:=[_,_,_]) rfl zeroValue49 runUnderlying49 zX ⟨rfl,ot,trivial⟩ rfl rfl) ?_;refine fi (ds:=[_,_,_]) av rfl rfl ot rfl rfl (fun M=>?_);refine ae ?_;refine aF [(0,_),(2,_),(3,_),(4,_),(8,_)] [⟨M,49,3,[_,_,_]⟩,⟨J,36,1,[_]⟩,⟨I,3,1,[_]⟩,⟨E,35,12,[_,_,_,_,_,_,_,_,_,_,_,_]⟩] ?_;refine ag ?_;refine ae ?_;refine OD.bB av rfl rfl rfl call11 (zU (br:=M) hl hm hw hk iv ht 0 (Nat.zero_le _) [] _ rfl none 0 0) ⟨ot,trivial⟩ (Perm.refl _) (fun ch aK=>by obtain⟨q,e,h1,rfl⟩:=aK;exact Or.inr ⟨_,rfl,q,e,rfl,AT hl K h1,_,_,_,_,rfl,rfl,lk,lk,lk⟩) ?_;rintro _ _ ⟨s,p,os,ad,n,cap,yX,⟨rfl,gF⟩,hp,rfl⟩;unfold dW;refine aS (S':=⟨M,49,3,[ap 3 cT l,aj ((p:Nat):Int),aB ad n cap]⟩::[⟨J,36,1,[_]⟩,⟨I,3,1,[_]⟩,⟨E,35,12,[_,_,_,_,_,_,_,_,_,_,_,_]⟩]) (Perm.refl _) ?_;refine bq 3 [_,_,_,_,_,_,_,_,_,_,_,_] sizeOf35 ?_;refine aF [(0,_),(2,_),(3,_),(4,_),(8,_)] [⟨M,49,3,[_,_,_]⟩,⟨J,36,1,[_]⟩,⟨I,3,1,[_]⟩,⟨E,35,12,[_,_,_,_,_,_,_,_,_,_,_,_]⟩] ?_;refine aA ?_;refine ag ?_;refine ae ?_;refine aa bu ?_;refine aa (aq 1) ?_;refine aa (aC 0) ?_;refine ae ?_;refine aa bV ?_;refine aa az ?_;refine ak [2,3,4,8,40] ?_;refine aI ot (fun Z=>?_) (fun Z=>?_)
  ·have bn:=Z
   (try simp only[V.ah,ne_eq] at bn)
   have uU:p<l.length:=(by simp at Z;omega)
   refine aR ?_;refine ae ?_;exact OD.bB av rfl rfl rfl call12 (eV l hl p 6 ad n cap M) ⟨ot,aJ,trivial⟩ (Perm.refl _) (fun ch aK=>by subst aK;exact Or.inr ⟨_,rfl,p,_,rfl,Ah hl K yX uU,_,_,_,_,rfl,rfl,lk,lk,lk⟩) (fun r S' h=>h.elim)
  have bn:=Z
  (try simp only[V.ah,ne_eq] at bn)
  have uU:¬p<l.length:=(by simp at Z;omega)
  refine aN ?_;refine ag ?_;refine aa (dF 3 [_,_,_,_,_,_,_,_,_,_,_,_]) ?_;refine bq 3 [_,_,_,_,_,_,_,_,_,_,_,_] sizeOf35 ?_;refine bq 2 [_] sizeOf3 ?_;refine bq 1 [_] sizeOf36 ?_;refine aF [(2,_),(3,_),(4,_)] [⟨M,49,3,[_,_,_]⟩,⟨J,36,1,[_]⟩,⟨I,3,1,[_]⟩,⟨E,35,12,[_,_,_,_,_,_,_,_,_,_,_,_]⟩] ?_;refine aD ?_;exact Or.inl ⟨rfl,_,s,rX hl K yX uU,rfl⟩
 intro e a w h;rcases h with ⟨y,hy,⟨rfl,B,s,uV,rfl⟩|⟨ch,rfl,q,e,rfl,uV,env,c4,c3,cs,rfl,cB,h2,h3,h4⟩⟩|⟨_,h⟩
 ·have hw:=vz (fn:=Tryd.f6) (post:=fun r S'=>r=lu (fk l)/\S'=[]) (S0:=[]) (u:=.returning) (u':=.returning) (da:=[(.pointer (some ⟨E,0,none⟩)),(.pointer (some ⟨I,0,none⟩)),(.pointer (some ⟨J,0,none⟩))].map D.v) (cv:=[(.pointer (some ⟨E,0,none⟩)),(.pointer (some ⟨I,0,none⟩)),(.pointer (some ⟨J,0,none⟩))]) (Sf:=[]) (Rs:=[B,⟨J,36,1,[aj 0]⟩,⟨I,3,1,[aj 0]⟩,⟨E,35,12,(dW s)⟩]) (pc:=fun S'=>S'=[]) hy rfl rfl rfl hy.defers (vQ _) call10 (Perm.refl _) cJ rfl (Cb E I J [])
   (fun S' h=>by subst h;exact⟨_,[],nil_sublist _,oZ results6 (dG (k:=3) (ds:=[_,_,_,_,_,_,_,_,_,_,_,_]) aV lk rfl rfl isAgg35 sizeOf35 rfl rfl) (kL (k:=2) aV lk rfl rfl isAgg3 rfl) (kL (k:=1) aV lk rfl rfl isAgg36 rfl),(by rw[uV];rfl),rfl⟩)
  exact hw
 ·have hw:=vz (fn:=Tryd.f6) (post:=fun r S'=>r=lu (fk l)/\S'=[]) (S0:=[]) (u:=.panicking (jH q e)) (u':=.panicking [{v:=.iface 46 (.agg #[.int .i64 (q:Nat),.int .i64 e]),recovered:=true}]) (da:=[(.pointer (some ⟨E,0,none⟩)),(.pointer (some ⟨I,0,none⟩)),(.pointer (some ⟨J,0,none⟩))].map D.v) (cv:=[(.pointer (some ⟨E,0,none⟩)),(.pointer (some ⟨I,0,none⟩)),(.pointer (some ⟨J,0,none⟩))]) (Sf:=[⟨J,36,1,[c4]⟩,⟨I,3,1,[c3]⟩,⟨E,35,12,cs⟩]) (Rs:=[]) (pc:=fun S'=>∃B,S'=[B,⟨J,36,1,[aj e]⟩,⟨I,3,1,[aj ((q:Nat):Int)]⟩,⟨E,35,12,[aj 0,cQ,cX,cX,cX,bI false,cX,cQ,bI false,aj 0,cQ,cX]⟩]) hy rfl rfl rfl hy.defers (vQ _) call10 (Perm.refl _) cJ rfl (Bx E I J q e c4 c3 cs cB)
   (fun S' h=>by obtain⟨B,rfl⟩:=h;exact⟨lu (iO,q,e),[],nil_sublist _,(oZ results6 (dG (k:=3) (ds:=[_,_,_,_,_,_,_,_,_,_,_,_]) aV h2 rfl rfl isAgg35 sizeOf35 rfl rfl) (kL (k:=2) aV h3 rfl rfl isAgg3 rfl) (kL (k:=1) aV h4 rfl rfl isAgg36 rfl)).gv (sj ⟨si w6,jq,jq,trivial⟩),(by rw[uV]),rfl⟩)
  exact hw
 exact h.elim
def fH(pre:List dc)(c:dc):Int :=
 if cH c.n≠0 then cH c.n else if c.k<1\/c.k>3 then 2 else if (pre.any fun d=>d.n.toList==c.n.toList)=true then 9 else 0
def jt:List dc->List dc->Int
 | _,[]=>0
 | pre,c::r=>if fH pre c≠0 then fH pre c else jt (pre++[c]) r
def gV(l:List dc):Int:=if l.length<1\/l.length>6 then 1 else jt [] l
theorem Au{l:List dc}(hi:i<l.length)(h:fH (l.take i) l[i]=0):jt (l.take i) (l.drop i)=jt (l.take (i+1)) (l.drop (i+1)):=by
 rw[drop_eq_getElem_cons hi,take_succ_eq_append_getElem hi];exact if_neg (by simp[h])
theorem pp{l:List dc}(hi:i<l.length)(h:fH (l.take i) l[i]≠0):jt (l.take i) (l.drop i)=fH (l.take i) l[i]:=by
 rw[drop_eq_getElem_cons hi];exact if_pos h
theorem AU{l:List dc}(hi:¬i<l.length):jt (l.take i) (l.drop i)=0:=by
 rw[drop_of_length_le w8];rfl
theorem ff(t:Tk):(cT t).all V.one=true:=rfl
def aM(s:ByteArray):Tk:=⟨1,s,0⟩
def aW(s:ByteArray):Tk:=⟨4,s,0⟩
def cK(l:List Tk):List D:=[ap 3 cT l]
theorem gQ(l:List Tk):(cK l).length=1:=rfl
theorem so(l:List Tk):(cK l).all V.one=true:=rfl
theorem my{β:Type}(f:α->β){l:List α}(hi:i<l.length):(l.take i).map f++[f l[i]]=(l.take (i+1)).map f:=by rw[take_succ_eq_append_getElem hi,map_append];rfl
theorem r8{β:Type}(f:α->β){l:List α}(hi:l.length<=i):(l.take i).map f=l.map f:=by rw[take_of_length_le hi]
theorem By(h x:dc)(b:Nat):VC Tryd.prog G 61 [.agg (cC h),bE b] [⟨b,73,2,cC x⟩] (fun r S=>r=bI (h.n.toList==x.n.toList)/\S=[⟨b,73,2,cC x⟩]):=by
 refine cL func61 rfl ntmps61 aV fun J w0 E=>?_;unfold cC;refine ag ?_;refine fi (ds:=[_,_]) av rfl rfl ot rfl rfl (fun I=>?_);refine ae ?_;refine aF [(1,_),(2,_)] [⟨I,73,2,[_,_]⟩,⟨_,_,_,[_,_]⟩] ?_;refine ag ?_;refine aa (aq 0) ?_;refine aa (aC 0) ?_;refine aa (aq 0) ?_;refine aa (aC 1) ?_;refine aa az ?_;refine ae ?_;refine ak [3] ?_;refine aD ?_;refine⟨.inr rfl,_,[⟨b,73,2,cC x⟩],c5,c8 results61 (dm aV lk),?_⟩;exact⟨rfl,rfl⟩
theorem Bz(hm:(0,marksC)∈G)(hw:(2,wordsC)∈G)(l:List dc)(hl:l.length<=maxLen)(gF:∀c∈l,c.n.size<=maxLen):VP Tryd.prog G 50 [ap 2 cC l] (aj (gV l)):=by
 refine cL func50 rfl ntmps50 aV fun X0 w0 dM=>?_;have gg:=ju;refine ag ?_;refine ae ?_;refine ak [0] ?_;refine aA ?_;refine ag ?_;refine ae ?_;refine aa bV ?_;refine aa az ?_;refine ae ?_;refine cM (t:=9) lk (fun Z=>?_) (fun Z=>?_)
 ·have K:=Z;(try simp only[V.ah,ne_eq] at K)
  refine an ?_;refine an ?_;refine an ?_;refine aa bZ ?_;refine ak [0,13] ?_;refine ei ot w5 ?_;have E:gV l=1:=if_pos w8;refine ag ?_;refine ae ?_;refine ak [2] ?_;refine aD ?_;refine bf ?_;rw[E];exact⟨rfl,rfl⟩
 have K:=Z;(try simp only[V.ah,ne_eq] at K)
 refine ae ?_;refine aa bV ?_;refine aa az ?_;refine aa bt ?_;refine ak [0,13] ?_;refine aI ot (fun ax=>?_) (fun ax=>?_)
 ·have M:=ax
  (try simp only[V.ah,ne_eq] at M)
  have E:gV l=1:=if_pos w8;refine ag ?_;refine ae ?_;refine ak [2] ?_;refine aD ?_;refine bf ?_;rw[E];exact⟨rfl,rfl⟩
 have M:=ax
 (try simp only[V.ah,ne_eq] at M)
 have Er:¬(l.length<1\/l.length>6):=(by omega)
 have Ct:gV l=jt (l.take 0) (l.drop 0):=if_neg Er;refine aN ?_;refine aA ?_;refine ag ?_;refine ae ?_;refine aa bV ?_;refine ae ?_;refine ak [0,14,15,16] ?_;refine bO ?_;refine ed (fun (i:Nat) cz=>(i<=l.length)/\(gV l=jt (l.take i) (l.drop i))/\cz=(⟨41,[(0,ap 2 cC l),(14,ap 2 cC l),(15,aj (l.length:Nat)),(16,aj (i:Nat))],[]⟩:St)) (fun (i:Nat)=>l.length-i) 0 ⟨(Nat.zero_le _),Ct,rfl⟩ (Wk.bz rfl c5 cD) ?_;rintro i _ ⟨hi,I,rfl⟩;refine ag ?_;refine aa az ?_;refine ak [0,14,15,16,17] ?_;refine aA ?_;refine aI ot (fun bW=>?_) (fun bW=>?_)
 ·have N:=bW
  (try simp only[V.ah,ne_eq] at N)
  have aH:i<l.length:=(by omega)
  refine aN ?_;refine aA ?_;refine bO ?_;refine ag ?_;refine ae ?_;refine aa (di 2) ?_;refine aa (jc [_,_]) ?_;refine ep (ds:=[_,_]) av rfl rfl zeroValue73 rfl (fun b4=>?_);refine ae ?_;refine bq 0 [_,_] sizeOf73 ?_;refine aF [(0,_),(3,_),(4,_),(14,_),(15,_),(16,_)] [⟨b4,73,2,[_,_]⟩] ?_;refine aA ?_;refine ag ?_;refine aa (aq 0) ?_;refine aa (aC 0) ?_;refine bK call33 (jo hm hw l[i].n (gF _ (getElem_mem aH))) ?_;refine ae ?_;refine aF [(0,_),(3,_),(4,_),(5,_),(14,_),(15,_),(16,_)] [⟨b4,73,2,[_,_]⟩] ?_;refine ag ?_;refine ae ?_;refine aa az ?_;refine ak [0,3,4,5,14,15,16,25] ?_;refine aI ot (fun O=>?_) (fun O=>?_)
  ·have aX:=O
   (try simp only[V.ah,ne_eq] at aX)
   have hne:cH l[i].n≠0:=(by simpa using O)
   have hf:fH (l.take i) l[i]=cH l[i].n:=if_pos hne;have E:gV l=cH l[i].n:=(by rw[I,pp aH (by rw[hf];exact hne),hf])
   refine ag ?_;refine ae ?_;refine ae ?_;refine ak [2] ?_;refine aD ?_;refine bf ?_;rw[E];exact⟨rfl,rfl⟩
  have aX:=O
  (try simp only[V.ah,ne_eq] at aX)
  have dH:¬cH l[i].n≠0:=(by simpa using O)
  refine aN ?_;refine aA ?_;refine ag ?_;refine aa (aq 1) ?_;refine aa (aC 0) ?_;refine aa az ?_;refine ae ?_;refine cM (t:=30) lk (fun U=>?_) (fun U=>?_)
  ·have J:=U;(try simp only[V.ah,ne_eq] at J)
   refine an ?_;refine an ?_;refine an ?_;refine aa bZ ?_;refine ak [0,3,4,14,15,16,34] ?_;refine ei ot w5 ?_;have hf:fH (l.take i) l[i]=2:=(by unfold fH;rw[if_neg dH,if_pos w8])
   have E:gV l=2:=(by rw[I,pp aH (by rw[hf];decide),hf])
   refine ag ?_;refine ae ?_;refine ak [2] ?_;refine aD ?_;refine bf ?_;rw[E];exact⟨rfl,rfl⟩
  have J:=U;(try simp only[V.ah,ne_eq] at J)
  refine aa (aq 1) ?_;refine aa (aC 0) ?_;refine aa az ?_;refine aa bt ?_;refine ak [0,3,4,14,15,16,34] ?_;refine aI ot (fun cx=>?_) (fun cx=>?_)
  ·have bn:=cx
   (try simp only[V.ah,ne_eq] at bn)
   have hf:fH (l.take i) l[i]=2:=(by unfold fH;rw[if_neg dH,if_pos w8])
   have E:gV l=2:=(by rw[I,pp aH (by rw[hf];decide),hf])
   refine ag ?_;refine ae ?_;refine ak [2] ?_;refine aD ?_;refine bf ?_;rw[E];exact⟨rfl,rfl⟩
  have bn:=cx
  (try simp only[V.ah,ne_eq] at bn)
  have hk:¬(l[i].k<1\/l[i].k>3):=(by omega)
  refine aN ?_;refine ag ?_;refine ae ?_;refine ae ?_;refine aa (eU (l:=0) rfl ot trivial ⟨_,ot⟩ (by first|exact wC fj (fun h=>by cases h) runUnderlying30 sizeOf73 w8|exact sc (fun h=>by cases h) runUnderlying30 sizeOf73 w8|exact px (fun _=>rfl) (fun h=>by cases h) runUnderlying30 sizeOf73 w8 w8)) ?_;refine aa (rN (ds:=[_]) rfl ⟨ot,trivial⟩) ?_;refine cG av rfl rfl rfl call34 (vp (l.take i) 61 [bE b4] _ (fun d=>d.n.toList==l[i].n.toList) call61 (fun h _=>By h l[i] b4) (by rw[length_take];omega)) ⟨lK rfl lk,lK rfl lk,trivial⟩ (AB (k:=0) rfl) ?_;rintro _ S2 ⟨rfl,yY⟩;rw[yY];clear yY;refine aF [(0,_),(14,_),(15,_),(16,_),(39,_)] [⟨b4,73,2,[_,_]⟩] ?_;refine aI ot (fun Y=>?_) (fun Y=>?_)
  ·have bJ:=Y
   (try simp only[V.ah,ne_eq] at bJ)
   have hf:fH (l.take i) l[i]=9:=(by unfold fH;rw[if_neg dH,if_neg hk,if_pos Y])
   have E:gV l=9:=(by rw[I,pp aH (by rw[hf];decide),hf])
   refine ag ?_;refine ae ?_;refine ak [2] ?_;refine aD ?_;refine bf ?_;rw[E];exact⟨rfl,rfl⟩
  have bJ:=Y
  (try simp only[V.ah,ne_eq] at bJ)
  have hf:fH (l.take i) l[i]=0:=(by unfold fH;rw[if_neg dH,if_neg hk,if_neg (by rw[Y];simp)])
  have Cu:=I.trans (Au aH hf);refine aN ?_;refine aR ?_;refine aa az ?_;refine ae ?_;refine ak [0,14,15,16] ?_;refine⟨(i+1),_,?_,?_,w8,Cu,rfl⟩
  ·first|omega|(simp only[];omega)
  exact Wk.bz (n:=41) rfl c5 cD
 have N:=bW
 (try simp only[V.ah,ne_eq] at N)
 have E:gV l=0:=(by rw[I];exact AU w8)
 refine dJ ?_;refine ag ?_;refine ae ?_;refine ak [2] ?_;refine aD ?_;refine bf ?_;rw[E];exact⟨rfl,rfl⟩
theorem nh : ∀ w, ((#[{ name := "Kind", type := 3, offset := 0, embedded := false, tag := "", pkgPath := "", byteOffset := 0 }, { name := "Text", type := 9, offset := 1, embedded := false, tag := "", pkgPath := "", byteOffset := 8 }, { name := "Int", type := 3, offset := 2, embedded := false, tag := "", pkgPath := "", byteOffset := 24 }] : Array Field).mapM fun f => do pure (f.offset, ← sizeOf f.type) : Sem (Array (Nat × Nat))).run Tryd.prog w = .ok #[(0, 1), (1, 1), (2, 1)] w := fun w => by simp [sizeOf3, sizeOf9]
theorem dP(s:ByteArray):VP Tryd.prog G 44 [bH s] (.agg (cT (aW s))):=by
 refine cL func44 rfl ntmps44 aV fun J w0 I=>?_;refine ag ?_;refine ep (ds:=[_,_,_]) av rfl rfl zeroValue28 rfl (fun E=>?_);refine aF [(0,_),(2,_)] [⟨E,28,3,[_,_,_]⟩] ?_;refine ag ?_;refine ae ?_;refine aa (ct (pl:=[(0,_),(1,_)]) (ds:=[_,_,_]) rfl zeroValue28 runUnderlying28 nh ⟨rfl,aJ,rfl,ot,trivial⟩ rfl rfl) ?_;refine bq 0 [_,_,_] sizeOf28 ?_;refine aF [(2,_)] [⟨E,28,3,[_,_,_]⟩] ?_;refine aD ?_;refine⟨.inr rfl,_,[],nil_sublist _,c8 results44 (dG (k:=0) (ds:=[_,_,_]) aV lk rfl rfl isAgg28 sizeOf28 rfl rfl),?_⟩;exact⟨rfl,rfl⟩
theorem jV(s:ByteArray):VP Tryd.prog G 56 [bH s] (.agg (cT (aM s))):=by
 refine cL func56 rfl ntmps56 aV fun J w0 I=>?_;refine ag ?_;refine ep (ds:=[_,_,_]) av rfl rfl zeroValue28 rfl (fun E=>?_);refine aF [(0,_),(2,_)] [⟨E,28,3,[_,_,_]⟩] ?_;refine ag ?_;refine ae ?_;refine aa (ct (pl:=[(0,_),(1,_)]) (ds:=[_,_,_]) rfl zeroValue28 runUnderlying28 nh ⟨rfl,aJ,rfl,ot,trivial⟩ rfl rfl) ?_;refine bq 0 [_,_,_] sizeOf28 ?_;refine aF [(2,_)] [⟨E,28,3,[_,_,_]⟩] ?_;refine aD ?_;refine⟨.inr rfl,_,[],nil_sublist _,c8 results56 (dG (k:=0) (ds:=[_,_,_]) aV lk rfl rfl isAgg28 sizeOf28 rfl rfl),?_⟩;exact⟨rfl,rfl⟩
theorem nk:(Tryd.prog.info? 28).map (fun i=>(i.zero,i.size,i.bytes))=some (some (.agg #[.int .i64 0,.string ⟨#[]⟩,.int .i64 0]),3,32):=by kernel_rfl
theorem mC(l:List ByteArray)(hl:l.length<=10):VC Tryd.prog G 39 [ap 1 cS l] [] (iJ cT 28 3 (l.map aM)):=by
 refine cL func39 rfl ntmps39 aV fun X0 w0 dM=>?_;have gg:=ju;refine ag ?_;refine ae ?_;refine ak [0] ?_;refine ag ?_;refine ae ?_;refine ak [0,3] ?_;refine aA ?_;refine ag ?_;refine ae ?_;refine aa bV ?_;refine ae ?_;refine ak [3,6,7,8] ?_;refine bO ?_;refine ed (fun (I:Nat×Option Addr×Nat×List ay) cz=>match I with|(i,K,M,O)=>(i<=l.length)/\(bQ 28 3 (((l.take i).map aM).flatMap cT) ((l.take i).map aM).length K M O)/\cz=(⟨19,[(3,aB K ((l.take i).map aM).length M),(6,ap 1 cS l),(7,aj (l.length:Nat)),(8,aj (i:Nat))],(O)⟩:St)) (fun (I:Nat×Option Addr×Nat×List ay)=>match I with|(i,K,M,O)=>l.length-i) (0,none,0,[]) ⟨(Nat.zero_le _),(bQ.cast kM (by first|rfl|simp)),rfl⟩ (Wk.bz rfl cw ym) ?_;rintro⟨i,K,M,O⟩ _ ⟨hi,U,rfl⟩;refine ag ?_;refine aa az ?_;refine ak [3,6,7,8,9] ?_;refine aA ?_;refine aI ot (fun ax=>?_) (fun ax=>?_)
 ·have J:=ax
  (try simp only[V.ah,ne_eq] at J)
  have aH:i<l.length:=(by omega)
  refine aN ?_;refine aA ?_;refine bO ?_;refine ag ?_;refine aa (di 1) ?_;refine aa eA ?_;refine ae ?_;refine ak [3,5,6,7,8] ?_;refine aR ?_;refine ae ?_;refine ae ?_;refine bK call56 (jV l[i]) ?_;refine dj (aP 0 [_]) [.int .i64 0,.string ⟨#[]⟩,.int .i64 0] [_,_,_] zeroValue28 runUnderlying29 sizeOf28 (fun Fi=>?_);refine eT 0 15 3 1 ?_;refine fA (ls:=((l.take i).map aM)) (new:=[aM l[i]]) (Sq:=O) cZ ff av rfl rfl underlying29 nk rfl bR ot U (cy (A:=[])) ot cl yq yq (fun N E Y Z=>?_);refine aS (cR (S1:=[⟨N,28,E*3,flatMap cT (((l.take i).map aM)++[aM l[i]])⟩]) (A:=[])) ?_;refine ae ?_;refine aY (Wk.aO (n:=19) (l':=[(3,_),(6,_),(7,_),(8,_)]) (S':=([⟨N,28,E*3,flatMap cT (((l.take i).map aM)++[aM l[i]])⟩])) rfl rfl bi) ?_;refine bg ?_;refine aR ?_;refine aa az ?_;refine ae ?_;refine ak [3,6,7,8] ?_;refine⟨((i+1),(some ⟨N,0,none⟩),E,[⟨N,28,E*3,flatMap cT (((l.take i).map aM)++[aM l[i]])⟩]),_,?_,?_,w8,(bQ.cast (cA Y Z) (by exact my aM aH)),rfl⟩
  ·first|omega|(simp only[];omega)
  exact Wk.bz (n:=19) rfl cw ym
 have J:=ax
 (try simp only[V.ah,ne_eq] at J)
 have kU:=r8 aM (show l.length<=i by omega);refine dJ ?_;refine ag ?_;refine ae ?_;refine ae ?_;refine ak [2] ?_;refine aD ?_;refine⟨.inr rfl,_,_,(Sublist.refl _),c8 results39 (dm aV lk),?_⟩;exact iJ.cast (iJ.mk U) kU
theorem gS(l:List ByteArray)(hl:l.length<=10):VP Tryd.prog G 39 [ap 1 cS l] (.list 3 ((l.map aM).flatMap cT) (l.map aM).length):=VC.nG cZ (mC l hl)
def eL(ts:List (List Tk)):Nat->List Tk
 | 0=>[aW ⟨#[40]⟩]
 | i+1=>eL ts i++(if i>0 then [aW ⟨#[44]⟩] else [])++ts.getD i []
def fE(ts:List (List Tk)):List Tk:=eL ts ts.length++[aW ⟨#[41]⟩]
theorem rY{ts:List (List Tk)}(h:∀x∈ts,x.length<=10):∀i,(eL ts i).length<=1+11*i
 | 0=>Nat.le_refl _
 | i+1=>by
  have E:=rY h i;have h2:(ts.getD i []).length<=10:=by
   rw[getD_eq_getElem?_getD];cases hx:ts[i]? with
   | none=>exact Nat.zero_le _
   | some x=>exact h x (mem_of_getElem? hx)
  have I:(if i>0 then [aW ⟨#[44]⟩] else []).length<=1:=(by split<;>simp)
  unfold eL;rw[length_append,length_append];omega
theorem rH(hi:i<ts.length)(h:0<i):(eL ts i++[aW ⟨#[44]⟩])++ts[i]=eL ts (i+1):=by
 rw[eL,if_pos h,getD_eq_getElem?_getD,getElem?_eq_getElem hi];rfl
theorem rz(hi:i<ts.length)(h:¬0<i):eL ts i++ts[i]=eL ts (i+1):=by
 rw[eL,if_neg h,append_nil,getD_eq_getElem?_getD,getElem?_eq_getElem hi];rfl
theorem wW(ts:List (List Tk))(hl:ts.length<=10)(yh:∀x∈ts,x.length<=10):VP Tryd.prog G 40 [ap 1 cK ts] (.list 3 ((fE ts).flatMap cT) (fE ts).length):=by
 refine cL func40 rfl ntmps40 aV fun X0 w0 dM=>?_;have gg:=ju;refine ag ?_;refine ae ?_;refine ak [0] ?_;refine ag ?_;refine bK call44 (dP ⟨#[40]⟩) ?_;refine dj (aP 0 [_]) [.int .i64 0,.string ⟨#[]⟩,.int .i64 0] [_,_,_] zeroValue28 runUnderlying29 sizeOf28 (fun b7=>?_);refine aS (cR (S1:=[⟨b7,28,1*3,flatMap cT ([aW ⟨#[40]⟩])⟩]) (A:=[])) ?_;refine ae ?_;refine aY (Wk.aO (n:=29) (l':=[(0,_),(3,_)]) (S':=([⟨b7,28,1*3,flatMap cT ([aW ⟨#[40]⟩])⟩])) rfl rfl bi) ?_;refine bg ?_;refine aA ?_;refine ag ?_;refine ae ?_;refine aa bV ?_;refine ae ?_;refine ak [3,8,9,10] ?_;refine bO ?_;refine ed (fun (E:Nat×Option Addr×Nat×List ay) cz=>match E with|(i,Z,qN,Sa)=>(i<=ts.length)/\(bQ 28 3 ((eL ts i).flatMap cT) (eL ts i).length Z qN Sa)/\cz=(⟨29,[(3,aB Z (eL ts i).length qN),(8,ap 1 cK ts),(9,aj (ts.length:Nat)),(10,aj (i:Nat))],(Sa)⟩:St)) (fun (E:Nat×Option Addr×Nat×List ay)=>match E with|(i,Z,qN,Sa)=>ts.length-i) (0,(some ⟨b7,0,none⟩),1,[⟨b7,28,1*3,flatMap cT ([aW ⟨#[40]⟩])⟩]) ⟨(Nat.zero_le _),(bQ.cast (cA (g:=cT) (sz:=3) (e:=28) (ls:=[aW ⟨#[40]⟩]) (Nat.le_refl _) (show 1<=maxLen by decide)) (by rfl)),rfl⟩ (Wk.bz rfl cw tM) ?_;rintro⟨i,Z,qN,Sa⟩ _ ⟨hi,uW,rfl⟩;refine ag ?_;refine aa az ?_;refine ak [3,8,9,10,11] ?_;refine aA ?_;refine aI ot (fun ax=>?_) (fun ax=>?_)
 ·have I:=ax
  (try simp only[V.ah,ne_eq] at I)
  have aH:i<ts.length:=(by omega)
  refine aN ?_;refine aA ?_;refine bO ?_;refine ag ?_;refine ae ?_;refine aa (di 1) ?_;refine aa eA ?_;refine ae ?_;refine ae ?_;refine ak [3,4,5,8,9,10] ?_;refine aA ?_;refine ag ?_;refine ae ?_;refine aa az ?_;refine ak [3,5,8,9,10,16] ?_;refine aI ot (fun bW=>?_) (fun bW=>?_)
  ·have J:=bW
   (try simp only[V.ah,ne_eq] at J)
   refine aR ?_;refine ae ?_;refine bK call44 (dP ⟨#[44]⟩) ?_;refine dj (aP 0 [_]) [.int .i64 0,.string ⟨#[]⟩,.int .i64 0] [_,_,_] zeroValue28 runUnderlying29 sizeOf28 (fun qE=>?_);refine eT 0 19 3 1 ?_;refine fA (ls:=(eL ts i)) (new:=[aW ⟨#[44]⟩]) (Sq:=Sa) cZ ff av rfl rfl underlying29 nk rfl bR ot uW (cy (A:=[])) ot cl kX kX (fun qO K Dn Dp=>?_);refine aS (cR (S1:=[⟨qO,28,K*3,flatMap cT ((eL ts i)++[aW ⟨#[44]⟩])⟩]) (A:=[])) ?_;refine ae ?_;refine aY (Wk.aO (n:=29) (l':=[(3,_),(5,_),(8,_),(9,_),(10,_)]) (S':=([⟨qO,28,K*3,flatMap cT ((eL ts i)++[aW ⟨#[44]⟩])⟩])) rfl rfl bi) ?_;refine bg ?_;refine aR ?_;refine ae ?_;refine ae ?_;refine mr (ls:=((eL ts i)++[aW ⟨#[44]⟩])) (new:=ts[i]) (Sq:=[⟨qO,28,K*3,flatMap cT ((eL ts i)++[aW ⟨#[44]⟩])⟩]) cZ ff av rfl rfl underlying29 nk rfl bR runUnderlying29 sizeOf28 ot (cA Dn Dp) (cy (A:=[])) ot kX kX (fun M N O U=>?_);refine aS (cR (A:=[])) ?_;refine ae ?_;refine aY (Wk.aO (n:=29) (l':=[(3,_),(8,_),(9,_),(10,_)]) (S':=(O)) rfl rfl bi) ?_;refine bg ?_;refine aR ?_;refine aa az ?_;refine ae ?_;refine ak [3,8,9,10] ?_;refine⟨((i+1),M,N,O),_,?_,?_,w8,(bQ.cast U (by first|exact rH aH w8|exact rz aH w8)),rfl⟩
   ·first|omega|(simp only[];omega)
   exact Wk.bz (n:=29) rfl cw tM
  have J:=bW
  (try simp only[V.ah,ne_eq] at J)
  refine aN ?_;refine aR ?_;refine ae ?_;refine ae ?_;refine mr (ls:=(eL ts i)) (new:=ts[i]) (Sq:=Sa) cZ ff av rfl rfl underlying29 nk rfl bR runUnderlying29 sizeOf28 ot uW (cy (A:=[])) ot kX kX (fun M N O U=>?_);refine aS (cR (A:=[])) ?_;refine ae ?_;refine aY (Wk.aO (n:=29) (l':=[(3,_),(8,_),(9,_),(10,_)]) (S':=(O)) rfl rfl bi) ?_;refine bg ?_;refine aR ?_;refine aa az ?_;refine ae ?_;refine ak [3,8,9,10] ?_;refine⟨((i+1),M,N,O),_,?_,?_,w8,(bQ.cast U (by first|exact rH aH w8|exact rz aH w8)),rfl⟩
  ·first|omega|(simp only[];omega)
  exact Wk.bz (n:=29) rfl cw tM
 have I:=ax
 (try simp only[V.ah,ne_eq] at I)
 have iZ:i=ts.length:=(by omega)
 have Dq:eL ts i++[aW ⟨#[41]⟩]=fE ts:=(by unfold fE;rw[<-iZ])
 refine dJ ?_;refine ag ?_;refine ae ?_;refine bK call44 (dP ⟨#[41]⟩) ?_;refine dj (aP 0 [_]) [.int .i64 0,.string ⟨#[]⟩,.int .i64 0] [_,_,_] zeroValue28 runUnderlying29 sizeOf28 (fun Es=>?_);refine eT 0 27 3 1 ?_;refine fA (ls:=(eL ts i)) (new:=[aW ⟨#[41]⟩]) (Sq:=Sa) cZ ff av rfl rfl underlying29 nk rfl bR ot uW (cy (A:=[])) ot cl kX kX (fun uX Y Dr Ds=>?_);refine aS (cR (S1:=[⟨uX,28,Y*3,flatMap cT ((eL ts i)++[aW ⟨#[41]⟩])⟩]) (A:=[])) ?_;refine ae ?_;refine aY (Wk.aO (n:=29) (l':=[(2,_)]) (S':=([⟨uX,28,Y*3,flatMap cT ((eL ts i)++[aW ⟨#[41]⟩])⟩])) rfl rfl bi) ?_;refine bg ?_;refine iz (t:=2) (Sq:=[⟨uX,28,Y*3,flatMap cT ((eL ts i)++[aW ⟨#[41]⟩])⟩]) lk (cA Dr Ds) (dg cZ _) (cy (A:=[])) ?_;refine aD ?_;refine⟨.inr rfl,c6 results40 ?_⟩;rw[Dq];exact⟨rfl,rfl⟩
def dK(v:Vl):List Tk :=
 if v.k=0 then [aM ⟨#[78,85,76,76]⟩]
 else if v.k=1 then [aM (if v.n=0 then ⟨#[70,65,76,83,69]⟩ else ⟨#[84,82,85,69]⟩)]
 else if v.k=3 then [⟨3,v.s,0⟩]
 else if v.n<0 then [aW ⟨#[45]⟩,⟨2,⟨#[]⟩,-v.n⟩] else [⟨2,⟨#[]⟩,v.n⟩]
def qP(v:Vl):Prop:=(v.k=1->v.n=0\/v.n=1)/\-9223372036854775807<=v.n/\v.n<=9223372036854775807
theorem vU(v:Vl):0<(dK v).length/\(dK v).length<=2:=by
 unfold dK;repeat' split
 all_goals exact⟨by simp,by simp⟩
def pR:List ByteArray:=[⟨#[]⟩,⟨#[]⟩,⟨#[]⟩,⟨#[]⟩,⟨#[]⟩,⟨#[]⟩,⟨#[61]⟩,⟨#[60]⟩,⟨#[43]⟩,⟨#[45]⟩,⟨#[42]⟩]
def eO(k:Int):Tk:=if k=3 then aM ⟨#[65,78,68]⟩ else if k=4 then aM ⟨#[79,82]⟩ else aW (pR.getD k.toNat ⟨#[]⟩)
theorem Cv{j:Nat}(h:j<11):(pR.map fun s=>D.v (.string s))[j*1]?=some (bH (pR[j]'h)):=by
 rw[Nat.mul_one,getElem?_map,getElem?_eq_getElem h];rfl
theorem vj(v:Vl)(h:qP v):VP Tryd.prog G 41 [.agg (cV v)] (.list 3 ((dK v).flatMap cT) (dK v).length):=by
 refine cL func41 rfl ntmps41 aV fun X0 w0 dM=>?_;obtain⟨h1,h2,h3⟩:=h;unfold cV;refine ag ?_;refine fi (ds:=[_,_,_]) av rfl rfl ot rfl rfl (fun Y=>?_);refine ae ?_;refine aF [(1,_)] [⟨Y,23,3,[_,_,_]⟩] ?_;refine aA ?_;refine bO ?_;refine ag ?_;refine aa (aq 0) ?_;refine aa (aC 0) ?_;refine aa az ?_;refine ae ?_;refine ak [1,3] ?_;refine aI ot (fun ax=>?_) (fun ax=>?_)
 ·have E:=ax
  (try simp only[V.ah,ne_eq] at E)
  refine ag ?_;refine dj (aP 0 [_]) [.string ⟨#[]⟩] [_] zeroValue9 runUnderlying32 sizeOf9 (fun b7=>?_);refine aS (cR (S1:=[⟨b7,9,1*1,flatMap cS ([⟨#[78,85,76,76]⟩])⟩]) (A:=[_])) ?_;refine gr (t:=7) (Sq:=[⟨b7,9,1*1,flatMap cS ([⟨#[78,85,76,76]⟩])⟩]) lk (cA (g:=cS) (sz:=1) (e:=9) (ls:=[⟨#[78,85,76,76]⟩]) (Nat.le_refl _) (show 1<=maxLen by decide)) (dg dz _) (cy (A:=[_])) ?_;refine bK call39 (gS [⟨#[78,85,76,76]⟩] mV) ?_;refine ae ?_;refine aF [(2,_)] [⟨Y,23,3,[_,_,_]⟩] ?_;refine aD ?_;refine⟨.inr rfl,c6 results41 ?_⟩;refine⟨?_,rfl⟩;unfold dK;first|(rw[if_pos E];first|done|rfl)|(rw[if_neg E,if_pos J,hj];rcases j with _|_|j<;>first|rfl|omega)|(rw[if_neg E,if_neg I,if_pos aX];first|done|rfl)|(rw[if_neg E,if_neg I,if_neg aX,if_pos w8,show -v.n=0-v.n by omega];first|done|rfl)|(rw[if_neg E,if_neg I,if_neg aX,if_neg w8];first|done|rfl)
 have E:=ax
 (try simp only[V.ah,ne_eq] at E)
 refine ag ?_;refine aa (aq 0) ?_;refine aa (aC 0) ?_;refine aa az ?_;refine ae ?_;refine ak [1,9] ?_;refine aI ot (fun K=>?_) (fun K=>?_)
 ·have I:=K
  (try simp only[V.ah,ne_eq] at I)
  have J:v.k=1:=(by simpa using K)
  obtain⟨j,hj,Fj⟩:∃j:Nat,v.n=(j:Int)/\j<2:=(by (rcases h1 J with h|h;exact⟨0,h,by decide⟩;exact⟨1,h,by decide⟩))
  rw[hj];refine ag ?_;refine dj (aP 0 [_,_]) [.string ⟨#[]⟩,.string ⟨#[]⟩] [_,_] zeroValue9 runUnderlying32 sizeOf9 (fun Z=>?_);refine aS (cR (S1:=[⟨Z,9,2*1,flatMap cS ([⟨#[70,65,76,83,69]⟩,⟨#[84,82,85,69]⟩])⟩]) (A:=[_])) ?_;refine gr (t:=13) (Sq:=[⟨Z,9,2*1,flatMap cS ([⟨#[70,65,76,83,69]⟩,⟨#[84,82,85,69]⟩])⟩]) lk (cA (g:=cS) (sz:=1) (e:=9) (ls:=[⟨#[70,65,76,83,69]⟩,⟨#[84,82,85,69]⟩]) (Nat.le_refl _) (show 2<=maxLen by decide)) (dg dz _) (cy (A:=[_])) ?_;refine aa (aq 1) ?_;refine aa (aC 0) ?_;refine aa (di 1 (h:=by first|exact .l (j:=j) rfl l6|exact .r (j:=j) rfl l6)) ?_;refine aa (cn (mk:=Op.load 9) rfl ot (by exact jr (i:=j) dz isAgg9 l6 rfl)) ?_;refine dj (aP 0 [_]) [.string ⟨#[]⟩] [_] zeroValue9 runUnderlying32 sizeOf9 (fun yZ=>?_);refine aS (cR (S1:=[⟨yZ,9,1*1,flatMap cS ([([⟨#[70,65,76,83,69]⟩,⟨#[84,82,85,69]⟩]:List ByteArray)[j]'l6])⟩]) (A:=[_])) ?_;refine gr (t:=18) (Sq:=[⟨yZ,9,1*1,flatMap cS ([([⟨#[70,65,76,83,69]⟩,⟨#[84,82,85,69]⟩]:List ByteArray)[j]'l6])⟩]) lk (cA (g:=cS) (sz:=1) (e:=9) (ls:=[([⟨#[70,65,76,83,69]⟩,⟨#[84,82,85,69]⟩]:List ByteArray)[j]'l6]) (Nat.le_refl _) (show 1<=maxLen by decide)) (dg dz _) (cy (A:=[_])) ?_;refine bK call39 (gS [([⟨#[70,65,76,83,69]⟩,⟨#[84,82,85,69]⟩]:List ByteArray)[j]'l6] mV) ?_;refine ae ?_;refine aF [(2,_)] [⟨Y,23,3,[_,_,_]⟩] ?_;refine aD ?_;refine⟨.inr rfl,c6 results41 ?_⟩
  refine⟨?_,rfl⟩;unfold dK;first|(rw[if_pos E];first|done|rfl)|(rw[if_neg E,if_pos J,hj];rcases j with _|_|j<;>first|rfl|omega)|(rw[if_neg E,if_neg I,if_pos aX];first|done|rfl)|(rw[if_neg E,if_neg I,if_neg aX,if_pos w8,show -v.n=0-v.n by omega];first|done|rfl)|(rw[if_neg E,if_neg I,if_neg aX,if_neg w8];first|done|rfl)
 have I:=K
 (try simp only[V.ah,ne_eq] at I)
 refine ag ?_;refine aa (aq 0) ?_;refine aa (aC 0) ?_;refine aa az ?_;refine ae ?_;refine ak [1,20] ?_;refine aI ot (fun M=>?_) (fun M=>?_)
 ·have aX:=M
  (try simp only[V.ah,ne_eq] at aX)
  refine ag ?_;refine aa (aq 2) ?_;refine aa (aC 0) ?_;refine aa (ct (pl:=[(0,_),(1,_)]) (ds:=[_,_,_]) rfl zeroValue28 runUnderlying28 nh ⟨rfl,aJ,rfl,ot,trivial⟩ rfl rfl) ?_;refine dj (aP 0 [_]) [.int .i64 0,.string ⟨#[]⟩,.int .i64 0] [_,_,_] zeroValue28 runUnderlying29 sizeOf28 (fun N=>?_);refine aS (cR (S1:=[⟨N,28,1*3,flatMap cT ([(⟨3,v.s,0⟩:Tk)])⟩]) (A:=[_])) ?_;refine ae ?_;refine aY (Wk.aO (n:=42) (l':=[(2,_)]) (S':=(⟨Y,23,3,[_,_,_]⟩::[⟨N,28,1*3,flatMap cT ([(⟨3,v.s,0⟩:Tk)])⟩])) rfl rfl bi) ?_;refine bg ?_;refine iz (t:=2) (Sq:=[⟨N,28,1*3,flatMap cT ([(⟨3,v.s,0⟩:Tk)])⟩]) lk (cA (g:=cT) (sz:=3) (e:=28) (ls:=[(⟨3,v.s,0⟩:Tk)]) (Nat.le_refl _) (show 1<=maxLen by decide)) (dg cZ _) (cy (A:=[_])) ?_;refine aD ?_;refine⟨.inr rfl,c6 results41 ?_⟩;refine⟨?_,rfl⟩;unfold dK;first|(rw[if_pos E];first|done|rfl)|(rw[if_neg E,if_pos J,hj];rcases j with _|_|j<;>first|rfl|omega)|(rw[if_neg E,if_neg I,if_pos aX];first|done|rfl)|(rw[if_neg E,if_neg I,if_neg aX,if_pos w8,show -v.n=0-v.n by omega];first|done|rfl)|(rw[if_neg E,if_neg I,if_neg aX,if_neg w8];first|done|rfl)
 have aX:=M
 (try simp only[V.ah,ne_eq] at aX)
 refine ag ?_;refine aa (aq 1) ?_;refine aa (aC 0) ?_;refine aa az ?_;refine ae ?_;refine ak [1,28] ?_;refine aI ot (fun O=>?_) (fun O=>?_)
 ·have bn:=O
  (try simp only[V.ah,ne_eq] at bn)
  refine aA ?_;refine dB (au _) af (fun _ h=>h) ?_;refine ai 1 rfl (aq 1) ?_;refine ai 2 rfl (aC 0) ?_;refine ai 3 rfl (rJ rfl ot (xh (wrap_i64 w8 w8))) ?_;refine ai 4 rfl (ct (pl:=[(0,_),(2,_)]) (ds:=[_,_,_]) rfl zeroValue28 runUnderlying28 nh ⟨rfl,aJ,rfl,ot,trivial⟩ rfl rfl) ?_;refine bp.later rfl ?_;refine aG (i:=0) af ?_;refine bS call44 (dP ⟨#[45]⟩) ?_;refine aG (i:=5) af ?_;refine bk (aP 0 [_,_]) [.int .i64 0,.string ⟨#[]⟩,.int .i64 0,.int .i64 0,.string ⟨#[]⟩,.int .i64 0] [_,_,_,_,_,_] zeroValue28 runUnderlying29 sizeOf28 (fun oF=>?_);refine bj 0 37 3 2 ?_;refine bx 6 rfl aU ?_;refine bL [(2,_)] [⟨Y,23,3,[_,_,_]⟩] ?_;refine bC af ?_;refine aD ?_;refine⟨.inr rfl,c6 results41 ?_⟩;refine⟨?_,rfl⟩;unfold dK;first|(rw[if_pos E];first|done|rfl)|(rw[if_neg E,if_pos J,hj];rcases j with _|_|j<;>first|rfl|omega)|(rw[if_neg E,if_neg I,if_pos aX];first|done|rfl)|(rw[if_neg E,if_neg I,if_neg aX,if_pos w8,show -v.n=0-v.n by omega];first|done|rfl)|(rw[if_neg E,if_neg I,if_neg aX,if_neg w8];first|done|rfl)
 have bn:=O
 (try simp only[V.ah,ne_eq] at bn)
 refine aN ?_;refine ag ?_;refine aa (aq 1) ?_;refine aa (aC 0) ?_;refine aa (ct (pl:=[(0,_),(2,_)]) (ds:=[_,_,_]) rfl zeroValue28 runUnderlying28 nh ⟨rfl,aJ,rfl,ot,trivial⟩ rfl rfl) ?_;refine dj (aP 0 [_]) [.int .i64 0,.string ⟨#[]⟩,.int .i64 0] [_,_,_] zeroValue28 runUnderlying29 sizeOf28 (fun U=>?_);refine aS (cR (S1:=[⟨U,28,1*3,flatMap cT ([(⟨2,⟨#[]⟩,v.n⟩:Tk)])⟩]) (A:=[_])) ?_;refine ae ?_;refine aY (Wk.aO (n:=42) (l':=[(2,_)]) (S':=(⟨Y,23,3,[_,_,_]⟩::[⟨U,28,1*3,flatMap cT ([(⟨2,⟨#[]⟩,v.n⟩:Tk)])⟩])) rfl rfl bi) ?_;refine bg ?_;refine iz (t:=2) (Sq:=[⟨U,28,1*3,flatMap cT ([(⟨2,⟨#[]⟩,v.n⟩:Tk)])⟩]) lk (cA (g:=cT) (sz:=3) (e:=28) (ls:=[(⟨2,⟨#[]⟩,v.n⟩:Tk)]) (Nat.le_refl _) (show 1<=maxLen by decide)) (dg cZ _) (cy (A:=[_])) ?_;refine aD ?_;refine⟨.inr rfl,c6 results41 ?_⟩;refine⟨?_,rfl⟩;unfold dK;first|(rw[if_pos E];first|done|rfl)|(rw[if_neg E,if_pos J,hj];rcases j with _|_|j<;>first|rfl|omega)|(rw[if_neg E,if_neg I,if_pos aX];first|done|rfl)|(rw[if_neg E,if_neg I,if_neg aX,if_pos w8,show -v.n=0-v.n by omega];first|done|rfl)|(rw[if_neg E,if_neg I,if_neg aX,if_neg w8];first|done|rfl)
theorem vH(k:Int)(h:k=3\/k=4\/6<=k/\k<=10):VP Tryd.prog G 59 [aj k] (.agg (cT (eO k))):=by
 refine cL func59 rfl ntmps59 aV fun U w0 O=>?_;refine ag ?_;refine ep (ds:=[_,_,_]) av rfl rfl zeroValue28 rfl (fun N=>?_);refine aF [(0,_),(2,_)] [⟨N,28,3,[_,_,_]⟩] ?_;refine aA ?_;refine ag ?_;refine ae ?_;refine ak [0,2,3] ?_;refine bO ?_;refine ag ?_;refine aa az ?_;refine ae ?_;refine ak [0,2,3,4] ?_;refine aI ot (fun ax=>?_) (fun ax=>?_)
 ·have I:=ax
  (try simp only[V.ah,ne_eq] at I)
  refine ag ?_;refine bK call56 (jV ⟨#[65,78,68]⟩) ?_;refine bq 0 [_,_,_] sizeOf28 ?_;refine aF [(2,_)] [⟨N,28,3,[_,_,_]⟩] ?_;refine aD ?_;refine⟨.inr rfl,_,[],nil_sublist _,c8 results59 (dG (k:=0) (ds:=[_,_,_]) aV lk rfl rfl isAgg28 sizeOf28 rfl rfl),?_⟩;refine⟨?_,rfl⟩;unfold eO;first|(rw[if_neg K,if_neg M,show((j:Nat):Int).toNat=j from rfl,getD_eq_getElem?_getD,getElem?_eq_getElem hj];rfl)|(rw[if_pos jC];rfl)|(rw[if_neg jC,if_pos (by simpa using E)];rfl)
 have I:=ax
 (try simp only[V.ah,ne_eq] at I)
 refine ag ?_;refine aa az ?_;refine ae ?_;refine ak [0,2,7] ?_;refine aI ot (fun E=>?_) (fun E=>?_)
 ·have J:=E
  (try simp only[V.ah,ne_eq] at J)
  refine ag ?_;refine bK call56 (jV ⟨#[79,82]⟩) ?_;refine bq 0 [_,_,_] sizeOf28 ?_;refine aF [(2,_)] [⟨N,28,3,[_,_,_]⟩] ?_;refine aD ?_;refine⟨.inr rfl,_,[],nil_sublist _,c8 results59 (dG (k:=0) (ds:=[_,_,_]) aV lk rfl rfl isAgg28 sizeOf28 rfl rfl),?_⟩;refine⟨?_,rfl⟩;unfold eO;first|(rw[if_neg K,if_neg M,show((j:Nat):Int).toNat=j from rfl,getD_eq_getElem?_getD,getElem?_eq_getElem hj];rfl)|(rw[if_pos jC];rfl)|(rw[if_neg jC,if_pos (by simpa using E)];rfl)
 have J:=E
 (try simp only[V.ah,ne_eq] at J)
 refine aN ?_;refine aA ?_;have K:¬k=3:=(by simpa using ax)
 have M:¬k=4:=(by simpa using E)
 obtain⟨j,rfl⟩:∃j:Nat,k=(j:Int):=⟨k.toNat,by omega⟩
 have hj:j<11:=(by omega)
 refine aR ?_;refine aa (Ac (pl:=[(6,_),(7,_),(8,_),(9,_),(10,_)]) (ds:=[_,_,_,_,_,_,_,_,_,_,_]) rfl zeroValue97 runUnderlying97 sizeOf9 ⟨rfl,aJ,rfl,aJ,rfl,aJ,rfl,aJ,rfl,aJ,trivial⟩ rfl rfl) ?_;refine ae ?_;refine aa (vu (j:=j) rfl ot ot runUnderlying97 sizeOf9 isAgg9 rfl hj (Cv hj)) ?_;refine bK call44 (dP (pR[j]'hj)) ?_;refine bq 0 [_,_,_] sizeOf28 ?_;refine aF [(2,_)] [⟨N,28,3,[_,_,_]⟩] ?_;refine aD ?_;refine⟨.inr rfl,_,[],nil_sublist _,c8 results59 (dG (k:=0) (ds:=[_,_,_]) aV lk rfl rfl isAgg28 sizeOf28 rfl rfl),?_⟩;refine⟨?_,rfl⟩;unfold eO;first|(rw[if_neg K,if_neg M,show((j:Nat):Int).toNat=j from rfl,getD_eq_getElem?_getD,getElem?_eq_getElem hj];rfl)|(rw[if_pos jC];rfl)|(rw[if_neg jC,if_pos (by simpa using E)];rfl)
def oG(q:List Tk):List D:=[ap 3 cT q]
theorem vI:(Tryd.prog.info? 28).map (fun i=>(i.zero,i.size,i.bytes))=some (some (.agg #[.int .i64 0,.string ⟨#[]⟩,.int .i64 0]),3,32):=by kernel_rfl
theorem Av(n:Nat)(h0:0<n)(hn:n<=100000):VC Tryd.prog G 57 [cX,aj (n:Nat)] [] (fun r S=>∃b cap,cap<=maxLen/\r=aB (some ⟨b,0,none⟩) 0 cap/\S=[⟨b,28,cap*3,[]⟩]):=by
 refine cL func57 rfl ntmps57 aV fun M w0 K=>?_;refine ag ?_;refine ae ?_;refine ak [0,1] ?_;refine aA ?_;refine ag ?_;refine ae ?_;refine aa az ?_;refine ak [0,1,6] ?_;refine aI ot (fun ax=>?_) (fun ax=>?_)
 ·exact absurd ax k6
 have I:=ax
 (try simp only[V.ah,ne_eq] at I)
 refine aN ?_;refine aA ?_;refine ag ?_;refine ae ?_;refine ae ?_;refine aa (pb rfl rfl ot runUnderlying29) ?_;refine ae ?_;refine aa (cn (mk:=fun y=>.call {callee:=.builtin .len,args:=#[y],argTypes:=#[29]}) rfl ot (pD rfl runUnderlying29)) ?_;refine aa az ?_;refine aa az ?_;refine ae ?_;refine aF [(0,_),(1,_)] [] ?_;refine ag ?_;refine ae ?_;refine aa az ?_;refine ak [0,1,16] ?_;refine aI ot (fun E=>?_) (fun E=>?_)
 ·have J:=E
  (try simp only[V.ah,ne_eq] at J)
  refine aR ?_;refine ae ?_;refine ae ?_;refine aa (pb rfl rfl ot runUnderlying29) ?_;refine aa (vg rfl ot rfl ⟨_,_,ot,rfl⟩ runUnderlying29 sizeOf28) ?_;refine ae ?_;refine vm (m:=n) (sz:=3) av rfl rfl underlying29 underlying3 vI rfl bR ot (Eq.trans ot (congrArg (fun z=>D.v (.int .i64 z)) (show((n:Nat):Int)-(0-0)=((n:Nat):Int) by omega))) h0 qv w8 (fun b cap h1 h2=>?_);refine ae ?_;refine aa (cn (mk:=fun y=>.call {callee:=.builtin .len,args:=#[y],argTypes:=#[29]}) rfl ot (pD rfl runUnderlying29)) ?_;refine aa (eU (l:=0) (h:=0) rfl ot trivial ⟨_,ot⟩ (by first|exact sc (fun h=>by cases h) runUnderlying29 sizeOf28 w8|exact px (fun _=>rfl) (fun h=>by cases h) runUnderlying29 sizeOf28 w8 w8)) ?_;refine ae ?_;refine aF [(0,_)] [_] ?_;refine ag ?_;refine ae ?_;refine ae ?_;refine ak [4] ?_;refine aD ?_;refine⟨.inr rfl,_,[⟨b,28,cap*3,[]⟩],Sublist.refl _,c8 results57 (dm aV lk),?_⟩;exact⟨b,cap,h2,rfl,rfl⟩
 exact absurd E (by simp at E;omega)
theorem z7(ls:List (List Tk))(Eg:ls.length<=1000)(h0:0<ls.flatten.length)(hn:ls.flatten.length<=100000):VC Tryd.prog G 43 [ap 1 oG ls] [] (fun r S=>∃ad cap,r=aB ad ls.flatten.length cap/\bQ 28 3 (ls.flatten.flatMap cT) ls.flatten.length ad cap S):=by
 refine cL func43 rfl ntmps43 aV fun X0 w0 dM=>?_;refine ag ?_;refine ae ?_;refine ak [0] ?_;refine ag ?_;refine ae ?_;refine ak [0,3] ?_;refine aA ?_;refine ag ?_;refine ae ?_;refine aa bV ?_;refine ae ?_;refine ak [0,3,9,10,11] ?_;refine bO ?_;refine ed (fun (j:Nat) U=>(j<=ls.length)/\U=(⟨36,[(0,ap 1 oG ls),(3,aj ((((ls.take j).flatten).length:Nat):Int)),(9,ap 1 oG ls),(10,aj (ls.length:Nat)),(11,aj (j:Nat))],[]⟩:St)) (fun (j:Nat)=>ls.length-j) 0 ⟨(Nat.zero_le _),rfl⟩ (Wk.bz rfl c5 qj) ?_;rintro j _ ⟨hj,rfl⟩;refine ag ?_;refine aa az ?_;refine ak [0,3,9,10,11,12] ?_;refine aA ?_;refine aI ot (fun ax=>?_) (fun ax=>?_)
 ·have E:=ax
  (try simp only[V.ah,ne_eq] at E)
  have aH:j<ls.length:=(by simp at ax;omega)
  have Y:=oN aH;have hle:=oP ls (j+1);refine aN ?_;refine aA ?_;refine bO ?_;refine ag ?_;refine aa (di 1 (h:=ql)) ?_;refine aa eA ?_;refine ae ?_;refine ak [0,3,5,9,10,11] ?_;refine ag ?_;refine ae ?_;refine ae ?_;refine aa bV ?_;refine aa (fc (r:=.int .i64 ((((ls.take (j+1)).flatten).length:Nat):Int)) rfl ot ot (pA yp)) ?_;refine ae ?_;refine aF [(0,_),(3,_),(9,_),(10,_),(11,_)] [] ?_;refine ag ?_;refine ae ?_;refine aa az ?_;refine ak [0,3,9,10,11,20] ?_;refine aI ot (fun N=>?_) (fun N=>?_)
  ·exact absurd N (by simp at N;omega)
  have Z:=N
  (try simp only[V.ah,ne_eq] at Z)
  refine aN ?_;refine aR ?_;refine aa az ?_;refine ae ?_;refine ak [0,3,9,10,11] ?_;refine⟨(j+1),_,?_,?_,w8,rfl⟩
  ·first|omega|(simp only[];omega)
  exact Wk.bz (n:=36) rfl c5 qj
 have E:=ax
 (try simp only[V.ah,ne_eq] at E)
 obtain rfl:j=ls.length:=(by simp at ax;omega)
 rw[take_length];refine dJ ?_;refine ag ?_;refine ae ?_;refine cG av rfl rfl rfl call57 (Av ls.flatten.length h0 hn) ⟨aJ,ot,trivial⟩ (Perm.refl _) ?_;rintro _ _ ⟨b,cp,uI,rfl,rfl⟩;refine aS (S':=[⟨b,28,cp*3,[]⟩]) (Perm.refl _) ?_;refine ae ?_;refine aY (Wk.aO (n:=36) (l':=[(0,_),(6,_)]) (S':=([⟨b,28,cp*3,[]⟩])) rfl rfl bi) ?_;refine bg ?_;refine aA ?_;refine ag ?_;refine ae ?_;refine aa bV ?_;refine ae ?_;refine ak [6,25,26,27] ?_;refine bO ?_;refine ed (fun (I:Nat×Option Addr×Nat×List ay) U=>match I with|(j,J,K,Sx)=>(j<=ls.length)/\(bQ 28 3 (((ls.take j).flatten).flatMap cT) ((ls.take j).flatten).length J K Sx)/\U=(⟨36,[(6,aB J ((ls.take j).flatten).length K),(25,ap 1 oG ls),(26,aj (ls.length:Nat)),(27,aj (j:Nat))],(Sx)⟩:St)) (fun (I:Nat×Option Addr×Nat×List ay)=>match I with|(j,J,K,Sx)=>ls.length-j) (0,(some ⟨b,0,none⟩),cp,[⟨b,28,cp*3,[]⟩]) ⟨(Nat.zero_le _),(bQ.cast (vT uI) (by rfl)),rfl⟩ (Wk.bz rfl cw qi) ?_;rintro⟨j,J,K,Sx⟩ _ ⟨hj,gl,rfl⟩;refine ag ?_;refine aa az ?_;refine ak [6,25,26,27,28] ?_;refine aA ?_;refine aI ot (fun M=>?_) (fun M=>?_)
 ·have aX:=M
  (try simp only[V.ah,ne_eq] at aX)
  have aH:j<ls.length:=(by simp at M;omega)
  have Y:=oN aH;have hle:=oP ls (j+1);refine aN ?_;refine aA ?_;refine bO ?_;refine ag ?_;refine aa (di 1 (h:=ql)) ?_;refine aa eA ?_;refine ae ?_;refine ak [6,8,25,26,27] ?_;refine aR ?_;refine ae ?_;refine ae ?_;refine mr (ls:=((ls.take j).flatten)) (new:=ls[j]) (Sq:=Sx) cZ ff av rfl rfl underlying29 vI rfl bR runUnderlying29 sizeOf28 ot gl (cy (A:=[])) ot qv w8 (fun sP sQ oA sR=>?_);refine aS (cR (A:=[])) ?_;refine ae ?_;refine aY (Wk.aO (n:=36) (l':=[(6,_),(25,_),(26,_),(27,_)]) (S':=(oA)) rfl rfl bi) ?_;refine bg ?_;refine aR ?_;refine aa az ?_;refine ae ?_;refine ak [6,25,26,27] ?_;refine⟨((j+1),sP,sQ,oA),_,?_,?_,w8,(bQ.cast sR (by rw[oV aH])),rfl⟩
  ·first|omega|(simp only[];omega)
  exact Wk.bz (n:=36) rfl cw qi
 have aX:=M
 (try simp only[V.ah,ne_eq] at aX)
 obtain rfl:j=ls.length:=(by simp at M;omega)
 refine dJ ?_;refine ag ?_;refine ae ?_;refine ae ?_;refine ak [2] ?_;refine aD ?_;refine⟨.inr rfl,_,Sx,Sublist.refl _,c8 results43 (dm aV lk),?_⟩;have O:=gl;rw[take_length] at O;exact⟨J,K,by rw[take_length],O⟩
theorem dX(ls:List (List Tk))(E:ls.length<=1000)(h0:0<ls.flatten.length)(hn:ls.flatten.length<=100000):VP Tryd.prog G 43 [ap 1 oG ls] (ap 3 cT ls.flatten):=VC.nG cZ (z7 ls E h0 hn)
def jz(o:aT)(a b:List Tk):List Tk :=
 if o.k=1 then dK o.v else if o.k=2 then [aM o.nm]
 else if o.k=5 then [[aW ⟨#[40]⟩,aM ⟨#[78,79,84]⟩],a,[aW ⟨#[41]⟩]].flatten
 else if o.k=11 then [[aW ⟨#[40]⟩],a,[aM ⟨#[73,83]⟩,aM ⟨#[78,85,76,76]⟩],[aW ⟨#[41]⟩]].flatten
 else [[aW ⟨#[40]⟩],a,[eO o.k],b,[aW ⟨#[41]⟩]].flatten
def bl(h:List (List Tk))(o:aT):Nat:=h.length-(eJ o.k).toNat
def gx(h:List (List Tk))(o:aT):List (List Tk):=h.take (bl h o)++[jz o (h.getD (bl h o) []) (h.getD (bl h o+1) [])]
def ie(l:List aT):List Tk:=(l.foldl gx []).getD 0 []
theorem BA{h:Int}(he:eY h o=0):1<=o.k/\o.k<=11/\fF o.v=0/\eJ o.k<=h:=by
 unfold eY at he;split at he
 ·cases he
 split at he
 ·exact absurd he dS
 split at he
 ·cases he
 split at he
 ·rename_i E;exact absurd he E.2
 split at he
 ·cases he
 exact⟨by omega,by omega,by omega,by omega⟩
theorem BB{l:List aT}{h:Int}(hi:i<l.length)(he:eN h (l.drop i)=0):eY h l[i]=0:=by
 rw[drop_eq_getElem_cons hi,eN] at he;split at he
 ·assumption
 exact he
theorem xp{v:Vl}(h:fF v=0)(h1:-9223372036854775808<=v.n)(h2:v.n<=9223372036854775807):qP v:=by
 unfold fF fV at h;split at h
 ·cases h
 have hn:¬(v.k=2/\v.n = -9223372036854775808):=(by assumption)
 repeat' split at h
 all_goals first|(exfalso;omega)|(unfold qP;refine⟨?_,?_,h2⟩<;>omega)
theorem wq(hp:eJ o.k<=(h.length:Int)):((gx h o).length:Int)=h.length+(1-eJ o.k):=by
 have:=pF o.k;unfold gx bl;rw[length_append,length_take];simp only[length_cons,length_nil];omega
theorem ng(h:List (List Tk))(n:Nat):h.flatten.length=(h.take n).flatten.length+(h.drop n).flatten.length:=by
 conv=>lhs;rw[<-take_append_drop n h,flatten_append,length_append]
theorem kJ:(h.getD n []).length<=(h.drop n).flatten.length/\(h.getD n []).length+(h.getD (n+1) []).length<=(h.drop n).flatten.length:=by
 by_cases hn:n<h.length
 ·rw[drop_eq_getElem_cons hn];have J:h.getD n []=h[n]:=(by rw[getD_eq_getElem?_getD,getElem?_eq_getElem hn];rfl)
  rw[J,flatten_cons,length_append];refine⟨by omega,?_⟩;by_cases E:n+1<h.length
  ·rw[drop_eq_getElem_cons E,flatten_cons,length_append];have I:h.getD (n+1) []=h[n+1]:=(by rw[getD_eq_getElem?_getD,getElem?_eq_getElem E];rfl)
   rw[I];omega
  have I:h.getD (n+1) []=[]:=(by rw[getD_eq_getElem?_getD,getElem?_eq_none w8];rfl)
  rw[I];simp only[length_nil];omega
 have J:h.getD n []=[]:=(by rw[getD_eq_getElem?_getD,getElem?_eq_none w8];rfl)
 have I:h.getD (n+1) []=[]:=(by rw[getD_eq_getElem?_getD,getElem?_eq_none w8];rfl)
 rw[J,I];exact⟨by simp,by simp⟩
theorem wX(o:aT)(a b:List Tk):(jz o a b).length<=a.length+b.length+5/\0<(jz o a b).length:=by
 have:=vU o.v;unfold jz;repeat' split
 all_goals first|exact⟨by omega,by omega⟩|(simp only[flatten_cons,flatten_nil,length_append,length_cons,length_nil];exact⟨by omega,by omega⟩)
theorem vV:(gx h o).flatten.length<=h.flatten.length+5:=by
 have h1:=ng h (bl h o);have h2:=(kJ (h:=h) (n:=bl h o)).2;have E:=(wX o (h.getD (bl h o) []) (h.getD (bl h o+1) [])).1;unfold gx;rw[flatten_append,length_append];simp only[flatten_cons,flatten_nil,append_nil];omega
theorem Aw{l:List aT}(hi:i<l.length):(l.take (i+1)).foldl gx []=gx ((l.take i).foldl gx []) l[i]:=by
 rw[take_succ_eq_append_getElem hi,foldl_append];rfl
theorem pG{e sz cap:Nat}{cs:List D}{ad:Option Addr}{S:List ay}(h:bQ e sz cs n ad cap S)(hn:0<n):∃b,ad=some ⟨b,0,none⟩/\n<=cap/\cap<=maxLen/\S=[⟨b,e,cap*sz,cs⟩]:=by
 rcases h with ⟨h1,_⟩|h
 ·omega
 exact h
theorem hM{h:List α}{d:α}(hn:n<h.length):h.getD n d=h[n]:=by rw[getD_eq_getElem?_getD,getElem?_eq_getElem hn];rfl
theorem Ai:(Tryd.prog.info? 29).map (fun i=>(i.zero,i.size,i.bytes))=some (some (.slice none 0 0),1,24):=by kernel_rfl
theorem rq(l:List aT)(hl:l.length<=40)(he:eN 0 l=0)(hr:∀o∈l,-9223372036854775808<=o.v.n/\o.v.n<=9223372036854775807):VP Tryd.prog G 45 [ap 5 cO l] (.list 3 ((ie l).flatMap cT) (ie l).length):=by
 refine cL func45 rfl ntmps45 aV fun X0 w0 dM=>?_;have gg:=ju;refine ag ?_;refine ae ?_;refine ak [0] ?_;refine ag ?_;refine ae ?_;refine ak [0,3] ?_;refine aA ?_;refine ag ?_;refine ae ?_;refine aa bV ?_;refine ae ?_;refine ak [3,8,9,10] ?_;refine bO ?_;refine ed (fun (gA:Nat×List (List Tk)×Option Addr×Nat×List ay) cz=>match gA with|(i,H,nc,E,Sh)=>(i<=l.length)/\(H=(l.take i).foldl gx [])/\(eN ((H).length:Int) (l.drop i)=0)/\((H).length<=i)/\((H).flatten.length<=5*i)/\(bQ 29 1 ((H).flatMap cK) (H).length nc E Sh)/\cz=(⟨90,[(3,aB nc (H).length E),(8,ap 5 cO l),(9,aj (l.length:Nat)),(10,aj (i:Nat))],(Sh)⟩:St)) (fun (gA:Nat×List (List Tk)×Option Addr×Nat×List ay)=>match gA with|(i,H,nc,E,Sh)=>l.length-i) (0,[],none,0,[]) ⟨(Nat.zero_le _),rfl,he,(Nat.le_refl _),(Nat.le_refl _),(bQ.cast kM (by rfl)),rfl⟩ (Wk.bz rfl cw yl) ?_;rintro⟨i,H,nc,E,Sh⟩ _ ⟨hi,hH,hx,Fk,Fl,nf,rfl⟩;refine ag ?_;refine aa az ?_;refine ak [3,8,9,10,11] ?_;refine aA ?_;refine aI ot (fun ax=>?_) (fun ax=>?_)
 ·have ev:=ax
  (try simp only[V.ah,ne_eq] at ev)
  have aH:i<l.length:=(by simp at ax;omega)
  have y4:=BB aH hx;obtain⟨m3,EW,lV,y5⟩:=BA y4;have Ed:=pF l[i].k;have EX:l.length<=40:=hl;have EY:bl H l[i]<=H.length:=Nat.sub_le _ _;have Dt:=xp lV (hr _ (getElem_mem aH)).1 (hr _ (getElem_mem aH)).2;refine aN ?_;refine aA ?_;refine bO ?_;refine ag ?_;refine aa (di 5 (h:=kZ)) ?_;refine aa (jc [_,_,_,_,_]) ?_;refine ep (ds:=[_,_,_,_,_]) av rfl rfl zeroValue41 rfl (fun I=>?_);refine bq 0 [_,_,_,_,_] sizeOf41 ?_;refine aY (Wk.aO (n:=90) (l':=[(3,_),(5,_),(8,_),(9,_),(10,_)]) (S':=(⟨I,41,5,[_,_,_,_,_]⟩::Sh)) rfl rfl bi) ?_;refine bg ?_;refine ag ?_;refine ae ?_;refine aa bV ?_;refine aa (aq 0) ?_;refine aa (aC 0) ?_;refine bK call58 (r7 l[i].k) ?_;refine aa (fc (r:=.int .i64 (((bl H l[i]):Nat):Int)) rfl ot ot (nu (by rw[show((H.length:Nat):Int)-eJ l[i].k=(((bl H l[i]):Nat):Int) by unfold bl;omega];exact wrap_i64 w8 w8))) ?_;refine ae ?_;refine aY (Wk.aO (n:=90) (l':=[(3,_),(5,_),(6,_),(8,_),(9,_),(10,_)]) (S':=(⟨I,41,5,[_,_,_,_,_]⟩::Sh)) rfl rfl bi) ?_;refine bg ?_;refine ag ?_;refine ae ?_;refine ak [3,5,6,8,9,10] ?_
  refine jX (fun cz=>∃(Tx:List Tk),∃(ad:Option Addr),∃(cp:Nat),∃(Sx:List ay),(Tx=jz l[i] (H.getD (bl H l[i]) []) (H.getD (bl H l[i]+1) []))/\(bQ 29 1 (H.flatMap cK) H.length ad cp Sx)/\cz=(⟨90,[(3,aB ad H.length cp),(6,aj ((bl H l[i]):Nat)),(7,ap 3 cT Tx),(8,ap 5 cO l),(9,aj (l.length:Nat)),(10,aj (i:Nat))],Sx⟩:St)) ?_ ?_
  ·refine ag ?_;refine aa (aq 0) ?_;refine aa (aC 0) ?_;refine ak [3,5,6,8,9,10,21] ?_;refine bO ?_;refine ag ?_;refine aa az ?_;refine ae ?_;refine ak [3,5,6,8,9,10,21,41] ?_;refine aI ot (fun bW=>?_) (fun bW=>?_)
   ·have M:=bW
    (try simp only[V.ah,ne_eq] at M)
    refine aR ?_;refine aa (aq 1) ?_;refine aa (dF 0 [_,_,_]) ?_;refine bK call41 (vj l[i].v Dt) ?_;refine ae ?_;refine aY (Wk.aO (n:=90) (l':=[(3,_),(6,_),(7,_),(8,_),(9,_),(10,_)]) (S':=(⟨I,41,5,[_,_,_,_,_]⟩::Sh)) rfl rfl bi) ?_;refine bg ?_;refine⟨_,?_,dK l[i].v,nc,E,Sh,(by unfold jz;rw[if_pos M]),nf,rfl⟩;exact Wk.bz (n:=90) rfl c5 cD
   have M:=bW
   (try simp only[V.ah,ne_eq] at M)
   refine ag ?_;refine aa az ?_;refine ae ?_;refine ak [3,5,6,8,9,10,21,46] ?_;refine aI ot (fun ck=>?_) (fun ck=>?_)
   ·have aX:=ck
    (try simp only[V.ah,ne_eq] at aX)
    refine aR ?_;refine aa (aq 4) ?_;refine aa (aC 0) ?_;refine dj (aP 0 [_]) [.string ⟨#[]⟩] [_] zeroValue9 runUnderlying32 sizeOf9 (fun oH=>?_);refine aS (lI (S2:=[⟨oH,9,1*1,flatMap cS ([l[i].nm])⟩]) (A:=[_])) ?_;refine gr (t:=50) (Sq:=[⟨oH,9,1*1,flatMap cS ([l[i].nm])⟩]) lk (cA (g:=cS) (sz:=1) (e:=9) (ls:=[l[i].nm]) (Nat.le_refl _) (show 1<=maxLen by decide)) (dg dz _) (mz (A:=[_])) ?_;refine bK call39 (gS [l[i].nm] mV) ?_;refine ae ?_;refine aY (Wk.aO (n:=90) (l':=[(3,_),(6,_),(7,_),(8,_),(9,_),(10,_)]) (S':=(⟨I,41,5,[_,_,_,_,_]⟩::Sh)) rfl rfl bi) ?_;refine bg ?_;refine⟨_,?_,[aM l[i].nm],nc,E,Sh,(by unfold jz;rw[if_neg M,if_pos aX]),nf,rfl⟩;exact Wk.bz (n:=90) rfl c5 cD
   have aX:=ck
   (try simp only[V.ah,ne_eq] at aX)
   refine ag ?_;refine aa az ?_;refine ae ?_;refine ak [3,5,6,8,9,10,21,52] ?_;refine aI ot (fun cx=>?_) (fun cx=>?_)
   ·have bn:=cx
    (try simp only[V.ah,ne_eq] at bn)
    have Et:l[i].k=5:=(by simpa using cx)
    have iP:eJ l[i].k=1:=(by rw[Et];decide)
    have hg1:=(kJ (h:=H) (n:=bl H l[i])).1;have hg2:=(kJ (h:=H) (n:=bl H l[i])).2;have hg3:=ng H (bl H l[i]);have n6:0<H.length:=(by omega)
    obtain⟨bh,N,Y,Z,mo⟩:=pG nf n6;subst N mo;have dH:bl H l[i]<H.length:=(by unfold bl;omega)
    rw[hM dH] at hg1 hg2;skip;refine CD.mono (Q:=fun oI cz=>oI=Exit.normal/\(True)/\Wk cz (⟨90,[(3,aB (some ⟨bh,0,none⟩) H.length E),(6,aj ((bl H l[i]):Nat)),(7,.list 3 (([[aW ⟨#[40]⟩,aM ⟨#[78,79,84]⟩],H[bl H l[i]],[aW ⟨#[41]⟩]].flatten).flatMap cT) ([[aW ⟨#[40]⟩,aM ⟨#[78,79,84]⟩],H[bl H l[i]],[aW ⟨#[41]⟩]].flatten).length),(8,ap 5 cO l),(9,aj l.length),(10,aj (i:Nat))],[⟨I,41,5,cO l[i]⟩,⟨bh,29,E*1,H.flatMap cK⟩]⟩:St)) ?_ ?_
    ·refine dB (au _) af (fun _ h=>h) ?_;refine ai 3 rfl aU ?_;refine ai 4 rfl aU ?_;refine ai 5 rfl (di 1 (h:=tJ)) ?_;first|refine ai 6 rfl (cn (mk:=Op.load 29) rfl ot tP) ?_|refine ai 6 rfl (cn (mk:=Op.load 29) rfl ot tO) ?_|refine ai 6 rfl (cn (mk:=Op.load 29) rfl ot tN) ?_
     refine bp.later rfl ?_;refine aG (i:=0) af ?_;refine bS call44 (dP ⟨#[40]⟩) ?_;refine aG (i:=1) af ?_;refine bS call56 (jV ⟨#[78,79,84]⟩) ?_;refine dn (i:=2) (j:=7) af ?_ ?_
     ·refine bk (aP 0 [_,_]) [.int .i64 0,.string ⟨#[]⟩,.int .i64 0,.int .i64 0,.string ⟨#[]⟩,.int .i64 0] [_,_,_,_,_,_] zeroValue28 runUnderlying29 sizeOf28 (fun y6=>?_);refine bj 0 56 3 2 ?_;refine aG (i:=7) af ?_;refine bS call44 (dP ⟨#[41]⟩) ?_;refine aG (i:=8) af ?_;refine bk (aP 0 [_]) [.int .i64 0,.string ⟨#[]⟩,.int .i64 0] [_,_,_] zeroValue28 runUnderlying29 sizeOf28 (fun oJ=>?_);refine bj 0 62 3 1 ?_;refine aG (i:=9) af ?_;refine bk (aP 0 [_,_,_]) [.slice none 0 0,.slice none 0 0,.slice none 0 0] [_,_,_] zeroValue29 runUnderlying79 sizeOf29 (fun y7=>?_);refine bj 0 63 1 3 ?_;refine aG (i:=10) af ?_;refine bS call43 (dX ([[aW ⟨#[40]⟩,aM ⟨#[78,79,84]⟩],H[bl H l[i]],[aW ⟨#[41]⟩]]) ey w4 w4) ?_;refine bx 11 rfl aU ?_;refine bL [(3,_),(6,_),(7,_),(8,_),(9,_),(10,_)] [⟨I,41,5,[_,_,_,_,_]⟩,_] ?_;refine bC af ?_;exact⟨rfl,trivial,Wk.refl _⟩
     refine bS call44 (dP ⟨#[41]⟩) ?_;refine dn (i:=2) (j:=8) af ?_ ?_
     ·refine bk (aP 0 [_,_]) [.int .i64 0,.string ⟨#[]⟩,.int .i64 0,.int .i64 0,.string ⟨#[]⟩,.int .i64 0] [_,_,_,_,_,_] zeroValue28 runUnderlying29 sizeOf28 (fun y6=>?_);refine bj 0 56 3 2 ?_;refine aG (i:=8) af ?_;refine bk (aP 0 [_]) [.int .i64 0,.string ⟨#[]⟩,.int .i64 0] [_,_,_] zeroValue28 runUnderlying29 sizeOf28 (fun oJ=>?_);refine bj 0 62 3 1 ?_;refine aG (i:=9) af ?_;refine bk (aP 0 [_,_,_]) [.slice none 0 0,.slice none 0 0,.slice none 0 0] [_,_,_] zeroValue29 runUnderlying79 sizeOf29 (fun y7=>?_);refine bj 0 63 1 3 ?_;refine aG (i:=10) af ?_;refine bS call43 (dX ([[aW ⟨#[40]⟩,aM ⟨#[78,79,84]⟩],H[bl H l[i]],[aW ⟨#[41]⟩]]) ey w4 w4) ?_;refine bx 11 rfl aU ?_;refine bL [(3,_),(6,_),(7,_),(8,_),(9,_),(10,_)] [⟨I,41,5,[_,_,_,_,_]⟩,_] ?_;refine bC af ?_;exact⟨rfl,trivial,Wk.refl _⟩
     refine bk (aP 0 [_]) [.int .i64 0,.string ⟨#[]⟩,.int .i64 0] [_,_,_] zeroValue28 runUnderlying29 sizeOf28 (fun oJ=>?_);refine bj 0 62 3 1 ?_;refine aG (i:=2) af ?_;refine bk (aP 0 [_,_]) [.int .i64 0,.string ⟨#[]⟩,.int .i64 0,.int .i64 0,.string ⟨#[]⟩,.int .i64 0] [_,_,_,_,_,_] zeroValue28 runUnderlying29 sizeOf28 (fun y6=>?_);refine bj 0 56 3 2 ?_;refine aG (i:=9) af ?_;refine bk (aP 0 [_,_,_]) [.slice none 0 0,.slice none 0 0,.slice none 0 0] [_,_,_] zeroValue29 runUnderlying79 sizeOf29 (fun y7=>?_);refine bj 0 63 1 3 ?_;refine aG (i:=10) af ?_;refine bS call43 (dX ([[aW ⟨#[40]⟩,aM ⟨#[78,79,84]⟩],H[bl H l[i]],[aW ⟨#[41]⟩]]) ey w4 w4) ?_;refine bx 11 rfl aU ?_;refine bL [(3,_),(6,_),(7,_),(8,_),(9,_),(10,_)] [⟨I,41,5,[_,_,_,_,_]⟩,_] ?_;refine bC af ?_;exact⟨rfl,trivial,Wk.refl _⟩
    rintro _ _ ⟨rfl,_,O⟩;refine⟨_,?_,[[aW ⟨#[40]⟩,aM ⟨#[78,79,84]⟩],H[bl H l[i]],[aW ⟨#[41]⟩]].flatten,(some ⟨bh,0,none⟩),E,[⟨bh,29,E*1,H.flatMap cK⟩],(by unfold jz;rw[if_neg M,if_neg aX,if_pos bn,hM dH]),(cA Y Z),rfl⟩;exact O.trans (Wk.bz (n:=90) rfl c5 cD)
   have bn:=cx
   (try simp only[V.ah,ne_eq] at bn)
   refine ag ?_;refine aa az ?_;refine ae ?_;refine ak [3,5,6,8,9,10,65] ?_;refine aI ot (fun cm=>?_) (fun cm=>?_)
   ·have bJ:=cm
    (try simp only[V.ah,ne_eq] at bJ)
    have Eu:l[i].k=11:=(by simpa using cm)
    have iP:eJ l[i].k=1:=(by rw[Eu];decide)
    have hg1:=(kJ (h:=H) (n:=bl H l[i])).1;have hg2:=(kJ (h:=H) (n:=bl H l[i])).2;have hg3:=ng H (bl H l[i]);have n6:0<H.length:=(by omega)
    obtain⟨bh,N,Y,Z,mo⟩:=pG nf n6;subst N mo;have dH:bl H l[i]<H.length:=(by unfold bl;omega)
    rw[hM dH] at hg1 hg2;skip;refine CD.mono (Q:=fun oI cz=>oI=Exit.normal/\(True)/\Wk cz (⟨90,[(3,aB (some ⟨bh,0,none⟩) H.length E),(6,aj ((bl H l[i]):Nat)),(7,.list 3 (([[aW ⟨#[40]⟩],H[bl H l[i]],[aM ⟨#[73,83]⟩,aM ⟨#[78,85,76,76]⟩],[aW ⟨#[41]⟩]].flatten).flatMap cT) ([[aW ⟨#[40]⟩],H[bl H l[i]],[aM ⟨#[73,83]⟩,aM ⟨#[78,85,76,76]⟩],[aW ⟨#[41]⟩]].flatten).length),(8,ap 5 cO l),(9,aj l.length),(10,aj (i:Nat))],[⟨I,41,5,cO l[i]⟩,⟨bh,29,E*1,H.flatMap cK⟩]⟩:St)) ?_ ?_
    ·refine dB (au _) af (fun _ h=>h) ?_;refine ai 2 rfl aU ?_;refine ai 3 rfl aU ?_;refine ai 4 rfl (di 1 (h:=tJ)) ?_;first|refine ai 5 rfl (cn (mk:=Op.load 29) rfl ot tP) ?_|refine ai 5 rfl (cn (mk:=Op.load 29) rfl ot tO) ?_|refine ai 5 rfl (cn (mk:=Op.load 29) rfl ot tN) ?_
     refine bp.later rfl ?_;refine dn (i:=0) (j:=6) af ?_ ?_
     ·refine bS call44 (dP ⟨#[40]⟩) ?_;refine dn (i:=1) (j:=6) af ?_ ?_
      ·refine bk (aP 0 [_]) [.int .i64 0,.string ⟨#[]⟩,.int .i64 0] [_,_,_] zeroValue28 runUnderlying29 sizeOf28 (fun lz=>?_);refine bj 0 68 3 1 ?_;refine aG (i:=6) af ?_;refine bk (aP 0 [_,_]) [.string ⟨#[]⟩,.string ⟨#[]⟩] [_,_] zeroValue9 runUnderlying32 sizeOf9 (fun y8=>?_);refine bj 0 73 1 2 ?_;refine aG (i:=7) af ?_;refine bS call39 (gS [⟨#[73,83]⟩,⟨#[78,85,76,76]⟩] l5) ?_;refine aG (i:=8) af ?_;refine bS call44 (dP ⟨#[41]⟩) ?_;refine aG (i:=9) af ?_;refine bk (aP 0 [_]) [.int .i64 0,.string ⟨#[]⟩,.int .i64 0] [_,_,_] zeroValue28 runUnderlying29 sizeOf28 (fun lA=>?_);refine bj 0 76 3 1 ?_;refine aG (i:=10) af ?_;refine bk (aP 0 [_,_,_,_]) [.slice none 0 0,.slice none 0 0,.slice none 0 0,.slice none 0 0] [_,_,_,_] zeroValue29 runUnderlying79 sizeOf29 (fun jP=>?_);refine bj 0 77 1 4 ?_;refine aG (i:=11) af ?_;refine bS call43 (dX ([[aW ⟨#[40]⟩],H[bl H l[i]],[aM ⟨#[73,83]⟩,aM ⟨#[78,85,76,76]⟩],[aW ⟨#[41]⟩]]) ey w4 w4) ?_;refine bx 12 rfl aU ?_;refine bL [(3,_),(6,_),(7,_),(8,_),(9,_),(10,_)] [⟨I,41,5,[_,_,_,_,_]⟩,_] ?_;refine bC af ?_;exact⟨rfl,trivial,Wk.refl _⟩
      refine bk (aP 0 [_,_]) [.string ⟨#[]⟩,.string ⟨#[]⟩] [_,_] zeroValue9 runUnderlying32 sizeOf9 (fun y8=>?_);refine bj 0 73 1 2 ?_;refine dn (i:=1) (j:=7) af ?_ ?_
      ·refine bk (aP 0 [_]) [.int .i64 0,.string ⟨#[]⟩,.int .i64 0] [_,_,_] zeroValue28 runUnderlying29 sizeOf28 (fun lz=>?_);refine bj 0 68 3 1 ?_;refine aG (i:=7) af ?_;refine bS call39 (gS [⟨#[73,83]⟩,⟨#[78,85,76,76]⟩] l5) ?_;refine aG (i:=8) af ?_;refine bS call44 (dP ⟨#[41]⟩) ?_;refine aG (i:=9) af ?_;refine bk (aP 0 [_]) [.int .i64 0,.string ⟨#[]⟩,.int .i64 0] [_,_,_] zeroValue28 runUnderlying29 sizeOf28 (fun lA=>?_);refine bj 0 76 3 1 ?_;refine aG (i:=10) af ?_;refine bk (aP 0 [_,_,_,_]) [.slice none 0 0,.slice none 0 0,.slice none 0 0,.slice none 0 0] [_,_,_,_] zeroValue29 runUnderlying79 sizeOf29 (fun jP=>?_);refine bj 0 77 1 4 ?_;refine aG (i:=11) af ?_;refine bS call43 (dX ([[aW ⟨#[40]⟩],H[bl H l[i]],[aM ⟨#[73,83]⟩,aM ⟨#[78,85,76,76]⟩],[aW ⟨#[41]⟩]]) ey w4 w4) ?_;refine bx 12 rfl aU ?_;refine bL [(3,_),(6,_),(7,_),(8,_),(9,_),(10,_)] [⟨I,41,5,[_,_,_,_,_]⟩,_] ?_;refine bC af ?_;exact⟨rfl,trivial,Wk.refl _⟩
      refine bS call39 (gS [⟨#[73,83]⟩,⟨#[78,85,76,76]⟩] l5) ?_;refine dn (i:=1) (j:=8) af ?_ ?_
      ·refine bk (aP 0 [_]) [.int .i64 0,.string ⟨#[]⟩,.int .i64 0] [_,_,_] zeroValue28 runUnderlying29 sizeOf28 (fun lz=>?_);refine bj 0 68 3 1 ?_;refine aG (i:=8) af ?_;refine bS call44 (dP ⟨#[41]⟩) ?_;refine aG (i:=9) af ?_;refine bk (aP 0 [_]) [.int .i64 0,.string ⟨#[]⟩,.int .i64 0] [_,_,_] zeroValue28 runUnderlying29 sizeOf28 (fun lA=>?_);refine bj 0 76 3 1 ?_;refine aG (i:=10) af ?_;refine bk (aP 0 [_,_,_,_]) [.slice none 0 0,.slice none 0 0,.slice none 0 0,.slice none 0 0] [_,_,_,_] zeroValue29 runUnderlying79 sizeOf29 (fun jP=>?_);refine bj 0 77 1 4 ?_;refine aG (i:=11) af ?_;refine bS call43 (dX ([[aW ⟨#[40]⟩],H[bl H l[i]],[aM ⟨#[73,83]⟩,aM ⟨#[78,85,76,76]⟩],[aW ⟨#[41]⟩]]) ey w4 w4) ?_;refine bx 12 rfl aU ?_;refine bL [(3,_),(6,_),(7,_),(8,_),(9,_),(10,_)] [⟨I,41,5,[_,_,_,_,_]⟩,_] ?_;refine bC af ?_;exact⟨rfl,trivial,Wk.refl _⟩
      refine bS call44 (dP ⟨#[41]⟩) ?_;refine dn (i:=1) (j:=9) af ?_ ?_
      ·refine bk (aP 0 [_]) [.int .i64 0,.string ⟨#[]⟩,.int .i64 0] [_,_,_] zeroValue28 runUnderlying29 sizeOf28 (fun lz=>?_);refine bj 0 68 3 1 ?_;refine aG (i:=9) af ?_;refine bk (aP 0 [_]) [.int .i64 0,.string ⟨#[]⟩,.int .i64 0] [_,_,_] zeroValue28 runUnderlying29 sizeOf28 (fun lA=>?_);refine bj 0 76 3 1 ?_;refine aG (i:=10) af ?_;refine bk (aP 0 [_,_,_,_]) [.slice none 0 0,.slice none 0 0,.slice none 0 0,.slice none 0 0] [_,_,_,_] zeroValue29 runUnderlying79 sizeOf29 (fun jP=>?_);refine bj 0 77 1 4 ?_;refine aG (i:=11) af ?_;refine bS call43 (dX ([[aW ⟨#[40]⟩],H[bl H l[i]],[aM ⟨#[73,83]⟩,aM ⟨#[78,85,76,76]⟩],[aW ⟨#[41]⟩]]) ey w4 w4) ?_;refine bx 12 rfl aU ?_;refine bL [(3,_),(6,_),(7,_),(8,_),(9,_),(10,_)] [⟨I,41,5,[_,_,_,_,_]⟩,_] ?_;refine bC af ?_;exact⟨rfl,trivial,Wk.refl _⟩
      refine bk (aP 0 [_]) [.int .i64 0,.string ⟨#[]⟩,.int .i64 0] [_,_,_] zeroValue28 runUnderlying29 sizeOf28 (fun lA=>?_);refine bj 0 76 3 1 ?_;refine aG (i:=1) af ?_;refine bk (aP 0 [_]) [.int .i64 0,.string ⟨#[]⟩,.int .i64 0] [_,_,_] zeroValue28 runUnderlying29 sizeOf28 (fun lz=>?_);refine bj 0 68 3 1 ?_;refine aG (i:=10) af ?_;refine bk (aP 0 [_,_,_,_]) [.slice none 0 0,.slice none 0 0,.slice none 0 0,.slice none 0 0] [_,_,_,_] zeroValue29 runUnderlying79 sizeOf29 (fun jP=>?_);refine bj 0 77 1 4 ?_;refine aG (i:=11) af ?_;refine bS call43 (dX ([[aW ⟨#[40]⟩],H[bl H l[i]],[aM ⟨#[73,83]⟩,aM ⟨#[78,85,76,76]⟩],[aW ⟨#[41]⟩]]) ey w4 w4) ?_;refine bx 12 rfl aU ?_;refine bL [(3,_),(6,_),(7,_),(8,_),(9,_),(10,_)] [⟨I,41,5,[_,_,_,_,_]⟩,_] ?_;refine bC af ?_;exact⟨rfl,trivial,Wk.refl _⟩
     refine bk (aP 0 [_,_]) [.string ⟨#[]⟩,.string ⟨#[]⟩] [_,_] zeroValue9 runUnderlying32 sizeOf9 (fun y8=>?_);refine bj 0 73 1 2 ?_;refine aG (i:=0) af ?_;refine bS call44 (dP ⟨#[40]⟩) ?_;refine dn (i:=1) (j:=7) af ?_ ?_
     ·refine bk (aP 0 [_]) [.int .i64 0,.string ⟨#[]⟩,.int .i64 0] [_,_,_] zeroValue28 runUnderlying29 sizeOf28 (fun lz=>?_);refine bj 0 68 3 1 ?_;refine aG (i:=7) af ?_;refine bS call39 (gS [⟨#[73,83]⟩,⟨#[78,85,76,76]⟩] l5) ?_;refine aG (i:=8) af ?_;refine bS call44 (dP ⟨#[41]⟩) ?_;refine aG (i:=9) af ?_;refine bk (aP 0 [_]) [.int .i64 0,.string ⟨#[]⟩,.int .i64 0] [_,_,_] zeroValue28 runUnderlying29 sizeOf28 (fun lA=>?_);refine bj 0 76 3 1 ?_;refine aG (i:=10) af ?_;refine bk (aP 0 [_,_,_,_]) [.slice none 0 0,.slice none 0 0,.slice none 0 0,.slice none 0 0] [_,_,_,_] zeroValue29 runUnderlying79 sizeOf29 (fun jP=>?_);refine bj 0 77 1 4 ?_;refine aG (i:=11) af ?_;refine bS call43 (dX ([[aW ⟨#[40]⟩],H[bl H l[i]],[aM ⟨#[73,83]⟩,aM ⟨#[78,85,76,76]⟩],[aW ⟨#[41]⟩]]) ey w4 w4) ?_;refine bx 12 rfl aU ?_;refine bL [(3,_),(6,_),(7,_),(8,_),(9,_),(10,_)] [⟨I,41,5,[_,_,_,_,_]⟩,_] ?_;refine bC af ?_;exact⟨rfl,trivial,Wk.refl _⟩
     refine bS call39 (gS [⟨#[73,83]⟩,⟨#[78,85,76,76]⟩] l5) ?_;refine dn (i:=1) (j:=8) af ?_ ?_
     ·refine bk (aP 0 [_]) [.int .i64 0,.string ⟨#[]⟩,.int .i64 0] [_,_,_] zeroValue28 runUnderlying29 sizeOf28 (fun lz=>?_);refine bj 0 68 3 1 ?_;refine aG (i:=8) af ?_;refine bS call44 (dP ⟨#[41]⟩) ?_;refine aG (i:=9) af ?_;refine bk (aP 0 [_]) [.int .i64 0,.string ⟨#[]⟩,.int .i64 0] [_,_,_] zeroValue28 runUnderlying29 sizeOf28 (fun lA=>?_);refine bj 0 76 3 1 ?_;refine aG (i:=10) af ?_;refine bk (aP 0 [_,_,_,_]) [.slice none 0 0,.slice none 0 0,.slice none 0 0,.slice none 0 0] [_,_,_,_] zeroValue29 runUnderlying79 sizeOf29 (fun jP=>?_);refine bj 0 77 1 4 ?_;refine aG (i:=11) af ?_;refine bS call43 (dX ([[aW ⟨#[40]⟩],H[bl H l[i]],[aM ⟨#[73,83]⟩,aM ⟨#[78,85,76,76]⟩],[aW ⟨#[41]⟩]]) ey w4 w4) ?_;refine bx 12 rfl aU ?_;refine bL [(3,_),(6,_),(7,_),(8,_),(9,_),(10,_)] [⟨I,41,5,[_,_,_,_,_]⟩,_] ?_;refine bC af ?_;exact⟨rfl,trivial,Wk.refl _⟩
     refine bS call44 (dP ⟨#[41]⟩) ?_;refine dn (i:=1) (j:=9) af ?_ ?_
     ·refine bk (aP 0 [_]) [.int .i64 0,.string ⟨#[]⟩,.int .i64 0] [_,_,_] zeroValue28 runUnderlying29 sizeOf28 (fun lz=>?_);refine bj 0 68 3 1 ?_;refine aG (i:=9) af ?_;refine bk (aP 0 [_]) [.int .i64 0,.string ⟨#[]⟩,.int .i64 0] [_,_,_] zeroValue28 runUnderlying29 sizeOf28 (fun lA=>?_);refine bj 0 76 3 1 ?_;refine aG (i:=10) af ?_;refine bk (aP 0 [_,_,_,_]) [.slice none 0 0,.slice none 0 0,.slice none 0 0,.slice none 0 0] [_,_,_,_] zeroValue29 runUnderlying79 sizeOf29 (fun jP=>?_);refine bj 0 77 1 4 ?_;refine aG (i:=11) af ?_;refine bS call43 (dX ([[aW ⟨#[40]⟩],H[bl H l[i]],[aM ⟨#[73,83]⟩,aM ⟨#[78,85,76,76]⟩],[aW ⟨#[41]⟩]]) ey w4 w4) ?_;refine bx 12 rfl aU ?_;refine bL [(3,_),(6,_),(7,_),(8,_),(9,_),(10,_)] [⟨I,41,5,[_,_,_,_,_]⟩,_] ?_;refine bC af ?_;exact⟨rfl,trivial,Wk.refl _⟩
     refine bk (aP 0 [_]) [.int .i64 0,.string ⟨#[]⟩,.int .i64 0] [_,_,_] zeroValue28 runUnderlying29 sizeOf28 (fun lA=>?_);refine bj 0 76 3 1 ?_;refine aG (i:=1) af ?_;refine bk (aP 0 [_]) [.int .i64 0,.string ⟨#[]⟩,.int .i64 0] [_,_,_] zeroValue28 runUnderlying29 sizeOf28 (fun lz=>?_);refine bj 0 68 3 1 ?_;refine aG (i:=10) af ?_;refine bk (aP 0 [_,_,_,_]) [.slice none 0 0,.slice none 0 0,.slice none 0 0,.slice none 0 0] [_,_,_,_] zeroValue29 runUnderlying79 sizeOf29 (fun jP=>?_);refine bj 0 77 1 4 ?_;refine aG (i:=11) af ?_;refine bS call43 (dX ([[aW ⟨#[40]⟩],H[bl H l[i]],[aM ⟨#[73,83]⟩,aM ⟨#[78,85,76,76]⟩],[aW ⟨#[41]⟩]]) ey w4 w4) ?_;refine bx 12 rfl aU ?_;refine bL [(3,_),(6,_),(7,_),(8,_),(9,_),(10,_)] [⟨I,41,5,[_,_,_,_,_]⟩,_] ?_;refine bC af ?_;exact⟨rfl,trivial,Wk.refl _⟩
    rintro _ _ ⟨rfl,_,O⟩;refine⟨_,?_,[[aW ⟨#[40]⟩],H[bl H l[i]],[aM ⟨#[73,83]⟩,aM ⟨#[78,85,76,76]⟩],[aW ⟨#[41]⟩]].flatten,(some ⟨bh,0,none⟩),E,[⟨bh,29,E*1,H.flatMap cK⟩],(by unfold jz;rw[if_neg M,if_neg aX,if_neg bn,if_pos bJ,hM dH]),(cA Y Z),rfl⟩;exact O.trans (Wk.bz (n:=90) rfl c5 cD)
   have bJ:=cm
   (try simp only[V.ah,ne_eq] at bJ)
   have Fm:¬l[i].k=1/\¬l[i].k=2/\¬l[i].k=5/\¬l[i].k=11:=⟨by simpa using bW,by simpa using ck,by simpa using cx,by simpa using cm⟩
   have ov:eJ l[i].k=2:=(by unfold eJ;rw[if_neg w8,if_neg w8])
   have hg1:=(kJ (h:=H) (n:=bl H l[i])).1;have hg2:=(kJ (h:=H) (n:=bl H l[i])).2;have hg3:=ng H (bl H l[i]);have n6:0<H.length:=(by omega)
   obtain⟨bh,N,Y,Z,mo⟩:=pG nf n6;subst N mo;have dH:bl H l[i]<H.length:=(by unfold bl;omega)
   have fI:bl H l[i]+1<H.length:=(by unfold bl;omega)
   rw[hM dH,hM fI] at hg2;rw[hM dH] at hg1;refine CD.mono (Q:=fun oI cz=>oI=Exit.normal/\(True)/\Wk cz (⟨90,[(3,aB (some ⟨bh,0,none⟩) H.length E),(6,aj ((bl H l[i]):Nat)),(7,.list 3 (([[aW ⟨#[40]⟩],H[bl H l[i]],[eO l[i].k],H[bl H l[i]+1],[aW ⟨#[41]⟩]].flatten).flatMap cT) ([[aW ⟨#[40]⟩],H[bl H l[i]],[eO l[i].k],H[bl H l[i]+1],[aW ⟨#[41]⟩]].flatten).length),(8,ap 5 cO l),(9,aj l.length),(10,aj (i:Nat))],[⟨I,41,5,cO l[i]⟩,⟨bh,29,E*1,H.flatMap cK⟩]⟩:St)) ?_ ?_
   ·refine dB (au _) af (fun _ h=>h) ?_;refine ai 2 rfl aU ?_;refine ai 3 rfl aU ?_;refine ai 4 rfl (di 1 (h:=tJ)) ?_;first|refine ai 5 rfl (cn (mk:=Op.load 29) rfl ot tP) ?_|refine ai 5 rfl (cn (mk:=Op.load 29) rfl ot tO) ?_|refine ai 5 rfl (cn (mk:=Op.load 29) rfl ot tN) ?_
    refine ai 6 rfl (aq 0) ?_;refine ai 7 rfl (aC 0) ?_;refine ai 10 rfl aU ?_;refine ai 11 rfl aU ?_;refine ai 12 rfl (fc (r:=.int .i64 ((((bl H l[i])+1:Nat)):Int)) rfl ot aJ (pA (by rw[show(((bl H l[i]):Nat):Int)+1=(((bl H l[i])+1:Nat):Int) by omega];exact wrap_i64 w8 w8))) ?_;refine ai 13 rfl (di 1 (h:=by first|exact .l (j:=((bl H l[i])+1)) rfl qs|exact .r (j:=((bl H l[i])+1)) rfl qs)) ?_;first|refine ai 14 rfl (cn (mk:=Op.load 29) rfl ot (by exact fT (k:=0) (i:=((bl H l[i])+1)) gQ rfl rfl rfl isAgg29 fI rfl)) ?_|refine ai 14 rfl (cn (mk:=Op.load 29) rfl ot (by exact fT (k:=1) (i:=((bl H l[i])+1)) gQ rfl rfl rfl isAgg29 fI rfl)) ?_|refine ai 14 rfl (cn (mk:=Op.load 29) rfl ot (by exact fT (k:=2) (i:=((bl H l[i])+1)) gQ rfl rfl rfl isAgg29 fI rfl)) ?_
    refine bp.later rfl ?_;refine aG (i:=0) af ?_;refine bS call44 (dP ⟨#[40]⟩) ?_;refine dn (i:=1) (j:=8) af ?_ ?_
    ·refine bk (aP 0 [_]) [.int .i64 0,.string ⟨#[]⟩,.int .i64 0] [_,_,_] zeroValue28 runUnderlying29 sizeOf28 (fun kx=>?_);refine bj 0 23 3 1 ?_;refine aG (i:=8) af ?_;refine bS call59 (vH l[i].k w8) ?_;refine dn (i:=9) (j:=15) af ?_ ?_
     ·refine bk (aP 0 [_]) [.int .i64 0,.string ⟨#[]⟩,.int .i64 0] [_,_,_] zeroValue28 runUnderlying29 sizeOf28 (fun U=>?_);refine bj 0 31 3 1 ?_;refine aG (i:=15) af ?_;refine bS call44 (dP ⟨#[41]⟩) ?_;refine aG (i:=16) af ?_;refine bk (aP 0 [_]) [.int .i64 0,.string ⟨#[]⟩,.int .i64 0] [_,_,_] zeroValue28 runUnderlying29 sizeOf28 (fun K=>?_);refine bj 0 38 3 1 ?_;refine aG (i:=17) af ?_;refine bk (aP 0 [_,_,_,_,_]) [.slice none 0 0,.slice none 0 0,.slice none 0 0,.slice none 0 0,.slice none 0 0] [_,_,_,_,_] zeroValue29 runUnderlying79 sizeOf29 (fun J=>?_);refine bj 0 39 1 5 ?_;refine aG (i:=18) af ?_;refine bS call43 (dX ([[aW ⟨#[40]⟩],H[bl H l[i]],[eO l[i].k],H[bl H l[i]+1],[aW ⟨#[41]⟩]]) ey w4 w4) ?_;refine bx 19 rfl aU ?_;refine bL [(3,_),(6,_),(7,_),(8,_),(9,_),(10,_)] [⟨I,41,5,[_,_,_,_,_]⟩,_] ?_;refine bC af ?_;exact⟨rfl,trivial,Wk.refl _⟩
     refine bS call44 (dP ⟨#[41]⟩) ?_;refine dn (i:=9) (j:=16) af ?_ ?_
     ·refine bk (aP 0 [_]) [.int .i64 0,.string ⟨#[]⟩,.int .i64 0] [_,_,_] zeroValue28 runUnderlying29 sizeOf28 (fun U=>?_);refine bj 0 31 3 1 ?_;refine aG (i:=16) af ?_;refine bk (aP 0 [_]) [.int .i64 0,.string ⟨#[]⟩,.int .i64 0] [_,_,_] zeroValue28 runUnderlying29 sizeOf28 (fun K=>?_);refine bj 0 38 3 1 ?_;refine aG (i:=17) af ?_;refine bk (aP 0 [_,_,_,_,_]) [.slice none 0 0,.slice none 0 0,.slice none 0 0,.slice none 0 0,.slice none 0 0] [_,_,_,_,_] zeroValue29 runUnderlying79 sizeOf29 (fun J=>?_);refine bj 0 39 1 5 ?_;refine aG (i:=18) af ?_;refine bS call43 (dX ([[aW ⟨#[40]⟩],H[bl H l[i]],[eO l[i].k],H[bl H l[i]+1],[aW ⟨#[41]⟩]]) ey w4 w4) ?_;refine bx 19 rfl aU ?_;refine bL [(3,_),(6,_),(7,_),(8,_),(9,_),(10,_)] [⟨I,41,5,[_,_,_,_,_]⟩,_] ?_;refine bC af ?_;exact⟨rfl,trivial,Wk.refl _⟩
     refine bk (aP 0 [_]) [.int .i64 0,.string ⟨#[]⟩,.int .i64 0] [_,_,_] zeroValue28 runUnderlying29 sizeOf28 (fun K=>?_);refine bj 0 38 3 1 ?_;refine aG (i:=9) af ?_;refine bk (aP 0 [_]) [.int .i64 0,.string ⟨#[]⟩,.int .i64 0] [_,_,_] zeroValue28 runUnderlying29 sizeOf28 (fun U=>?_);refine bj 0 31 3 1 ?_;refine aG (i:=17) af ?_;refine bk (aP 0 [_,_,_,_,_]) [.slice none 0 0,.slice none 0 0,.slice none 0 0,.slice none 0 0,.slice none 0 0] [_,_,_,_,_] zeroValue29 runUnderlying79 sizeOf29 (fun J=>?_);refine bj 0 39 1 5 ?_;refine aG (i:=18) af ?_;refine bS call43 (dX ([[aW ⟨#[40]⟩],H[bl H l[i]],[eO l[i].k],H[bl H l[i]+1],[aW ⟨#[41]⟩]]) ey w4 w4) ?_;refine bx 19 rfl aU ?_;refine bL [(3,_),(6,_),(7,_),(8,_),(9,_),(10,_)] [⟨I,41,5,[_,_,_,_,_]⟩,_] ?_;refine bC af ?_;exact⟨rfl,trivial,Wk.refl _⟩
    refine bS call59 (vH l[i].k w8) ?_;refine rM (i:=1) (j:=9) (k:=15) af ?_ ?_ ?_
    ·refine bk (aP 0 [_]) [.int .i64 0,.string ⟨#[]⟩,.int .i64 0] [_,_,_] zeroValue28 runUnderlying29 sizeOf28 (fun kx=>?_);refine bj 0 23 3 1 ?_;refine dn (i:=9) (j:=15) af ?_ ?_
     ·refine bk (aP 0 [_]) [.int .i64 0,.string ⟨#[]⟩,.int .i64 0] [_,_,_] zeroValue28 runUnderlying29 sizeOf28 (fun U=>?_);refine bj 0 31 3 1 ?_;refine aG (i:=15) af ?_;refine bS call44 (dP ⟨#[41]⟩) ?_;refine aG (i:=16) af ?_;refine bk (aP 0 [_]) [.int .i64 0,.string ⟨#[]⟩,.int .i64 0] [_,_,_] zeroValue28 runUnderlying29 sizeOf28 (fun K=>?_);refine bj 0 38 3 1 ?_;refine aG (i:=17) af ?_;refine bk (aP 0 [_,_,_,_,_]) [.slice none 0 0,.slice none 0 0,.slice none 0 0,.slice none 0 0,.slice none 0 0] [_,_,_,_,_] zeroValue29 runUnderlying79 sizeOf29 (fun J=>?_);refine bj 0 39 1 5 ?_;refine aG (i:=18) af ?_;refine bS call43 (dX ([[aW ⟨#[40]⟩],H[bl H l[i]],[eO l[i].k],H[bl H l[i]+1],[aW ⟨#[41]⟩]]) ey w4 w4) ?_;refine bx 19 rfl aU ?_;refine bL [(3,_),(6,_),(7,_),(8,_),(9,_),(10,_)] [⟨I,41,5,[_,_,_,_,_]⟩,_] ?_;refine bC af ?_;exact⟨rfl,trivial,Wk.refl _⟩
     refine bS call44 (dP ⟨#[41]⟩) ?_;refine dn (i:=9) (j:=16) af ?_ ?_
     ·refine bk (aP 0 [_]) [.int .i64 0,.string ⟨#[]⟩,.int .i64 0] [_,_,_] zeroValue28 runUnderlying29 sizeOf28 (fun U=>?_);refine bj 0 31 3 1 ?_;refine aG (i:=16) af ?_;refine bk (aP 0 [_]) [.int .i64 0,.string ⟨#[]⟩,.int .i64 0] [_,_,_] zeroValue28 runUnderlying29 sizeOf28 (fun K=>?_);refine bj 0 38 3 1 ?_;refine aG (i:=17) af ?_;refine bk (aP 0 [_,_,_,_,_]) [.slice none 0 0,.slice none 0 0,.slice none 0 0,.slice none 0 0,.slice none 0 0] [_,_,_,_,_] zeroValue29 runUnderlying79 sizeOf29 (fun J=>?_);refine bj 0 39 1 5 ?_;refine aG (i:=18) af ?_;refine bS call43 (dX ([[aW ⟨#[40]⟩],H[bl H l[i]],[eO l[i].k],H[bl H l[i]+1],[aW ⟨#[41]⟩]]) ey w4 w4) ?_;refine bx 19 rfl aU ?_;refine bL [(3,_),(6,_),(7,_),(8,_),(9,_),(10,_)] [⟨I,41,5,[_,_,_,_,_]⟩,_] ?_;refine bC af ?_;exact⟨rfl,trivial,Wk.refl _⟩
     refine bk (aP 0 [_]) [.int .i64 0,.string ⟨#[]⟩,.int .i64 0] [_,_,_] zeroValue28 runUnderlying29 sizeOf28 (fun K=>?_);refine bj 0 38 3 1 ?_;refine aG (i:=9) af ?_;refine bk (aP 0 [_]) [.int .i64 0,.string ⟨#[]⟩,.int .i64 0] [_,_,_] zeroValue28 runUnderlying29 sizeOf28 (fun U=>?_);refine bj 0 31 3 1 ?_;refine aG (i:=17) af ?_;refine bk (aP 0 [_,_,_,_,_]) [.slice none 0 0,.slice none 0 0,.slice none 0 0,.slice none 0 0,.slice none 0 0] [_,_,_,_,_] zeroValue29 runUnderlying79 sizeOf29 (fun J=>?_);refine bj 0 39 1 5 ?_;refine aG (i:=18) af ?_;refine bS call43 (dX ([[aW ⟨#[40]⟩],H[bl H l[i]],[eO l[i].k],H[bl H l[i]+1],[aW ⟨#[41]⟩]]) ey w4 w4) ?_;refine bx 19 rfl aU ?_;refine bL [(3,_),(6,_),(7,_),(8,_),(9,_),(10,_)] [⟨I,41,5,[_,_,_,_,_]⟩,_] ?_;refine bC af ?_;exact⟨rfl,trivial,Wk.refl _⟩
    ·refine bk (aP 0 [_]) [.int .i64 0,.string ⟨#[]⟩,.int .i64 0] [_,_,_] zeroValue28 runUnderlying29 sizeOf28 (fun U=>?_);refine bj 0 31 3 1 ?_;refine dn (i:=1) (j:=15) af ?_ ?_
     ·refine bk (aP 0 [_]) [.int .i64 0,.string ⟨#[]⟩,.int .i64 0] [_,_,_] zeroValue28 runUnderlying29 sizeOf28 (fun kx=>?_);refine bj 0 23 3 1 ?_;refine aG (i:=15) af ?_;refine bS call44 (dP ⟨#[41]⟩) ?_;refine aG (i:=16) af ?_;refine bk (aP 0 [_]) [.int .i64 0,.string ⟨#[]⟩,.int .i64 0] [_,_,_] zeroValue28 runUnderlying29 sizeOf28 (fun K=>?_);refine bj 0 38 3 1 ?_;refine aG (i:=17) af ?_;refine bk (aP 0 [_,_,_,_,_]) [.slice none 0 0,.slice none 0 0,.slice none 0 0,.slice none 0 0,.slice none 0 0] [_,_,_,_,_] zeroValue29 runUnderlying79 sizeOf29 (fun J=>?_);refine bj 0 39 1 5 ?_;refine aG (i:=18) af ?_;refine bS call43 (dX ([[aW ⟨#[40]⟩],H[bl H l[i]],[eO l[i].k],H[bl H l[i]+1],[aW ⟨#[41]⟩]]) ey w4 w4) ?_;refine bx 19 rfl aU ?_;refine bL [(3,_),(6,_),(7,_),(8,_),(9,_),(10,_)] [⟨I,41,5,[_,_,_,_,_]⟩,_] ?_;refine bC af ?_;exact⟨rfl,trivial,Wk.refl _⟩
     refine bS call44 (dP ⟨#[41]⟩) ?_;refine dn (i:=1) (j:=16) af ?_ ?_
     ·refine bk (aP 0 [_]) [.int .i64 0,.string ⟨#[]⟩,.int .i64 0] [_,_,_] zeroValue28 runUnderlying29 sizeOf28 (fun kx=>?_);refine bj 0 23 3 1 ?_;refine aG (i:=16) af ?_;refine bk (aP 0 [_]) [.int .i64 0,.string ⟨#[]⟩,.int .i64 0] [_,_,_] zeroValue28 runUnderlying29 sizeOf28 (fun K=>?_);refine bj 0 38 3 1 ?_;refine aG (i:=17) af ?_;refine bk (aP 0 [_,_,_,_,_]) [.slice none 0 0,.slice none 0 0,.slice none 0 0,.slice none 0 0,.slice none 0 0] [_,_,_,_,_] zeroValue29 runUnderlying79 sizeOf29 (fun J=>?_);refine bj 0 39 1 5 ?_;refine aG (i:=18) af ?_;refine bS call43 (dX ([[aW ⟨#[40]⟩],H[bl H l[i]],[eO l[i].k],H[bl H l[i]+1],[aW ⟨#[41]⟩]]) ey w4 w4) ?_;refine bx 19 rfl aU ?_;refine bL [(3,_),(6,_),(7,_),(8,_),(9,_),(10,_)] [⟨I,41,5,[_,_,_,_,_]⟩,_] ?_;refine bC af ?_;exact⟨rfl,trivial,Wk.refl _⟩
     refine bk (aP 0 [_]) [.int .i64 0,.string ⟨#[]⟩,.int .i64 0] [_,_,_] zeroValue28 runUnderlying29 sizeOf28 (fun K=>?_);refine bj 0 38 3 1 ?_;refine aG (i:=1) af ?_;refine bk (aP 0 [_]) [.int .i64 0,.string ⟨#[]⟩,.int .i64 0] [_,_,_] zeroValue28 runUnderlying29 sizeOf28 (fun kx=>?_);refine bj 0 23 3 1 ?_;refine aG (i:=17) af ?_;refine bk (aP 0 [_,_,_,_,_]) [.slice none 0 0,.slice none 0 0,.slice none 0 0,.slice none 0 0,.slice none 0 0] [_,_,_,_,_] zeroValue29 runUnderlying79 sizeOf29 (fun J=>?_);refine bj 0 39 1 5 ?_;refine aG (i:=18) af ?_;refine bS call43 (dX ([[aW ⟨#[40]⟩],H[bl H l[i]],[eO l[i].k],H[bl H l[i]+1],[aW ⟨#[41]⟩]]) ey w4 w4) ?_;refine bx 19 rfl aU ?_;refine bL [(3,_),(6,_),(7,_),(8,_),(9,_),(10,_)] [⟨I,41,5,[_,_,_,_,_]⟩,_] ?_;refine bC af ?_;exact⟨rfl,trivial,Wk.refl _⟩
    refine bS call44 (dP ⟨#[41]⟩) ?_;refine rM (i:=1) (j:=9) (k:=16) af ?_ ?_ ?_
    ·refine bk (aP 0 [_]) [.int .i64 0,.string ⟨#[]⟩,.int .i64 0] [_,_,_] zeroValue28 runUnderlying29 sizeOf28 (fun kx=>?_);refine bj 0 23 3 1 ?_;refine dn (i:=9) (j:=16) af ?_ ?_
     ·refine bk (aP 0 [_]) [.int .i64 0,.string ⟨#[]⟩,.int .i64 0] [_,_,_] zeroValue28 runUnderlying29 sizeOf28 (fun U=>?_);refine bj 0 31 3 1 ?_;refine aG (i:=16) af ?_;refine bk (aP 0 [_]) [.int .i64 0,.string ⟨#[]⟩,.int .i64 0] [_,_,_] zeroValue28 runUnderlying29 sizeOf28 (fun K=>?_);refine bj 0 38 3 1 ?_;refine aG (i:=17) af ?_;refine bk (aP 0 [_,_,_,_,_]) [.slice none 0 0,.slice none 0 0,.slice none 0 0,.slice none 0 0,.slice none 0 0] [_,_,_,_,_] zeroValue29 runUnderlying79 sizeOf29 (fun J=>?_);refine bj 0 39 1 5 ?_;refine aG (i:=18) af ?_;refine bS call43 (dX ([[aW ⟨#[40]⟩],H[bl H l[i]],[eO l[i].k],H[bl H l[i]+1],[aW ⟨#[41]⟩]]) ey w4 w4) ?_;refine bx 19 rfl aU ?_;refine bL [(3,_),(6,_),(7,_),(8,_),(9,_),(10,_)] [⟨I,41,5,[_,_,_,_,_]⟩,_] ?_;refine bC af ?_;exact⟨rfl,trivial,Wk.refl _⟩
     refine bk (aP 0 [_]) [.int .i64 0,.string ⟨#[]⟩,.int .i64 0] [_,_,_] zeroValue28 runUnderlying29 sizeOf28 (fun K=>?_);refine bj 0 38 3 1 ?_;refine aG (i:=9) af ?_;refine bk (aP 0 [_]) [.int .i64 0,.string ⟨#[]⟩,.int .i64 0] [_,_,_] zeroValue28 runUnderlying29 sizeOf28 (fun U=>?_);refine bj 0 31 3 1 ?_;refine aG (i:=17) af ?_;refine bk (aP 0 [_,_,_,_,_]) [.slice none 0 0,.slice none 0 0,.slice none 0 0,.slice none 0 0,.slice none 0 0] [_,_,_,_,_] zeroValue29 runUnderlying79 sizeOf29 (fun J=>?_);refine bj 0 39 1 5 ?_;refine aG (i:=18) af ?_;refine bS call43 (dX ([[aW ⟨#[40]⟩],H[bl H l[i]],[eO l[i].k],H[bl H l[i]+1],[aW ⟨#[41]⟩]]) ey w4 w4) ?_;refine bx 19 rfl aU ?_;refine bL [(3,_),(6,_),(7,_),(8,_),(9,_),(10,_)] [⟨I,41,5,[_,_,_,_,_]⟩,_] ?_;refine bC af ?_;exact⟨rfl,trivial,Wk.refl _⟩
    ·refine bk (aP 0 [_]) [.int .i64 0,.string ⟨#[]⟩,.int .i64 0] [_,_,_] zeroValue28 runUnderlying29 sizeOf28 (fun U=>?_);refine bj 0 31 3 1 ?_;refine dn (i:=1) (j:=16) af ?_ ?_
     ·refine bk (aP 0 [_]) [.int .i64 0,.string ⟨#[]⟩,.int .i64 0] [_,_,_] zeroValue28 runUnderlying29 sizeOf28 (fun kx=>?_);refine bj 0 23 3 1 ?_;refine aG (i:=16) af ?_;refine bk (aP 0 [_]) [.int .i64 0,.string ⟨#[]⟩,.int .i64 0] [_,_,_] zeroValue28 runUnderlying29 sizeOf28 (fun K=>?_);refine bj 0 38 3 1 ?_;refine aG (i:=17) af ?_;refine bk (aP 0 [_,_,_,_,_]) [.slice none 0 0,.slice none 0 0,.slice none 0 0,.slice none 0 0,.slice none 0 0] [_,_,_,_,_] zeroValue29 runUnderlying79 sizeOf29 (fun J=>?_);refine bj 0 39 1 5 ?_;refine aG (i:=18) af ?_;refine bS call43 (dX ([[aW ⟨#[40]⟩],H[bl H l[i]],[eO l[i].k],H[bl H l[i]+1],[aW ⟨#[41]⟩]]) ey w4 w4) ?_;refine bx 19 rfl aU ?_;refine bL [(3,_),(6,_),(7,_),(8,_),(9,_),(10,_)] [⟨I,41,5,[_,_,_,_,_]⟩,_] ?_;refine bC af ?_;exact⟨rfl,trivial,Wk.refl _⟩
     refine bk (aP 0 [_]) [.int .i64 0,.string ⟨#[]⟩,.int .i64 0] [_,_,_] zeroValue28 runUnderlying29 sizeOf28 (fun K=>?_);refine bj 0 38 3 1 ?_;refine aG (i:=1) af ?_;refine bk (aP 0 [_]) [.int .i64 0,.string ⟨#[]⟩,.int .i64 0] [_,_,_] zeroValue28 runUnderlying29 sizeOf28 (fun kx=>?_);refine bj 0 23 3 1 ?_;refine aG (i:=17) af ?_;refine bk (aP 0 [_,_,_,_,_]) [.slice none 0 0,.slice none 0 0,.slice none 0 0,.slice none 0 0,.slice none 0 0] [_,_,_,_,_] zeroValue29 runUnderlying79 sizeOf29 (fun J=>?_);refine bj 0 39 1 5 ?_;refine aG (i:=18) af ?_;refine bS call43 (dX ([[aW ⟨#[40]⟩],H[bl H l[i]],[eO l[i].k],H[bl H l[i]+1],[aW ⟨#[41]⟩]]) ey w4 w4) ?_;refine bx 19 rfl aU ?_;refine bL [(3,_),(6,_),(7,_),(8,_),(9,_),(10,_)] [⟨I,41,5,[_,_,_,_,_]⟩,_] ?_;refine bC af ?_;exact⟨rfl,trivial,Wk.refl _⟩
    refine bk (aP 0 [_]) [.int .i64 0,.string ⟨#[]⟩,.int .i64 0] [_,_,_] zeroValue28 runUnderlying29 sizeOf28 (fun K=>?_);refine bj 0 38 3 1 ?_;refine dn (i:=1) (j:=9) af ?_ ?_
    ·refine bk (aP 0 [_]) [.int .i64 0,.string ⟨#[]⟩,.int .i64 0] [_,_,_] zeroValue28 runUnderlying29 sizeOf28 (fun kx=>?_);refine bj 0 23 3 1 ?_;refine aG (i:=9) af ?_;refine bk (aP 0 [_]) [.int .i64 0,.string ⟨#[]⟩,.int .i64 0] [_,_,_] zeroValue28 runUnderlying29 sizeOf28 (fun U=>?_);refine bj 0 31 3 1 ?_;refine aG (i:=17) af ?_;refine bk (aP 0 [_,_,_,_,_]) [.slice none 0 0,.slice none 0 0,.slice none 0 0,.slice none 0 0,.slice none 0 0] [_,_,_,_,_] zeroValue29 runUnderlying79 sizeOf29 (fun J=>?_);refine bj 0 39 1 5 ?_;refine aG (i:=18) af ?_;refine bS call43 (dX ([[aW ⟨#[40]⟩],H[bl H l[i]],[eO l[i].k],H[bl H l[i]+1],[aW ⟨#[41]⟩]]) ey w4 w4) ?_;refine bx 19 rfl aU ?_;refine bL [(3,_),(6,_),(7,_),(8,_),(9,_),(10,_)] [⟨I,41,5,[_,_,_,_,_]⟩,_] ?_;refine bC af ?_;exact⟨rfl,trivial,Wk.refl _⟩
    refine bk (aP 0 [_]) [.int .i64 0,.string ⟨#[]⟩,.int .i64 0] [_,_,_] zeroValue28 runUnderlying29 sizeOf28 (fun U=>?_);refine bj 0 31 3 1 ?_;refine aG (i:=1) af ?_;refine bk (aP 0 [_]) [.int .i64 0,.string ⟨#[]⟩,.int .i64 0] [_,_,_] zeroValue28 runUnderlying29 sizeOf28 (fun kx=>?_);refine bj 0 23 3 1 ?_;refine aG (i:=17) af ?_;refine bk (aP 0 [_,_,_,_,_]) [.slice none 0 0,.slice none 0 0,.slice none 0 0,.slice none 0 0,.slice none 0 0] [_,_,_,_,_] zeroValue29 runUnderlying79 sizeOf29 (fun J=>?_);refine bj 0 39 1 5 ?_;refine aG (i:=18) af ?_;refine bS call43 (dX ([[aW ⟨#[40]⟩],H[bl H l[i]],[eO l[i].k],H[bl H l[i]+1],[aW ⟨#[41]⟩]]) ey w4 w4) ?_;refine bx 19 rfl aU ?_;refine bL [(3,_),(6,_),(7,_),(8,_),(9,_),(10,_)] [⟨I,41,5,[_,_,_,_,_]⟩,_] ?_;refine bC af ?_;exact⟨rfl,trivial,Wk.refl _⟩
   rintro _ _ ⟨rfl,_,O⟩;refine⟨_,?_,[[aW ⟨#[40]⟩],H[bl H l[i]],[eO l[i].k],H[bl H l[i]+1],[aW ⟨#[41]⟩]].flatten,(some ⟨bh,0,none⟩),E,[⟨bh,29,E*1,H.flatMap cK⟩],(by unfold jz;rw[if_neg M,if_neg aX,if_neg bn,if_neg bJ,hM dH,hM fI]),(cA Y Z),rfl⟩;exact O.trans (Wk.bz (n:=90) rfl c5 cD)
  rintro _ ⟨Tx,ad,cp,Sx,hT,gl,rfl⟩;have Fo:=wX l[i] (H.getD (bl H l[i]) []) (H.getD (bl H l[i]+1) []);refine aR ?_;refine ae ?_;refine ae ?_;refine ae ?_;refine aa (zA gl rfl ot ot ot runUnderlying79 sizeOf29 (by unfold bl;omega)) ?_;refine ae ?_;refine dj (aP 0 [_]) [.slice none 0 0] [_] zeroValue29 runUnderlying79 sizeOf29 (fun Fp=>?_);refine eT 0 84 1 1 ?_;refine zB (ls:=H) (new:=[Tx]) (n:=bl H l[i]) (Sq:=Sx) gQ so av rfl rfl underlying79 Ai rfl bR ot gl (cy (A:=[])) (by unfold bl;omega) ot cl (by simp only[maxLen,length_cons,length_nil];omega) (by simp only[length_cons,length_nil];omega) (fun qQ qe Du Dv=>?_);refine aS (cR (S1:=[⟨qQ,29,qe*1,flatMap cK (H.take (bl H l[i])++[Tx])⟩]) (A:=[])) ?_;refine ae ?_;refine aY (Wk.aO (n:=90) (l':=[(3,_),(8,_),(9,_),(10,_)]) (S':=([⟨qQ,29,qe*1,flatMap cK (H.take (bl H l[i])++[Tx])⟩])) rfl rfl bi) ?_;refine bg ?_;refine aR ?_;refine aa az ?_;refine ae ?_;refine ak [3,8,9,10] ?_;refine⟨((i+1),(gx H l[i]),(some ⟨qQ,0,none⟩),qe,[⟨qQ,29,qe*1,flatMap cK (H.take (bl H l[i])++[Tx])⟩]),_,?_,?_,w8,(by rw[hH,<-Aw aH]),(by rw[wq y5,<-wh aH y4];exact hx),(by have:=wq y5;omega),(by have:=vV (h:=H) (o:=l[i]);omega),(bQ.cast (cA Du Dv) (by rw[hT];rfl)),rfl⟩
  ·first|omega|(simp only[];omega)
  exact Wk.bz (n:=90) rfl cw yl
 have ev:=ax
 (try simp only[V.ah,ne_eq] at ev)
 have iZ:l.length<=i:=(by simp at ax;omega)
 have kU:=hx;rw[vS iZ] at kU;have Fq:H.length=1:=(by (split at kU;omega;cases kU))
 refine dJ ?_;refine aA ?_;obtain⟨bh,N,Y,Z,mo⟩:=pG nf (show 0<H.length by omega);subst N mo;have dH:0<H.length:=(by omega)
 refine aR ?_;refine ae ?_;refine aa (gq (mk:=Op.indexAddr 79) rfl ot aJ (by first|exact lJ runUnderlying79 sizeOf29 (j:=0) rfl qs|exact nB runUnderlying79 sizeOf29 (j:=0) rfl qs)) ?_;first|refine aa (cn (mk:=Op.load 29) rfl ot (by exact fT (k:=0) (i:=0) gQ rfl rfl rfl isAgg29 dH rfl)) ?_|refine iT av rfl (cn (mk:=Op.load 29) rfl ot (by exact fT (k:=1) (i:=0) gQ rfl rfl rfl isAgg29 dH rfl)) ?_|refine iT av rfl (cn (mk:=Op.load 29) rfl ot (by exact fT (k:=2) (i:=0) gQ rfl rfl rfl isAgg29 dH rfl)) ?_
 refine ae ?_;refine aF [(2,_)] [_] ?_;refine aD ?_;refine⟨.inr rfl,c6 results45 ?_⟩;refine⟨?_,rfl⟩;unfold ie;rw[show l.foldl gx []=H by rw[hH,take_of_length_le iZ],hM dH]
def fl{α:Type}(f:α->Int):List α->Int
 | []=>0
 | a::r=>if f a≠0 then f a else fl f r
theorem wu{f:α->Int}{l:List α}(hi:i<l.length)(h:f l[i]≠0):fl f (l.drop i)=f l[i]:=by rw[drop_eq_getElem_cons hi,fl,if_pos h]
theorem wv{f:α->Int}{l:List α}(hi:i<l.length)(h:f l[i]=0):fl f (l.drop i)=fl f (l.drop (i+1)):=by rw[drop_eq_getElem_cons hi,fl,if_neg (by rw[h];decide)]
theorem vW{f:α->Int}{l:List α}(hi:l.length<=i):fl f (l.drop i)=0:=by rw[drop_of_length_le hi];rfl
def kV(l:List Vl):Int:=if l.length<1\/l.length>6 then 1 else fl fF l
def iV(l:List aT):Int:=if l.length=0 then 0 else ic l
def eD(s:cc):Int :=
 if s.names.length>6 then 1 else if s.ea < -1 then 3
 else if (s.count=true/\0<s.names.length)\/(s.down=true/\cj s.order ⟨#[]⟩=true) then 6
 else if fl cH s.names≠0 then fl cH s.names else if iV s.bw≠0 then iV s.bw else if cj s.order ⟨#[]⟩=true then 0 else cH s.order
def gy(s h:cc):Bool:=cj s.table h.table&&(((s.b9.length:Int)==(h.b9.length:Int))&&(((s.row.length:Int)==(h.row.length:Int))&&(((s.names.length:Int)==(h.names.length:Int))&&((s.count==h.count)&&(((s.bw.length:Int)==(h.bw.length:Int))&&(cj s.order h.order&&((s.down==h.down)&&((s.ea==h.ea)&&(cj s.set h.set&&((s.cN.length:Int)==(h.cN.length:Int)))))))))))
structure j4 (s:cc):Prop where
 ok:qJ s
 t:s.table.size<=maxLen
 c:∀c∈s.b9,c.n.size<=maxLen
 n:∀x∈s.names,x.size<=maxLen
 o:s.order.size<=maxLen
 e:s.set.size<=maxLen
 r:∀v∈s.row,-9223372036854775808<=v.n/\v.n<=9223372036854775807
 w:∀o∈s.bw,o.nm.size<=maxLen/\-9223372036854775808<=o.v.n/\o.v.n<=9223372036854775807
 x:∀o∈s.cN,o.nm.size<=maxLen/\-9223372036854775808<=o.v.n/\o.v.n<=9223372036854775807
def er(l:List aT):List Tk:=if l.length=0 then [] else [⟨#[87,72,69,82,69]⟩].map aM++ie l
theorem pq(hm:(0,marksC)∈G)(hw:(2,wordsC)∈G)(l:List ByteArray)(hl:l.length<=1000)(hs:∀s∈l,s.size<=maxLen):VP Tryd.prog G 63 [ap 1 cS l] (aj (fl cH l)):=by
 refine cL func63 rfl ntmps63 aV fun O w0 N=>?_;refine ag ?_;refine ae ?_;refine ak [0] ?_;refine aA ?_;refine ag ?_;refine ae ?_;refine aa bV ?_;refine ae ?_;refine ak [6,7,8] ?_;refine bO ?_;refine ed (fun (i:Nat) M=>(i<=l.length)/\(fl cH l=fl cH (l.drop i))/\M=(⟨18,[(6,ap 1 cS l),(7,aj (l.length:Nat)),(8,aj (i:Nat))],[]⟩:St)) (fun (i:Nat)=>l.length-i) 0 ⟨(Nat.zero_le _),rfl,rfl⟩ (Wk.bz rfl c5 cD) ?_;rintro i _ ⟨hi,hx,rfl⟩;refine ag ?_;refine aa az ?_;refine ak [6,7,8,9] ?_;refine aA ?_;refine aI ot (fun ax=>?_) (fun ax=>?_)
 ·have E:=ax
  (try simp only[V.ah,ne_eq] at E)
  have aH:i<l.length:=(by simp at ax;omega)
  refine aN ?_;refine aA ?_;refine bO ?_;refine ag ?_;refine aa (di 1 (h:=kZ)) ?_;refine aa eA ?_;refine ae ?_;refine ak [4,6,7,8] ?_;refine ag ?_;refine ae ?_;refine bK call33 (jo hm hw l[i] (hs _ (getElem_mem aH))) ?_;refine ae ?_;refine aF [(5,_),(6,_),(7,_),(8,_)] [] ?_;refine ag ?_;refine ae ?_;refine aa az ?_;refine ak [5,6,7,8,15] ?_;refine aI ot (fun I=>?_) (fun I=>?_)
  ·have J:=I
   (try simp only[V.ah,ne_eq] at J)
   have hn:cH l[i]≠0:=(by simpa using I)
   have K:=hx.trans (wu aH hn);refine ag ?_;refine ae ?_;refine ae ?_;refine ak [2] ?_;refine aD ?_;refine bf ?_;rw[K];exact⟨rfl,rfl⟩
  have J:=I
  (try simp only[V.ah,ne_eq] at J)
  have h0:cH l[i]=0:=(by simpa using I)
  refine aN ?_;refine aR ?_;refine aa az ?_;refine ae ?_;refine ak [6,7,8] ?_;refine⟨(i+1),_,?_,?_,w8,(hx.trans (wv aH h0)),rfl⟩
  ·first|omega|(simp only[];omega)
  exact Wk.bz (n:=18) rfl c5 cD
 have E:=ax
 (try simp only[V.ah,ne_eq] at E)
 have K:fl cH l=0:=hx.trans (vW k6);refine dJ ?_;refine ag ?_;refine ae ?_;refine ak [2] ?_;refine aD ?_;refine bf ?_;rw[K];exact⟨rfl,rfl⟩
theorem BC(l:List Vl)(hl:l.length<=1000):VP Tryd.prog G 51 [ap 3 cV l] (aj (kV l)):=by
 refine cL func51 rfl ntmps51 aV fun X0 w0 Z=>?_;have Ec:(l.length<1\/l.length>6)\/¬(l.length<1\/l.length>6):=(by omega)
 refine ag ?_;refine ae ?_;refine ak [0] ?_;refine aA ?_;refine ag ?_;refine ae ?_;refine aa bV ?_;refine aa az ?_;refine ae ?_;refine cM (t:=9) lk (fun O=>?_) (fun O=>?_)
 ·have I:=O;(try simp only[V.ah,ne_eq] at I)
  refine an ?_;refine an ?_;refine an ?_;refine aa bZ ?_;refine ak [0,13] ?_;refine ei ot w5 ?_;have E:kV l=1:=if_pos w8;refine ag ?_;refine ae ?_;refine ak [2] ?_;refine aD ?_;refine bf ?_;rw[E];exact⟨rfl,rfl⟩
 have I:=O;(try simp only[V.ah,ne_eq] at I)
 refine ae ?_;refine aa bV ?_;refine aa az ?_;refine aa bt ?_;refine ak [0,13] ?_;refine aI ot (fun ax=>?_) (fun ax=>?_)
 ·have J:=ax
  (try simp only[V.ah,ne_eq] at J)
  have E:kV l=1:=if_pos w8;refine ag ?_;refine ae ?_;refine ak [2] ?_;refine aD ?_;refine bf ?_;rw[E];exact⟨rfl,rfl⟩
 have J:=ax
 (try simp only[V.ah,ne_eq] at J)
 have hf:kV l=fl fF l:=if_neg w8;refine aN ?_;refine aA ?_;refine ag ?_;refine ae ?_;refine aa bV ?_;refine ae ?_;refine ak [14,15,16] ?_;refine bO ?_;refine ed (fun (i:Nat) U=>(i<=l.length)/\(fl fF l=fl fF (l.drop i))/\U=(⟨26,[(14,ap 3 cV l),(15,aj (l.length:Nat)),(16,aj (i:Nat))],[]⟩:St)) (fun (i:Nat)=>l.length-i) 0 ⟨(Nat.zero_le _),rfl,rfl⟩ (Wk.bz rfl c5 cD) ?_;rintro i _ ⟨hi,hx,rfl⟩;refine ag ?_;refine aa az ?_;refine ak [14,15,16,17] ?_;refine aA ?_;refine aI ot (fun K=>?_) (fun K=>?_)
 ·have M:=K
  (try simp only[V.ah,ne_eq] at M)
  have aH:i<l.length:=(by simp at K;omega)
  refine aN ?_;refine aA ?_;refine bO ?_;refine ag ?_;refine aa (di 3 (h:=kZ)) ?_;refine aa (jc [_,_,_]) ?_;refine ep (ds:=[_,_,_]) av rfl rfl zeroValue23 rfl (fun Y=>?_);refine bq 0 [_,_,_] sizeOf23 ?_;refine aF [(4,_),(14,_),(15,_),(16,_)] [⟨Y,23,3,[_,_,_]⟩] ?_;refine ag ?_;refine aa (dF 0 [_,_,_]) ?_;refine bK call62 (Nm.vC l[i]) ?_;refine ae ?_;refine aF [(5,_),(14,_),(15,_),(16,_)] [⟨Y,23,3,[_,_,_]⟩] ?_;refine ag ?_;refine ae ?_;refine aa az ?_;refine ak [5,14,15,16,23] ?_;refine aI ot (fun N=>?_) (fun N=>?_)
  ·have aX:=N
   (try simp only[V.ah,ne_eq] at aX)
   have hn:fF l[i]≠0:=(by simpa using N)
   have E:=hf.trans (hx.trans (wu aH hn));refine ag ?_;refine ae ?_;refine ae ?_;refine ak [2] ?_;refine aD ?_;refine bf ?_;rw[E];exact⟨rfl,rfl⟩
  have aX:=N
  (try simp only[V.ah,ne_eq] at aX)
  have h0:fF l[i]=0:=(by simpa using N)
  refine aN ?_;refine aR ?_;refine aa az ?_;refine ae ?_;refine ak [14,15,16] ?_;refine⟨(i+1),_,?_,?_,w8,(hx.trans (wv aH h0)),rfl⟩
  ·first|omega|(simp only[];omega)
  exact Wk.bz (n:=26) rfl c5 cD
 have M:=K
 (try simp only[V.ah,ne_eq] at M)
 have E:kV l=0:=hf.trans (hx.trans (vW (by simp at K;omega)));refine dJ ?_;refine ag ?_;refine ae ?_;refine ak [2] ?_;refine aD ?_;refine bf ?_;rw[E];exact⟨rfl,rfl⟩
theorem mw(hm:(0,marksC)∈G)(hw:(2,wordsC)∈G)(l:List aT)(hs:∀o∈l,o.nm.size<=maxLen):VP Tryd.prog G 54 [ap 5 cO l] (aj (iV l)):=by
 refine cL func54 rfl ntmps54 aV fun K w0 J=>?_;refine ag ?_;refine ae ?_;refine ak [0] ?_;refine aA ?_;refine ag ?_;refine ae ?_;refine aa bV ?_;refine aa az ?_;refine ak [0,5] ?_;refine aI ot (fun ax=>?_) (fun ax=>?_)
 ·have E:=ax
  (try simp only[V.ah,ne_eq] at E)
  have I:iV l=0:=if_pos k6;refine ag ?_;refine ae ?_;refine ak [2] ?_;refine aD ?_;refine bf ?_;rw[I];exact⟨rfl,rfl⟩
 have E:=ax
 (try simp only[V.ah,ne_eq] at E)
 have I:iV l=ic l:=if_neg k6;refine aN ?_;refine ag ?_;refine ae ?_;refine bK call53 (wS hm hw l hs) ?_;refine ae ?_;refine aF [(2,_)] [] ?_;refine aD ?_;refine⟨.inr rfl,c6 results54 ?_⟩;rw[I];exact⟨rfl,rfl⟩
theorem AV(hm:(0,marksC)∈G)(hw:(2,wordsC)∈G)(s:cc)(hf:j4 s):VP Tryd.prog G 52 [.agg (dW s)] (aj (eD s)):=by
 refine cL func52 rfl ntmps52 aV fun X0 w0 dM=>?_;unfold dW;refine ag ?_;refine fi (ds:=[_,_,_,_,_,_,_,_,_,_,_,_]) av rfl rfl ot rfl rfl (fun Y=>?_);refine ae ?_;refine aF [(1,_)] [⟨Y,35,12,[_,_,_,_,_,_,_,_,_,_,_,_]⟩] ?_;refine aA ?_;refine bO ?_;refine ag ?_;refine aa (aq 4) ?_;refine aa (aC 0) ?_;refine aa bV ?_;refine aa az ?_;refine ae ?_;refine ak [1,5] ?_;refine aI ot (fun ax=>?_) (fun ax=>?_)
 ·have Z:=ax
  (try simp only[V.ah,ne_eq] at Z)
  refine ag ?_;refine ae ?_;refine ak [2] ?_;refine aD ?_;refine bf ?_;refine⟨vi ?_,rfl⟩;unfold eD cj;simp_all;all_goals (try (intros;(repeat' split)<;>first|rfl|omega))
 have Z:=ax
 (try simp only[V.ah,ne_eq] at Z)
 refine ag ?_;refine aa (aq 9) ?_;refine aa (aC 0) ?_;refine aa az ?_;refine ae ?_;refine ak [1,10] ?_;refine aI ot (fun bW=>?_) (fun bW=>?_)
 ·have dL:=bW
  (try simp only[V.ah,ne_eq] at dL)
  refine ag ?_;refine ae ?_;refine ak [2] ?_;refine aD ?_;refine bf ?_;refine⟨vi ?_,rfl⟩;unfold eD cj;simp_all;all_goals (try (intros;(repeat' split)<;>first|rfl|omega))
 have dL:=bW
 (try simp only[V.ah,ne_eq] at dL)
 refine ag ?_;refine aa (aq 5) ?_;refine aa (aC 0) ?_;refine ae ?_;refine cM (t:=17) lk (fun eZ=>?_) (fun eZ=>?_)
 ·have N:=eZ;(try simp only[V.ah,ne_eq] at N)
  refine aa (aq 4) ?_;refine aa (aC 0) ?_;refine aa bV ?_;refine aa az ?_;refine aa bZ ?_;refine ae ?_;refine cM (t:=23) lk (fun s6=>?_) (fun s6=>?_)
  ·have O:=s6;(try simp only[V.ah,ne_eq] at O)
   refine an ?_;refine an ?_;refine an ?_;refine k8 ?_;refine k8 ?_;refine k8 ?_;refine an ?_;refine aa bZ ?_;refine ae ?_;refine ak [1,14] ?_;refine ei ot w5 ?_;refine ag ?_;refine ae ?_;refine ak [2] ?_;refine aD ?_;refine bf ?_;refine⟨vi ?_,rfl⟩;unfold eD cj;simp_all;all_goals (try (intros;(repeat' split)<;>first|rfl|omega))
  have O:=s6;(try simp only[V.ah,ne_eq] at O)
  refine aa (aq 8) ?_;refine aa (aC 0) ?_;refine ae ?_;refine cM (t:=26) lk (fun M=>?_) (fun M=>?_)
  ·have E:=M;(try simp only[V.ah,ne_eq] at E)
   refine aa (aq 7) ?_;refine aa (aC 0) ?_;refine aa az ?_;refine aa bZ ?_;refine aa bt ?_;refine ae ?_;refine ak [1,14] ?_;refine aI ot (fun U=>?_) (fun U=>?_)
   ·have aX:=U
    (try simp only[V.ah,ne_eq] at aX)
    refine ag ?_;refine ae ?_;refine ak [2] ?_;refine aD ?_;refine bf ?_;refine⟨vi ?_,rfl⟩;unfold eD cj;simp_all;all_goals (try (intros;(repeat' split)<;>first|rfl|omega))
   have aX:=U
   (try simp only[V.ah,ne_eq] at aX)
   refine aN ?_;refine aA ?_;refine ag ?_;refine aa (aq 4) ?_;refine aa (aC 0) ?_;refine bK call63 (pq hm hw s.names qu hf.n) ?_;refine ae ?_;refine aF [(1,_),(3,_)] [⟨Y,35,12,[_,_,_,_,_,_,_,_,_,_,_,_]⟩] ?_;refine ag ?_;refine ae ?_;refine aa az ?_;refine ak [1,3,36] ?_;refine aI ot (fun I=>?_) (fun I=>?_)
   ·have bn:=I
    (try simp only[V.ah,ne_eq] at bn)
    refine ag ?_;refine ae ?_;refine ae ?_;refine ak [2] ?_;refine aD ?_;refine bf ?_;refine⟨vi ?_,rfl⟩;unfold eD cj;simp_all;all_goals (try (intros;(repeat' split)<;>first|rfl|omega))
   have bn:=I
   (try simp only[V.ah,ne_eq] at bn)
   refine aN ?_;refine aA ?_;refine ag ?_;refine aa (aq 6) ?_;refine aa (aC 0) ?_;refine bK call54 (mw hm hw s.bw (fun o h=>(hf.w o h).1)) ?_;refine ae ?_;refine aF [(1,_),(4,_)] [⟨Y,35,12,[_,_,_,_,_,_,_,_,_,_,_,_]⟩] ?_;refine ag ?_;refine ae ?_;refine aa az ?_;refine ak [1,4,42] ?_;refine aI ot (fun J=>?_) (fun J=>?_)
   ·have bJ:=J
    (try simp only[V.ah,ne_eq] at bJ)
    refine ag ?_;refine ae ?_;refine ae ?_;refine ak [2] ?_;refine aD ?_;refine bf ?_;refine⟨vi ?_,rfl⟩;unfold eD cj;simp_all;all_goals (try (intros;(repeat' split)<;>first|rfl|omega))
   have bJ:=J
   (try simp only[V.ah,ne_eq] at bJ)
   refine aN ?_;refine aA ?_;refine ag ?_;refine aa (aq 7) ?_;refine aa (aC 0) ?_;refine aa az ?_;refine ak [1,46] ?_;refine aI ot (fun K=>?_) (fun K=>?_)
   ·have bA:=K
    (try simp only[V.ah,ne_eq] at bA)
    refine ag ?_;refine aa (aq 7) ?_;refine aa (aC 0) ?_;refine bK call33 (jo hm hw s.order hf.o) ?_;refine ae ?_;refine aF [(2,_)] [⟨Y,35,12,[_,_,_,_,_,_,_,_,_,_,_,_]⟩] ?_;refine aD ?_;refine⟨.inr rfl,c6 results52 ?_⟩;refine⟨vi ?_,rfl⟩;unfold eD cj;simp_all;all_goals (try (intros;(repeat' split)<;>first|rfl|omega))
   have bA:=K
   (try simp only[V.ah,ne_eq] at bA)
   refine aN ?_;refine ag ?_;refine ae ?_;refine ak [2] ?_;refine aD ?_;refine bf ?_;refine⟨vi ?_,rfl⟩;unfold eD cj;simp_all;all_goals (try (intros;(repeat' split)<;>first|rfl|omega))
  have E:=M;(try simp only[V.ah,ne_eq] at E)
  refine an ?_;refine an ?_;refine an ?_;refine aa bt ?_;refine aa bt ?_;refine ae ?_;refine ak [1,14] ?_;refine gm ot w5 ?_;refine aN ?_;refine aA ?_;refine ag ?_;refine aa (aq 4) ?_;refine aa (aC 0) ?_;refine bK call63 (pq hm hw s.names qu hf.n) ?_;refine ae ?_;refine aF [(1,_),(3,_)] [⟨Y,35,12,[_,_,_,_,_,_,_,_,_,_,_,_]⟩] ?_;refine ag ?_;refine ae ?_;refine aa az ?_;refine ak [1,3,36] ?_;refine aI ot (fun I=>?_) (fun I=>?_)
  ·have bn:=I
   (try simp only[V.ah,ne_eq] at bn)
   refine ag ?_;refine ae ?_;refine ae ?_;refine ak [2] ?_;refine aD ?_;refine bf ?_;refine⟨vi ?_,rfl⟩;unfold eD cj;simp_all;all_goals (try (intros;(repeat' split)<;>first|rfl|omega))
  have bn:=I
  (try simp only[V.ah,ne_eq] at bn)
  refine aN ?_;refine aA ?_;refine ag ?_;refine aa (aq 6) ?_;refine aa (aC 0) ?_;refine bK call54 (mw hm hw s.bw (fun o h=>(hf.w o h).1)) ?_;refine ae ?_;refine aF [(1,_),(4,_)] [⟨Y,35,12,[_,_,_,_,_,_,_,_,_,_,_,_]⟩] ?_;refine ag ?_;refine ae ?_;refine aa az ?_;refine ak [1,4,42] ?_;refine aI ot (fun J=>?_) (fun J=>?_)
  ·have bJ:=J
   (try simp only[V.ah,ne_eq] at bJ)
   refine ag ?_;refine ae ?_;refine ae ?_;refine ak [2] ?_;refine aD ?_;refine bf ?_;refine⟨vi ?_,rfl⟩;unfold eD cj;simp_all;all_goals (try (intros;(repeat' split)<;>first|rfl|omega))
  have bJ:=J
  (try simp only[V.ah,ne_eq] at bJ)
  refine aN ?_;refine aA ?_;refine ag ?_;refine aa (aq 7) ?_;refine aa (aC 0) ?_;refine aa az ?_;refine ak [1,46] ?_;refine aI ot (fun K=>?_) (fun K=>?_)
  ·have bA:=K
   (try simp only[V.ah,ne_eq] at bA)
   refine ag ?_;refine aa (aq 7) ?_;refine aa (aC 0) ?_;refine bK call33 (jo hm hw s.order hf.o) ?_;refine ae ?_;refine aF [(2,_)] [⟨Y,35,12,[_,_,_,_,_,_,_,_,_,_,_,_]⟩] ?_;refine aD ?_;refine⟨.inr rfl,c6 results52 ?_⟩;refine⟨vi ?_,rfl⟩;unfold eD cj;simp_all;all_goals (try (intros;(repeat' split)<;>first|rfl|omega))
  have bA:=K
  (try simp only[V.ah,ne_eq] at bA)
  refine aN ?_;refine ag ?_;refine ae ?_;refine ak [2] ?_;refine aD ?_;refine bf ?_;refine⟨vi ?_,rfl⟩;unfold eD cj;simp_all;all_goals (try (intros;(repeat' split)<;>first|rfl|omega))
 have N:=eZ;(try simp only[V.ah,ne_eq] at N)
 refine an ?_;refine an ?_;refine an ?_;refine an ?_;refine aa bt ?_;refine ae ?_;refine aa (aq 8) ?_;refine aa (aC 0) ?_;refine ae ?_;refine cM (t:=26) lk (fun M=>?_) (fun M=>?_)
 ·have E:=M;(try simp only[V.ah,ne_eq] at E)
  refine aa (aq 7) ?_;refine aa (aC 0) ?_;refine aa az ?_;refine aa bZ ?_;refine aa bt ?_;refine ae ?_;refine ak [1,14] ?_;refine aI ot (fun U=>?_) (fun U=>?_)
  ·have aX:=U
   (try simp only[V.ah,ne_eq] at aX)
   refine ag ?_;refine ae ?_;refine ak [2] ?_;refine aD ?_;refine bf ?_;refine⟨vi ?_,rfl⟩;unfold eD cj;simp_all;all_goals (try (intros;(repeat' split)<;>first|rfl|omega))
  have aX:=U
  (try simp only[V.ah,ne_eq] at aX)
  refine aN ?_;refine aA ?_;refine ag ?_;refine aa (aq 4) ?_;refine aa (aC 0) ?_;refine bK call63 (pq hm hw s.names qu hf.n) ?_;refine ae ?_;refine aF [(1,_),(3,_)] [⟨Y,35,12,[_,_,_,_,_,_,_,_,_,_,_,_]⟩] ?_;refine ag ?_;refine ae ?_;refine aa az ?_;refine ak [1,3,36] ?_;refine aI ot (fun I=>?_) (fun I=>?_)
  ·have bn:=I
   (try simp only[V.ah,ne_eq] at bn)
   refine ag ?_;refine ae ?_;refine ae ?_;refine ak [2] ?_;refine aD ?_;refine bf ?_;refine⟨vi ?_,rfl⟩;unfold eD cj;simp_all;all_goals (try (intros;(repeat' split)<;>first|rfl|omega))
  have bn:=I
  (try simp only[V.ah,ne_eq] at bn)
  refine aN ?_;refine aA ?_;refine ag ?_;refine aa (aq 6) ?_;refine aa (aC 0) ?_;refine bK call54 (mw hm hw s.bw (fun o h=>(hf.w o h).1)) ?_;refine ae ?_;refine aF [(1,_),(4,_)] [⟨Y,35,12,[_,_,_,_,_,_,_,_,_,_,_,_]⟩] ?_;refine ag ?_;refine ae ?_;refine aa az ?_;refine ak [1,4,42] ?_;refine aI ot (fun J=>?_) (fun J=>?_)
  ·have bJ:=J
   (try simp only[V.ah,ne_eq] at bJ)
   refine ag ?_;refine ae ?_;refine ae ?_;refine ak [2] ?_;refine aD ?_;refine bf ?_;refine⟨vi ?_,rfl⟩;unfold eD cj;simp_all;all_goals (try (intros;(repeat' split)<;>first|rfl|omega))
  have bJ:=J
  (try simp only[V.ah,ne_eq] at bJ)
  refine aN ?_;refine aA ?_;refine ag ?_;refine aa (aq 7) ?_;refine aa (aC 0) ?_;refine aa az ?_;refine ak [1,46] ?_;refine aI ot (fun K=>?_) (fun K=>?_)
  ·have bA:=K
   (try simp only[V.ah,ne_eq] at bA)
   refine ag ?_;refine aa (aq 7) ?_;refine aa (aC 0) ?_;refine bK call33 (jo hm hw s.order hf.o) ?_;refine ae ?_;refine aF [(2,_)] [⟨Y,35,12,[_,_,_,_,_,_,_,_,_,_,_,_]⟩] ?_;refine aD ?_;refine⟨.inr rfl,c6 results52 ?_⟩;refine⟨vi ?_,rfl⟩;unfold eD cj;simp_all;all_goals (try (intros;(repeat' split)<;>first|rfl|omega))
  have bA:=K
  (try simp only[V.ah,ne_eq] at bA)
  refine aN ?_;refine ag ?_;refine ae ?_;refine ak [2] ?_;refine aD ?_;refine bf ?_;refine⟨vi ?_,rfl⟩;unfold eD cj;simp_all;all_goals (try (intros;(repeat' split)<;>first|rfl|omega))
 have E:=M;(try simp only[V.ah,ne_eq] at E)
 refine an ?_;refine an ?_;refine an ?_;refine aa bt ?_;refine aa bt ?_;refine ae ?_;refine ak [1,14] ?_;refine gm ot w5 ?_;refine aN ?_;refine aA ?_;refine ag ?_;refine aa (aq 4) ?_;refine aa (aC 0) ?_;refine bK call63 (pq hm hw s.names qu hf.n) ?_;refine ae ?_;refine aF [(1,_),(3,_)] [⟨Y,35,12,[_,_,_,_,_,_,_,_,_,_,_,_]⟩] ?_;refine ag ?_;refine ae ?_;refine aa az ?_;refine ak [1,3,36] ?_;refine aI ot (fun I=>?_) (fun I=>?_)
 ·have bn:=I
  (try simp only[V.ah,ne_eq] at bn)
  refine ag ?_;refine ae ?_;refine ae ?_;refine ak [2] ?_;refine aD ?_;refine bf ?_;refine⟨vi ?_,rfl⟩;unfold eD cj;simp_all;all_goals (try (intros;(repeat' split)<;>first|rfl|omega))
 have bn:=I
 (try simp only[V.ah,ne_eq] at bn)
 refine aN ?_;refine aA ?_;refine ag ?_;refine aa (aq 6) ?_;refine aa (aC 0) ?_;refine bK call54 (mw hm hw s.bw (fun o h=>(hf.w o h).1)) ?_;refine ae ?_;refine aF [(1,_),(4,_)] [⟨Y,35,12,[_,_,_,_,_,_,_,_,_,_,_,_]⟩] ?_;refine ag ?_;refine ae ?_;refine aa az ?_;refine ak [1,4,42] ?_;refine aI ot (fun J=>?_) (fun J=>?_)
 ·have bJ:=J
  (try simp only[V.ah,ne_eq] at bJ)
  refine ag ?_;refine ae ?_;refine ae ?_;refine ak [2] ?_;refine aD ?_;refine bf ?_;refine⟨vi ?_,rfl⟩;unfold eD cj;simp_all;all_goals (try (intros;(repeat' split)<;>first|rfl|omega))
 have bJ:=J
 (try simp only[V.ah,ne_eq] at bJ)
 refine aN ?_;refine aA ?_;refine ag ?_;refine aa (aq 7) ?_;refine aa (aC 0) ?_;refine aa az ?_;refine ak [1,46] ?_;refine aI ot (fun K=>?_) (fun K=>?_)
 ·have bA:=K
  (try simp only[V.ah,ne_eq] at bA)
  refine ag ?_;refine aa (aq 7) ?_;refine aa (aC 0) ?_;refine bK call33 (jo hm hw s.order hf.o) ?_;refine ae ?_;refine aF [(2,_)] [⟨Y,35,12,[_,_,_,_,_,_,_,_,_,_,_,_]⟩] ?_;refine aD ?_;refine⟨.inr rfl,c6 results52 ?_⟩;refine⟨vi ?_,rfl⟩;unfold eD cj;simp_all;all_goals (try (intros;(repeat' split)<;>first|rfl|omega))
 have bA:=K
 (try simp only[V.ah,ne_eq] at bA)
 refine aN ?_;refine ag ?_;refine ae ?_;refine ak [2] ?_;refine aD ?_;refine bf ?_;refine⟨vi ?_,rfl⟩;unfold eD cj;simp_all;all_goals (try (intros;(repeat' split)<;>first|rfl|omega))
theorem BD(s h:cc):VP Tryd.prog G 55 [.agg (dW s),.agg (dW h)] (bI (gy s h)):=by
 refine cL func55 rfl ntmps55 aV fun X0 w0 dM=>?_;unfold dW;refine ag ?_;refine fi (ds:=[_,_,_,_,_,_,_,_,_,_,_,_]) av rfl rfl ot rfl rfl (fun b2=>?_);refine fi (ds:=[_,_,_,_,_,_,_,_,_,_,_,_]) av rfl rfl ot rfl rfl (fun b3=>?_);refine ae ?_;refine aF [(2,_),(3,_)] [⟨b3,35,12,[_,_,_,_,_,_,_,_,_,_,_,_]⟩,⟨b2,35,12,[_,_,_,_,_,_,_,_,_,_,_,_]⟩] ?_;refine ag ?_;refine aa (aq 1) ?_;refine aa (aC 1) ?_;refine aa (aq 1) ?_;refine aa (aC 0) ?_;refine aa az ?_;refine ae ?_;refine cM (t:=10) lk (fun s7=>?_) (fun s7=>?_)
 ·have E:=s7;(try simp only[V.ah,ne_eq] at E)
  refine aa (aq 2) ?_;refine aa (aC 1) ?_;refine aa bV ?_;refine aa (aq 2) ?_;refine aa (aC 0) ?_;refine aa bV ?_;refine aa az ?_;refine aa bZ ?_;refine ae ?_;refine cM (t:=19) lk (fun s8=>?_) (fun s8=>?_)
  ·have I:=s8;(try simp only[V.ah,ne_eq] at I)
   refine aa (aq 3) ?_;refine aa (aC 1) ?_;refine aa bV ?_;refine aa (aq 3) ?_;refine aa (aC 0) ?_;refine aa bV ?_;refine aa az ?_;refine aa bZ ?_;refine ae ?_;refine cM (t:=28) lk (fun s9=>?_) (fun s9=>?_)
   ·have J:=s9;(try simp only[V.ah,ne_eq] at J)
    refine aa (aq 4) ?_;refine aa (aC 1) ?_;refine aa bV ?_;refine aa (aq 4) ?_;refine aa (aC 0) ?_;refine aa bV ?_;refine aa az ?_;refine aa bZ ?_;refine ae ?_;refine cM (t:=37) lk (fun tc=>?_) (fun tc=>?_)
    ·have K:=tc;(try simp only[V.ah,ne_eq] at K)
     refine aa (aq 5) ?_;refine aa (aC 1) ?_;refine aa (aq 5) ?_;refine aa (aC 0) ?_;refine iT de rfl (fc rfl ot ot (v7 underlying4)) ?_;refine aa bZ ?_;refine ae ?_;refine cM (t:=44) lk (fun td=>?_) (fun td=>?_)
     ·have M:=td;(try simp only[V.ah,ne_eq] at M)
      refine aa (aq 6) ?_;refine aa (aC 1) ?_;refine aa bV ?_;refine aa (aq 6) ?_;refine aa (aC 0) ?_;refine aa bV ?_;refine aa az ?_;refine aa bZ ?_;refine ae ?_;refine cM (t:=53) lk (fun tf=>?_) (fun tf=>?_)
      ·have N:=tf;(try simp only[V.ah,ne_eq] at N)
       refine aa (aq 7) ?_;refine aa (aC 1) ?_;refine aa (aq 7) ?_;refine aa (aC 0) ?_;refine aa az ?_;refine aa bZ ?_;refine ae ?_;refine cM (t:=60) lk (fun tg=>?_) (fun tg=>?_)
       ·have O:=tg;(try simp only[V.ah,ne_eq] at O)
        refine aa (aq 8) ?_;refine aa (aC 1) ?_;refine aa (aq 8) ?_;refine aa (aC 0) ?_;refine iT de rfl (fc rfl ot ot (v7 underlying4)) ?_;refine aa bZ ?_;refine ae ?_;refine cM (t:=67) lk (fun th=>?_) (fun th=>?_)
        ·have U:=th;(try simp only[V.ah,ne_eq] at U)
         refine aa (aq 9) ?_;refine aa (aC 1) ?_;refine aa (aq 9) ?_;refine aa (aC 0) ?_;refine aa az ?_;refine aa bZ ?_;refine ae ?_;refine cM (t:=74) lk (fun tj=>?_) (fun tj=>?_)
         ·have Y:=tj;(try simp only[V.ah,ne_eq] at Y)
          refine aa (aq 10) ?_;refine aa (aC 1) ?_;refine aa (aq 10) ?_;refine aa (aC 0) ?_;refine aa az ?_;refine aa bZ ?_;refine ae ?_;refine cM (t:=81) lk (fun tq=>?_) (fun tq=>?_)
          ·have Z:=tq;(try simp only[V.ah,ne_eq] at Z)
           refine aa (aq 11) ?_;refine aa (aC 1) ?_;refine aa bV ?_;refine aa (aq 11) ?_;refine aa (aC 0) ?_;refine aa bV ?_;refine aa az ?_;refine aa bZ ?_;refine ae ?_;refine aF [(4,_)] [⟨b3,35,12,[_,_,_,_,_,_,_,_,_,_,_,_]⟩,⟨b2,35,12,[_,_,_,_,_,_,_,_,_,_,_,_]⟩] ?_;refine aD ?_;refine⟨.inr rfl,c6 results55 ?_⟩;refine⟨vb ?_,rfl⟩;unfold gy cj;simp_all;all_goals (try (intros;omega))
          have Z:=tq;(try simp only[V.ah,ne_eq] at Z)
          refine an ?_;refine an ?_;refine an ?_;refine an ?_;refine an ?_;refine an ?_;refine an ?_;refine aa bt ?_;refine ae ?_;refine aF [(4,_)] [⟨b3,35,12,[_,_,_,_,_,_,_,_,_,_,_,_]⟩,⟨b2,35,12,[_,_,_,_,_,_,_,_,_,_,_,_]⟩] ?_;refine aD ?_;refine⟨.inr rfl,c6 results55 ?_⟩;refine⟨vb ?_,rfl⟩;unfold gy cj;simp_all;all_goals (try (intros;omega))
         have Y:=tj;(try simp only[V.ah,ne_eq] at Y)
         refine an ?_;refine an ?_;refine an ?_;refine an ?_;refine an ?_;refine aa bt ?_;refine ae ?_;refine an ?_;refine an ?_;refine an ?_;refine an ?_;refine an ?_;refine an ?_;refine an ?_;refine aa bt ?_;refine ae ?_;refine aF [(4,_)] [⟨b3,35,12,[_,_,_,_,_,_,_,_,_,_,_,_]⟩,⟨b2,35,12,[_,_,_,_,_,_,_,_,_,_,_,_]⟩] ?_;refine aD ?_;refine⟨.inr rfl,c6 results55 ?_⟩;refine⟨vb ?_,rfl⟩;unfold gy cj;simp_all;all_goals (try (intros;omega))
        have U:=th;(try simp only[V.ah,ne_eq] at U)
        refine an ?_;refine an ?_;refine an ?_;refine an ?_;refine an ?_;refine aa bt ?_;refine ae ?_;refine an ?_;refine an ?_;refine an ?_;refine an ?_;refine an ?_;refine aa bt ?_;refine ae ?_;refine an ?_;refine an ?_;refine an ?_;refine an ?_;refine an ?_;refine an ?_;refine an ?_;refine aa bt ?_;refine ae ?_;refine aF [(4,_)] [⟨b3,35,12,[_,_,_,_,_,_,_,_,_,_,_,_]⟩,⟨b2,35,12,[_,_,_,_,_,_,_,_,_,_,_,_]⟩] ?_;refine aD ?_;refine⟨.inr rfl,c6 results55 ?_⟩;refine⟨vb ?_,rfl⟩;unfold gy cj;simp_all;all_goals (try (intros;omega))
       have O:=tg;(try simp only[V.ah,ne_eq] at O)
       refine an ?_;refine an ?_;refine an ?_;refine an ?_;refine an ?_;refine aa bt ?_;refine ae ?_;refine an ?_;refine an ?_;refine an ?_;refine an ?_;refine an ?_;refine aa bt ?_;refine ae ?_;refine an ?_;refine an ?_;refine an ?_;refine an ?_;refine an ?_;refine aa bt ?_;refine ae ?_;refine an ?_;refine an ?_;refine an ?_;refine an ?_;refine an ?_;refine an ?_;refine an ?_;refine aa bt ?_;refine ae ?_;refine aF [(4,_)] [⟨b3,35,12,[_,_,_,_,_,_,_,_,_,_,_,_]⟩,⟨b2,35,12,[_,_,_,_,_,_,_,_,_,_,_,_]⟩] ?_;refine aD ?_;refine⟨.inr rfl,c6 results55 ?_⟩;refine⟨vb ?_,rfl⟩;unfold gy cj;simp_all;all_goals (try (intros;omega))
      have N:=tf;(try simp only[V.ah,ne_eq] at N)
      refine an ?_;refine an ?_;refine an ?_;refine an ?_;refine an ?_;refine aa bt ?_;refine ae ?_;refine an ?_;refine an ?_;refine an ?_;refine an ?_;refine an ?_;refine aa bt ?_;refine ae ?_;refine an ?_;refine an ?_;refine an ?_;refine an ?_;refine an ?_;refine aa bt ?_;refine ae ?_;refine an ?_;refine an ?_;refine an ?_;refine an ?_;refine an ?_;refine aa bt ?_;refine ae ?_;refine an ?_;refine an ?_;refine an ?_;refine an ?_;refine an ?_;refine an ?_;refine an ?_;refine aa bt ?_;refine ae ?_;refine aF [(4,_)] [⟨b3,35,12,[_,_,_,_,_,_,_,_,_,_,_,_]⟩,⟨b2,35,12,[_,_,_,_,_,_,_,_,_,_,_,_]⟩] ?_;refine aD ?_;refine⟨.inr rfl,c6 results55 ?_⟩;refine⟨vb ?_,rfl⟩;unfold gy cj;simp_all;all_goals (try (intros;omega))
     have M:=td;(try simp only[V.ah,ne_eq] at M)
     refine an ?_;refine an ?_;refine an ?_;refine an ?_;refine an ?_;refine an ?_;refine an ?_;refine aa bt ?_;refine ae ?_;refine an ?_;refine an ?_;refine an ?_;refine an ?_;refine an ?_;refine aa bt ?_;refine ae ?_;refine an ?_;refine an ?_;refine an ?_;refine an ?_;refine an ?_;refine aa bt ?_;refine ae ?_;refine an ?_;refine an ?_;refine an ?_;refine an ?_;refine an ?_;refine aa bt ?_;refine ae ?_;refine an ?_;refine an ?_;refine an ?_;refine an ?_;refine an ?_;refine aa bt ?_;refine ae ?_;refine an ?_;refine an ?_;refine an ?_;refine an ?_;refine an ?_;refine an ?_;refine an ?_;refine aa bt ?_;refine ae ?_;refine aF [(4,_)] [⟨b3,35,12,[_,_,_,_,_,_,_,_,_,_,_,_]⟩,⟨b2,35,12,[_,_,_,_,_,_,_,_,_,_,_,_]⟩] ?_;refine aD ?_;refine⟨.inr rfl,c6 results55 ?_⟩;refine⟨vb ?_,rfl⟩;unfold gy cj;simp_all;all_goals (try (intros;omega))
    have K:=tc;(try simp only[V.ah,ne_eq] at K)
    refine an ?_;refine an ?_;refine an ?_;refine an ?_;refine an ?_;refine aa bt ?_;refine ae ?_;refine an ?_;refine an ?_;refine an ?_;refine an ?_;refine an ?_;refine an ?_;refine an ?_;refine aa bt ?_;refine ae ?_;refine an ?_;refine an ?_;refine an ?_;refine an ?_;refine an ?_;refine aa bt ?_;refine ae ?_;refine an ?_;refine an ?_;refine an ?_;refine an ?_;refine an ?_;refine aa bt ?_;refine ae ?_;refine an ?_;refine an ?_;refine an ?_;refine an ?_;refine an ?_;refine aa bt ?_;refine ae ?_;refine an ?_;refine an ?_;refine an ?_;refine an ?_;refine an ?_;refine aa bt ?_;refine ae ?_;refine an ?_;refine an ?_;refine an ?_;refine an ?_;refine an ?_;refine an ?_;refine an ?_;refine aa bt ?_;refine ae ?_;refine ak [4] ?_;refine aD ?_;refine bf ?_;refine⟨vb ?_,rfl⟩;unfold gy cj;simp_all;all_goals (try (intros;omega))
   have J:=s9;(try simp only[V.ah,ne_eq] at J)
   refine an ?_;refine an ?_;refine an ?_;refine an ?_;refine an ?_;refine an ?_;refine an ?_;refine aa bt ?_;refine ae ?_;refine an ?_;refine an ?_;refine an ?_;refine an ?_;refine an ?_;refine aa bt ?_;refine ae ?_;refine an ?_;refine an ?_;refine an ?_;refine an ?_;refine an ?_;refine an ?_;refine an ?_;refine aa bt ?_;refine ae ?_;refine an ?_;refine an ?_;refine an ?_;refine an ?_;refine an ?_;refine aa bt ?_;refine ae ?_;refine an ?_;refine an ?_;refine an ?_;refine an ?_;refine an ?_;refine aa bt ?_;refine ae ?_;refine an ?_;refine an ?_;refine an ?_;refine an ?_;refine an ?_;refine aa bt ?_;refine ae ?_;refine an ?_;refine an ?_;refine an ?_;refine an ?_;refine an ?_;refine aa bt ?_;refine ae ?_;refine an ?_;refine an ?_;refine an ?_;refine an ?_;refine an ?_;refine an ?_;refine an ?_;refine aa bt ?_;refine ae ?_;refine ak [4] ?_;refine aD ?_;refine bf ?_;refine⟨vb ?_,rfl⟩;unfold gy cj;simp_all;all_goals (try (intros;omega))
  have I:=s8;(try simp only[V.ah,ne_eq] at I)
  refine an ?_;refine an ?_;refine an ?_;refine an ?_;refine an ?_;refine an ?_;refine an ?_;refine aa bt ?_;refine ae ?_;refine an ?_;refine an ?_;refine an ?_;refine an ?_;refine an ?_;refine an ?_;refine an ?_;refine aa bt ?_;refine ae ?_;refine an ?_;refine an ?_;refine an ?_;refine an ?_;refine an ?_;refine aa bt ?_;refine ae ?_;refine an ?_;refine an ?_;refine an ?_;refine an ?_;refine an ?_;refine an ?_;refine an ?_;refine aa bt ?_;refine ae ?_;refine an ?_;refine an ?_;refine an ?_;refine an ?_;refine an ?_;refine aa bt ?_;refine ae ?_;refine an ?_;refine an ?_;refine an ?_;refine an ?_;refine an ?_;refine aa bt ?_;refine ae ?_;refine an ?_;refine an ?_;refine an ?_;refine an ?_;refine an ?_;refine aa bt ?_;refine ae ?_;refine an ?_;refine an ?_;refine an ?_;refine an ?_;refine an ?_;refine aa bt ?_;refine ae ?_;refine an ?_;refine an ?_;refine an ?_;refine an ?_;refine an ?_;refine an ?_;refine an ?_;refine aa bt ?_;refine ae ?_;refine ak [4] ?_;refine aD ?_;refine bf ?_;refine⟨vb ?_,rfl⟩;unfold gy cj;simp_all;all_goals (try (intros;omega))
 have E:=s7;(try simp only[V.ah,ne_eq] at E)
 refine an ?_;refine an ?_;refine an ?_;refine an ?_;refine an ?_;refine an ?_;refine an ?_;refine aa bt ?_;refine ae ?_;refine an ?_;refine an ?_;refine an ?_;refine an ?_;refine an ?_;refine an ?_;refine an ?_;refine aa bt ?_;refine ae ?_;refine an ?_;refine an ?_;refine an ?_;refine an ?_;refine an ?_;refine an ?_;refine an ?_;refine aa bt ?_;refine ae ?_;refine an ?_;refine an ?_;refine an ?_;refine an ?_;refine an ?_;refine aa bt ?_;refine ae ?_;refine an ?_;refine an ?_;refine an ?_;refine an ?_;refine an ?_;refine an ?_;refine an ?_;refine aa bt ?_;refine ae ?_;refine an ?_;refine an ?_;refine an ?_;refine an ?_;refine an ?_;refine aa bt ?_;refine ae ?_;refine an ?_;refine an ?_;refine an ?_;refine an ?_;refine an ?_;refine aa bt ?_;refine ae ?_;refine an ?_;refine an ?_;refine an ?_;refine an ?_;refine an ?_;refine aa bt ?_;refine ae ?_;refine an ?_;refine an ?_;refine an ?_;refine an ?_;refine an ?_;refine aa bt ?_;refine ae ?_;refine an ?_;refine an ?_;refine an ?_;refine an ?_;refine an ?_;refine an ?_;refine an ?_;refine aa bt ?_;refine ae ?_;refine ak [4] ?_;refine aD ?_;refine bf ?_;refine⟨vb ?_,rfl⟩;unfold gy cj;simp_all;all_goals (try (intros;omega))
theorem Aj:(Tryd.prog.info? 28).map (fun i=>(i.zero,i.size,i.bytes))=some (some (.agg #[.int .i64 0,.string ⟨#[]⟩,.int .i64 0]),3,32):=by kernel_rfl
theorem ni(l:List aT)(hl:l.length<=40)(he:l.length=0\/eN 0 l=0)(hr:∀o∈l,-9223372036854775808<=o.v.n/\o.v.n<=9223372036854775807)(Ev:(ie l).length<=1000):VP Tryd.prog G 46 [ap 5 cO l] (.list 3 ((er l).flatMap cT) (er l).length):=by
 refine cL func46 rfl ntmps46 aV fun X0 w0 dM=>?_;refine ag ?_;refine ae ?_;refine ak [0] ?_;refine aA ?_;refine ag ?_;refine ae ?_;refine aa bV ?_;refine aa az ?_;refine ak [0,5] ?_;refine aI ot (fun ax=>?_) (fun ax=>?_)
 ·have E:=ax
  (try simp only[V.ah,ne_eq] at E)
  have I:er l=[]:=if_pos k6;refine ag ?_;refine ae ?_;refine ak [2] ?_;refine hU (Wk.py (t:=2) (sz:=3) lk) ?_;refine aD ?_;refine bf ?_;rw[I];exact⟨rfl,rfl⟩
 have E:=ax
 (try simp only[V.ah,ne_eq] at E)
 have I:er l=[⟨#[87,72,69,82,69]⟩].map aM++ie l:=if_neg k6;have M:eN 0 l=0:=he.resolve_left k6;refine aN ?_;refine ag ?_;refine dj (aP 0 [_]) [.string ⟨#[]⟩] [_] zeroValue9 runUnderlying32 sizeOf9 (fun O=>?_);refine aS (cR (S1:=[⟨O,9,1*1,flatMap cS ([⟨#[87,72,69,82,69]⟩])⟩]) (A:=[])) ?_;refine gr (t:=6) (Sq:=[⟨O,9,1*1,flatMap cS ([⟨#[87,72,69,82,69]⟩])⟩]) lk (cA (g:=cS) (sz:=1) (e:=9) (ls:=[⟨#[87,72,69,82,69]⟩]) (Nat.le_refl _) (show 1<=maxLen by decide)) (dg dz _) (cy (A:=[])) ?_;refine cG av rfl rfl rfl call39 (mC [⟨#[87,72,69,82,69]⟩] mV) ⟨ot,trivial⟩ (kI _) ?_;rintro _ U ⟨ow,y9,rfl,N⟩;refine aS (S':=U) (append_nil _ ▸ Perm.refl _) ?_;refine ae ?_;refine bK call45 (rq l hl M hr) ?_;refine mr (ls:=([⟨#[87,72,69,82,69]⟩].map aM)) (new:=(ie l)) (Sq:=U) cZ ff av rfl rfl underlying29 Aj rfl bR runUnderlying29 sizeOf28 ot N (cy (A:=[])) ot (by simp only[maxLen,length_map,length_cons,length_nil];omega) (by simp only[length_map,length_cons,length_nil];omega) (fun Y Z J K=>?_);refine aS (cR (A:=[])) ?_;refine ae ?_;refine aY (Wk.aO (n:=11) (l':=[(2,_)]) (S':=(J)) rfl rfl bi) ?_;refine bg ?_;refine iz (t:=2) (Sq:=J) lk K (dg cZ _) (cy (A:=[])) ?_;refine aD ?_;refine⟨.inr rfl,c6 results46 ?_⟩;rw[I];exact⟨rfl,rfl⟩
def iY(s:cc):ByteArray:=if s.kind<7 then s.table else ⟨#[]⟩
def jv(s:cc):cc :=
 if s.kind=1 then {bT with kind:=s.kind,table:=(iY s),b9:=s.b9} else if s.kind=3 then {bT with kind:=s.kind,table:=(iY s),row:=s.row} else if s.kind=4 then {bT with kind:=s.kind,table:=(iY s),names:=s.names,count:=s.count,bw:=s.bw,order:=s.order,down:=s.down,ea:=s.ea} else if s.kind=5 then {bT with kind:=s.kind,table:=(iY s),set:=s.set,cN:=s.cN,bw:=s.bw} else if s.kind=6 then {bT with kind:=s.kind,table:=(iY s),bw:=s.bw} else {bT with kind:=s.kind,table:=(iY s)}
def ig(s:cc):Int :=
 if s.kind=1 then gV s.b9 else if s.kind=3 then kV s.row else if s.kind=4 then eD s
 else if s.kind=5 then (if cH s.set=0 then (if ic s.cN=0 then iV s.bw else ic s.cN) else cH s.set) else if s.kind=6 then iV s.bw else 0
def fm(s:cc):Int:=if s.kind<7/\cH s.table≠0 then cH s.table else if ig s=0/\gy s (jv s)=false then 6 else ig s
theorem zY : ∀ w, ((#[{ name := "Kind", type := 3, offset := 0, embedded := false, tag := "", pkgPath := "", byteOffset := 0 }, { name := "Table", type := 9, offset := 1, embedded := false, tag := "", pkgPath := "", byteOffset := 8 }, { name := "Cols", type := 30, offset := 2, embedded := false, tag := "", pkgPath := "", byteOffset := 24 }, { name := "Row", type := 31, offset := 3, embedded := false, tag := "", pkgPath := "", byteOffset := 48 }, { name := "Names", type := 32, offset := 4, embedded := false, tag := "", pkgPath := "", byteOffset := 72 }, { name := "Count", type := 4, offset := 5, embedded := false, tag := "", pkgPath := "", byteOffset := 96 }, { name := "Where", type := 33, offset := 6, embedded := false, tag := "", pkgPath := "", byteOffset := 104 }, { name := "Order", type := 9, offset := 7, embedded := false, tag := "", pkgPath := "", byteOffset := 128 }, { name := "Down", type := 4, offset := 8, embedded := false, tag := "", pkgPath := "", byteOffset := 144 }, { name := "Limit", type := 3, offset := 9, embedded := false, tag := "", pkgPath := "", byteOffset := 152 }, { name := "Set", type := 9, offset := 10, embedded := false, tag := "", pkgPath := "", byteOffset := 160 }, { name := "To", type := 33, offset := 11, embedded := false, tag := "", pkgPath := "", byteOffset := 176 }] : Array Field).mapM fun f => do pure (f.offset, ← sizeOf f.type) : Sem (Array (Nat × Nat))).run Tryd.prog w = .ok #[(0, 1), (1, 1), (2, 1), (3, 1), (4, 1), (5, 1), (6, 1), (7, 1), (8, 1), (9, 1), (10, 1), (11, 1)] w := fun w => by simp [sizeOf3, sizeOf30, sizeOf31, sizeOf32, sizeOf33, sizeOf4, sizeOf9]
theorem Ax(hm:(0,marksC)∈G)(hw:(2,wordsC)∈G)(s:cc)(hf:j4 s):VP Tryd.prog G 38 [.agg (dW s)] (aj (fm s)):=by
 refine cL func38 rfl ntmps38 aV fun X0 w0 dM=>?_;have Z:=AV hm hw s hf;unfold dW at Z;unfold dW;refine ag ?_;refine fi (ds:=[_,_,_,_,_,_,_,_,_,_,_,_]) av rfl rfl ot rfl rfl (fun J=>?_);refine ae ?_;refine aF [(1,_)] [⟨J,35,12,[_,_,_,_,_,_,_,_,_,_,_,_]⟩] ?_;refine ag ?_;refine aa (aq 0) ?_;refine aa (aC 0) ?_;refine aa (ct (pl:=[(0,_),(9,_)]) (ds:=[_,_,_,_,_,_,_,_,_,_,_,_]) rfl zeroValue35 runUnderlying35 zY ⟨rfl,ot,rfl,aJ,trivial⟩ rfl rfl) ?_;refine ep (ds:=[_,_,_,_,_,_,_,_,_,_,_,_]) av rfl rfl zeroValue35 rfl (fun K=>?_);refine bq 0 [_,_,_,_,_,_,_,_,_,_,_,_] sizeOf35 ?_;refine aF [(1,_),(3,_)] [⟨K,35,12,[_,_,_,_,_,_,_,_,_,_,_,_]⟩,⟨J,35,12,[_,_,_,_,_,_,_,_,_,_,_,_]⟩] ?_;refine jX (fun cz=>∃(tb:ByteArray),(tb=iY s)/\(¬(s.kind<7/\cH s.table≠0))/\cz=(⟨102,[(1,bE J),(3,bE K)],[⟨K,35,12,[aj s.kind,bH tb,.list 2 [] 0,.list 3 [] 0,.list 1 [] 0,bI false,.list 5 [] 0,cQ,bI false,aj (-1),cQ,.list 5 [] 0]⟩,⟨J,35,12,[aj s.kind,bH s.table,ap 2 cC s.b9,ap 3 cV s.row,ap 1 cS s.names,bI s.count,ap 5 cO s.bw,bH s.order,bI s.down,aj s.ea,bH s.set,ap 5 cO s.cN]⟩]⟩:St)) ?_ ?_
 ·refine aA ?_;refine iA (k:=0) (cs':=[_,_,.list 2 [] 0,.list 3 [] 0,.list 1 [] 0,_,.list 5 [] 0,_,_,_,_,.list 5 [] 0]) (S':=[_,_]) rfl w6 rfl ?_;refine aR ?_;refine aa (aq 0) ?_;refine aa (aC 1) ?_;refine aa az ?_;refine ak [1,3,11] ?_;refine aI ot (fun ax=>?_) (fun ax=>?_)
  ·have N:=ax
   (try simp only[V.ah,ne_eq] at N)
   refine ag ?_;refine aa (aq 1) ?_;refine aa (aC 1) ?_;refine aa (aq 1) ?_;refine bq 0 [_,_,_,_,_,_,_,_,_,_,_,_] sizeOf9 ?_;refine aF [(1,_),(3,_)] [⟨K,35,12,[_,_,_,_,_,_,_,_,_,_,_,_]⟩,⟨J,35,12,[_,_,_,_,_,_,_,_,_,_,_,_]⟩] ?_;refine ag ?_;refine aa (aq 1) ?_;refine aa (aC 1) ?_;refine bK call33 (jo hm hw s.table hf.t) ?_;refine ae ?_;refine aF [(1,_),(3,_),(4,_)] [⟨K,35,12,[_,_,_,_,_,_,_,_,_,_,_,_]⟩,⟨J,35,12,[_,_,_,_,_,_,_,_,_,_,_,_]⟩] ?_;refine ag ?_;refine ae ?_;refine aa az ?_;refine ak [1,3,4,19] ?_;refine aI ot (fun bW=>?_) (fun bW=>?_)
   ·have dL:=bW
    (try simp only[V.ah,ne_eq] at dL)
    have E:fm s=cH s.table:=(by unfold fm;rw[if_pos ⟨N,by simpa using bW⟩])
    refine ag ?_;refine ae ?_;refine ae ?_;refine ak [2] ?_;refine aD ?_;refine bf ?_;exact⟨by first|rw[E]|rw[E];rfl,rfl⟩
   have dL:=bW
   (try simp only[V.ah,ne_eq] at dL)
   have dH:cH s.table=0:=(by simpa using bW)
   have tr:s.table=iY s:=(by unfold iY;rw[if_pos N])
   have tu:¬(s.kind<7/\cH s.table≠0):=fun h=>h.2 dH;refine aN ?_;refine⟨_,?_,s.table,tr,tu,rfl⟩;exact Wk.bz (n:=102) rfl (Sublist.refl _) cD
  have N:=ax
  (try simp only[V.ah,ne_eq] at N)
  have tr:(⟨#[]⟩:ByteArray)=iY s:=(by unfold iY;rw[if_neg w8])
  have tu:¬(s.kind<7/\cH s.table≠0):=fun h=>by omega
  refine aN ?_;refine⟨_,?_,⟨#[]⟩,tr,tu,rfl⟩;exact Wk.bz (n:=102) rfl (Sublist.refl _) cD
 rintro _ ⟨tb,mS,jG,rfl⟩;refine ag ?_;refine ae ?_;refine ak [1,3,5] ?_;refine jX (fun cz=>∃(H:cc),∃(e:Int),(H=jv s)/\(e=ig s)/\cz=(⟨102,[(1,bE J),(3,bE K),(5,aj e)],[⟨K,35,12,[aj H.kind,bH H.table,ap 2 cC H.b9,ap 3 cV H.row,ap 1 cS H.names,bI H.count,ap 5 cO H.bw,bH H.order,bI H.down,aj H.ea,bH H.set,ap 5 cO H.cN]⟩,⟨J,35,12,[aj s.kind,bH s.table,ap 2 cC s.b9,ap 3 cV s.row,ap 1 cS s.names,bI s.count,ap 5 cO s.bw,bH s.order,bI s.down,aj s.ea,bH s.set,ap 5 cO s.cN]⟩]⟩:St)) ?_ ?_
 ·refine ag ?_;refine aa (aq 0) ?_;refine aa (aC 1) ?_;refine ak [1,3,5,22] ?_;refine bO ?_;refine ag ?_;refine aa az ?_;refine ae ?_;refine ak [1,3,5,22,23] ?_;refine aI ot (fun ck=>?_) (fun ck=>?_)
  ·have aX:=ck
   (try simp only[V.ah,ne_eq] at aX)
   refine ag ?_;refine aa (aq 2) ?_;refine aa (aC 1) ?_;refine aa (aq 2) ?_;refine bq 0 [_,_,_,_,_,_,_,_,_,_,_,_] sizeOf30 ?_;refine aF [(1,_),(3,_)] [⟨K,35,12,[_,_,_,_,_,_,_,_,_,_,_,_]⟩,⟨J,35,12,[_,_,_,_,_,_,_,_,_,_,_,_]⟩] ?_;refine aR ?_;refine aa (aq 2) ?_;refine aa (aC 1) ?_;refine bK call50 (Bz hm hw s.b9 (by have:=hf.ok.1;simp only[maxLen];omega) hf.c) ?_;refine ae ?_;refine aF [(1,_),(3,_),(5,_)] [⟨K,35,12,[_,_,_,_,_,_,_,_,_,_,_,_]⟩,⟨J,35,12,[_,_,_,_,_,_,_,_,_,_,_,_]⟩] ?_;refine⟨_,?_,{bT with kind:=s.kind,table:=tb,b9:=s.b9},gV s.b9,(by unfold jv;rw[if_pos aX,mS]),(by unfold ig;rw[if_pos aX]),rfl⟩;exact Wk.bz (n:=102) rfl (Sublist.refl _) cD
  have aX:=ck
  (try simp only[V.ah,ne_eq] at aX)
  refine ag ?_;refine aa az ?_;refine ae ?_;refine ak [1,3,5,22,31] ?_;refine aI ot (fun cx=>?_) (fun cx=>?_)
  ·have bn:=cx
   (try simp only[V.ah,ne_eq] at bn)
   refine ag ?_;refine aa (aq 3) ?_;refine aa (aC 1) ?_;refine aa (aq 3) ?_;refine bq 0 [_,_,_,_,_,_,_,_,_,_,_,_] sizeOf31 ?_;refine aF [(1,_),(3,_)] [⟨K,35,12,[_,_,_,_,_,_,_,_,_,_,_,_]⟩,⟨J,35,12,[_,_,_,_,_,_,_,_,_,_,_,_]⟩] ?_;refine aR ?_;refine aa (aq 3) ?_;refine aa (aC 1) ?_;refine bK call51 (BC s.row (by have:=hf.ok.2.1;omega)) ?_;refine ae ?_;refine aF [(1,_),(3,_),(5,_)] [⟨K,35,12,[_,_,_,_,_,_,_,_,_,_,_,_]⟩,⟨J,35,12,[_,_,_,_,_,_,_,_,_,_,_,_]⟩] ?_;refine⟨_,?_,{bT with kind:=s.kind,table:=tb,row:=s.row},kV s.row,(by unfold jv;rw[if_neg aX,if_pos bn,mS]),(by unfold ig;rw[if_neg aX,if_pos bn]),rfl⟩;exact Wk.bz (n:=102) rfl (Sublist.refl _) cD
  have bn:=cx
  (try simp only[V.ah,ne_eq] at bn)
  refine ag ?_;refine aa az ?_;refine ae ?_;refine ak [1,3,5,22,39] ?_;refine aI ot (fun cm=>?_) (fun cm=>?_)
  ·have bJ:=cm
   (try simp only[V.ah,ne_eq] at bJ)
   refine aA ?_;refine dB (au (eraseIdx _ 0)) af (fun _ h=>(Sublist.map _ (eraseIdx_sublist _ 0)).subset h) ?_;refine ai 0 rfl (aq 4) ?_;refine ai 1 rfl (aC 1) ?_;refine ai 2 rfl (aq 5) ?_;refine ai 3 rfl (aC 1) ?_;refine ai 4 rfl (aq 6) ?_;refine ai 5 rfl (aC 1) ?_;refine ai 6 rfl (aq 7) ?_;refine ai 7 rfl (aC 1) ?_;refine ai 8 rfl (aq 8) ?_;refine ai 9 rfl (aC 1) ?_;refine ai 10 rfl (aq 9) ?_;refine ai 11 rfl (aC 1) ?_;refine ai 12 rfl (aq 4) ?_;refine bp.later rfl ?_;refine aG (i:=13) af ?_;refine aO 0 [_,_,_,_,_,_,_,_,_,_,_,_] sizeOf32 ?_;refine bx 14 rfl (aq 5) ?_;refine aG (i:=15) af ?_;refine aO 0 [_,_,_,_,_,_,_,_,_,_,_,_] sizeOf4 ?_;refine bx 16 rfl (aq 6) ?_;refine aG (i:=17) af ?_;refine aO 0 [_,_,_,_,_,_,_,_,_,_,_,_] sizeOf33 ?_;refine bx 18 rfl (aq 7) ?_;refine aG (i:=19) af ?_;refine aO 0 [_,_,_,_,_,_,_,_,_,_,_,_] sizeOf9 ?_;refine bx 20 rfl (aq 8) ?_;refine aG (i:=21) af ?_;refine aO 0 [_,_,_,_,_,_,_,_,_,_,_,_] sizeOf4 ?_;refine bx 22 rfl (aq 9) ?_;refine aG (i:=23) af ?_;refine aO 0 [_,_,_,_,_,_,_,_,_,_,_,_] sizeOf3 ?_;refine bL [(1,_),(3,_)] [⟨K,35,12,[_,_,_,_,_,_,_,_,_,_,_,_]⟩,⟨J,35,12,[_,_,_,_,_,_,_,_,_,_,_,_]⟩] ?_;refine bC af ?_;refine aR ?_;refine aa (dF 1 [_,_,_,_,_,_,_,_,_,_,_,_]) ?_;refine bK call52 (Z) ?_;refine ae ?_;refine aF [(1,_),(3,_),(5,_)] [⟨K,35,12,[_,_,_,_,_,_,_,_,_,_,_,_]⟩,⟨J,35,12,[_,_,_,_,_,_,_,_,_,_,_,_]⟩] ?_
   refine⟨_,?_,{bT with kind:=s.kind,table:=tb,names:=s.names,count:=s.count,bw:=s.bw,order:=s.order,down:=s.down,ea:=s.ea},eD s,(by unfold jv;rw[if_neg aX,if_neg bn,if_pos bJ,mS]),(by unfold ig;rw[if_neg aX,if_neg bn,if_pos bJ]),rfl⟩;exact Wk.bz (n:=102) rfl (Sublist.refl _) cD
  have bJ:=cm
  (try simp only[V.ah,ne_eq] at bJ)
  refine ag ?_;refine aa az ?_;refine ae ?_;refine ak [1,3,5,22,61] ?_;refine aI ot (fun c7=>?_) (fun c7=>?_)
  ·have bA:=c7
   (try simp only[V.ah,ne_eq] at bA)
   refine aA ?_;refine dB (au (eraseIdx _ 0)) af (fun _ h=>(Sublist.map _ (eraseIdx_sublist _ 0)).subset h) ?_;refine ai 0 rfl (aq 10) ?_;refine ai 1 rfl (aC 1) ?_;refine ai 2 rfl (aq 11) ?_;refine ai 3 rfl (aC 1) ?_;refine ai 4 rfl (aq 6) ?_;refine ai 5 rfl (aC 1) ?_;refine ai 6 rfl (aq 10) ?_;refine bp.later rfl ?_;refine aG (i:=7) af ?_;refine aO 0 [_,_,_,_,_,_,_,_,_,_,_,_] sizeOf9 ?_;refine bx 8 rfl (aq 11) ?_;refine aG (i:=9) af ?_;refine aO 0 [_,_,_,_,_,_,_,_,_,_,_,_] sizeOf33 ?_;refine bx 10 rfl (aq 6) ?_;refine aG (i:=11) af ?_;refine aO 0 [_,_,_,_,_,_,_,_,_,_,_,_] sizeOf33 ?_;refine bL [(1,_),(3,_)] [⟨K,35,12,[_,_,_,_,_,_,_,_,_,_,_,_]⟩,⟨J,35,12,[_,_,_,_,_,_,_,_,_,_,_,_]⟩] ?_;refine bC af ?_;refine aA ?_;refine ag ?_;refine aa (aq 10) ?_;refine aa (aC 1) ?_;refine bK call33 (jo hm hw s.set hf.e) ?_;refine ae ?_;refine aF [(1,_),(3,_),(5,_)] [⟨K,35,12,[_,_,_,_,_,_,_,_,_,_,_,_]⟩,⟨J,35,12,[_,_,_,_,_,_,_,_,_,_,_,_]⟩] ?_;refine ag ?_;refine ae ?_;refine aa az ?_;refine ak [1,3,5,76] ?_;refine aI ot (fun dk=>?_) (fun dk=>?_)
   ·have fu:=dk
    (try simp only[V.ah,ne_eq] at fu)
    have lp:cH s.set=0:=(by simpa using dk)
    refine aR ?_;refine aa (aq 11) ?_;refine aa (aC 1) ?_;refine bK call53 (wS hm hw s.cN (fun o h=>(hf.x o h).1)) ?_;refine ae ?_;refine aF [(1,_),(3,_),(5,_)] [⟨K,35,12,[_,_,_,_,_,_,_,_,_,_,_,_]⟩,⟨J,35,12,[_,_,_,_,_,_,_,_,_,_,_,_]⟩] ?_;refine ag ?_;refine ae ?_;refine aa az ?_;refine ak [1,3,5,81] ?_;refine aI ot (fun M=>?_) (fun M=>?_)
    ·have O:=M
     (try simp only[V.ah,ne_eq] at O)
     have uY:ic s.cN=0:=(by simpa using M)
     refine aR ?_;refine aa (aq 6) ?_;refine aa (aC 1) ?_;refine bK call54 (mw hm hw s.bw (fun o h=>(hf.w o h).1)) ?_;refine ae ?_;refine aF [(1,_),(3,_),(5,_)] [⟨K,35,12,[_,_,_,_,_,_,_,_,_,_,_,_]⟩,⟨J,35,12,[_,_,_,_,_,_,_,_,_,_,_,_]⟩] ?_;refine⟨_,?_,{bT with kind:=s.kind,table:=tb,set:=s.set,cN:=s.cN,bw:=s.bw},iV s.bw,tQ,(by unfold ig;rw[if_neg aX,if_neg bn,if_neg bJ,if_pos bA,if_pos lp,if_pos uY]),rfl⟩;exact Wk.bz (n:=102) rfl (Sublist.refl _) cD
    have O:=M
    (try simp only[V.ah,ne_eq] at O)
    have uY:¬ic s.cN=0:=(by simpa using M)
    refine aN ?_;refine⟨_,?_,{bT with kind:=s.kind,table:=tb,set:=s.set,cN:=s.cN,bw:=s.bw},ic s.cN,tQ,(by unfold ig;rw[if_neg aX,if_neg bn,if_neg bJ,if_pos bA,if_pos lp,if_neg uY]),rfl⟩;exact Wk.bz (n:=102) rfl (Sublist.refl _) cD
   have fu:=dk
   (try simp only[V.ah,ne_eq] at fu)
   have lp:¬cH s.set=0:=(by simpa using dk)
   refine aN ?_;refine ag ?_;refine ae ?_;refine aa az ?_;refine ak [1,3,5,81] ?_;refine aI ot (fun M=>?_) (fun M=>?_)
   ·exact absurd M (by simp[lp])
   have O:=M
   (try simp only[V.ah,ne_eq] at O)
   refine aN ?_;refine⟨_,?_,{bT with kind:=s.kind,table:=tb,set:=s.set,cN:=s.cN,bw:=s.bw},cH s.set,tQ,(by unfold ig;rw[if_neg aX,if_neg bn,if_neg bJ,if_pos bA,if_neg lp]),rfl⟩;exact Wk.bz (n:=102) rfl (Sublist.refl _) cD
  have bA:=c7
  (try simp only[V.ah,ne_eq] at bA)
  refine ag ?_;refine aa az ?_;refine ae ?_;refine ak [1,3,5,85] ?_;refine aI ot (fun fK=>?_) (fun fK=>?_)
  ·have I:=fK
   (try simp only[V.ah,ne_eq] at I)
   refine ag ?_;refine aa (aq 6) ?_;refine aa (aC 1) ?_;refine aa (aq 6) ?_;refine bq 0 [_,_,_,_,_,_,_,_,_,_,_,_] sizeOf33 ?_;refine aF [(1,_),(3,_)] [⟨K,35,12,[_,_,_,_,_,_,_,_,_,_,_,_]⟩,⟨J,35,12,[_,_,_,_,_,_,_,_,_,_,_,_]⟩] ?_;refine aR ?_;refine aa (aq 6) ?_;refine aa (aC 1) ?_;refine bK call54 (mw hm hw s.bw (fun o h=>(hf.w o h).1)) ?_;refine ae ?_;refine aF [(1,_),(3,_),(5,_)] [⟨K,35,12,[_,_,_,_,_,_,_,_,_,_,_,_]⟩,⟨J,35,12,[_,_,_,_,_,_,_,_,_,_,_,_]⟩] ?_;refine⟨_,?_,{bT with kind:=s.kind,table:=tb,bw:=s.bw},iV s.bw,(by unfold jv;rw[if_neg aX,if_neg bn,if_neg bJ,if_neg bA,if_pos I,mS]),(by unfold ig;rw[if_neg aX,if_neg bn,if_neg bJ,if_neg bA,if_pos I]),rfl⟩;exact Wk.bz (n:=102) rfl (Sublist.refl _) cD
  have I:=fK
  (try simp only[V.ah,ne_eq] at I)
  refine aN ?_;refine⟨_,?_,{bT with kind:=s.kind,table:=tb},0,(by unfold jv;rw[if_neg aX,if_neg bn,if_neg bJ,if_neg bA,if_neg I,mS]),(by unfold ig;rw[if_neg aX,if_neg bn,if_neg bJ,if_neg bA,if_neg I]),rfl⟩;exact Wk.bz (n:=102) rfl (Sublist.refl _) cD
 rintro _ ⟨H,e,hH,oK,rfl⟩;refine aA ?_;refine aA ?_;have xE:=BD (G:=G) s H;unfold dW at xE;refine aR ?_;refine ae ?_;refine aa az ?_;refine ae ?_;refine cM (t:=95) lk (fun Y=>?_) (fun Y=>?_)
 ·have U:=Y;(try simp only[V.ah,ne_eq] at U)
  refine aa (dF 1 [_,_,_,_,_,_,_,_,_,_,_,_]) ?_;refine aa (dF 0 [_,_,_,_,_,_,_,_,_,_,_,_]) ?_;refine nn de rfl rfl rfl call55 (xE) ⟨ot,ot,trivial⟩ ?_;refine aa en ?_;refine aa bZ ?_;refine aF [(5,_),(100,_)] [⟨K,35,12,[_,_,_,_,_,_,_,_,_,_,_,_]⟩,⟨J,35,12,[_,_,_,_,_,_,_,_,_,_,_,_]⟩] ?_;refine aI ot (fun qR=>?_) (fun qR=>?_)
  ·have tv:=qR
   (try simp only[V.ah,ne_eq] at tv)
   have E:fm s=6:=(by unfold fm;rw[if_neg jG,if_pos ⟨by rw[<-oK];simpa using Y,by rw[<-hH];simpa using qR⟩])
   refine aR ?_;refine ae ?_;refine ak [5] ?_;refine ag ?_;refine ae ?_;refine ae ?_;refine ak [2] ?_;refine aD ?_;refine bf ?_;exact⟨by first|rw[E]|rw[E];rfl,rfl⟩
  have tv:=qR
  (try simp only[V.ah,ne_eq] at tv)
  have E:fm s=e:=(by unfold fm;rw[if_neg jG,if_neg (by rw[<-oK,<-hH];exact(fun h=>by obtain⟨h1,h2⟩:=h;simp_all)),oK])
  refine aN ?_;refine ag ?_;refine ae ?_;refine ae ?_;refine ak [2] ?_;refine aD ?_;refine bf ?_;exact⟨by first|rw[E]|rw[E];rfl,rfl⟩
 have U:=Y;(try simp only[V.ah,ne_eq] at U)
 refine an ?_;refine an ?_;refine an ?_;refine an ?_;refine aa bt ?_;refine ak [5,100] ?_;refine gm ot w5 ?_;have E:fm s=e:=(by unfold fm;rw[if_neg jG,if_neg (by rw[<-oK,<-hH];exact(fun h=>by obtain⟨h1,h2⟩:=h;simp_all)),oK])
 refine aN ?_;refine ag ?_;refine ae ?_;refine ae ?_;refine ak [2] ?_;refine aD ?_;refine bf ?_;exact⟨by first|rw[E]|rw[E];rfl,rfl⟩
end Go.Proofs.YtmapbfkhggjgeaaDoor.Pa
