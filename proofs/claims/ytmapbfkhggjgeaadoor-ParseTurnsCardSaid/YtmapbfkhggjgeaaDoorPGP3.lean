/-
  GP: walks and plain facts, part 3.
-/
import Derived.Test.YtmapbfkhggjgeaaDoorPGP2
set_option linter.unusedVariables false
set_option linter.unusedSimpArgs false
set_option maxRecDepth 100000
set_option maxHeartbeats 4000000
namespace Go.Proofs.YtmapbfkhggjgeaaDoor
open List
namespace Pa
open Go.Proofs.Tryd
open Go.RowKit V Pk Vl Go.Proofs.YtmapbfkhggjgeaaDoor.Nm
section
variable {G:List (Nat×List Value)}
variable {α:Type} {l:List Tk} {p q br n j fr w k p1:Nat} {ops os E:List aT} {v:Vl×Bool} {s:ByteArray} {o:aT} {u:Unit} {f:ByteArray×Int×Bool×Bool->Bool}
theorem F_{b:Bool}(h:b=false):¬b=true:=by rw[h];decide
theorem iw : ∀ w, ((#[{ name := "Kind", type := 3, offset := 0, embedded := false, tag := "", pkgPath := "", byteOffset := 0 }, { name := "Int", type := 3, offset := 1, embedded := false, tag := "", pkgPath := "", byteOffset := 8 }, { name := "Text", type := 9, offset := 2, embedded := false, tag := "", pkgPath := "", byteOffset := 16 }] : Array Field).mapM fun f => do pure (f.offset, ← sizeOf f.type) : Sem (Array (Nat × Nat))).run Tryd.prog w = .ok #[(0, 1), (1, 1), (2, 1)] w := fun w => by simp [sizeOf3, sizeOf9]
theorem vE(l:List Tk)(hl:l.length<=100)(ht:∀t∈l,t.s.size<=maxLen/\(t.k=2->0<=t.n/\t.n<=9223372036854775807))(p:Nat)(ad:Option Addr)(n cap br:Nat):VX Tryd.prog G 36 [bE br] [⟨br,49,3,[ap 3 cT l,aj ((p:Nat):Int),aB ad n cap]⟩] (fun r S'=>∃v ok q,(∀ops,eb l p ops = .ok (v,ok) q ops)/\r = .dU [.agg (cV v),bI ok]/\S'=[⟨br,49,3,[ap 3 cT l,aj ((q:Nat):Int),aB ad n cap]⟩]) (fun ch=>∃q e,(∀ops,eb l p ops = .no q e)/\ch=jH q e):=by
 refine VX.body func36 rfl ntmps36 aV fun X0 w0 dM=>?_;refine ag ?_;refine ep (ds:=[_,_,_]) av rfl rfl zeroValue23 rfl (fun M=>?_);refine ae ?_;refine aF [(0,_),(2,_)] [⟨M,23,3,[_,_,_]⟩,⟨br,49,3,[_,_,_]⟩] ?_;refine aA ?_;refine bO ?_;refine ag ?_;refine ae ?_;refine cG av rfl rfl rfl call20 (dy l hl p 1 js ad n cap br) ⟨ot,aJ,aJ,trivial⟩ (Perm.swap _ _ _) ?_;rintro _ _ ⟨rfl,rfl⟩;refine aS (S':=[⟨M,23,3,[_,_,_]⟩,⟨br,49,3,[ap 3 cT l,aj (((if aE l p 1 js=true then p+1 else p):Nat):Int),aB ad n cap]⟩]) (Perm.swap _ _ _) ?_;refine ae ?_;refine aF [(0,_),(2,_),(5,_)] [⟨M,23,3,[_,_,_]⟩,⟨br,49,3,[_,_,_]⟩] ?_;refine aI ot (fun ax=>?_) (fun ax=>?_)
 ·have ev:=ax
  (try simp only[V.ah,ne_eq] at ev)
  have nat:aE l p 1 js=true:=ax;rw[nat];simp only[if_true];refine ag ?_;refine aa (ct (pl:=[]) (ds:=[_,_,_]) rfl zeroValue23 runUnderlying23 iw trivial rfl rfl) ?_;refine bq 0 [_,_,_] sizeOf23 ?_;refine ae ?_;refine aF [(2,_),(3,_)] [⟨M,23,3,[_,_,_]⟩,⟨br,49,3,[_,_,_]⟩] ?_;refine aD ?_;refine Or.inl ?_;refine⟨.inr rfl,_,[⟨br,49,3,[ap 3 cT l,aj (((p+1):Nat):Int),aB ad n cap]⟩],cw,gN results36 (dG (k:=0) (ds:=[_,_,_]) aV lk rfl rfl isAgg23 sizeOf23 rfl rfl) (dm aV lk),?_⟩;exact⟨e7,true,(p+1),fun ops=>by unfold eb;rw[if_pos nat],rfl,rfl⟩
 have ev:=ax
 (try simp only[V.ah,ne_eq] at ev)
 have N:aE l p 1 js=false:=ax;rw[N];simp only[Bool.false_eq_true,if_false];refine ag ?_;refine ae ?_;refine cG av rfl rfl rfl call20 (dy l hl p 1 nK ad n cap br) ⟨ot,aJ,aJ,trivial⟩ (Perm.swap _ _ _) ?_;rintro _ _ ⟨rfl,rfl⟩;refine aS (S':=[⟨M,23,3,[_,_,_]⟩,⟨br,49,3,[ap 3 cT l,aj (((if aE l p 1 nK=true then p+1 else p):Nat):Int),aB ad n cap]⟩]) (Perm.swap _ _ _) ?_;refine ae ?_;refine aF [(0,_),(2,_),(9,_)] [⟨M,23,3,[_,_,_]⟩,⟨br,49,3,[_,_,_]⟩] ?_;refine aI ot (fun bW=>?_) (fun bW=>?_)
 ·have dL:=bW
  (try simp only[V.ah,ne_eq] at dL)
  have yF:aE l p 1 nK=true:=bW;rw[yF];simp only[if_true];refine ag ?_;refine aa (ct (pl:=[(0,_),(1,_)]) (ds:=[_,_,_]) rfl zeroValue23 runUnderlying23 iw ⟨rfl,aJ,rfl,aJ,trivial⟩ rfl rfl) ?_;refine bq 0 [_,_,_] sizeOf23 ?_;refine ae ?_;refine aF [(2,_),(3,_)] [⟨M,23,3,[_,_,_]⟩,⟨br,49,3,[_,_,_]⟩] ?_;refine aD ?_;refine Or.inl ?_;refine⟨.inr rfl,_,[⟨br,49,3,[ap 3 cT l,aj (((p+1):Nat):Int),aB ad n cap]⟩],cw,gN results36 (dG (k:=0) (ds:=[_,_,_]) aV lk rfl rfl isAgg23 sizeOf23 rfl rfl) (dm aV lk),?_⟩;exact⟨⟨1,1,⟨#[]⟩⟩,true,(p+1),fun ops=>by unfold eb;rw[if_neg (F_ N),if_pos yF],rfl,rfl⟩
 have dL:=bW
 (try simp only[V.ah,ne_eq] at dL)
 have O:aE l p 1 nK=false:=bW;rw[O];simp only[Bool.false_eq_true,if_false];refine ag ?_;refine ae ?_;refine cG av rfl rfl rfl call20 (dy l hl p 1 nE ad n cap br) ⟨ot,aJ,aJ,trivial⟩ (Perm.swap _ _ _) ?_;rintro _ _ ⟨rfl,rfl⟩;refine aS (S':=[⟨M,23,3,[_,_,_]⟩,⟨br,49,3,[ap 3 cT l,aj (((if aE l p 1 nE=true then p+1 else p):Nat):Int),aB ad n cap]⟩]) (Perm.swap _ _ _) ?_;refine ae ?_;refine aF [(0,_),(2,_),(13,_)] [⟨M,23,3,[_,_,_]⟩,⟨br,49,3,[_,_,_]⟩] ?_;refine aI ot (fun ck=>?_) (fun ck=>?_)
 ·have aX:=ck
  (try simp only[V.ah,ne_eq] at aX)
  have yG:aE l p 1 nE=true:=ck;rw[yG];simp only[if_true];refine ag ?_;refine aa (ct (pl:=[(0,_)]) (ds:=[_,_,_]) rfl zeroValue23 runUnderlying23 iw ⟨rfl,aJ,trivial⟩ rfl rfl) ?_;refine bq 0 [_,_,_] sizeOf23 ?_;refine ae ?_;refine aF [(2,_),(3,_)] [⟨M,23,3,[_,_,_]⟩,⟨br,49,3,[_,_,_]⟩] ?_;refine aD ?_;refine Or.inl ?_;refine⟨.inr rfl,_,[⟨br,49,3,[ap 3 cT l,aj (((p+1):Nat):Int),aB ad n cap]⟩],cw,gN results36 (dG (k:=0) (ds:=[_,_,_]) aV lk rfl rfl isAgg23 sizeOf23 rfl rfl) (dm aV lk),?_⟩;exact⟨⟨1,0,⟨#[]⟩⟩,true,(p+1),fun ops=>by unfold eb;rw[if_neg (F_ N),if_neg (F_ O),if_pos yG],rfl,rfl⟩
 have aX:=ck
 (try simp only[V.ah,ne_eq] at aX)
 have Y:aE l p 1 nE=false:=ck;rw[Y];simp only[Bool.false_eq_true,if_false];refine aA ?_;refine dB (au _) af (fun _ h=>h) ?_;refine ai 0 rfl aU ?_;refine ai 1 rfl bu ?_;refine ai 2 rfl (aq 1) ?_;refine ai 3 rfl (aC 1) ?_;refine ai 4 rfl aU ?_;refine ai 5 rfl bu ?_;refine ai 6 rfl (aq 0) ?_;refine ai 7 rfl (aC 1) ?_;refine ai 8 rfl bV ?_;refine ai 9 rfl az ?_;refine ai 10 rfl aU ?_;refine bp.split (t:=28) lk (fun K=>?_) (fun K=>?_)
 ·have sB:=K;(try simp only[V.ah,ne_eq] at sB)
  refine ai 11 rfl aU ?_;refine ai 12 rfl bu ?_;refine ai 13 rfl (aq 0) ?_;refine ai 14 rfl (aC 1) ?_;refine ai 15 rfl aU ?_;refine ai 16 rfl bu ?_;refine ai 17 rfl (aq 1) ?_;refine ai 18 rfl (aC 1) ?_;refine ai 19 rfl (di 3 (h:=by first|exact .l (j:=p) rfl (by simp at K;exact K)|exact .r (j:=p) rfl (by simp at K;exact K))) ?_;refine ai 20 rfl (aq 0) ?_;refine ai 21 rfl (cn (mk:=Op.load 3) rfl ot (by exact jr cZ isAgg3 (by simp at K;exact K) rfl)) ?_;refine ai 22 rfl az ?_;refine ai 23 rfl bZ ?_;refine ai 24 rfl aU ?_;refine bp.later rfl ?_;refine bL [(0,_),(2,_),(17,_)] [⟨M,23,3,[_,_,_]⟩,⟨br,49,3,[_,_,_]⟩] ?_;refine bC af ?_;refine aI ot (fun cx=>?_) (fun cx=>?_)
  ·have bn:=cx
   (try simp only[V.ah,ne_eq] at bn)
   have aH:p<l.length:=(by simp at K;exact K)
   have U:(l.getD p ⟨0,⟨#[]⟩,0⟩).k=3:=(by rw[fp aH];simpa using cx)
   refine aA ?_;refine aA ?_;refine dB (au _) af (fun _ h=>h) ?_;refine ai 0 rfl aU ?_;refine ai 1 rfl bu ?_;refine ai 2 rfl (aq 0) ?_;refine ai 3 rfl (aC 1) ?_;refine ai 4 rfl aU ?_;refine ai 5 rfl bu ?_;refine ai 6 rfl (aq 1) ?_;refine ai 7 rfl (aC 1) ?_;refine ai 8 rfl (di 3 (h:=by first|exact .l (j:=p) rfl aH|exact .r (j:=p) rfl aH)) ?_;refine ai 9 rfl (aq 1) ?_;refine ai 10 rfl (cn (mk:=Op.load 9) rfl ot (by exact jZ (j:=1) cZ isAgg9 aH rfl)) ?_;refine ai 11 rfl (kG rfl rfl ot runUnderlying9) ?_;refine ai 12 rfl az ?_;refine bp.later rfl ?_;refine bL [(0,_),(2,_),(54,_)] [⟨M,23,3,[_,_,_]⟩,⟨br,49,3,[_,_,_]⟩] ?_;refine bC af ?_;refine aI ot (fun cm=>?_) (fun cm=>?_)
   ·have bJ:=cm
    (try simp only[V.ah,ne_eq] at bJ)
    have nR:l[p].s.size>20:=(by simp at cm;omega)
    refine aR ?_;refine ae ?_;exact OD.bB av rfl rfl rfl call12 (eV l hl p 1 ad n cap br) ⟨ot,aJ,trivial⟩ (Perm.swap _ _ _) (fun ch aK=>(Or.inr ⟨ch,rfl,⟨_,_,fun ops=>by unfold eb;rw[if_neg (F_ N),if_neg (F_ O),if_neg (F_ Y),dif_pos ⟨aH,U⟩,if_pos nR];rfl,aK⟩⟩:bD _ _ _ _ _ _)) (fun r S' h=>h.elim)
   have bJ:=cm
   (try simp only[V.ah,ne_eq] at bJ)
   have nR:¬l[p].s.size>20:=(by simp at cm;omega)
   refine aN ?_;refine ag ?_;refine ae ?_;refine aa bu ?_;refine aa (aq 1) ?_;refine aa (aC 1) ?_;refine aa az ?_;refine aa bu ?_;refine aa (aq 1) ?_;refine bq 1 [_,_,_] sizeOf3 ?_;refine aF [(0,_),(2,_)] [⟨M,23,3,[_,_,_]⟩,⟨br,49,3,[_,_,_]⟩] ?_;refine aA ?_;refine dB (au (eraseIdx _ 0)) af (fun _ h=>(Sublist.map _ (eraseIdx_sublist _ 0)).subset h) ?_;refine ai 0 rfl aU ?_;refine ai 1 rfl bu ?_;refine ai 2 rfl (aq 0) ?_;refine ai 3 rfl (aC 1) ?_;refine ai 4 rfl aU ?_;refine ai 5 rfl bu ?_;refine ai 6 rfl (aq 1) ?_;refine ai 7 rfl (aC 1) ?_;refine ai 8 rfl az ?_;refine ai 9 rfl (di 3 (h:=by first|exact .l (j:=p) w8 aH|exact .r (j:=p) w8 aH)) ?_;refine ai 10 rfl (aq 1) ?_;refine ai 11 rfl (cn (mk:=Op.load 9) rfl ot (by exact jZ (j:=1) cZ isAgg9 aH rfl)) ?_;refine ai 12 rfl (ct (pl:=[(0,_),(2,_)]) (ds:=[_,_,_]) rfl zeroValue23 runUnderlying23 iw ⟨rfl,aJ,rfl,ot,trivial⟩ rfl rfl) ?_;refine bp.later rfl ?_;refine aG (i:=13) af ?_;refine aO 0 [_,_,_] sizeOf23 ?_;refine bx 14 rfl aU ?_;refine bL [(2,_),(3,_)] [⟨M,23,3,[_,_,_]⟩,⟨br,49,3,[_,_,_]⟩] ?_;refine bC af ?_;refine aD ?_;refine Or.inl ?_;refine⟨.inr rfl,_,[⟨br,49,3,[ap 3 cT l,aj (((p+1):Nat):Int),aB ad n cap]⟩],cw,gN results36 (dG (k:=0) (ds:=[_,_,_]) aV lk rfl rfl isAgg23 sizeOf23 rfl rfl) (dm aV lk),?_⟩
   exact⟨⟨3,0,l[p].s⟩,true,(p+1),fun ops=>by unfold eb;rw[if_neg (F_ N),if_neg (F_ O),if_neg (F_ Y),dif_pos ⟨aH,U⟩,if_neg nR],rfl,rfl⟩
  have bn:=cx
  (try simp only[V.ah,ne_eq] at bn)
  have U:¬(p<l.length/\(l.getD p ⟨0,⟨#[]⟩,0⟩).k=3):=(by first|exact(fun h=>by simp at K;omega)|exact(fun h=>by rw[fp h.1] at h;have:=h.2;simp at cx;exact cx this))
  refine aN ?_;refine ag ?_;refine ae ?_;refine ak [0,2,4] ?_;refine aA ?_;refine ag ?_;refine ae ?_;refine cG av rfl rfl rfl call20 (dy l hl p 4 ⟨#[45]⟩ ad n cap br) ⟨ot,aJ,aJ,trivial⟩ (Perm.swap _ _ _) ?_;rintro _ _ ⟨rfl,rfl⟩;refine aS (S':=[⟨M,23,3,[_,_,_]⟩,⟨br,49,3,[ap 3 cT l,aj (((if aE l p 4 ⟨#[45]⟩=true then p+1 else p):Nat):Int),aB ad n cap]⟩]) (Perm.swap _ _ _) ?_;refine aF [(0,_),(2,_),(4,_),(78,_)] [⟨M,23,3,[_,_,_]⟩,⟨br,49,3,[_,_,_]⟩] ?_;refine aI ot (fun Z=>?_) (fun Z=>?_)
  ·have bA:=Z
   (try simp only[V.ah,ne_eq] at bA)
   have kg:aE l p 4 ⟨#[45]⟩=true:=Z;rw[kg];simp only[if_true];refine aR ?_;refine ae ?_;refine ak [0,2,4] ?_;refine aA ?_;refine aA ?_;refine dB (au _) af (fun _ h=>h) ?_;refine ai 0 rfl aU ?_;refine ai 1 rfl bu ?_;refine ai 2 rfl (aq 1) ?_;refine ai 3 rfl (aC 1) ?_;refine ai 4 rfl aU ?_;refine ai 5 rfl bu ?_;refine ai 6 rfl (aq 0) ?_;refine ai 7 rfl (aC 1) ?_;refine ai 8 rfl bV ?_;refine ai 9 rfl az ?_;refine ai 10 rfl aU ?_;refine bp.split (t:=89) lk (fun dY=>?_) (fun dY=>?_)
   ·have I:=dY;(try simp only[V.ah,ne_eq] at I)
    refine ai 11 rfl aU ?_;refine ai 12 rfl bu ?_;refine ai 13 rfl (aq 0) ?_;refine ai 14 rfl (aC 1) ?_;refine ai 15 rfl aU ?_;refine ai 16 rfl bu ?_;refine ai 17 rfl (aq 1) ?_;refine ai 18 rfl (aC 1) ?_;refine ai 19 rfl (di 3 (h:=qk)) ?_;refine ai 20 rfl (aq 0) ?_;refine ai 21 rfl (cn (mk:=Op.load 3) rfl ot qn) ?_;refine ai 22 rfl az ?_;refine ai 23 rfl bZ ?_;refine bp.later rfl ?_;refine bL [(0,_),(2,_),(4,_),(102,_)] [⟨M,23,3,[_,_,_]⟩,⟨br,49,3,[_,_,_]⟩] ?_;refine bC af ?_;refine aI ot (fun E=>?_) (fun E=>?_)
    ·have J:=E
     (try simp only[V.ah,ne_eq] at J)
     have gG:True:=trivial;refine aA ?_;have eE:p+1<l.length:=(by simp at dY;omega)
     have ez:(l.getD (p+1) ⟨0,⟨#[]⟩,0⟩).k=2:=(by rw[fp eE];simpa using E)
     have uv:=(ht l[p+1] (getElem_mem eE)).2 qq;refine aR ?_;refine ae ?_;refine aa bu ?_;refine aa (aq 1) ?_;refine aa (aC 1) ?_;refine aa az ?_;refine aa bu ?_;refine aa (aq 1) ?_;refine bq 1 [_,_,_] sizeOf3 ?_;refine aF [(0,_),(2,_),(4,_)] [⟨M,23,3,[_,_,_]⟩,⟨br,49,3,[_,_,_]⟩] ?_;refine aA ?_;refine dB (au (eraseIdx _ 0)) af (fun _ h=>(Sublist.map _ (eraseIdx_sublist _ 0)).subset h) ?_;refine ai 0 rfl aU ?_;refine ai 1 rfl aU ?_;refine ai 2 rfl bu ?_;refine ai 3 rfl (aq 0) ?_;refine ai 4 rfl (aC 1) ?_;refine ai 5 rfl aU ?_;refine ai 6 rfl bu ?_;refine ai 7 rfl (aq 1) ?_;refine ai 8 rfl (aC 1) ?_;refine ai 9 rfl az ?_;first|refine ai 10 rfl (gq (mk:=Op.indexAddr 29) rfl ot ot qm) ?_|refine ai 10 rfl (gq (mk:=Op.indexAddr 29) rfl ot ot qo) ?_
     refine ai 11 rfl (aq 2) ?_;refine ai 12 rfl (cn (mk:=Op.load 3) rfl ot qp) ?_;refine ai 13 rfl (fc rfl ot ot (nv (wrap_i64 w8 w8))) ?_;refine ai 14 rfl (ct (pl:=[(0,_),(1,_)]) (ds:=[_,_,_]) rfl zeroValue23 runUnderlying23 iw ⟨rfl,aJ,rfl,ot,trivial⟩ rfl rfl) ?_;refine bp.later rfl ?_;refine aG (i:=15) af ?_;refine aO 0 [_,_,_] sizeOf23 ?_;refine bx 16 rfl aU ?_;refine bL [(2,_),(3,_)] [⟨M,23,3,[_,_,_]⟩,⟨br,49,3,[_,_,_]⟩] ?_;refine bC af ?_;refine aD ?_;refine Or.inl ?_;refine⟨.inr rfl,_,[⟨br,49,3,[ap 3 cT l,aj (((p+2):Nat):Int),aB ad n cap]⟩],cw,gN results36 (dG (k:=0) (ds:=[_,_,_]) aV lk rfl rfl isAgg23 sizeOf23 rfl rfl) (dm aV lk),?_⟩;exact⟨⟨2,-l[p+1].n,⟨#[]⟩⟩,true,(p+2),fun ops=>by unfold eb;rw[if_neg (F_ N),if_neg (F_ O),if_neg (F_ Y),dif_neg U,if_pos kg,dif_pos ⟨eE,ez⟩],(by rw[show(-1:Int)*l[p+1].n = -l[p+1].n by omega];rfl),rfl⟩
    have J:=E
    (try simp only[V.ah,ne_eq] at J)
    have gG:True:=trivial;refine aN ?_;refine aA ?_;refine aA ?_;have ez:¬(p+1<l.length/\(l.getD (p+1) ⟨0,⟨#[]⟩,0⟩).k=2):=(by first|exact(fun h=>by simp at dY;omega)|exact(fun h=>by rw[fp h.1] at h;have:=h.2;simp at E;exact E this))
    refine aR ?_;refine ae ?_;refine aa az ?_;refine ak [0,2,126] ?_;refine ei ot w5 ?_;refine aR ?_;refine ae ?_;exact OD.bB av rfl rfl rfl call12 (eV l hl (p+1) 6 ad n cap br) ⟨ot,aJ,trivial⟩ (Perm.swap _ _ _) (fun ch aK=>(Or.inr ⟨ch,rfl,⟨_,_,fun ops=>by unfold eb;rw[if_neg (F_ N),if_neg (F_ O),if_neg (F_ Y),dif_neg U,if_pos kg,dif_neg ez];rfl,aK⟩⟩:bD _ _ _ _ _ _)) (fun r S' h=>h.elim)
   have I:=dY;(try simp only[V.ah,ne_eq] at I)
   refine bc 11 rfl ?_;refine bc 12 rfl ?_;refine bc 13 rfl ?_;refine bc 14 rfl ?_;refine bc 15 rfl ?_;refine bc 16 rfl ?_;refine bc 17 rfl ?_;refine bc 18 rfl ?_;refine bc 19 rfl ?_;refine bc 20 rfl ?_;refine bc 21 rfl ?_;refine bc 22 rfl ?_;refine ai 23 rfl bt ?_;refine bp.later rfl ?_;refine bL [(0,_),(2,_),(4,_),(102,_)] [⟨M,23,3,[_,_,_]⟩,⟨br,49,3,[_,_,_]⟩] ?_;refine bC af ?_;refine gm ot w5 ?_;have gG:True:=trivial;refine aN ?_;refine aA ?_;refine aA ?_;have ez:¬(p+1<l.length/\(l.getD (p+1) ⟨0,⟨#[]⟩,0⟩).k=2):=(by first|exact(fun h=>by simp at dY;omega)|exact(fun h=>by rw[fp h.1] at h;have:=h.2;simp at E;exact E this))
   refine aR ?_;refine ae ?_;refine aa az ?_;refine ak [0,2,126] ?_;refine ei ot w5 ?_;refine aR ?_;refine ae ?_;exact OD.bB av rfl rfl rfl call12 (eV l hl (p+1) 6 ad n cap br) ⟨ot,aJ,trivial⟩ (Perm.swap _ _ _) (fun ch aK=>(Or.inr ⟨ch,rfl,⟨_,_,fun ops=>by unfold eb;rw[if_neg (F_ N),if_neg (F_ O),if_neg (F_ Y),dif_neg U,if_pos kg,dif_neg ez];rfl,aK⟩⟩:bD _ _ _ _ _ _)) (fun r S' h=>h.elim)
  have bA:=Z
  (try simp only[V.ah,ne_eq] at bA)
  have ki:aE l p 4 ⟨#[45]⟩=false:=Z;rw[ki];simp only[Bool.false_eq_true,if_false];refine aN ?_;refine aA ?_;refine aA ?_;refine dB (au _) af (fun _ h=>h) ?_;refine ai 0 rfl aU ?_;refine ai 1 rfl bu ?_;refine ai 2 rfl (aq 1) ?_;refine ai 3 rfl (aC 1) ?_;refine ai 4 rfl aU ?_;refine ai 5 rfl bu ?_;refine ai 6 rfl (aq 0) ?_;refine ai 7 rfl (aC 1) ?_;refine ai 8 rfl bV ?_;refine ai 9 rfl az ?_;refine ai 10 rfl aU ?_;refine bp.split (t:=89) lk (fun dY=>?_) (fun dY=>?_)
  ·have I:=dY;(try simp only[V.ah,ne_eq] at I)
   refine ai 11 rfl aU ?_;refine ai 12 rfl bu ?_;refine ai 13 rfl (aq 0) ?_;refine ai 14 rfl (aC 1) ?_;refine ai 15 rfl aU ?_;refine ai 16 rfl bu ?_;refine ai 17 rfl (aq 1) ?_;refine ai 18 rfl (aC 1) ?_;refine ai 19 rfl (di 3 (h:=qk)) ?_;refine ai 20 rfl (aq 0) ?_;refine ai 21 rfl (cn (mk:=Op.load 3) rfl ot qn) ?_;refine ai 22 rfl az ?_;refine ai 23 rfl bZ ?_;refine bp.later rfl ?_;refine bL [(0,_),(2,_),(4,_),(102,_)] [⟨M,23,3,[_,_,_]⟩,⟨br,49,3,[_,_,_]⟩] ?_;refine bC af ?_;refine aI ot (fun E=>?_) (fun E=>?_)
   ·have J:=E
    (try simp only[V.ah,ne_eq] at J)
    have gG:True:=trivial;refine aA ?_;have eE:p<l.length:=(by simp at dY;omega)
    have ez:(l.getD (p) ⟨0,⟨#[]⟩,0⟩).k=2:=(by rw[fp eE];simpa using E)
    have uv:=(ht l[p] (getElem_mem eE)).2 qq;refine aR ?_;refine ae ?_;refine aa bu ?_;refine aa (aq 1) ?_;refine aa (aC 1) ?_;refine aa az ?_;refine aa bu ?_;refine aa (aq 1) ?_;refine bq 1 [_,_,_] sizeOf3 ?_;refine aF [(0,_),(2,_),(4,_)] [⟨M,23,3,[_,_,_]⟩,⟨br,49,3,[_,_,_]⟩] ?_;refine aA ?_;refine dB (au (eraseIdx _ 0)) af (fun _ h=>(Sublist.map _ (eraseIdx_sublist _ 0)).subset h) ?_;refine ai 0 rfl aU ?_;refine ai 1 rfl aU ?_;refine ai 2 rfl bu ?_;refine ai 3 rfl (aq 0) ?_;refine ai 4 rfl (aC 1) ?_;refine ai 5 rfl aU ?_;refine ai 6 rfl bu ?_;refine ai 7 rfl (aq 1) ?_;refine ai 8 rfl (aC 1) ?_;refine ai 9 rfl az ?_;first|refine ai 10 rfl (gq (mk:=Op.indexAddr 29) rfl ot ot qm) ?_|refine ai 10 rfl (gq (mk:=Op.indexAddr 29) rfl ot ot qo) ?_
    refine ai 11 rfl (aq 2) ?_;refine ai 12 rfl (cn (mk:=Op.load 3) rfl ot qp) ?_;refine ai 13 rfl (fc rfl ot ot (nv (wrap_i64 w8 w8))) ?_;refine ai 14 rfl (ct (pl:=[(0,_),(1,_)]) (ds:=[_,_,_]) rfl zeroValue23 runUnderlying23 iw ⟨rfl,aJ,rfl,ot,trivial⟩ rfl rfl) ?_;refine bp.later rfl ?_;refine aG (i:=15) af ?_;refine aO 0 [_,_,_] sizeOf23 ?_;refine bx 16 rfl aU ?_;refine bL [(2,_),(3,_)] [⟨M,23,3,[_,_,_]⟩,⟨br,49,3,[_,_,_]⟩] ?_;refine bC af ?_;refine aD ?_;refine Or.inl ?_;refine⟨.inr rfl,_,[⟨br,49,3,[ap 3 cT l,aj (((p+1):Nat):Int),aB ad n cap]⟩],cw,gN results36 (dG (k:=0) (ds:=[_,_,_]) aV lk rfl rfl isAgg23 sizeOf23 rfl rfl) (dm aV lk),?_⟩;exact⟨⟨2,l[p].n,⟨#[]⟩⟩,true,(p+1),fun ops=>by unfold eb;rw[if_neg (F_ N),if_neg (F_ O),if_neg (F_ Y),dif_neg U,if_neg (F_ ki),dif_pos ⟨eE,ez⟩],(by rw[show(1:Int)*l[p].n=l[p].n by omega];rfl),rfl⟩
   have J:=E
   (try simp only[V.ah,ne_eq] at J)
   have gG:True:=trivial;refine aN ?_;refine aA ?_;refine aA ?_;have ez:¬(p<l.length/\(l.getD (p) ⟨0,⟨#[]⟩,0⟩).k=2):=(by first|exact(fun h=>by simp at dY;omega)|exact(fun h=>by rw[fp h.1] at h;have:=h.2;simp at E;exact E this))
   refine aR ?_;refine ae ?_;refine aa az ?_;refine ak [0,2,126] ?_;refine gm ot w5 ?_;refine aN ?_;refine ag ?_;refine aa (ct (pl:=[]) (ds:=[_,_,_]) rfl zeroValue23 runUnderlying23 iw trivial rfl rfl) ?_;refine bq 0 [_,_,_] sizeOf23 ?_;refine ae ?_;refine aF [(2,_),(3,_)] [⟨M,23,3,[_,_,_]⟩,⟨br,49,3,[_,_,_]⟩] ?_;refine aD ?_;refine Or.inl ?_;refine⟨.inr rfl,_,[⟨br,49,3,[ap 3 cT l,aj ((p:Nat):Int),aB ad n cap]⟩],cw,gN results36 (dG (k:=0) (ds:=[_,_,_]) aV lk rfl rfl isAgg23 sizeOf23 rfl rfl) (dm aV lk),?_⟩;exact⟨e7,false,p,fun ops=>by unfold eb;rw[if_neg (F_ N),if_neg (F_ O),if_neg (F_ Y),dif_neg U,if_neg (F_ ki),dif_neg ez],rfl,rfl⟩
  have I:=dY;(try simp only[V.ah,ne_eq] at I)
  refine bc 11 rfl ?_;refine bc 12 rfl ?_;refine bc 13 rfl ?_;refine bc 14 rfl ?_;refine bc 15 rfl ?_;refine bc 16 rfl ?_;refine bc 17 rfl ?_;refine bc 18 rfl ?_;refine bc 19 rfl ?_;refine bc 20 rfl ?_;refine bc 21 rfl ?_;refine bc 22 rfl ?_;refine ai 23 rfl bt ?_;refine bp.later rfl ?_;refine bL [(0,_),(2,_),(4,_),(102,_)] [⟨M,23,3,[_,_,_]⟩,⟨br,49,3,[_,_,_]⟩] ?_;refine bC af ?_;refine gm ot w5 ?_;have gG:True:=trivial;refine aN ?_;refine aA ?_;refine aA ?_;have ez:¬(p<l.length/\(l.getD (p) ⟨0,⟨#[]⟩,0⟩).k=2):=(by first|exact(fun h=>by simp at dY;omega)|exact(fun h=>by rw[fp h.1] at h;have:=h.2;simp at E;exact E this))
  refine aR ?_;refine ae ?_;refine aa az ?_;refine ak [0,2,126] ?_;refine gm ot w5 ?_;refine aN ?_;refine ag ?_;refine aa (ct (pl:=[]) (ds:=[_,_,_]) rfl zeroValue23 runUnderlying23 iw trivial rfl rfl) ?_;refine bq 0 [_,_,_] sizeOf23 ?_;refine ae ?_;refine aF [(2,_),(3,_)] [⟨M,23,3,[_,_,_]⟩,⟨br,49,3,[_,_,_]⟩] ?_;refine aD ?_;refine Or.inl ?_;refine⟨.inr rfl,_,[⟨br,49,3,[ap 3 cT l,aj ((p:Nat):Int),aB ad n cap]⟩],cw,gN results36 (dG (k:=0) (ds:=[_,_,_]) aV lk rfl rfl isAgg23 sizeOf23 rfl rfl) (dm aV lk),?_⟩;exact⟨e7,false,p,fun ops=>by unfold eb;rw[if_neg (F_ N),if_neg (F_ O),if_neg (F_ Y),dif_neg U,if_neg (F_ ki),dif_neg ez],rfl,rfl⟩
 have sB:=K;(try simp only[V.ah,ne_eq] at sB)
 refine bc 11 rfl ?_;refine bc 12 rfl ?_;refine bc 13 rfl ?_;refine bc 14 rfl ?_;refine bc 15 rfl ?_;refine bc 16 rfl ?_;refine bc 17 rfl ?_;refine bc 18 rfl ?_;refine bc 19 rfl ?_;refine bc 20 rfl ?_;refine bc 21 rfl ?_;refine bc 22 rfl ?_;refine ai 23 rfl bt ?_;refine ai 24 rfl aU ?_;refine bp.later rfl ?_;refine bL [(0,_),(2,_),(17,_)] [⟨M,23,3,[_,_,_]⟩,⟨br,49,3,[_,_,_]⟩] ?_;refine bC af ?_;refine gm ot w5 ?_;have U:¬(p<l.length/\(l.getD p ⟨0,⟨#[]⟩,0⟩).k=3):=(by first|exact(fun h=>by simp at K;omega)|exact(fun h=>by rw[fp h.1] at h;have:=h.2;simp at cx;exact cx this))
 refine aN ?_;refine ag ?_;refine ae ?_;refine ak [0,2,4] ?_;refine aA ?_;refine ag ?_;refine ae ?_;refine cG av rfl rfl rfl call20 (dy l hl p 4 ⟨#[45]⟩ ad n cap br) ⟨ot,aJ,aJ,trivial⟩ (Perm.swap _ _ _) ?_;rintro _ _ ⟨rfl,rfl⟩;refine aS (S':=[⟨M,23,3,[_,_,_]⟩,⟨br,49,3,[ap 3 cT l,aj (((if aE l p 4 ⟨#[45]⟩=true then p+1 else p):Nat):Int),aB ad n cap]⟩]) (Perm.swap _ _ _) ?_;refine aF [(0,_),(2,_),(4,_),(78,_)] [⟨M,23,3,[_,_,_]⟩,⟨br,49,3,[_,_,_]⟩] ?_;refine aI ot (fun Z=>?_) (fun Z=>?_)
 ·have bA:=Z
  (try simp only[V.ah,ne_eq] at bA)
  have kg:aE l p 4 ⟨#[45]⟩=true:=Z;rw[kg];simp only[if_true];refine aR ?_;refine ae ?_;refine ak [0,2,4] ?_;refine aA ?_;refine aA ?_;refine dB (au _) af (fun _ h=>h) ?_;refine ai 0 rfl aU ?_;refine ai 1 rfl bu ?_;refine ai 2 rfl (aq 1) ?_;refine ai 3 rfl (aC 1) ?_;refine ai 4 rfl aU ?_;refine ai 5 rfl bu ?_;refine ai 6 rfl (aq 0) ?_;refine ai 7 rfl (aC 1) ?_;refine ai 8 rfl bV ?_;refine ai 9 rfl az ?_;refine ai 10 rfl aU ?_;refine bp.split (t:=89) lk (fun dY=>?_) (fun dY=>?_)
  ·have I:=dY;(try simp only[V.ah,ne_eq] at I)
   refine ai 11 rfl aU ?_;refine ai 12 rfl bu ?_;refine ai 13 rfl (aq 0) ?_;refine ai 14 rfl (aC 1) ?_;refine ai 15 rfl aU ?_;refine ai 16 rfl bu ?_;refine ai 17 rfl (aq 1) ?_;refine ai 18 rfl (aC 1) ?_;refine ai 19 rfl (di 3 (h:=qk)) ?_;refine ai 20 rfl (aq 0) ?_;refine ai 21 rfl (cn (mk:=Op.load 3) rfl ot qn) ?_;refine ai 22 rfl az ?_;refine ai 23 rfl bZ ?_;refine bp.later rfl ?_;refine bL [(0,_),(2,_),(4,_),(102,_)] [⟨M,23,3,[_,_,_]⟩,⟨br,49,3,[_,_,_]⟩] ?_;refine bC af ?_;refine aI ot (fun E=>?_) (fun E=>?_)
   ·have J:=E
    (try simp only[V.ah,ne_eq] at J)
    have gG:True:=trivial;refine aA ?_;have eE:p+1<l.length:=(by simp at dY;omega)
    have ez:(l.getD (p+1) ⟨0,⟨#[]⟩,0⟩).k=2:=(by rw[fp eE];simpa using E)
    have uv:=(ht l[p+1] (getElem_mem eE)).2 qq;refine aR ?_;refine ae ?_;refine aa bu ?_;refine aa (aq 1) ?_;refine aa (aC 1) ?_;refine aa az ?_;refine aa bu ?_;refine aa (aq 1) ?_;refine bq 1 [_,_,_] sizeOf3 ?_;refine aF [(0,_),(2,_),(4,_)] [⟨M,23,3,[_,_,_]⟩,⟨br,49,3,[_,_,_]⟩] ?_;refine aA ?_;refine dB (au (eraseIdx _ 0)) af (fun _ h=>(Sublist.map _ (eraseIdx_sublist _ 0)).subset h) ?_;refine ai 0 rfl aU ?_;refine ai 1 rfl aU ?_;refine ai 2 rfl bu ?_;refine ai 3 rfl (aq 0) ?_;refine ai 4 rfl (aC 1) ?_;refine ai 5 rfl aU ?_;refine ai 6 rfl bu ?_;refine ai 7 rfl (aq 1) ?_;refine ai 8 rfl (aC 1) ?_;refine ai 9 rfl az ?_;first|refine ai 10 rfl (gq (mk:=Op.indexAddr 29) rfl ot ot qm) ?_|refine ai 10 rfl (gq (mk:=Op.indexAddr 29) rfl ot ot qo) ?_
    refine ai 11 rfl (aq 2) ?_;refine ai 12 rfl (cn (mk:=Op.load 3) rfl ot qp) ?_;refine ai 13 rfl (fc rfl ot ot (nv (wrap_i64 w8 w8))) ?_;refine ai 14 rfl (ct (pl:=[(0,_),(1,_)]) (ds:=[_,_,_]) rfl zeroValue23 runUnderlying23 iw ⟨rfl,aJ,rfl,ot,trivial⟩ rfl rfl) ?_;refine bp.later rfl ?_;refine aG (i:=15) af ?_;refine aO 0 [_,_,_] sizeOf23 ?_;refine bx 16 rfl aU ?_;refine bL [(2,_),(3,_)] [⟨M,23,3,[_,_,_]⟩,⟨br,49,3,[_,_,_]⟩] ?_;refine bC af ?_;refine aD ?_;refine Or.inl ?_;refine⟨.inr rfl,_,[⟨br,49,3,[ap 3 cT l,aj (((p+2):Nat):Int),aB ad n cap]⟩],cw,gN results36 (dG (k:=0) (ds:=[_,_,_]) aV lk rfl rfl isAgg23 sizeOf23 rfl rfl) (dm aV lk),?_⟩;exact⟨⟨2,-l[p+1].n,⟨#[]⟩⟩,true,(p+2),fun ops=>by unfold eb;rw[if_neg (F_ N),if_neg (F_ O),if_neg (F_ Y),dif_neg U,if_pos kg,dif_pos ⟨eE,ez⟩],(by rw[show(-1:Int)*l[p+1].n = -l[p+1].n by omega];rfl),rfl⟩
   have J:=E
   (try simp only[V.ah,ne_eq] at J)
   have gG:True:=trivial;refine aN ?_;refine aA ?_;refine aA ?_;have ez:¬(p+1<l.length/\(l.getD (p+1) ⟨0,⟨#[]⟩,0⟩).k=2):=(by first|exact(fun h=>by simp at dY;omega)|exact(fun h=>by rw[fp h.1] at h;have:=h.2;simp at E;exact E this))
   refine aR ?_;refine ae ?_;refine aa az ?_;refine ak [0,2,126] ?_;refine ei ot w5 ?_;refine aR ?_;refine ae ?_;exact OD.bB av rfl rfl rfl call12 (eV l hl (p+1) 6 ad n cap br) ⟨ot,aJ,trivial⟩ (Perm.swap _ _ _) (fun ch aK=>(Or.inr ⟨ch,rfl,⟨_,_,fun ops=>by unfold eb;rw[if_neg (F_ N),if_neg (F_ O),if_neg (F_ Y),dif_neg U,if_pos kg,dif_neg ez];rfl,aK⟩⟩:bD _ _ _ _ _ _)) (fun r S' h=>h.elim)
  have I:=dY;(try simp only[V.ah,ne_eq] at I)
  refine bc 11 rfl ?_;refine bc 12 rfl ?_;refine bc 13 rfl ?_;refine bc 14 rfl ?_;refine bc 15 rfl ?_;refine bc 16 rfl ?_;refine bc 17 rfl ?_;refine bc 18 rfl ?_;refine bc 19 rfl ?_;refine bc 20 rfl ?_;refine bc 21 rfl ?_;refine bc 22 rfl ?_;refine ai 23 rfl bt ?_;refine bp.later rfl ?_;refine bL [(0,_),(2,_),(4,_),(102,_)] [⟨M,23,3,[_,_,_]⟩,⟨br,49,3,[_,_,_]⟩] ?_;refine bC af ?_;refine gm ot w5 ?_;have gG:True:=trivial;refine aN ?_;refine aA ?_;refine aA ?_;have ez:¬(p+1<l.length/\(l.getD (p+1) ⟨0,⟨#[]⟩,0⟩).k=2):=(by first|exact(fun h=>by simp at dY;omega)|exact(fun h=>by rw[fp h.1] at h;have:=h.2;simp at E;exact E this))
  refine aR ?_;refine ae ?_;refine aa az ?_;refine ak [0,2,126] ?_;refine ei ot w5 ?_;refine aR ?_;refine ae ?_;exact OD.bB av rfl rfl rfl call12 (eV l hl (p+1) 6 ad n cap br) ⟨ot,aJ,trivial⟩ (Perm.swap _ _ _) (fun ch aK=>(Or.inr ⟨ch,rfl,⟨_,_,fun ops=>by unfold eb;rw[if_neg (F_ N),if_neg (F_ O),if_neg (F_ Y),dif_neg U,if_pos kg,dif_neg ez];rfl,aK⟩⟩:bD _ _ _ _ _ _)) (fun r S' h=>h.elim)
 have bA:=Z
 (try simp only[V.ah,ne_eq] at bA)
 have ki:aE l p 4 ⟨#[45]⟩=false:=Z;rw[ki];simp only[Bool.false_eq_true,if_false];refine aN ?_;refine aA ?_;refine aA ?_;refine dB (au _) af (fun _ h=>h) ?_;refine ai 0 rfl aU ?_;refine ai 1 rfl bu ?_;refine ai 2 rfl (aq 1) ?_;refine ai 3 rfl (aC 1) ?_;refine ai 4 rfl aU ?_;refine ai 5 rfl bu ?_;refine ai 6 rfl (aq 0) ?_;refine ai 7 rfl (aC 1) ?_;refine ai 8 rfl bV ?_;refine ai 9 rfl az ?_;refine ai 10 rfl aU ?_;refine bp.split (t:=89) lk (fun dY=>?_) (fun dY=>?_)
 ·have I:=dY;(try simp only[V.ah,ne_eq] at I)
  refine ai 11 rfl aU ?_;refine ai 12 rfl bu ?_;refine ai 13 rfl (aq 0) ?_;refine ai 14 rfl (aC 1) ?_;refine ai 15 rfl aU ?_;refine ai 16 rfl bu ?_;refine ai 17 rfl (aq 1) ?_;refine ai 18 rfl (aC 1) ?_;refine ai 19 rfl (di 3 (h:=qk)) ?_;refine ai 20 rfl (aq 0) ?_;refine ai 21 rfl (cn (mk:=Op.load 3) rfl ot qn) ?_;refine ai 22 rfl az ?_;refine ai 23 rfl bZ ?_;refine bp.later rfl ?_;refine bL [(0,_),(2,_),(4,_),(102,_)] [⟨M,23,3,[_,_,_]⟩,⟨br,49,3,[_,_,_]⟩] ?_;refine bC af ?_;refine aI ot (fun E=>?_) (fun E=>?_)
  ·have J:=E
   (try simp only[V.ah,ne_eq] at J)
   have gG:True:=trivial;refine aA ?_;have eE:p<l.length:=(by simp at dY;omega)
   have ez:(l.getD (p) ⟨0,⟨#[]⟩,0⟩).k=2:=(by rw[fp eE];simpa using E)
   have uv:=(ht l[p] (getElem_mem eE)).2 qq;refine aR ?_;refine ae ?_;refine aa bu ?_;refine aa (aq 1) ?_;refine aa (aC 1) ?_;refine aa az ?_;refine aa bu ?_;refine aa (aq 1) ?_;refine bq 1 [_,_,_] sizeOf3 ?_;refine aF [(0,_),(2,_),(4,_)] [⟨M,23,3,[_,_,_]⟩,⟨br,49,3,[_,_,_]⟩] ?_;refine aA ?_;refine dB (au (eraseIdx _ 0)) af (fun _ h=>(Sublist.map _ (eraseIdx_sublist _ 0)).subset h) ?_;refine ai 0 rfl aU ?_;refine ai 1 rfl aU ?_;refine ai 2 rfl bu ?_;refine ai 3 rfl (aq 0) ?_;refine ai 4 rfl (aC 1) ?_;refine ai 5 rfl aU ?_;refine ai 6 rfl bu ?_;refine ai 7 rfl (aq 1) ?_;refine ai 8 rfl (aC 1) ?_;refine ai 9 rfl az ?_;first|refine ai 10 rfl (gq (mk:=Op.indexAddr 29) rfl ot ot qm) ?_|refine ai 10 rfl (gq (mk:=Op.indexAddr 29) rfl ot ot qo) ?_
   refine ai 11 rfl (aq 2) ?_;refine ai 12 rfl (cn (mk:=Op.load 3) rfl ot qp) ?_;refine ai 13 rfl (fc rfl ot ot (nv (wrap_i64 w8 w8))) ?_;refine ai 14 rfl (ct (pl:=[(0,_),(1,_)]) (ds:=[_,_,_]) rfl zeroValue23 runUnderlying23 iw ⟨rfl,aJ,rfl,ot,trivial⟩ rfl rfl) ?_;refine bp.later rfl ?_;refine aG (i:=15) af ?_;refine aO 0 [_,_,_] sizeOf23 ?_;refine bx 16 rfl aU ?_;refine bL [(2,_),(3,_)] [⟨M,23,3,[_,_,_]⟩,⟨br,49,3,[_,_,_]⟩] ?_;refine bC af ?_;refine aD ?_;refine Or.inl ?_;refine⟨.inr rfl,_,[⟨br,49,3,[ap 3 cT l,aj (((p+1):Nat):Int),aB ad n cap]⟩],cw,gN results36 (dG (k:=0) (ds:=[_,_,_]) aV lk rfl rfl isAgg23 sizeOf23 rfl rfl) (dm aV lk),?_⟩;exact⟨⟨2,l[p].n,⟨#[]⟩⟩,true,(p+1),fun ops=>by unfold eb;rw[if_neg (F_ N),if_neg (F_ O),if_neg (F_ Y),dif_neg U,if_neg (F_ ki),dif_pos ⟨eE,ez⟩],(by rw[show(1:Int)*l[p].n=l[p].n by omega];rfl),rfl⟩
  have J:=E
  (try simp only[V.ah,ne_eq] at J)
  have gG:True:=trivial;refine aN ?_;refine aA ?_;refine aA ?_;have ez:¬(p<l.length/\(l.getD (p) ⟨0,⟨#[]⟩,0⟩).k=2):=(by first|exact(fun h=>by simp at dY;omega)|exact(fun h=>by rw[fp h.1] at h;have:=h.2;simp at E;exact E this))
  refine aR ?_;refine ae ?_;refine aa az ?_;refine ak [0,2,126] ?_;refine gm ot w5 ?_;refine aN ?_;refine ag ?_;refine aa (ct (pl:=[]) (ds:=[_,_,_]) rfl zeroValue23 runUnderlying23 iw trivial rfl rfl) ?_;refine bq 0 [_,_,_] sizeOf23 ?_;refine ae ?_;refine aF [(2,_),(3,_)] [⟨M,23,3,[_,_,_]⟩,⟨br,49,3,[_,_,_]⟩] ?_;refine aD ?_;refine Or.inl ?_;refine⟨.inr rfl,_,[⟨br,49,3,[ap 3 cT l,aj ((p:Nat):Int),aB ad n cap]⟩],cw,gN results36 (dG (k:=0) (ds:=[_,_,_]) aV lk rfl rfl isAgg23 sizeOf23 rfl rfl) (dm aV lk),?_⟩;exact⟨e7,false,p,fun ops=>by unfold eb;rw[if_neg (F_ N),if_neg (F_ O),if_neg (F_ Y),dif_neg U,if_neg (F_ ki),dif_neg ez],rfl,rfl⟩
 have I:=dY;(try simp only[V.ah,ne_eq] at I)
 refine bc 11 rfl ?_;refine bc 12 rfl ?_;refine bc 13 rfl ?_;refine bc 14 rfl ?_;refine bc 15 rfl ?_;refine bc 16 rfl ?_;refine bc 17 rfl ?_;refine bc 18 rfl ?_;refine bc 19 rfl ?_;refine bc 20 rfl ?_;refine bc 21 rfl ?_;refine bc 22 rfl ?_;refine ai 23 rfl bt ?_;refine bp.later rfl ?_;refine bL [(0,_),(2,_),(4,_),(102,_)] [⟨M,23,3,[_,_,_]⟩,⟨br,49,3,[_,_,_]⟩] ?_;refine bC af ?_;refine gm ot w5 ?_;have gG:True:=trivial;refine aN ?_;refine aA ?_;refine aA ?_;have ez:¬(p<l.length/\(l.getD (p) ⟨0,⟨#[]⟩,0⟩).k=2):=(by first|exact(fun h=>by simp at dY;omega)|exact(fun h=>by rw[fp h.1] at h;have:=h.2;simp at E;exact E this))
 refine aR ?_;refine ae ?_;refine aa az ?_;refine ak [0,2,126] ?_;refine gm ot w5 ?_;refine aN ?_;refine ag ?_;refine aa (ct (pl:=[]) (ds:=[_,_,_]) rfl zeroValue23 runUnderlying23 iw trivial rfl rfl) ?_;refine bq 0 [_,_,_] sizeOf23 ?_;refine ae ?_;refine aF [(2,_),(3,_)] [⟨M,23,3,[_,_,_]⟩,⟨br,49,3,[_,_,_]⟩] ?_;refine aD ?_;refine Or.inl ?_;refine⟨.inr rfl,_,[⟨br,49,3,[ap 3 cT l,aj ((p:Nat):Int),aB ad n cap]⟩],cw,gN results36 (dG (k:=0) (ds:=[_,_,_]) aV lk rfl rfl isAgg23 sizeOf23 rfl rfl) (dm aV lk),?_⟩;exact⟨e7,false,p,fun ops=>by unfold eb;rw[if_neg (F_ N),if_neg (F_ O),if_neg (F_ Y),dif_neg U,if_neg (F_ ki),dif_neg ez],rfl,rfl⟩
theorem gP{β:Type}{r:Rs α}{f:α->Nat->List aT->Rs β}(h:r.bind f≠.stuck):r≠.stuck:=fun e=>h (by rw[e];rfl)
theorem pJ(h:eb l p ops = .ok v q os)(hp:p<=l.length):os=ops/\q<=l.length/\(v.2=true->0<q)/\p<=q:=by
 unfold eb gv at h;split at h
 ·have:=cf ‹_›;cases h;exact⟨rfl,by omega,fun _=>by omega,by omega⟩
 split at h
 ·have:=cf ‹_›;cases h;exact⟨rfl,by omega,fun _=>by omega,by omega⟩
 split at h
 ·have:=cf ‹_›;cases h;exact⟨rfl,by omega,fun _=>by omega,by omega⟩
 split at h
 ·have:=‹_/\_›.1;split at h<;>cases h;exact⟨rfl,by omega,fun _=>by omega,by omega⟩
 split at h
 ·have:=cf ‹_›;split at h
  ·have:=‹_/\_›.1;cases h;exact⟨rfl,by omega,fun _=>by omega,by omega⟩
  cases h
 split at h
 ·have:=‹_/\_›.1;cases h;exact⟨rfl,by omega,fun _=>by omega,by omega⟩
 cases h;exact⟨rfl,hp,fun h=>by simp at h,by omega⟩
theorem hJ(h:cI l p ops = .ok s q os):os=ops/\q=p+1/\p<l.length:=by
 unfold cI gv at h;split at h
 ·split at h
  ·cases h
  split at h
  ·cases h
  cases h;exact⟨rfl,rfl,by assumption⟩
 cases h
theorem jS(h:aE l p 4 s=true)(ops:List aT):cE l s p ops = .ok () (p+1) ops:=by unfold cE;rw[if_pos h]
theorem wD(h:aE l p 4 s=false)(ops:List aT):cE l s p ops = .no p (if l.length<=p then 7 else 6):=by unfold cE;rw[if_neg (by rw[h];decide)];rfl
theorem iU{l:List Tk}:∀{E:List ByteArray} {p q:Nat} {ops os:List aT},dw l E p ops = .ok () q os->p<=l.length->os=ops/\q<=l.length/\p<=q
 | [],p,q,ops,os,h,hp=>by unfold dw at h;cases h;exact⟨rfl,hp,Nat.le_refl _⟩
 | s::r,p,q,ops,os,h,hp=>by
  unfold dw at h;split at h
  ·have h1:=cf ‹_›;obtain⟨h2,h3,h4⟩:=iU h h1;exact⟨h2,h3,by omega⟩
  cases h
def kR(br:Nat)(l:List Tk)(r:Rs Unit)(S:List ay):Prop:=∃p ops,r = .ok () p ops/\ops.length<=40/\0<p/\p<=l.length/\PS br l p ops S
def gX(r:Rs α)(ch:List PanicEntry):Prop:=∃q e,r = .no q e/\ch=jH q e
def LC(G:List (Nat×List Value))(br:Nat)(l:List Tk)(f:Nat)(r:Rs Unit)(p:Nat)(ops:List aT):Prop:=∀(ad:Option Addr) (cap:Nat) (So:List ay),gb ops ad cap So->VX Tryd.prog G f [bE br] (⟨br,49,3,[ap 3 cT l,aj ((p:Nat):Int),aB ad ops.length cap]⟩::So) (fun _ S'=>kR br l r S') (gX r)
structure j3 (G:List (Nat×List Value)) (br:Nat) (l:List Tk) (n:Nat):Prop where
 fG:∀p ops,p<=l.length->ops.length<=40->aQ l n .fG p ops≠.stuck->LC G br l 70 (aQ l n .fG p ops) p ops
 prod:∀p ops,p<=l.length->ops.length<=40->aQ l n .prod p ops≠.stuck->LC G br l 68 (aQ l n .prod p ops) p ops
 sum:∀p ops,p<=l.length->ops.length<=40->aQ l n .sum p ops≠.stuck->LC G br l 66 (aQ l n .sum p ops) p ops
 comp:∀p ops,p<=l.length->ops.length<=40->aQ l n .comp p ops≠.stuck->LC G br l 64 (aQ l n .comp p ops) p ops
 not:∀p ops,p<=l.length->ops.length<=40->aQ l n .not p ops≠.stuck->LC G br l 60 (aQ l n .not p ops) p ops
 and:∀p ops,p<=l.length->ops.length<=40->aQ l n .and p ops≠.stuck->LC G br l 48 (aQ l n .and p ops) p ops
 or:∀p ops,p<=l.length->ops.length<=40->aQ l n .or p ops≠.stuck->LC G br l 37 (aQ l n .or p ops) p ops
theorem kC : ∀ w, ((#[{ name := "Kind", type := 3, offset := 0, embedded := false, tag := "", pkgPath := "", byteOffset := 0 }, { name := "Value", type := 23, offset := 1, embedded := false, tag := "", pkgPath := "", byteOffset := 8 }, { name := "Name", type := 9, offset := 4, embedded := false, tag := "", pkgPath := "", byteOffset := 40 }] : Array Field).mapM fun f => do pure (f.offset, ← sizeOf f.type) : Sem (Array (Nat × Nat))).run Tryd.prog w = .ok #[(0, 1), (1, 3), (4, 1)] w := fun w => by simp [sizeOf23, sizeOf3, sizeOf9]
theorem BV(hl:l.length<=100)(ih:∀m,m<=n->j3 G br l m)(p:Nat)(ops:List aT)(hp:p<=l.length)(eF:ops.length<=40)(R:Rs Unit)(hR:R=aQ l (n+1) .prod p ops)(cY:R≠.stuck)(ad:Option Addr)(cap:Nat)(E:List ay)(ho:gb ops ad cap E):VX Tryd.prog G 68 [bE br] (⟨br,49,3,[ap 3 cT l,aj ((p:Nat):Int),aB ad ops.length cap]⟩::E) (fun _ S'=>kR br l R S') (gX R):=by
 refine VX.body func68 rfl ntmps68 aV fun X0 w0 dM=>?_;refine aA ?_;have e8:R=(aQ l n .fG p ops).bind (fun _ p ops=>aQ l n .fY p ops):=hR.trans (by rw[aQ]);refine aR ?_;refine ae ?_;have kj:aQ l n .fG p ops≠.stuck:=gP (f:=fun _ p ops=>aQ l n .fY p ops) oe;refine OD.bB av rfl rfl rfl call70 ((ih _ w8).fG p ops hp eF kj ad cap E ho) ⟨ot,trivial⟩ (cr _) (fun ch aK=>(Or.inr ⟨ch,rfl,by obtain⟨q,e,h1,h2⟩:=aK;exact⟨q,e,e8.trans cF,h2⟩⟩:bD _ _ _ _ _ _)) ?_;rintro _ _ ⟨p1,o1,jI,jd,jJ,iP,je,K,O,ir,rfl⟩;refine aS (S':=⟨br,49,3,[ap 3 cT l,aj ((p1:Nat):Int),aB je o1.length K]⟩::O) (cr _).symm ?_;have fg:R=aQ l n .fY p1 o1:=e8.trans (by rw[jI];rfl);refine aY (Wk.aO (n:=11) (l':=[(0,_)]) (S':=(⟨br,49,3,[_,_,_]⟩::O)) rfl rfl bi) ?_;refine bg ?_;refine bO ?_;refine ed (fun (I:Nat×Nat×List aT×Option Addr×Nat×List ay) cz=>match I with|(m,q,os,ad,cap,E)=>(m<=n)/\(R=aQ l m .fY q os)/\(os.length<=40)/\(0<q)/\(q<=l.length)/\(gb os ad cap E)/\cz=(⟨11,[(0,bE br)],(⟨br,49,3,[ap 3 cT l,aj ((q:Nat):Int),aB ad os.length cap]⟩::E)⟩:St)) (fun (I:Nat×Nat×List aT×Option Addr×Nat×List ay)=>match I with|(m,q,os,ad,cap,E)=>m) (n,p1,o1,je,K,O) ⟨(Nat.le_refl _),fg,jd,jJ,iP,ir,rfl⟩ (Wk.bz rfl (Sublist.refl _) cD) ?_;rintro⟨m,q,os,ad,cap,E⟩ _ ⟨uw,U,iQ,mh,gj,g5,rfl⟩;rcases m with _|m
 ·exact absurd U cY
 refine aA ?_;refine ag ?_;refine ae ?_;refine cG av rfl rfl rfl call20 (dy l hl q 4 ⟨#[42]⟩ ad os.length cap br) ⟨ot,aJ,aJ,trivial⟩ (Perm.refl _) ?_;rintro _ _ ⟨rfl,rfl⟩;refine aS (S':=⟨br,49,3,[ap 3 cT l,aj (((if aE l q 4 ⟨#[42]⟩=true then q+1 else q):Nat):Int),aB ad os.length cap]⟩::E) (Perm.refl _) ?_;refine aY (Wk.aO (n:=11) (l':=[(0,_),(5,_)]) (S':=(⟨br,49,3,[_,_,_]⟩::E)) rfl rfl bi) ?_;refine bg ?_;refine aI ot (fun ax=>?_) (fun ax=>?_)
 ·have J:=ax
  (try simp only[V.ah,ne_eq] at J)
  have Y:aE l q 4 ⟨#[42]⟩=true:=ax;rw[Y];simp only[if_true];have dO:R=(aQ l m .fG (q+1) os).bind (fun _ p ops=>(bM l (bU 10) p ops).bind fun _ p ops=>aQ l m .fY p ops):=U.trans (by rw[aQ,if_pos Y]);refine aN ?_;refine bO ?_;refine ag ?_;refine ae ?_;have mi:aQ l m .fG (q+1) os≠.stuck:=gP (f:=fun _ p ops=>(bM l (bU 10) p ops).bind fun _ p ops=>aQ l m .fY p ops) qt;refine OD.bB av rfl rfl rfl call70 ((ih _ w8).fG (q+1) os (cf Y) iQ mi ad cap E g5) ⟨ot,trivial⟩ (cr _) (fun ch aK=>(Or.inr ⟨ch,rfl,by obtain⟨q,e,h1,h2⟩:=aK;exact⟨q,e,dO.trans cF,h2⟩⟩:bD _ _ _ _ _ _)) ?_;rintro _ _ ⟨p3,o3,gH,ko,iu,gk,jf,M,Z,kp,rfl⟩;refine aS (S':=⟨br,49,3,[ap 3 cT l,aj ((p3:Nat):Int),aB jf o3.length M]⟩::Z) (cr _).symm ?_;have dZ:R=(bM l (bU 10) p3 o3).bind fun _ p ops=>aQ l m .fY p ops:=dO.trans (by rw[gH];rfl);refine aY (Wk.aO (n:=11) (l':=[(0,_)]) (S':=(⟨br,49,3,[_,_,_]⟩::Z)) rfl rfl bi) ?_;refine bg ?_;refine aR ?_;refine ae ?_;refine aa (ct (pl:=[(0,_)]) (ds:=[_,_,_,_,_]) rfl zeroValue41 runUnderlying41 kC ⟨rfl,aJ,trivial⟩ rfl rfl) ?_;refine OD.bB av rfl rfl rfl call49 (gR l hl (bU 10) p3 iu (Nat.le_trans gk w8) o3 ko jf M br Z kp) ⟨ot,ot,trivial⟩ (cr _) (fun ch aK=>(Or.inr ⟨ch,rfl,by obtain⟨q,e,h1,h2⟩:=aK;exact⟨q,e,dZ.trans cF,h2⟩⟩:bD _ _ _ _ _ _)) ?_
  rintro _ _ ⟨o4,k7,jK,fh,N,e9,jL,rfl⟩;refine aS (S':=⟨br,49,3,[ap 3 cT l,aj ((p3:Nat):Int),aB fh o4.length N]⟩::e9) (cr _).symm ?_;have ee:R=aQ l m .fY p3 o4:=dZ.trans l7;refine aY (Wk.aO (n:=11) (l':=[(0,_)]) (S':=(⟨br,49,3,[_,_,_]⟩::e9)) rfl rfl bi) ?_;refine bg ?_;refine⟨(m,p3,o4,fh,N,e9),_,?_,?_,w8,ee,jK,iu,gk,jL,rfl⟩
  ·first|omega|(simp only[];omega)
  exact Wk.bz (n:=11) rfl (Sublist.refl _) cD
 have J:=ax
 (try simp only[V.ah,ne_eq] at J)
 have iR:aE l q 4 ⟨#[42]⟩=false:=ax;rw[iR];simp only[Bool.false_eq_true,if_false];have eB:R = .ok () q os:=U.trans (by rw[aQ,if_neg (F_ iR)]);refine dJ ?_;refine Or.inl ?_;refine⟨.inl rfl,_,⟨br,49,3,[ap 3 cT l,aj ((q:Nat):Int),aB ad os.length cap]⟩::E,cw,ej results68,?_⟩;exact⟨q,os,eB,iQ,mh,gj,ad,cap,E,g5,rfl⟩
theorem Cj(hl:l.length<=100)(ih:∀m,m<=n->j3 G br l m)(p:Nat)(ops:List aT)(hp:p<=l.length)(eF:ops.length<=40)(R:Rs Unit)(hR:R=aQ l (n+1) .sum p ops)(cY:R≠.stuck)(ad:Option Addr)(cap:Nat)(E:List ay)(ho:gb ops ad cap E):VX Tryd.prog G 66 [bE br] (⟨br,49,3,[ap 3 cT l,aj ((p:Nat):Int),aB ad ops.length cap]⟩::E) (fun _ S'=>kR br l R S') (gX R):=by
 refine VX.body func66 rfl ntmps66 aV fun X0 w0 dM=>?_;refine aA ?_;have e8:R=(aQ l n .prod p ops).bind (fun _ p ops=>aQ l n .eS p ops):=hR.trans (by rw[aQ]);refine aR ?_;refine ae ?_;have kj:aQ l n .prod p ops≠.stuck:=gP (f:=fun _ p ops=>aQ l n .eS p ops) oe;refine OD.bB av rfl rfl rfl call68 ((ih _ w8).prod p ops hp eF kj ad cap E ho) ⟨ot,trivial⟩ (cr _) (fun N aK=>(Or.inr ⟨N,rfl,by obtain⟨q,e,h1,h2⟩:=aK;exact⟨q,e,e8.trans cF,h2⟩⟩:bD _ _ _ _ _ _)) ?_;rintro _ _ ⟨p1,o1,jI,jd,jJ,iP,je,U,ux,ir,rfl⟩;refine aS (S':=⟨br,49,3,[ap 3 cT l,aj ((p1:Nat):Int),aB je o1.length U]⟩::ux) (cr _).symm ?_;have fg:R=aQ l n .eS p1 o1:=e8.trans (by rw[jI];rfl);refine aY (Wk.aO (n:=20) (l':=[(0,_)]) (S':=(⟨br,49,3,[_,_,_]⟩::ux)) rfl rfl bi) ?_;refine bg ?_;refine bO ?_;refine ed (fun (I:Nat×Nat×List aT×Option Addr×Nat×List ay) cz=>match I with|(m,q,os,ad,cap,E)=>(m<=n)/\(R=aQ l m .eS q os)/\(os.length<=40)/\(0<q)/\(q<=l.length)/\(gb os ad cap E)/\cz=(⟨20,[(0,bE br)],(⟨br,49,3,[ap 3 cT l,aj ((q:Nat):Int),aB ad os.length cap]⟩::E)⟩:St)) (fun (I:Nat×Nat×List aT×Option Addr×Nat×List ay)=>match I with|(m,q,os,ad,cap,E)=>m) (n,p1,o1,je,U,ux) ⟨(Nat.le_refl _),fg,jd,jJ,iP,ir,rfl⟩ (Wk.bz rfl (Sublist.refl _) cD) ?_;rintro⟨m,q,os,ad,cap,E⟩ _ ⟨uw,O,iQ,mh,gj,g5,rfl⟩;rcases m with _|m
 ·exact absurd O cY
 refine bO ?_;refine bO ?_;refine ag ?_;refine ae ?_;refine cG av rfl rfl rfl call20 (dy l hl q 4 ⟨#[43]⟩ ad os.length cap br) ⟨ot,aJ,aJ,trivial⟩ (Perm.refl _) ?_;rintro _ _ ⟨rfl,rfl⟩;refine aS (S':=⟨br,49,3,[ap 3 cT l,aj (((if aE l q 4 ⟨#[43]⟩=true then q+1 else q):Nat):Int),aB ad os.length cap]⟩::E) (Perm.refl _) ?_;refine ae ?_;refine aY (Wk.aO (n:=20) (l':=[(0,_),(4,_)]) (S':=(⟨br,49,3,[_,_,_]⟩::E)) rfl rfl bi) ?_;refine bg ?_;refine aI ot (fun ax=>?_) (fun ax=>?_)
 ·have J:=ax
  (try simp only[V.ah,ne_eq] at J)
  have mj:aE l q 4 ⟨#[43]⟩=true:=ax;rw[mj];simp only[if_true];have dO:R=(aQ l m .prod (q+1) os).bind (fun _ p ops=>(bM l (bU 8) p ops).bind fun _ p ops=>aQ l m .eS p ops):=O.trans (by rw[aQ,if_pos mj]);refine ag ?_;refine ae ?_;have mi:aQ l m .prod (q+1) os≠.stuck:=gP (f:=fun _ p ops=>(bM l (bU 8) p ops).bind fun _ p ops=>aQ l m .eS p ops) qt;refine OD.bB av rfl rfl rfl call68 ((ih _ w8).prod (q+1) os (cf mj) iQ mi ad cap E g5) ⟨ot,trivial⟩ (cr _) (fun N aK=>(Or.inr ⟨N,rfl,by obtain⟨q,e,h1,h2⟩:=aK;exact⟨q,e,dO.trans cF,h2⟩⟩:bD _ _ _ _ _ _)) ?_;rintro _ _ ⟨p3,o3,gH,ko,iu,gk,jf,Y,uy,kp,rfl⟩;refine aS (S':=⟨br,49,3,[ap 3 cT l,aj ((p3:Nat):Int),aB jf o3.length Y]⟩::uy) (cr _).symm ?_;have dZ:R=(bM l (bU 8) p3 o3).bind fun _ p ops=>aQ l m .eS p ops:=dO.trans (by rw[gH];rfl);refine aY (Wk.aO (n:=20) (l':=[(0,_)]) (S':=(⟨br,49,3,[_,_,_]⟩::uy)) rfl rfl bi) ?_;refine bg ?_;refine aR ?_;refine ae ?_;refine aa (ct (pl:=[(0,_)]) (ds:=[_,_,_,_,_]) rfl zeroValue41 runUnderlying41 kC ⟨rfl,aJ,trivial⟩ rfl rfl) ?_;refine OD.bB av rfl rfl rfl call49 (gR l hl (bU 8) p3 iu (Nat.le_trans gk w8) o3 ko jf Y br uy kp) ⟨ot,ot,trivial⟩ (cr _) (fun N aK=>(Or.inr ⟨N,rfl,by obtain⟨q,e,h1,h2⟩:=aK;exact⟨q,e,dZ.trans cF,h2⟩⟩:bD _ _ _ _ _ _)) ?_;rintro _ _ ⟨o4,k7,jK,fh,Z,e9,jL,rfl⟩
  refine aS (S':=⟨br,49,3,[ap 3 cT l,aj ((p3:Nat):Int),aB fh o4.length Z]⟩::e9) (cr _).symm ?_;have ee:R=aQ l m .eS p3 o4:=dZ.trans l7;refine aY (Wk.aO (n:=20) (l':=[(0,_)]) (S':=(⟨br,49,3,[_,_,_]⟩::e9)) rfl rfl bi) ?_;refine bg ?_;refine⟨(m,p3,o4,fh,Z,e9),_,?_,?_,w8,ee,jK,iu,gk,jL,rfl⟩
  ·first|omega|(simp only[];omega)
  exact Wk.bz (n:=20) rfl (Sublist.refl _) cD
 have J:=ax
 (try simp only[V.ah,ne_eq] at J)
 have iR:aE l q 4 ⟨#[43]⟩=false:=ax;rw[iR];simp only[Bool.false_eq_true,if_false];refine ag ?_;refine ae ?_;refine cG av rfl rfl rfl call20 (dy l hl q 4 ⟨#[45]⟩ ad os.length cap br) ⟨ot,aJ,aJ,trivial⟩ (Perm.refl _) ?_;rintro _ _ ⟨rfl,rfl⟩;refine aS (S':=⟨br,49,3,[ap 3 cT l,aj (((if aE l q 4 ⟨#[45]⟩=true then q+1 else q):Nat):Int),aB ad os.length cap]⟩::E) (Perm.refl _) ?_;refine ae ?_;refine aY (Wk.aO (n:=20) (l':=[(0,_),(12,_)]) (S':=(⟨br,49,3,[_,_,_]⟩::E)) rfl rfl bi) ?_;refine bg ?_;refine aI ot (fun K=>?_) (fun K=>?_)
 ·have M:=K
  (try simp only[V.ah,ne_eq] at M)
  have jM:aE l q 4 ⟨#[45]⟩=true:=K;rw[jM];simp only[if_true];have eB:R=(aQ l m .prod (q+1) os).bind (fun _ p ops=>(bM l (bU 9) p ops).bind fun _ p ops=>aQ l m .eS p ops):=O.trans (by rw[aQ,if_neg (F_ iR),if_pos jM]);refine ag ?_;refine ae ?_;have Ee:aQ l m .prod (q+1) os≠.stuck:=gP (f:=fun _ p ops=>(bM l (bU 9) p ops).bind fun _ p ops=>aQ l m .eS p ops) (by rw[eB] at cY;exact cY);refine OD.bB av rfl rfl rfl call68 ((ih _ w8).prod (q+1) os (cf jM) iQ Ee ad cap E g5) ⟨ot,trivial⟩ (cr _) (fun N aK=>(Or.inr ⟨N,rfl,by obtain⟨q,e,h1,h2⟩:=aK;exact⟨q,e,eB.trans cF,h2⟩⟩:bD _ _ _ _ _ _)) ?_;rintro _ _ ⟨p6,o6,m4,gG,yH,uz,m5,mJ,lf,m6,rfl⟩;refine aS (S':=⟨br,49,3,[ap 3 cT l,aj ((p6:Nat):Int),aB m5 o6.length mJ]⟩::lf) (cr _).symm ?_;have fL:R=(bM l (bU 9) p6 o6).bind fun _ p ops=>aQ l m .eS p ops:=eB.trans (by rw[m4];rfl);refine aY (Wk.aO (n:=20) (l':=[(0,_)]) (S':=(⟨br,49,3,[_,_,_]⟩::lf)) rfl rfl bi) ?_;refine bg ?_;refine aR ?_;refine ae ?_;refine aa (ct (pl:=[(0,_)]) (ds:=[_,_,_,_,_]) rfl zeroValue41 runUnderlying41 kC ⟨rfl,aJ,trivial⟩ rfl rfl) ?_;refine OD.bB av rfl rfl rfl call49 (gR l hl (bU 9) p6 yH (Nat.le_trans uz w8) o6 gG m5 mJ br lf m6) ⟨ot,ot,trivial⟩ (cr _) (fun N aK=>(Or.inr ⟨N,rfl,by obtain⟨q,e,h1,h2⟩:=aK;exact⟨q,e,fL.trans cF,h2⟩⟩:bD _ _ _ _ _ _)) ?_
  rintro _ _ ⟨o7,qA,Ef,ow,xN,uA,ox,rfl⟩;refine aS (S':=⟨br,49,3,[ap 3 cT l,aj ((p6:Nat):Int),aB ow o7.length xN]⟩::uA) (cr _).symm ?_;have gI:R=aQ l m .eS p6 o7:=fL.trans (by rw[qA];rfl);refine aY (Wk.aO (n:=20) (l':=[(0,_)]) (S':=(⟨br,49,3,[_,_,_]⟩::uA)) rfl rfl bi) ?_;refine bg ?_;refine⟨(m,p6,o7,ow,xN,uA),_,?_,?_,w8,gI,Ef,yH,uz,ox,rfl⟩
  ·first|omega|(simp only[];omega)
  exact Wk.bz (n:=20) rfl (Sublist.refl _) cD
 have M:=K
 (try simp only[V.ah,ne_eq] at M)
 have oy:aE l q 4 ⟨#[45]⟩=false:=K;rw[oy];simp only[Bool.false_eq_true,if_false];have fM:R = .ok () q os:=O.trans (by rw[aQ,if_neg (F_ iR),if_neg (F_ oy)]);refine aD ?_;refine Or.inl ?_;refine⟨.inr rfl,_,⟨br,49,3,[ap 3 cT l,aj ((q:Nat):Int),aB ad os.length cap]⟩::E,cw,ej results66,?_⟩;exact⟨q,os,fM,iQ,mh,gj,ad,cap,E,g5,rfl⟩
theorem Ck(hl:l.length<=100)(ih:∀m,m<=n->j3 G br l m)(p:Nat)(ops:List aT)(hp:p<=l.length)(eF:ops.length<=40)(R:Rs Unit)(hR:R=aQ l (n+1) .and p ops)(cY:R≠.stuck)(ad:Option Addr)(cap:Nat)(E:List ay)(ho:gb ops ad cap E):VX Tryd.prog G 48 [bE br] (⟨br,49,3,[ap 3 cT l,aj ((p:Nat):Int),aB ad ops.length cap]⟩::E) (fun _ S'=>kR br l R S') (gX R):=by
 refine VX.body func48 rfl ntmps48 aV fun X0 w0 dM=>?_;refine aA ?_;have e8:R=(aQ l n .not p ops).bind (fun _ p ops=>aQ l n .ga p ops):=hR.trans (by rw[aQ]);refine aR ?_;refine ae ?_;have kj:aQ l n .not p ops≠.stuck:=gP (f:=fun _ p ops=>aQ l n .ga p ops) oe;refine OD.bB av rfl rfl rfl call60 ((ih _ w8).not p ops hp eF kj ad cap E ho) ⟨ot,trivial⟩ (cr _) (fun ch aK=>(Or.inr ⟨ch,rfl,by obtain⟨q,e,h1,h2⟩:=aK;exact⟨q,e,e8.trans cF,h2⟩⟩:bD _ _ _ _ _ _)) ?_;rintro _ _ ⟨p1,o1,jI,jd,jJ,iP,je,K,O,ir,rfl⟩;refine aS (S':=⟨br,49,3,[ap 3 cT l,aj ((p1:Nat):Int),aB je o1.length K]⟩::O) (cr _).symm ?_;have fg:R=aQ l n .ga p1 o1:=e8.trans (by rw[jI];rfl);refine aY (Wk.aO (n:=11) (l':=[(0,_)]) (S':=(⟨br,49,3,[_,_,_]⟩::O)) rfl rfl bi) ?_;refine bg ?_;refine bO ?_;refine ed (fun (I:Nat×Nat×List aT×Option Addr×Nat×List ay) cz=>match I with|(m,q,os,ad,cap,E)=>(m<=n)/\(R=aQ l m .ga q os)/\(os.length<=40)/\(0<q)/\(q<=l.length)/\(gb os ad cap E)/\cz=(⟨11,[(0,bE br)],(⟨br,49,3,[ap 3 cT l,aj ((q:Nat):Int),aB ad os.length cap]⟩::E)⟩:St)) (fun (I:Nat×Nat×List aT×Option Addr×Nat×List ay)=>match I with|(m,q,os,ad,cap,E)=>m) (n,p1,o1,je,K,O) ⟨(Nat.le_refl _),fg,jd,jJ,iP,ir,rfl⟩ (Wk.bz rfl (Sublist.refl _) cD) ?_;rintro⟨m,q,os,ad,cap,E⟩ _ ⟨uw,U,iQ,mh,gj,g5,rfl⟩;rcases m with _|m
 ·exact absurd U cY
 refine aA ?_;refine ag ?_;refine ae ?_;refine cG av rfl rfl rfl call20 (dy l hl q 1 ⟨#[65,78,68]⟩ ad os.length cap br) ⟨ot,aJ,aJ,trivial⟩ (Perm.refl _) ?_;rintro _ _ ⟨rfl,rfl⟩;refine aS (S':=⟨br,49,3,[ap 3 cT l,aj (((if aE l q 1 ⟨#[65,78,68]⟩=true then q+1 else q):Nat):Int),aB ad os.length cap]⟩::E) (Perm.refl _) ?_;refine aY (Wk.aO (n:=11) (l':=[(0,_),(5,_)]) (S':=(⟨br,49,3,[_,_,_]⟩::E)) rfl rfl bi) ?_;refine bg ?_;refine aI ot (fun ax=>?_) (fun ax=>?_)
 ·have J:=ax
  (try simp only[V.ah,ne_eq] at J)
  have Y:aE l q 1 ⟨#[65,78,68]⟩=true:=ax;rw[Y];simp only[if_true];have dO:R=(aQ l m .not (q+1) os).bind (fun _ p ops=>(bM l (bU 3) p ops).bind fun _ p ops=>aQ l m .ga p ops):=U.trans (by rw[aQ,if_pos Y]);refine aN ?_;refine bO ?_;refine ag ?_;refine ae ?_;have mi:aQ l m .not (q+1) os≠.stuck:=gP (f:=fun _ p ops=>(bM l (bU 3) p ops).bind fun _ p ops=>aQ l m .ga p ops) qt;refine OD.bB av rfl rfl rfl call60 ((ih _ w8).not (q+1) os (cf Y) iQ mi ad cap E g5) ⟨ot,trivial⟩ (cr _) (fun ch aK=>(Or.inr ⟨ch,rfl,by obtain⟨q,e,h1,h2⟩:=aK;exact⟨q,e,dO.trans cF,h2⟩⟩:bD _ _ _ _ _ _)) ?_;rintro _ _ ⟨p3,o3,gH,ko,iu,gk,jf,M,Z,kp,rfl⟩;refine aS (S':=⟨br,49,3,[ap 3 cT l,aj ((p3:Nat):Int),aB jf o3.length M]⟩::Z) (cr _).symm ?_;have dZ:R=(bM l (bU 3) p3 o3).bind fun _ p ops=>aQ l m .ga p ops:=dO.trans (by rw[gH];rfl);refine aY (Wk.aO (n:=11) (l':=[(0,_)]) (S':=(⟨br,49,3,[_,_,_]⟩::Z)) rfl rfl bi) ?_;refine bg ?_;refine aR ?_;refine ae ?_;refine aa (ct (pl:=[(0,_)]) (ds:=[_,_,_,_,_]) rfl zeroValue41 runUnderlying41 kC ⟨rfl,aJ,trivial⟩ rfl rfl) ?_;refine OD.bB av rfl rfl rfl call49 (gR l hl (bU 3) p3 iu (Nat.le_trans gk w8) o3 ko jf M br Z kp) ⟨ot,ot,trivial⟩ (cr _) (fun ch aK=>(Or.inr ⟨ch,rfl,by obtain⟨q,e,h1,h2⟩:=aK;exact⟨q,e,dZ.trans cF,h2⟩⟩:bD _ _ _ _ _ _)) ?_
  rintro _ _ ⟨o4,k7,jK,fh,N,e9,jL,rfl⟩;refine aS (S':=⟨br,49,3,[ap 3 cT l,aj ((p3:Nat):Int),aB fh o4.length N]⟩::e9) (cr _).symm ?_;have ee:R=aQ l m .ga p3 o4:=dZ.trans l7;refine aY (Wk.aO (n:=11) (l':=[(0,_)]) (S':=(⟨br,49,3,[_,_,_]⟩::e9)) rfl rfl bi) ?_;refine bg ?_;refine⟨(m,p3,o4,fh,N,e9),_,?_,?_,w8,ee,jK,iu,gk,jL,rfl⟩
  ·first|omega|(simp only[];omega)
  exact Wk.bz (n:=11) rfl (Sublist.refl _) cD
 have J:=ax
 (try simp only[V.ah,ne_eq] at J)
 have iR:aE l q 1 ⟨#[65,78,68]⟩=false:=ax;rw[iR];simp only[Bool.false_eq_true,if_false];have eB:R = .ok () q os:=U.trans (by rw[aQ,if_neg (F_ iR)]);refine dJ ?_;refine Or.inl ?_;refine⟨.inl rfl,_,⟨br,49,3,[ap 3 cT l,aj ((q:Nat):Int),aB ad os.length cap]⟩::E,cw,ej results48,?_⟩;exact⟨q,os,eB,iQ,mh,gj,ad,cap,E,g5,rfl⟩
theorem CP(hl:l.length<=100)(ih:∀m,m<=n->j3 G br l m)(p:Nat)(ops:List aT)(hp:p<=l.length)(eF:ops.length<=40)(R:Rs Unit)(hR:R=aQ l (n+1) .or p ops)(cY:R≠.stuck)(ad:Option Addr)(cap:Nat)(E:List ay)(ho:gb ops ad cap E):VX Tryd.prog G 37 [bE br] (⟨br,49,3,[ap 3 cT l,aj ((p:Nat):Int),aB ad ops.length cap]⟩::E) (fun _ S'=>kR br l R S') (gX R):=by
 refine VX.body func37 rfl ntmps37 aV fun X0 w0 dM=>?_;refine aA ?_;have e8:R=(aQ l n .and p ops).bind (fun _ p ops=>aQ l n .gi p ops):=hR.trans (by rw[aQ]);refine aR ?_;refine ae ?_;have kj:aQ l n .and p ops≠.stuck:=gP (f:=fun _ p ops=>aQ l n .gi p ops) oe;refine OD.bB av rfl rfl rfl call48 ((ih _ w8).and p ops hp eF kj ad cap E ho) ⟨ot,trivial⟩ (cr _) (fun ch aK=>(Or.inr ⟨ch,rfl,by obtain⟨q,e,h1,h2⟩:=aK;exact⟨q,e,e8.trans cF,h2⟩⟩:bD _ _ _ _ _ _)) ?_;rintro _ _ ⟨p1,o1,jI,jd,jJ,iP,je,K,O,ir,rfl⟩;refine aS (S':=⟨br,49,3,[ap 3 cT l,aj ((p1:Nat):Int),aB je o1.length K]⟩::O) (cr _).symm ?_;have fg:R=aQ l n .gi p1 o1:=e8.trans (by rw[jI];rfl);refine aY (Wk.aO (n:=11) (l':=[(0,_)]) (S':=(⟨br,49,3,[_,_,_]⟩::O)) rfl rfl bi) ?_;refine bg ?_;refine bO ?_;refine ed (fun (I:Nat×Nat×List aT×Option Addr×Nat×List ay) cz=>match I with|(m,q,os,ad,cap,E)=>(m<=n)/\(R=aQ l m .gi q os)/\(os.length<=40)/\(0<q)/\(q<=l.length)/\(gb os ad cap E)/\cz=(⟨11,[(0,bE br)],(⟨br,49,3,[ap 3 cT l,aj ((q:Nat):Int),aB ad os.length cap]⟩::E)⟩:St)) (fun (I:Nat×Nat×List aT×Option Addr×Nat×List ay)=>match I with|(m,q,os,ad,cap,E)=>m) (n,p1,o1,je,K,O) ⟨(Nat.le_refl _),fg,jd,jJ,iP,ir,rfl⟩ (Wk.bz rfl (Sublist.refl _) cD) ?_;rintro⟨m,q,os,ad,cap,E⟩ _ ⟨uw,U,iQ,mh,gj,g5,rfl⟩;rcases m with _|m
 ·exact absurd U cY
 refine aA ?_;refine ag ?_;refine ae ?_;refine cG av rfl rfl rfl call20 (dy l hl q 1 ⟨#[79,82]⟩ ad os.length cap br) ⟨ot,aJ,aJ,trivial⟩ (Perm.refl _) ?_;rintro _ _ ⟨rfl,rfl⟩;refine aS (S':=⟨br,49,3,[ap 3 cT l,aj (((if aE l q 1 ⟨#[79,82]⟩=true then q+1 else q):Nat):Int),aB ad os.length cap]⟩::E) (Perm.refl _) ?_;refine aY (Wk.aO (n:=11) (l':=[(0,_),(5,_)]) (S':=(⟨br,49,3,[_,_,_]⟩::E)) rfl rfl bi) ?_;refine bg ?_;refine aI ot (fun ax=>?_) (fun ax=>?_)
 ·have J:=ax
  (try simp only[V.ah,ne_eq] at J)
  have Y:aE l q 1 ⟨#[79,82]⟩=true:=ax;rw[Y];simp only[if_true];have dO:R=(aQ l m .and (q+1) os).bind (fun _ p ops=>(bM l (bU 4) p ops).bind fun _ p ops=>aQ l m .gi p ops):=U.trans (by rw[aQ,if_pos Y]);refine aN ?_;refine bO ?_;refine ag ?_;refine ae ?_;have mi:aQ l m .and (q+1) os≠.stuck:=gP (f:=fun _ p ops=>(bM l (bU 4) p ops).bind fun _ p ops=>aQ l m .gi p ops) qt;refine OD.bB av rfl rfl rfl call48 ((ih _ w8).and (q+1) os (cf Y) iQ mi ad cap E g5) ⟨ot,trivial⟩ (cr _) (fun ch aK=>(Or.inr ⟨ch,rfl,by obtain⟨q,e,h1,h2⟩:=aK;exact⟨q,e,dO.trans cF,h2⟩⟩:bD _ _ _ _ _ _)) ?_;rintro _ _ ⟨p3,o3,gH,ko,iu,gk,jf,M,Z,kp,rfl⟩;refine aS (S':=⟨br,49,3,[ap 3 cT l,aj ((p3:Nat):Int),aB jf o3.length M]⟩::Z) (cr _).symm ?_;have dZ:R=(bM l (bU 4) p3 o3).bind fun _ p ops=>aQ l m .gi p ops:=dO.trans (by rw[gH];rfl);refine aY (Wk.aO (n:=11) (l':=[(0,_)]) (S':=(⟨br,49,3,[_,_,_]⟩::Z)) rfl rfl bi) ?_;refine bg ?_;refine aR ?_;refine ae ?_;refine aa (ct (pl:=[(0,_)]) (ds:=[_,_,_,_,_]) rfl zeroValue41 runUnderlying41 kC ⟨rfl,aJ,trivial⟩ rfl rfl) ?_;refine OD.bB av rfl rfl rfl call49 (gR l hl (bU 4) p3 iu (Nat.le_trans gk w8) o3 ko jf M br Z kp) ⟨ot,ot,trivial⟩ (cr _) (fun ch aK=>(Or.inr ⟨ch,rfl,by obtain⟨q,e,h1,h2⟩:=aK;exact⟨q,e,dZ.trans cF,h2⟩⟩:bD _ _ _ _ _ _)) ?_;rintro _ _ ⟨o4,k7,jK,fh,N,e9,jL,rfl⟩
  refine aS (S':=⟨br,49,3,[ap 3 cT l,aj ((p3:Nat):Int),aB fh o4.length N]⟩::e9) (cr _).symm ?_;have ee:R=aQ l m .gi p3 o4:=dZ.trans l7;refine aY (Wk.aO (n:=11) (l':=[(0,_)]) (S':=(⟨br,49,3,[_,_,_]⟩::e9)) rfl rfl bi) ?_;refine bg ?_;refine⟨(m,p3,o4,fh,N,e9),_,?_,?_,w8,ee,jK,iu,gk,jL,rfl⟩
  ·first|omega|(simp only[];omega)
  exact Wk.bz (n:=11) rfl (Sublist.refl _) cD
 have J:=ax
 (try simp only[V.ah,ne_eq] at J)
 have iR:aE l q 1 ⟨#[79,82]⟩=false:=ax;rw[iR];simp only[Bool.false_eq_true,if_false];have eB:R = .ok () q os:=U.trans (by rw[aQ,if_neg (F_ iR)]);refine dJ ?_;refine Or.inl ?_;refine⟨.inl rfl,_,⟨br,49,3,[ap 3 cT l,aj ((q:Nat):Int),aB ad os.length cap]⟩::E,cw,ej results37,?_⟩;exact⟨q,os,eB,iQ,mh,gj,ad,cap,E,g5,rfl⟩
theorem Cl(hl:l.length<=100)(ih:∀m,m<=n->j3 G br l m)(p:Nat)(ops:List aT)(hp:p<=l.length)(eF:ops.length<=40)(R:Rs Unit)(hR:R=aQ l (n+1) .not p ops)(cY:R≠.stuck)(ad:Option Addr)(cap:Nat)(So:List ay)(ho:gb ops ad cap So):VX Tryd.prog G 60 [bE br] (⟨br,49,3,[ap 3 cT l,aj ((p:Nat):Int),aB ad ops.length cap]⟩::So) (fun _ S'=>kR br l R S') (gX R):=by
 refine VX.body func60 rfl ntmps60 aV fun X0 w0 dM=>?_;refine aA ?_;refine aA ?_;have e8:=hR;refine aR ?_;refine ae ?_;refine cG av rfl rfl rfl call20 (dy l hl p 1 ⟨#[78,79,84]⟩ ad ops.length cap br) ⟨ot,aJ,aJ,trivial⟩ (Perm.refl _) ?_;rintro _ _ ⟨rfl,rfl⟩;refine aS (S':=⟨br,49,3,[ap 3 cT l,aj (((if aE l p 1 ⟨#[78,79,84]⟩=true then p+1 else p):Nat):Int),aB ad ops.length cap]⟩::So) (Perm.refl _) ?_;refine aY (Wk.aO (n:=11) (l':=[(0,_),(3,_)]) (S':=(⟨br,49,3,[_,_,_]⟩::So)) rfl rfl bi) ?_;refine bg ?_;refine aI ot (fun ax=>?_) (fun ax=>?_)
 ·have E:=ax
  (try simp only[V.ah,ne_eq] at E)
  have et:aE l p 1 ⟨#[78,79,84]⟩=true:=ax;rw[et];simp only[if_true];have O:R=(aQ l n .not (p+1) ops).bind (fun _ p ops=>bM l (bU 5) p ops):=e8.trans (by rw[aQ,if_pos et]);refine ag ?_;refine ae ?_;have uo:aQ l n .not (p+1) ops≠.stuck:=gP (f:=fun _ p ops=>bM l (bU 5) p ops) (by rw[O] at cY;exact cY);refine OD.bB av rfl rfl rfl call60 ((ih _ w8).not (p+1) ops (cf et) eF uo ad cap So ho) ⟨ot,trivial⟩ (cr _) (fun ch aK=>(Or.inr ⟨ch,rfl,by obtain⟨q,e,h1,h2⟩:=aK;exact⟨q,e,O.trans cF,h2⟩⟩:bD _ _ _ _ _ _)) ?_;rintro _ _ ⟨U,o2,m7,uB,yI,ov,m8,N,Y,uC,rfl⟩;refine aS (S':=⟨br,49,3,[ap 3 cT l,aj ((U:Nat):Int),aB m8 o2.length N]⟩::Y) (cr _).symm ?_;have dO:R=bM l (bU 5) U o2:=O.trans (by rw[m7];rfl);refine aY (Wk.aO (n:=11) (l':=[(0,_)]) (S':=(⟨br,49,3,[_,_,_]⟩::Y)) rfl rfl bi) ?_;refine bg ?_;refine ag ?_;refine ae ?_;refine aa (ct (pl:=[(0,_)]) (ds:=[_,_,_,_,_]) rfl zeroValue41 runUnderlying41 kC ⟨rfl,aJ,trivial⟩ rfl rfl) ?_;refine OD.bB av rfl rfl rfl call49 (gR l hl (bU 5) U yI (Nat.le_trans ov w8) o2 uB m8 N br Y uC) ⟨ot,ot,trivial⟩ (cr _) (fun ch aK=>(Or.inr ⟨ch,rfl,by obtain⟨q,e,h1,h2⟩:=aK;exact⟨q,e,dO.trans h1,h2⟩⟩:bD _ _ _ _ _ _)) ?_;rintro _ _ ⟨o3,gH,ko,Z,I,K,kp,rfl⟩;refine aS (S':=⟨br,49,3,[ap 3 cT l,aj ((U:Nat):Int),aB Z o3.length I]⟩::K) (cr _).symm ?_
  have dZ:R = .ok () U o3:=dO.trans gH;refine aY (Wk.aO (n:=11) (l':=[]) (S':=(⟨br,49,3,[_,_,_]⟩::K)) rfl rfl trivial) ?_;refine bg ?_;refine aD ?_;refine Or.inl ?_;refine⟨.inr rfl,_,⟨br,49,3,[ap 3 cT l,aj ((U:Nat):Int),aB Z o3.length I]⟩::K,cw,ej results60,?_⟩;exact⟨U,o3,dZ,ko,yI,ov,Z,I,K,kp,rfl⟩
 have E:=ax
 (try simp only[V.ah,ne_eq] at E)
 have ef:aE l p 1 ⟨#[78,79,84]⟩=false:=ax;rw[ef];simp only[Bool.false_eq_true,if_false];have ee:R=aQ l n .comp p ops:=e8.trans (by rw[aQ,if_neg (F_ ef)]);refine aN ?_;refine aR ?_;refine ae ?_;have uD:aQ l n .comp p ops≠.stuck:=(by rw[ee] at cY;exact cY)
 refine OD.bB av rfl rfl rfl call64 ((ih _ w8).comp p ops hp eF uD ad cap So ho) ⟨ot,trivial⟩ (cr _) (fun ch aK=>(Or.inr ⟨ch,rfl,by obtain⟨q,e,h1,h2⟩:=aK;exact⟨q,e,ee.trans h1,h2⟩⟩:bD _ _ _ _ _ _)) ?_;rintro _ _ ⟨p5,o5,uE,uF,yJ,yK,uG,J,M,uH,rfl⟩;refine aS (S':=⟨br,49,3,[ap 3 cT l,aj ((p5:Nat):Int),aB uG o5.length J]⟩::M) (cr _).symm ?_;have eB:R = .ok () p5 o5:=ee.trans uE;refine aY (Wk.aO (n:=11) (l':=[]) (S':=(⟨br,49,3,[_,_,_]⟩::M)) rfl rfl trivial) ?_;refine bg ?_;refine Or.inl ?_;refine⟨.inl rfl,_,⟨br,49,3,[ap 3 cT l,aj ((p5:Nat):Int),aB uG o5.length J]⟩::M,cw,ej results60,?_⟩;exact⟨p5,o5,eB,uF,yJ,yK,uG,J,M,uH,rfl⟩
theorem BW(hl:l.length<=100)(hm:(0,marksC)∈G)(hw:(2,wordsC)∈G)(ht:∀t∈l,t.s.size<=maxLen/\(t.k=2->0<=t.n/\t.n<=9223372036854775807))(ih:∀m,m<=n->j3 G br l m)(p:Nat)(ops:List aT)(hp:p<=l.length)(eF:ops.length<=40)(R:Rs Unit)(hR:R=aQ l (n+1) .fG p ops)(cY:R≠.stuck)(ad:Option Addr)(cap:Nat)(I:List ay)(ho:gb ops ad cap I):VX Tryd.prog G 70 [bE br] (⟨br,49,3,[ap 3 cT l,aj ((p:Nat):Int),aB ad ops.length cap]⟩::I) (fun _ S'=>kR br l R S') (gX R):=by
 refine VX.body func70 rfl ntmps70 aV fun X0 w0 dM=>?_;refine aA ?_;refine aA ?_;have e8:R=(eb l p ops).bind (fun v p ops=>if v.2=true then bM l ⟨1,v.1,⟨#[]⟩⟩ p ops else (if aE l p 4 ⟨#[40]⟩=true then (aQ l n .or (p+1) ops).bind fun _ p ops=>cE l ⟨#[41]⟩ p ops else (cI l p ops).bind fun s p ops=>bM l ⟨2,e7,s⟩ p ops)):=hR.trans (by rw[aQ]);refine aR ?_;refine ae ?_;refine OD.bB av rfl rfl rfl call36 (vE l hl ht p ad ops.length cap br) ⟨ot,trivial⟩ (Perm.refl _) (fun K aK=>(Or.inr ⟨K,rfl,by obtain⟨q,e,h1,h2⟩:=aK;exact⟨q,e,e8.trans cF,h2⟩⟩:bD _ _ _ _ _ _)) ?_;rintro _ _ ⟨v,ok,q,lV,rfl,rfl⟩;unfold cV;refine aS (S':=⟨br,49,3,[ap 3 cT l,aj ((q:Nat):Int),aB ad ops.length cap]⟩::I) (Perm.refl _) ?_;have M:R=(if ok=true then bM l ⟨1,v,⟨#[]⟩⟩ q ops else (if aE l q 4 ⟨#[40]⟩=true then (aQ l n .or (q+1) ops).bind fun _ p ops=>cE l ⟨#[41]⟩ p ops else (cI l q ops).bind fun s p ops=>bM l ⟨2,e7,s⟩ p ops)):=e8.trans (by rw[lV];rfl);obtain⟨-,yL,yM,-⟩:=pJ (lV ops) hp;refine ae ?_;refine aa gY ?_;refine aa gY ?_;refine ep (ds:=[_,_,_]) av rfl rfl zeroValue23 rfl (fun b2=>?_);refine bq 0 [_,_,_] sizeOf23 ?_;refine ae ?_;refine aY (Wk.aO (n:=27) (l':=[(0,_),(2,_),(3,_)]) (S':=(⟨b2,23,3,[_,_,_]⟩::⟨br,49,3,[_,_,_]⟩::I)) rfl rfl bi) ?_;refine bg ?_;refine ag ?_;refine ae ?_;refine ak [0,2,10] ?_;refine aI ot (fun ax=>?_) (fun ax=>?_)
 ·have N:=ax
  (try simp only[V.ah,ne_eq] at N)
  have gF:ok=true:=ax;have M:R=bM l ⟨1,v,⟨#[]⟩⟩ q ops:=M.trans (by rw[if_pos gF]);refine ag ?_;refine ae ?_;refine aa (dF 0 [_,_,_]) ?_;refine aa (ct (pl:=[(0,_),(1,_)]) (ds:=[_,_,_,_,_]) rfl zeroValue41 runUnderlying41 kC ⟨rfl,aJ,rfl,ot,trivial⟩ rfl rfl) ?_;refine aY (Wk.drop _ _ _ (⟨br,49,3,[ap 3 cT l,aj ((q:Nat):Int),aB ad ops.length cap]⟩::I) (Sublist.cons _ (Sublist.refl _))) ?_;refine OD.bB av rfl rfl rfl call49 (gR l hl ⟨1,v,⟨#[]⟩⟩ q (yM gF) (Nat.le_trans yL w8) ops eF ad cap br I ho) ⟨ot,ot,trivial⟩ (cr _) (fun K aK=>(Or.inr ⟨K,rfl,by obtain⟨q,e,h1,h2⟩:=aK;exact⟨q,e,M.trans h1,h2⟩⟩:bD _ _ _ _ _ _)) ?_;rintro _ _ ⟨o2,m7,uB,m8,O,qB,uC,rfl⟩;refine aS (S':=⟨br,49,3,[ap 3 cT l,aj ((q:Nat):Int),aB m8 o2.length O]⟩::qB) (cr _).symm ?_;have dO:R = .ok () q o2:=M.trans m7;refine aY (Wk.aO (n:=27) (l':=[]) (S':=(⟨br,49,3,[_,_,_]⟩::qB)) rfl rfl trivial) ?_;refine bg ?_;refine aD ?_;refine Or.inl ?_;refine⟨.inr rfl,_,⟨br,49,3,[ap 3 cT l,aj ((q:Nat):Int),aB m8 o2.length O]⟩::qB,cw,ej results70,?_⟩;exact⟨q,o2,dO,uB,(yM gF),yL,m8,O,qB,uC,rfl⟩
 have N:=ax
 (try simp only[V.ah,ne_eq] at N)
 have CQ:ok=false:=ax;have dZ:R=(if aE l q 4 ⟨#[40]⟩=true then (aQ l n .or (q+1) ops).bind fun _ p ops=>cE l ⟨#[41]⟩ p ops else (cI l q ops).bind fun s p ops=>bM l ⟨2,e7,s⟩ p ops):=M.trans (by rw[if_neg (F_ CQ)]);refine hU (Wk.drop _ _ _ (⟨br,49,3,[ap 3 cT l,aj ((q:Nat):Int),aB ad ops.length cap]⟩::I) (Sublist.cons _ (Sublist.refl _))) ?_;refine aN ?_;refine aA ?_;refine ag ?_;refine ae ?_;refine cG av rfl rfl rfl call20 (dy l hl q 4 ⟨#[40]⟩ ad ops.length cap br) ⟨ot,aJ,aJ,trivial⟩ (Perm.refl _) ?_;rintro _ _ ⟨rfl,rfl⟩;refine aS (S':=⟨br,49,3,[ap 3 cT l,aj (((if aE l q 4 ⟨#[40]⟩=true then q+1 else q):Nat):Int),aB ad ops.length cap]⟩::I) (Perm.refl _) ?_;refine aY (Wk.aO (n:=27) (l':=[(0,_),(16,_)]) (S':=(⟨br,49,3,[_,_,_]⟩::I)) rfl rfl bi) ?_;refine bg ?_;refine aI ot (fun U=>?_) (fun U=>?_)
 ·have Y:=U
  (try simp only[V.ah,ne_eq] at Y)
  have et:aE l q 4 ⟨#[40]⟩=true:=U;rw[et];simp only[if_true];have ee:R=(aQ l n .or (q+1) ops).bind (fun _ p ops=>cE l ⟨#[41]⟩ p ops):=dZ.trans (by rw[if_pos et]);refine ag ?_;refine ae ?_;have uD:aQ l n .or (q+1) ops≠.stuck:=gP (f:=fun _ p ops=>cE l ⟨#[41]⟩ p ops) (by rw[ee] at cY;exact cY);refine OD.bB av rfl rfl rfl call37 ((ih _ w8).or (q+1) ops (cf et) eF uD ad cap I ho) ⟨ot,trivial⟩ (cr _) (fun K aK=>(Or.inr ⟨K,rfl,by obtain⟨q,e,h1,h2⟩:=aK;exact⟨q,e,ee.trans cF,h2⟩⟩:bD _ _ _ _ _ _)) ?_;rintro _ _ ⟨p5,o5,uE,uF,yJ,yK,Z,E,J,uH,rfl⟩;refine aS (S':=⟨br,49,3,[ap 3 cT l,aj ((p5:Nat):Int),aB Z o5.length E]⟩::J) (cr _).symm ?_;have eB:R=cE l ⟨#[41]⟩ p5 o5:=ee.trans (by rw[uE];rfl);refine aY (Wk.aO (n:=27) (l':=[(0,_)]) (S':=(⟨br,49,3,[_,_,_]⟩::J)) rfl rfl bi) ?_;refine bg ?_;refine ag ?_;refine ae ?_;refine OD.bB av rfl rfl rfl call26 (jT l hl p5 ⟨#[41]⟩ Z o5.length E br) ⟨ot,aJ,trivial⟩ (Perm.refl _) (fun K aK=>(Or.inr ⟨K,rfl,⟨_,_,eB.trans (wD aK.1 _),aK.2⟩⟩:bD _ _ _ _ _ _)) ?_;rintro _ _ ⟨yN,rfl⟩;refine aS (S':=⟨br,49,3,[ap 3 cT l,aj (((p5+1):Nat):Int),aB Z o5.length E]⟩::J) (Perm.refl _) ?_;have fL:R = .ok () (p5+1) o5:=eB.trans (jS yN _);refine aY (Wk.aO (n:=27) (l':=[]) (S':=(⟨br,49,3,[_,_,_]⟩::J)) rfl rfl trivial) ?_;refine bg ?_;refine aD ?_;refine Or.inl ?_
  refine⟨.inr rfl,_,⟨br,49,3,[ap 3 cT l,aj (((p5+1):Nat):Int),aB Z o5.length E]⟩::J,cw,ej results70,?_⟩;exact⟨(p5+1),o5,fL,uF,(Nat.succ_pos _),(cf yN),Z,E,J,uH,rfl⟩
 have Y:=U
 (try simp only[V.ah,ne_eq] at Y)
 have ef:aE l q 4 ⟨#[40]⟩=false:=U;rw[ef];simp only[Bool.false_eq_true,if_false];have gI:R=(cI l q ops).bind (fun s p ops=>bM l ⟨2,e7,s⟩ p ops):=dZ.trans (by rw[if_neg (F_ ef)]);refine aN ?_;refine ag ?_;refine ae ?_;refine OD.bB av rfl rfl rfl call22 (iB hm hw l hl ht q ad ops.length cap br) ⟨ot,trivial⟩ (Perm.refl _) (fun K aK=>(Or.inr ⟨K,rfl,by obtain⟨q,e,h1,h2⟩:=aK;exact⟨q,e,gI.trans cF,h2⟩⟩:bD _ _ _ _ _ _)) ?_;rintro _ _ ⟨s,qz,rfl,rfl⟩;refine aS (S':=⟨br,49,3,[ap 3 cT l,aj (((q+1):Nat):Int),aB ad ops.length cap]⟩::I) (Perm.refl _) ?_;have fM:R=bM l ⟨2,e7,s⟩ (q+1) ops:=gI.trans (by rw[qz];rfl);have aH:=(hJ (qz [])).2.2;refine ae ?_;refine aY (Wk.aO (n:=27) (l':=[(0,_),(4,_)]) (S':=(⟨br,49,3,[_,_,_]⟩::I)) rfl rfl bi) ?_;refine bg ?_;refine aR ?_;refine ae ?_;refine ae ?_;refine aa (ct (pl:=[(0,_),(2,_)]) (ds:=[_,_,_,_,_]) rfl zeroValue41 runUnderlying41 kC ⟨rfl,aJ,rfl,ot,trivial⟩ rfl rfl) ?_;refine OD.bB av rfl rfl rfl call49 (gR l hl ⟨2,e7,s⟩ (q+1) (Nat.succ_pos _) (Nat.le_trans aH w8) ops eF ad cap br I ho) ⟨ot,ot,trivial⟩ (cr _) (fun K aK=>(Or.inr ⟨K,rfl,by obtain⟨q,e,h1,h2⟩:=aK;exact⟨q,e,fM.trans h1,h2⟩⟩:bD _ _ _ _ _ _)) ?_;rintro _ _ ⟨o9,kr,oz,jN,jx,ku,qC,rfl⟩;refine aS (S':=⟨br,49,3,[ap 3 cT l,aj (((q+1):Nat):Int),aB jN o9.length jx]⟩::ku) (cr _).symm ?_
 have g6:R = .ok () (q+1) o9:=fM.trans kr;refine aY (Wk.aO (n:=27) (l':=[]) (S':=(⟨br,49,3,[_,_,_]⟩::ku)) rfl rfl trivial) ?_;refine bg ?_;refine Or.inl ?_;refine⟨.inl rfl,_,⟨br,49,3,[ap 3 cT l,aj (((q+1):Nat):Int),aB jN o9.length jx]⟩::ku,cw,ej results70,?_⟩;exact⟨(q+1),o9,g6,oz,(Nat.succ_pos _),aH,jN,jx,ku,qC,rfl⟩
theorem oV{ls:List (List α)}(h:j<ls.length):(ls.take (j+1)).flatten=(ls.take j).flatten++ls[j]:=by
 rw[take_succ_eq_append_getElem h,flatten_append,flatten_cons,flatten_nil,append_nil]
theorem oN{ls:List (List α)}(h:j<ls.length):((ls.take (j+1)).flatten).length=((ls.take j).flatten).length+ls[j].length:=by rw[oV h,length_append]
theorem oP(ls:List (List α))(j:Nat):((ls.take j).flatten).length<=ls.flatten.length:=by
 conv=>rhs;rw[<-take_append_drop j ls,flatten_append,length_append]
 omega
theorem vT{e sz b cap:Nat}(h:cap<=maxLen):bQ e sz [] 0 (some ⟨b,0,none⟩) cap [⟨b,e,cap*sz,[]⟩]:=.inr ⟨b,rfl,Nat.zero_le _,h,rfl⟩
def qD(q:List aT):List D:=[ap 5 cO q]
theorem vF:(Tryd.prog.info? 41).map (fun i=>(i.zero,i.size,i.bytes))=some (some (.agg #[.int .i64 0,.int .i64 0,.int .i64 0,.string ⟨#[]⟩,.string ⟨#[]⟩]),5,56):=by kernel_rfl
theorem Ar(n:Nat)(h0:0<n)(hn:n<=100000):VC Tryd.prog G 71 [cX,aj (n:Nat)] [] (fun r S=>∃b cap,cap<=maxLen/\r=aB (some ⟨b,0,none⟩) 0 cap/\S=[⟨b,41,cap*5,[]⟩]):=by
 refine cL func71 rfl ntmps71 aV fun M w0 K=>?_;refine ag ?_;refine ae ?_;refine ak [0,1] ?_;refine aA ?_;refine ag ?_;refine ae ?_;refine aa az ?_;refine ak [0,1,6] ?_;refine aI ot (fun ax=>?_) (fun ax=>?_)
 ·exact absurd ax k6
 have I:=ax
 (try simp only[V.ah,ne_eq] at I)
 refine aN ?_;refine aA ?_;refine ag ?_;refine ae ?_;refine ae ?_;refine aa (pb rfl rfl ot runUnderlying33) ?_;refine ae ?_;refine aa (cn (mk:=fun y=>.call {callee:=.builtin .len,args:=#[y],argTypes:=#[33]}) rfl ot (pD rfl runUnderlying33)) ?_;refine aa az ?_;refine aa az ?_;refine ae ?_;refine aF [(0,_),(1,_)] [] ?_;refine ag ?_;refine ae ?_;refine aa az ?_;refine ak [0,1,16] ?_;refine aI ot (fun E=>?_) (fun E=>?_)
 ·have J:=E
  (try simp only[V.ah,ne_eq] at J)
  refine aR ?_;refine ae ?_;refine ae ?_;refine aa (pb rfl rfl ot runUnderlying33) ?_;refine aa (vg rfl ot rfl ⟨_,_,ot,rfl⟩ runUnderlying33 sizeOf41) ?_;refine ae ?_;refine vm (m:=n) (sz:=5) av rfl rfl underlying33 underlying3 vF rfl bR ot (Eq.trans ot (congrArg (fun z=>D.v (.int .i64 z)) (show((n:Nat):Int)-(0-0)=((n:Nat):Int) by omega))) h0 qv w8 (fun b cap h1 h2=>?_);refine ae ?_;refine aa (cn (mk:=fun y=>.call {callee:=.builtin .len,args:=#[y],argTypes:=#[33]}) rfl ot (pD rfl runUnderlying33)) ?_;refine aa (eU (l:=0) (h:=0) rfl ot trivial ⟨_,ot⟩ (by first|exact sc (fun h=>by cases h) runUnderlying33 sizeOf41 w8|exact px (fun _=>rfl) (fun h=>by cases h) runUnderlying33 sizeOf41 w8 w8)) ?_;refine ae ?_;refine aF [(0,_)] [_] ?_;refine ag ?_;refine ae ?_;refine ae ?_;refine ak [4] ?_;refine aD ?_;refine⟨.inr rfl,_,[⟨b,41,cap*5,[]⟩],Sublist.refl _,c8 results71 (dm aV lk),?_⟩;exact⟨b,cap,h2,rfl,rfl⟩
 exact absurd E (by simp at E;omega)
theorem z6(ls:List (List aT))(Eg:ls.length<=1000)(h0:0<ls.flatten.length)(hn:ls.flatten.length<=100000):VC Tryd.prog G 69 [ap 1 qD ls] [] (fun r S=>∃ad cap,r=aB ad ls.flatten.length cap/\bQ 41 5 (ls.flatten.flatMap cO) ls.flatten.length ad cap S):=by
 refine cL func69 rfl ntmps69 aV fun X0 w0 dM=>?_;refine ag ?_;refine ae ?_;refine ak [0] ?_;refine ag ?_;refine ae ?_;refine ak [0,3] ?_;refine aA ?_;refine ag ?_;refine ae ?_;refine aa bV ?_;refine ae ?_;refine ak [0,3,9,10,11] ?_;refine bO ?_;refine ed (fun (j:Nat) U=>(j<=ls.length)/\U=(⟨36,[(0,ap 1 qD ls),(3,aj ((((ls.take j).flatten).length:Nat):Int)),(9,ap 1 qD ls),(10,aj (ls.length:Nat)),(11,aj (j:Nat))],[]⟩:St)) (fun (j:Nat)=>ls.length-j) 0 ⟨(Nat.zero_le _),rfl⟩ (Wk.bz rfl c5 qj) ?_;rintro j _ ⟨hj,rfl⟩;refine ag ?_;refine aa az ?_;refine ak [0,3,9,10,11,12] ?_;refine aA ?_;refine aI ot (fun ax=>?_) (fun ax=>?_)
 ·have E:=ax
  (try simp only[V.ah,ne_eq] at E)
  have aH:j<ls.length:=(by simp at ax;omega)
  have Y:=oN aH;have hle:=oP ls (j+1);refine aN ?_;refine aA ?_;refine bO ?_;refine ag ?_;refine aa (di 1 (h:=ql)) ?_;refine aa eA ?_;refine ae ?_;refine ak [0,3,5,9,10,11] ?_;refine ag ?_;refine ae ?_;refine ae ?_;refine aa bV ?_;refine aa (fc (r:=.int .i64 ((((ls.take (j+1)).flatten).length:Nat):Int)) rfl ot ot (pA yp)) ?_;refine ae ?_;refine aF [(0,_),(3,_),(9,_),(10,_),(11,_)] [] ?_;refine ag ?_;refine ae ?_;refine aa az ?_;refine ak [0,3,9,10,11,20] ?_;refine aI ot (fun N=>?_) (fun N=>?_)
  ·exact absurd N (by simp at N;omega)
  have Z:=N
  (try simp only[V.ah,ne_eq] at Z)
  refine aN ?_;refine aR ?_;refine aa az ?_;refine ae ?_;refine ak [0,3,9,10,11] ?_;refine⟨(j+1),_,?_,?_,w8,rfl⟩
  ·first|omega|(simp only[];omega)
  exact Wk.bz (n:=36) rfl c5 qj
 have E:=ax
 (try simp only[V.ah,ne_eq] at E)
 obtain rfl:j=ls.length:=(by simp at ax;omega)
 rw[take_length];refine dJ ?_;refine ag ?_;refine ae ?_;refine cG av rfl rfl rfl call71 (Ar ls.flatten.length h0 hn) ⟨aJ,ot,trivial⟩ (Perm.refl _) ?_;rintro _ _ ⟨b,cp,uI,rfl,rfl⟩;refine aS (S':=[⟨b,41,cp*5,[]⟩]) (Perm.refl _) ?_;refine ae ?_;refine aY (Wk.aO (n:=36) (l':=[(0,_),(6,_)]) (S':=([⟨b,41,cp*5,[]⟩])) rfl rfl bi) ?_;refine bg ?_;refine aA ?_;refine ag ?_;refine ae ?_;refine aa bV ?_;refine ae ?_;refine ak [6,25,26,27] ?_;refine bO ?_;refine ed (fun (I:Nat×Option Addr×Nat×List ay) U=>match I with|(j,J,K,Sx)=>(j<=ls.length)/\(bQ 41 5 (((ls.take j).flatten).flatMap cO) ((ls.take j).flatten).length J K Sx)/\U=(⟨36,[(6,aB J ((ls.take j).flatten).length K),(25,ap 1 qD ls),(26,aj (ls.length:Nat)),(27,aj (j:Nat))],(Sx)⟩:St)) (fun (I:Nat×Option Addr×Nat×List ay)=>match I with|(j,J,K,Sx)=>ls.length-j) (0,(some ⟨b,0,none⟩),cp,[⟨b,41,cp*5,[]⟩]) ⟨(Nat.zero_le _),(bQ.cast (vT uI) (by rfl)),rfl⟩ (Wk.bz rfl cw qi) ?_;rintro⟨j,J,K,Sx⟩ _ ⟨hj,gl,rfl⟩;refine ag ?_;refine aa az ?_;refine ak [6,25,26,27,28] ?_;refine aA ?_;refine aI ot (fun M=>?_) (fun M=>?_)
 ·have aX:=M
  (try simp only[V.ah,ne_eq] at aX)
  have aH:j<ls.length:=(by simp at M;omega)
  have Y:=oN aH;have hle:=oP ls (j+1);refine aN ?_;refine aA ?_;refine bO ?_;refine ag ?_;refine aa (di 1 (h:=ql)) ?_;refine aa eA ?_;refine ae ?_;refine ak [6,8,25,26,27] ?_;refine aR ?_;refine ae ?_;refine ae ?_;refine mr (ls:=((ls.take j).flatten)) (new:=ls[j]) (Sq:=Sx) jW sn av rfl rfl underlying33 vF rfl bR runUnderlying33 sizeOf41 ot gl (cy (A:=[])) ot qv w8 (fun sP sQ oA sR=>?_);refine aS (cR (A:=[])) ?_;refine ae ?_;refine aY (Wk.aO (n:=36) (l':=[(6,_),(25,_),(26,_),(27,_)]) (S':=(oA)) rfl rfl bi) ?_;refine bg ?_;refine aR ?_;refine aa az ?_;refine ae ?_;refine ak [6,25,26,27] ?_;refine⟨((j+1),sP,sQ,oA),_,?_,?_,w8,(bQ.cast sR (by rw[oV aH])),rfl⟩
  ·first|omega|(simp only[];omega)
  exact Wk.bz (n:=36) rfl cw qi
 have aX:=M
 (try simp only[V.ah,ne_eq] at aX)
 obtain rfl:j=ls.length:=(by simp at M;omega)
 refine dJ ?_;refine ag ?_;refine ae ?_;refine ae ?_;refine ak [2] ?_;refine aD ?_;refine⟨.inr rfl,_,Sx,Sublist.refl _,c8 results69 (dm aV lk),?_⟩;have O:=gl;rw[take_length] at O;exact⟨J,K,by rw[take_length],O⟩
theorem rU{mid:Nat}(h1:fr<=mid)(h2:mid<=ops.length):(eC ops fr mid).length=ops.length:=by
 unfold eC;simp only[length_append,length_take,length_drop];omega
theorem rE(ops:List aT)(fr mid:Nat):[ops.take fr,ops.drop mid,(ops.take mid).drop fr].flatten=eC ops fr mid:=by
 unfold eC;simp
theorem Bj(l:List Tk)(p:Nat)(ops:List aT)(fr mid:Nat)(h1:fr<=mid)(h2:mid<=ops.length)(h0:0<ops.length)(eF:ops.length<=40)(ad:Option Addr)(cap br:Nat)(Z:List ay)(ho:gb ops ad cap Z):VC Tryd.prog G 67 [bE br,aj (fr:Nat),aj (mid:Nat)] (⟨br,49,3,[ap 3 cT l,aj ((p:Nat):Int),aB ad ops.length cap]⟩::Z) (fun r S'=>∃U O Y,gb (eC ops fr mid) U O Y/\S'=⟨br,49,3,[ap 3 cT l,aj ((p:Nat):Int),aB U (eC ops fr mid).length O]⟩::Y):=by
 refine cL func67 rfl ntmps67 aV fun X0 w0 dM=>?_;have M:=z6 (G:=G) [ops.take fr,ops.drop mid,(ops.take mid).drop fr] (by show 3<=1000;decide) (by rw[rE,rU h1 h2];exact h0) (by rw[rE,rU h1 h2];omega);rw[rE] at M;refine hU (Wk.cover (A:=⟨br,49,3,[ap 3 cT l,aj ((p:Nat):Int),aB ad ops.length cap]⟩) (R:=[]) (Sd:=Z) (cs':=[ap 3 cT l,aj ((p:Nat):Int),ap 5 cO ops]) (Perm.refl _) ⟨rD,rD,rR ho (dg jW _) (fun _ h=>h),trivial⟩) ?_;refine dB (au (drop 1 _)) af (fun _ h=>(Sublist.map _ (drop_sublist _ _)).subset h) ?_;refine ai 0 rfl aU ?_;refine ai 1 rfl aU ?_;refine ai 2 rfl bu ?_;refine ai 3 rfl (aq 2) ?_;refine ai 5 rfl aU ?_;refine ai 7 rfl aU ?_;refine ai 8 rfl bu ?_;refine ai 9 rfl (aq 2) ?_;refine ai 11 rfl aU ?_;refine ai 13 rfl aU ?_;refine ai 14 rfl bu ?_;refine ai 15 rfl (aq 2) ?_;refine ai 17 rfl aU ?_;refine ai 18 rfl aU ?_;refine bp.later rfl ?_;refine rM (i:=4) (j:=10) (k:=16) af ?_ ?_ ?_
 ·refine at_ rfl (aC 0) ?_;refine bx 6 rfl (eU (l:=0) (h:=fr) rfl ot trivial ⟨_,ot⟩ od) ?_;refine dn (i:=10) (j:=16) af ?_ ?_
  ·refine at_ rfl (aC 0) ?_;refine bx 12 rfl (eU (l:=mid) (h:=ops.length) rfl ot ⟨_,ot⟩ trivial oc) ?_;refine aG (i:=16) af ?_;refine at_ rfl (aC 0) ?_;refine bx 19 rfl (eU (l:=fr) (h:=mid) rfl ot ⟨_,ot⟩ ⟨_,ot⟩ oa) ?_;refine aG (i:=20) af ?_;refine bk (aP 0 [_,_,_]) [.slice none 0 0,.slice none 0 0,.slice none 0 0] [_,_,_] zeroValue33 runUnderlying102 sizeOf33 (fun N=>?_);refine bj 0 26 1 3 ?_;refine aG (i:=21) af ?_;refine lG rfl av rfl rfl rfl call69 M ⟨Eq.trans ot mQ,trivial⟩ (Perm.refl _) k5 ?_;rintro _ I ⟨J,E,rfl,K⟩;refine fB (S':=⟨br,49,3,[ap 3 cT l,aj ((p:Nat):Int),ap 5 cO ops]⟩::I) (perm_append_comm) ?_;refine bx 22 rfl bu ?_;refine bx 23 rfl (aq 2) ?_;refine aG (i:=24) af ?_;refine aO 0 [_,_,_] sizeOf33 ?_;refine gw (y:=⟨30,[],(⟨br,49,3,[_,_,_]⟩::I)⟩) (Wk.aO rfl rfl trivial) rfl ?_;refine bC af ?_;refine⟨.inl rfl,_,⟨br,49,3,[ap 3 cT l,aj ((p:Nat):Int),aB J (eC ops fr mid).length E]⟩::I,Sublist.refl _,ej results67,?_⟩;exact⟨J,E,I,K,rfl⟩
  refine at_ rfl (aC 0) ?_;refine bx 19 rfl (eU (l:=fr) (h:=mid) rfl ot ⟨_,ot⟩ ⟨_,ot⟩ oa) ?_;refine aG (i:=10) af ?_;refine at_ rfl (aC 0) ?_;refine bx 12 rfl (eU (l:=mid) (h:=ops.length) rfl ot ⟨_,ot⟩ trivial oc) ?_;refine aG (i:=20) af ?_;refine bk (aP 0 [_,_,_]) [.slice none 0 0,.slice none 0 0,.slice none 0 0] [_,_,_] zeroValue33 runUnderlying102 sizeOf33 (fun N=>?_);refine bj 0 26 1 3 ?_;refine aG (i:=21) af ?_;refine lG rfl av rfl rfl rfl call69 M ⟨Eq.trans ot mQ,trivial⟩ (Perm.refl _) k5 ?_;rintro _ I ⟨J,E,rfl,K⟩;refine fB (S':=⟨br,49,3,[ap 3 cT l,aj ((p:Nat):Int),ap 5 cO ops]⟩::I) (perm_append_comm) ?_;refine bx 22 rfl bu ?_;refine bx 23 rfl (aq 2) ?_;refine aG (i:=24) af ?_;refine aO 0 [_,_,_] sizeOf33 ?_;refine gw (y:=⟨30,[],(⟨br,49,3,[_,_,_]⟩::I)⟩) (Wk.aO rfl rfl trivial) rfl ?_;refine bC af ?_;refine⟨.inl rfl,_,⟨br,49,3,[ap 3 cT l,aj ((p:Nat):Int),aB J (eC ops fr mid).length E]⟩::I,Sublist.refl _,ej results67,?_⟩;exact⟨J,E,I,K,rfl⟩
 ·refine at_ rfl (aC 0) ?_;refine bx 12 rfl (eU (l:=mid) (h:=ops.length) rfl ot ⟨_,ot⟩ trivial oc) ?_;refine dn (i:=4) (j:=16) af ?_ ?_
  ·refine at_ rfl (aC 0) ?_;refine bx 6 rfl (eU (l:=0) (h:=fr) rfl ot trivial ⟨_,ot⟩ od) ?_;refine aG (i:=16) af ?_;refine at_ rfl (aC 0) ?_;refine bx 19 rfl (eU (l:=fr) (h:=mid) rfl ot ⟨_,ot⟩ ⟨_,ot⟩ oa) ?_;refine aG (i:=20) af ?_;refine bk (aP 0 [_,_,_]) [.slice none 0 0,.slice none 0 0,.slice none 0 0] [_,_,_] zeroValue33 runUnderlying102 sizeOf33 (fun N=>?_);refine bj 0 26 1 3 ?_;refine aG (i:=21) af ?_;refine lG rfl av rfl rfl rfl call69 M ⟨Eq.trans ot mQ,trivial⟩ (Perm.refl _) k5 ?_;rintro _ I ⟨J,E,rfl,K⟩;refine fB (S':=⟨br,49,3,[ap 3 cT l,aj ((p:Nat):Int),ap 5 cO ops]⟩::I) (perm_append_comm) ?_;refine bx 22 rfl bu ?_;refine bx 23 rfl (aq 2) ?_;refine aG (i:=24) af ?_;refine aO 0 [_,_,_] sizeOf33 ?_;refine gw (y:=⟨30,[],(⟨br,49,3,[_,_,_]⟩::I)⟩) (Wk.aO rfl rfl trivial) rfl ?_;refine bC af ?_;refine⟨.inl rfl,_,⟨br,49,3,[ap 3 cT l,aj ((p:Nat):Int),aB J (eC ops fr mid).length E]⟩::I,Sublist.refl _,ej results67,?_⟩;exact⟨J,E,I,K,rfl⟩
  refine at_ rfl (aC 0) ?_;refine bx 19 rfl (eU (l:=fr) (h:=mid) rfl ot ⟨_,ot⟩ ⟨_,ot⟩ oa) ?_;refine aG (i:=4) af ?_;refine at_ rfl (aC 0) ?_;refine bx 6 rfl (eU (l:=0) (h:=fr) rfl ot trivial ⟨_,ot⟩ od) ?_;refine aG (i:=20) af ?_;refine bk (aP 0 [_,_,_]) [.slice none 0 0,.slice none 0 0,.slice none 0 0] [_,_,_] zeroValue33 runUnderlying102 sizeOf33 (fun N=>?_);refine bj 0 26 1 3 ?_;refine aG (i:=21) af ?_;refine lG rfl av rfl rfl rfl call69 M ⟨Eq.trans ot mQ,trivial⟩ (Perm.refl _) k5 ?_;rintro _ I ⟨J,E,rfl,K⟩;refine fB (S':=⟨br,49,3,[ap 3 cT l,aj ((p:Nat):Int),ap 5 cO ops]⟩::I) (perm_append_comm) ?_;refine bx 22 rfl bu ?_;refine bx 23 rfl (aq 2) ?_;refine aG (i:=24) af ?_;refine aO 0 [_,_,_] sizeOf33 ?_;refine gw (y:=⟨30,[],(⟨br,49,3,[_,_,_]⟩::I)⟩) (Wk.aO rfl rfl trivial) rfl ?_;refine bC af ?_;refine⟨.inl rfl,_,⟨br,49,3,[ap 3 cT l,aj ((p:Nat):Int),aB J (eC ops fr mid).length E]⟩::I,Sublist.refl _,ej results67,?_⟩;exact⟨J,E,I,K,rfl⟩
 refine at_ rfl (aC 0) ?_;refine bx 19 rfl (eU (l:=fr) (h:=mid) rfl ot ⟨_,ot⟩ ⟨_,ot⟩ oa) ?_;refine dn (i:=4) (j:=10) af ?_ ?_
 ·refine at_ rfl (aC 0) ?_;refine bx 6 rfl (eU (l:=0) (h:=fr) rfl ot trivial ⟨_,ot⟩ od) ?_;refine aG (i:=10) af ?_;refine at_ rfl (aC 0) ?_;refine bx 12 rfl (eU (l:=mid) (h:=ops.length) rfl ot ⟨_,ot⟩ trivial oc) ?_;refine aG (i:=20) af ?_;refine bk (aP 0 [_,_,_]) [.slice none 0 0,.slice none 0 0,.slice none 0 0] [_,_,_] zeroValue33 runUnderlying102 sizeOf33 (fun N=>?_);refine bj 0 26 1 3 ?_;refine aG (i:=21) af ?_;refine lG rfl av rfl rfl rfl call69 M ⟨Eq.trans ot mQ,trivial⟩ (Perm.refl _) k5 ?_;rintro _ I ⟨J,E,rfl,K⟩;refine fB (S':=⟨br,49,3,[ap 3 cT l,aj ((p:Nat):Int),ap 5 cO ops]⟩::I) (perm_append_comm) ?_;refine bx 22 rfl bu ?_;refine bx 23 rfl (aq 2) ?_;refine aG (i:=24) af ?_;refine aO 0 [_,_,_] sizeOf33 ?_;refine gw (y:=⟨30,[],(⟨br,49,3,[_,_,_]⟩::I)⟩) (Wk.aO rfl rfl trivial) rfl ?_;refine bC af ?_;refine⟨.inl rfl,_,⟨br,49,3,[ap 3 cT l,aj ((p:Nat):Int),aB J (eC ops fr mid).length E]⟩::I,Sublist.refl _,ej results67,?_⟩;exact⟨J,E,I,K,rfl⟩
 refine at_ rfl (aC 0) ?_;refine bx 12 rfl (eU (l:=mid) (h:=ops.length) rfl ot ⟨_,ot⟩ trivial oc) ?_;refine aG (i:=4) af ?_;refine at_ rfl (aC 0) ?_;refine bx 6 rfl (eU (l:=0) (h:=fr) rfl ot trivial ⟨_,ot⟩ od) ?_;refine aG (i:=20) af ?_;refine bk (aP 0 [_,_,_]) [.slice none 0 0,.slice none 0 0,.slice none 0 0] [_,_,_] zeroValue33 runUnderlying102 sizeOf33 (fun N=>?_);refine bj 0 26 1 3 ?_;refine aG (i:=21) af ?_;refine lG rfl av rfl rfl rfl call69 M ⟨Eq.trans ot mQ,trivial⟩ (Perm.refl _) k5 ?_;rintro _ I ⟨J,E,rfl,K⟩;refine fB (S':=⟨br,49,3,[ap 3 cT l,aj ((p:Nat):Int),ap 5 cO ops]⟩::I) (perm_append_comm) ?_;refine bx 22 rfl bu ?_;refine bx 23 rfl (aq 2) ?_;refine aG (i:=24) af ?_;refine aO 0 [_,_,_] sizeOf33 ?_;refine gw (y:=⟨30,[],(⟨br,49,3,[_,_,_]⟩::I)⟩) (Wk.aO rfl rfl trivial) rfl ?_;refine bC af ?_;refine⟨.inl rfl,_,⟨br,49,3,[ap 3 cT l,aj ((p:Nat):Int),aB J (eC ops fr mid).length E]⟩::I,Sublist.refl _,ej results67,?_⟩;exact⟨J,E,I,K,rfl⟩
theorem gu{β:Type}{r:Rs α}{f:α->Nat->List aT->Rs β}{v:β}(h:r.bind f = .ok v p os):∃a q o,r = .ok a q o/\f a q o = .ok v p os:=by
 cases r with
 | ok a q o=>exact⟨a,q,o,rfl,h⟩
 | no q e=>cases h
 | stuck=>cases h
theorem mB(h:bM l o p ops = .ok u q os):q=p/\os=ops++[o]/\ops.length≠40:=by
 unfold bM gv at h;split at h
 ·cases h
 cases h;exact⟨rfl,rfl,by assumption⟩
theorem AP(h:cE l s p ops = .ok u q os):q=p+1/\os=ops/\aE l p 4 s=true:=by
 unfold cE gv at h;split at h
 ·cases h;exact⟨rfl,rfl,by assumption⟩
 cases h
theorem AQ{I:List aT}(h1:ops <+: E)(h2:E <+: I):ops <+: eC I ops.length E.length:=by
 obtain⟨a,rfl⟩:=h1;obtain⟨b,rfl⟩:=h2;unfold eC;rw[append_assoc,append_assoc,take_left' rfl];exact⟨_,rfl⟩
theorem BX(h:eb l p ops = .ok v q os)(E:v.2=true):p+1<=q:=by
 unfold eb gv at h;split at h
 ·cases h;omega
 split at h
 ·cases h;omega
 split at h
 ·cases h;omega
 split at h
 ·split at h<;>cases h;omega
 split at h
 ·split at h
  ·cases h;omega
  cases h
 split at h
 ·cases h;omega
 cases h;cases E
def wL:Lv->Nat
 | .fY|.eS|.ga|.gi=>0
 | _=>1
def Gr(l:List Tk)(w v p q:Nat)(ops os:List aT):Prop:=ops <+: os/\q<=l.length/\p+w<=q/\ops.length+v<=os.length
theorem Gr.trans{l:List Tk}{w w' v I p p1 q:Nat}{ops E os:List aT}(h:Gr l w v p p1 ops E)(k:Gr l w' I p1 q E os):Gr l w v p q ops os:=⟨h.1.trans k.1,k.2.1,by have:=h.2.2.1;have:=k.2.2.1;omega,by have:=h.2.2.2;have:=k.2.2.2;omega⟩
theorem Gr.step{v:Nat}(h:Gr l w v (p+1) q ops os):Gr l 1 v p q ops os:=⟨h.1,h.2.1,by have:=h.2.2.1;omega,h.2.2.2⟩
theorem Gr.put{v r:Nat}(h:Gr l w v p q ops os)(k:bM l o q os = .ok u r E):Gr l w 1 p r ops E:=by
 obtain⟨rfl,rfl,-⟩:=mB k;exact⟨h.1.trans ⟨_,rfl⟩,h.2.1,h.2.2.1,by have:=h.1.length_le;rw[length_append];show _<=_+1;omega⟩
theorem Gr.less{v:Nat}(h:Gr l w v p q ops os):Gr l 0 0 p q ops os:=⟨h.1,h.2.1,by have:=h.2.2.1;omega,h.1.length_le⟩
theorem nr {k:Int} {f g:Nat->List aT->Rs Unit} (E:aE l p k s=true) (h:((f (p+1) ops).bind fun _ p ops=>(bM l o p ops).bind fun _ p ops=>g p ops) = .ok u q os)
  (hf:∀{p q:Nat} {ops os:List aT} {u:Unit},f p ops = .ok u q os->p<=l.length->Gr l 1 1 p q ops os) (hg:∀{p q:Nat} {ops os:List aT} {u:Unit},g p ops = .ok u q os->p<=l.length->Gr l 0 0 p q ops os):Gr l 0 0 p q ops os:=by
 obtain⟨_,p1,o1,h1,h2⟩:=gu h;obtain⟨_,p2,o2,h3,h4⟩:=gu h2;have g1:=(hf h1 (cf E)).put h3;exact(g1.trans (hg h4 g1.2.1)).step.less
theorem dD{l:List Tk}:∀(n:Nat) (lv:Lv) {p q:Nat} {ops os:List aT} {u:Unit},aQ l n lv p ops = .ok u q os->p<=l.length->Gr l (wL lv) (wL lv) p q ops os
 | 0,_,_,_,_,_,_,h,_=>by cases h
 | n+1,.fG,p,q,ops,os,u,h,hp=>by
  rw[aQ] at h;obtain⟨v,p1,o1,h1,h2⟩:=gu h;obtain⟨rfl,I,M,j8⟩:=pJ h1 hp;split at h2
  ·have aH:=BX h1 dS;exact Gr.put (v:=0) ⟨prefix_refl _,I,aH,Nat.le_refl _⟩ h2
  split at h2
  ·obtain⟨_,p2,o2,h3,h4⟩:=gu h2;obtain⟨rfl,rfl,J⟩:=AP h4;have g:=dD n .or h3 (cf dS);exact⟨g.1,cf J,by have:=g.2.2.1;show p+1<=_;omega,g.2.2.2⟩
  obtain⟨s,p2,o2,h3,h4⟩:=gu h2;obtain⟨rfl,rfl,aH⟩:=hJ h3;exact Gr.put (v:=0) ⟨prefix_refl _,aH,by show p+1<=p1+1;omega,Nat.le_refl _⟩ h4
 | n+1,.prod,p,q,ops,os,u,h,hp=>by
  rw[aQ] at h;obtain⟨_,p1,o1,h1,h2⟩:=gu h;have g:=dD n .fG h1 hp;exact g.trans (dD n .fY h2 g.2.1)
 | n+1,.sum,p,q,ops,os,u,h,hp=>by
  rw[aQ] at h;obtain⟨_,p1,o1,h1,h2⟩:=gu h;have g:=dD n .prod h1 hp;exact g.trans (dD n .eS h2 g.2.1)
 | n+1,.comp,p,q,ops,os,u,h,hp=>by
  rw[aQ] at h;obtain⟨_,p1,o1,h1,h2⟩:=gu h;have g1:=dD n .sum h1 hp;split at h2
  ·rename_i J;obtain⟨_,p2,o2,h3,h4⟩:=gu h2;obtain⟨_,p3,o3,h5,h6⟩:=gu h4;have aH:=cf J;have K:(if aE l (p1+1) 1 ⟨#[78,79,84]⟩=true then p1+2 else p1+1)<=l.length:=by
    split
    ·exact cf dS
    omega
   obtain⟨rfl,N,O⟩:=iU h3 K;have g2:Gr l 0 0 p1 p2 o2 o2:=⟨prefix_refl _,N,by split at O<;>omega,Nat.le_refl _⟩
   have g3:=(g1.trans g2).put h5;split at h6
   ·exact g3.put h6
   cases h6;exact g3
  split at h2
  ·cases h2;exact g1
  obtain⟨_,p2,o2,h3,h4⟩:=gu h2;obtain⟨_,p3,o3,h5,h6⟩:=gu h4;have hm:=find?_some dS;have g2:=dD n .sum h3 (cf (by simpa using hm));have g3:Gr l 1 1 p p3 ops o3:=by
   have E:∀b:Bool,ops <+: (if b=true then eC o2 ops.length o1.length else o2):=by
    intro b;split
    ·exact AQ g1.1 g2.1
    exact g1.1.trans g2.1
   exact Gr.put (v:=0) (q:=p2) ⟨E _,g2.2.1,by have:=g1.2.2.1;have:=g2.2.2.1;simp only[wL] at *;omega,(E _).length_le⟩ h5
  split at h6
  ·exact g3.put h6
  cases h6;exact g3
 | n+1,.not,p,q,ops,os,u,h,hp=>by
  rw[aQ] at h;split at h
  ·obtain⟨_,p1,o1,h1,h2⟩:=gu h;exact((dD n .not h1 (cf dS)).put h2).step
  exact dD n .comp h hp
 | n+1,.and,p,q,ops,os,u,h,hp=>by
  rw[aQ] at h;obtain⟨_,p1,o1,h1,h2⟩:=gu h;have g:=dD n .not h1 hp;exact g.trans (dD n .ga h2 g.2.1)
 | n+1,.or,p,q,ops,os,u,h,hp=>by
  rw[aQ] at h;obtain⟨_,p1,o1,h1,h2⟩:=gu h;have g:=dD n .and h1 hp;exact g.trans (dD n .gi h2 g.2.1)
 | n+1,.fY,p,q,ops,os,u,h,hp=>by
  rw[aQ] at h;split at h
  ·exact nr dS h (fun h hp=>dD n .fG h hp) (fun h hp=>dD n .fY h hp)
  cases h;exact⟨prefix_refl _,hp,Nat.le_refl _,Nat.le_refl _⟩
 | n+1,.eS,p,q,ops,os,u,h,hp=>by
  rw[aQ] at h;split at h
  ·exact nr dS h (fun h hp=>dD n .prod h hp) (fun h hp=>dD n .eS h hp)
  split at h
  ·exact nr dS h (fun h hp=>dD n .prod h hp) (fun h hp=>dD n .eS h hp)
  cases h;exact⟨prefix_refl _,hp,Nat.le_refl _,Nat.le_refl _⟩
 | n+1,.ga,p,q,ops,os,u,h,hp=>by
  rw[aQ] at h;split at h
  ·exact nr dS h (fun h hp=>dD n .not h hp) (fun h hp=>dD n .ga h hp)
  cases h;exact⟨prefix_refl _,hp,Nat.le_refl _,Nat.le_refl _⟩
 | n+1,.gi,p,q,ops,os,u,h,hp=>by
  rw[aQ] at h;split at h
  ·exact nr dS h (fun h hp=>dD n .and h hp) (fun h hp=>dD n .gi h hp)
  cases h;exact⟨prefix_refl _,hp,Nat.le_refl _,Nat.le_refl _⟩
def j0(l:List Tk)(n:Nat)(fr:Nat)(p1:Nat)(ew:List aT):Rs Unit :=
 if aE l p1 1 ⟨#[73,83]⟩=true then (dw l [js] (if aE l (p1+1) 1 ⟨#[78,79,84]⟩=true then p1+2 else p1+1) ew).bind fun _ p2 j2 =>
  (bM l (bU 11) p2 j2).bind fun _ p3 gB=>if aE l (p1+1) 1 ⟨#[78,79,84]⟩=true then bM l (bU 5) p3 gB else .ok () p3 gB
 else match c9.find? fun m=>aE l p1 4 m.1 with
  | none=>.ok () p1 ew
  | some m=>(aQ l n .sum (p1+1) ew).bind fun _ p2 j2=>(bM l (bU m.2.1) p2 (if m.2.2.1=true then eC j2 fr ew.length else j2)).bind fun _ p3 gB=>if m.2.2.2=true then bM l (bU 5) p3 gB else .ok () p3 gB
theorem Bk:aQ l (n+1) .comp p ops=(aQ l n .sum p ops).bind (fun _ p1 E=>j0 l n ops.length p1 E):=by rw[aQ];rfl
def cmpC:List Value:=c9.flatMap fun m=>[.string m.1,.int .i64 m.2.1,.bool m.2.2.1,.bool m.2.2.2]
theorem BY(h:j<6):((cmpC.map D.v).drop (j*4)).take 4=[bH (c9[j]'h).1,aj (c9[j]'h).2.1,bI (c9[j]'h).2.2.1,bI (c9[j]'h).2.2.2]:=by
 rcases j with _|_|_|_|_|_|j<;>first|rfl|omega
theorem Bl(h:j<6)(hf:f (c9[j]'h)=false):(c9.drop j).find? f=(c9.drop (j+1)).find? f:=by
 rw[drop_eq_getElem_cons (l:=c9) (i:=j) h,find?_cons,hf]
theorem AR(h:j<6)(hf:f (c9[j]'h)=true):(c9.drop j).find? f=some (c9[j]'h):=by
 rw[drop_eq_getElem_cons (l:=c9) (i:=j) h,find?_cons,hf]
theorem BZ{J:List aT}(h:aE l p1 1 ⟨#[73,83]⟩=true):j0 l n fr p1 J=(dw l [js] (if aE l (p1+1) 1 ⟨#[78,79,84]⟩=true then p1+1+1 else p1+1) J).bind fun _ M I=>(bM l (bU 11) M I).bind fun _ K E=>if aE l (p1+1) 1 ⟨#[78,79,84]⟩=true then bM l (bU 5) K E else .ok () K E:=by unfold j0;rw[if_pos h]
theorem B0(h:aE l p1 1 ⟨#[73,83]⟩=false)(hf:(c9.find? fun m=>aE l p1 4 m.1)=none):j0 l n fr p1 E = .ok () p1 E:=by unfold j0;rw[if_neg (F_ h),hf]
theorem B1{J:List aT}{m:ByteArray×Int×Bool×Bool}(h:aE l p1 1 ⟨#[73,83]⟩=false)(hf:(c9.find? fun m=>aE l p1 4 m.1)=some m):j0 l n fr p1 J=(aQ l n .sum (p1+1) J).bind fun _ M E=>(bM l (bU m.2.1) M (if m.2.2.1=true then eC E fr J.length else E)).bind fun _ K I=>if m.2.2.2=true then bM l (bU 5) K I else .ok () K I:=by unfold j0;rw[if_neg (F_ h),hf]
theorem mu : ∀ w, ((#[{ name := "Kind", type := 3, offset := 0, embedded := false, tag := "", pkgPath := "", byteOffset := 0 }, { name := "Value", type := 23, offset := 1, embedded := false, tag := "", pkgPath := "", byteOffset := 8 }, { name := "Name", type := 9, offset := 4, embedded := false, tag := "", pkgPath := "", byteOffset := 40 }] : Array Field).mapM fun f => do pure (f.offset, ← sizeOf f.type) : Sem (Array (Nat × Nat))).run Tryd.prog w = .ok #[(0, 1), (1, 3), (4, 1)] w := fun w => by simp [sizeOf23, sizeOf3, sizeOf9]
theorem B2(hl:l.length<=100)(hk:(3,cmpC)∈G)(ih:∀m,m<=n->j3 G br l m)(p:Nat)(ops:List aT)(hp:p<=l.length)(eF:ops.length<=40)(R:Rs Unit)(hR:R=aQ l (n+1) .comp p ops)(cY:R≠.stuck)(ad:Option Addr)(cap:Nat)(So:List ay)(ho:gb ops ad cap So):VX Tryd.prog G 64 [bE br] (⟨br,49,3,[ap 3 cT l,aj ((p:Nat):Int),aB ad ops.length cap]⟩::So) (fun _ S'=>kR br l R S') (gX R):=by
 refine VX.body func64 rfl ntmps64 aV fun X0 w0 dM=>?_;refine aA ?_;have e8:=hR.trans Bk;refine aR ?_;refine ae ?_;refine aa bu ?_;refine aa (aq 2) ?_;refine aa (aC 0) ?_;refine aa bV ?_;refine ae ?_;refine ak [0,2] ?_;refine ag ?_;refine ae ?_;have kj:aQ l n .sum p ops≠.stuck:=gP (f:=fun _ p1 N=>j0 l n ops.length p1 N) oe;refine OD.bB av rfl rfl rfl call66 ((ih _ w8).sum p ops hp eF kj ad cap So ho) ⟨ot,trivial⟩ (cr _) (fun ch aK=>(Or.inr ⟨ch,rfl,by obtain⟨q,e,h1,h2⟩:=aK;exact⟨q,e,e8.trans cF,h2⟩⟩:bD _ _ _ _ _ _)) ?_;rintro _ _ ⟨p1,N,jI,jd,jJ,iP,O,I,K,ir,rfl⟩;refine aS (S':=⟨br,49,3,[ap 3 cT l,aj ((p1:Nat):Int),aB O N.length I]⟩::K) (cr _).symm ?_;have fg:R=j0 l n ops.length p1 N:=e8.trans (by rw[jI];rfl);have xz:=(dD _ _ jI hp).1.length_le;refine aY (Wk.aO (n:=61) (l':=[(0,_),(2,_)]) (S':=(⟨br,49,3,[_,_,_]⟩::K)) rfl rfl bi) ?_;refine bg ?_;refine aA ?_;refine ag ?_;refine ae ?_;refine cG av rfl rfl rfl call20 (dy l hl p1 1 ⟨#[73,83]⟩ O N.length I br) ⟨ot,aJ,aJ,trivial⟩ (Perm.refl _) ?_;rintro _ _ ⟨rfl,rfl⟩;refine aS (S':=⟨br,49,3,[ap 3 cT l,aj (((if aE l p1 1 ⟨#[73,83]⟩=true then p1+1 else p1):Nat):Int),aB O N.length I]⟩::K) (Perm.refl _) ?_;refine aY (Wk.aO (n:=61) (l':=[(0,_),(2,_),(15,_)]) (S':=(⟨br,49,3,[_,_,_]⟩::K)) rfl rfl bi) ?_;refine bg ?_
 refine aI ot (fun ax=>?_) (fun ax=>?_)
 ·have ev:=ax
  (try simp only[V.ah,ne_eq] at ev)
  have et:aE l p1 1 ⟨#[73,83]⟩=true:=ax;rw[et];simp only[if_true];have dO:R=(dw l [js] (if aE l (p1+1) 1 ⟨#[78,79,84]⟩=true then (p1+1)+1 else (p1+1)) N).bind (fun _ p2 U=>(bM l (bU 11) p2 U).bind fun _ J E=>if aE l (p1+1) 1 ⟨#[78,79,84]⟩=true then bM l (bU 5) J E else .ok () J E):=fg.trans (BZ et);refine ag ?_;refine ae ?_;refine cG av rfl rfl rfl call20 (dy l hl (p1+1) 1 ⟨#[78,79,84]⟩ O N.length I br) ⟨ot,aJ,aJ,trivial⟩ (Perm.refl _) ?_;rintro _ _ ⟨rfl,rfl⟩;refine aS (S':=⟨br,49,3,[ap 3 cT l,aj (((if aE l (p1+1) 1 ⟨#[78,79,84]⟩=true then (p1+1)+1 else (p1+1)):Nat):Int),aB O N.length I]⟩::K) (Perm.refl _) ?_;refine ae ?_;refine aY (Wk.aO (n:=61) (l':=[(0,_),(3,_)]) (S':=(⟨br,49,3,[_,_,_]⟩::K)) rfl rfl bi) ?_;refine bg ?_;refine ag ?_;refine ae ?_;refine dj (aP 0 [_]) [.string ⟨#[]⟩] [_] zeroValue9 runUnderlying32 sizeOf9 (fun qE=>?_);refine eT 0 19 1 1 ?_;have CR:(if aE l (p1+1) 1 ⟨#[78,79,84]⟩=true then (p1+1)+1 else (p1+1))<=l.length:=(by (split;exact cf dS;exact(cf et)))
  refine OD.bB av rfl rfl rfl call21 (jU l hl [js] bR (if aE l (p1+1) 1 ⟨#[78,79,84]⟩=true then (p1+1)+1 else (p1+1)) O N.length I br) ⟨ot,by exact rfl,trivial⟩ (Perm.refl _) (fun ch aK=>(Or.inr ⟨ch,rfl,by obtain⟨q,e,h1,h2⟩:=aK;exact⟨q,e,dO.trans cF,h2⟩⟩:bD _ _ _ _ _ _)) ?_;rintro _ _ ⟨J,gH,rfl⟩;refine aS (S':=⟨br,49,3,[ap 3 cT l,aj ((J:Nat):Int),aB O N.length I]⟩::K) (Perm.refl _) ?_;obtain⟨-,gk,iu⟩:=iU (gH []) CR;have qF:0<J:=(by (split at iu<;>omega))
  have dZ:R=(bM l (bU 11) J N).bind (fun _ J E=>if aE l (p1+1) 1 ⟨#[78,79,84]⟩=true then bM l (bU 5) J E else .ok () J E):=dO.trans (by rw[gH];rfl);refine aY (Wk.aO (n:=61) (l':=[(0,_),(3,_)]) (S':=(⟨br,49,3,[_,_,_]⟩::K)) rfl rfl bi) ?_;refine bg ?_;refine ag ?_;refine ae ?_;refine aa (ct (pl:=[(0,_)]) (ds:=[_,_,_,_,_]) rfl zeroValue41 runUnderlying41 mu ⟨rfl,aJ,trivial⟩ rfl rfl) ?_;refine OD.bB av rfl rfl rfl call49 (gR l hl (bU 11) J qF (Nat.le_trans gk w8) N jd O I br K ir) ⟨ot,ot,trivial⟩ (cr _) (fun ch aK=>(Or.inr ⟨ch,rfl,by obtain⟨q,e,h1,h2⟩:=aK;exact⟨q,e,dZ.trans cF,h2⟩⟩:bD _ _ _ _ _ _)) ?_;rintro _ _ ⟨o4,k7,jK,fh,kS,e9,jL,rfl⟩;refine aS (S':=⟨br,49,3,[ap 3 cT l,aj ((J:Nat):Int),aB fh o4.length kS]⟩::e9) (cr _).symm ?_;have ee:R=if aE l (p1+1) 1 ⟨#[78,79,84]⟩=true then bM l (bU 5) J o4 else .ok () J o4:=dZ.trans l7
  refine aY (Wk.aO (n:=61) (l':=[(0,_),(3,_)]) (S':=(⟨br,49,3,[_,_,_]⟩::e9)) rfl rfl bi) ?_;refine bg ?_;refine aA ?_;refine ag ?_;refine ae ?_;refine ak [0,24] ?_;refine aI ot (fun bW=>?_) (fun bW=>?_)
  ·have dL:=bW
   (try simp only[V.ah,ne_eq] at dL)
   have eB:R=bM l (bU 5) J o4:=ee.trans (by rw[if_pos bW]);refine aR ?_;refine ae ?_;refine aa (ct (pl:=[(0,_)]) (ds:=[_,_,_,_,_]) rfl zeroValue41 runUnderlying41 mu ⟨rfl,aJ,trivial⟩ rfl rfl) ?_;refine OD.bB av rfl rfl rfl call49 (gR l hl (bU 5) J qF (Nat.le_trans gk w8) o4 jK fh kS br e9 jL) ⟨ot,ot,trivial⟩ (cr _) (fun ch aK=>(Or.inr ⟨ch,rfl,by obtain⟨q,e,h1,h2⟩:=aK;exact⟨q,e,eB.trans h1,h2⟩⟩:bD _ _ _ _ _ _)) ?_;rintro _ _ ⟨o6,m4,gG,m5,mJ,lf,m6,rfl⟩;refine aS (S':=⟨br,49,3,[ap 3 cT l,aj ((J:Nat):Int),aB m5 o6.length mJ]⟩::lf) (cr _).symm ?_;have fL:R = .ok () J o6:=eB.trans m4;refine aY (Wk.aO (n:=61) (l':=[]) (S':=(⟨br,49,3,[_,_,_]⟩::lf)) rfl rfl trivial) ?_;refine bg ?_;refine aD ?_;refine Or.inl ?_;refine⟨.inr rfl,_,⟨br,49,3,[ap 3 cT l,aj ((J:Nat):Int),aB m5 o6.length mJ]⟩::lf,cw,ej results64,?_⟩;exact⟨J,o6,fL,gG,qF,gk,m5,mJ,lf,m6,rfl⟩
  have gI:R = .ok () J o4:=ee.trans (by rw[if_neg (F_ bW)]);refine aN ?_;refine aD ?_;refine Or.inl ?_;refine⟨.inr rfl,_,⟨br,49,3,[ap 3 cT l,aj ((J:Nat):Int),aB fh o4.length kS]⟩::e9,cw,ej results64,?_⟩;exact⟨J,o4,gI,jK,qF,gk,fh,kS,e9,jL,rfl⟩
 have ev:=ax
 (try simp only[V.ah,ne_eq] at ev)
 have ef:aE l p1 1 ⟨#[73,83]⟩=false:=ax;rw[ef];simp only[Bool.false_eq_true,if_false];refine aN ?_;refine ag ?_;refine aa (cn (mk:=Op.load 99) rfl kK (by exact wP hk isAgg99 sizeOf99 rfl)) ?_;refine ae ?_;refine aY (Wk.aO (n:=61) (l':=[(0,_),(2,_),(28,_),(29,_)]) (S':=(⟨br,49,3,[_,_,_]⟩::K)) rfl rfl bi) ?_;refine bg ?_;refine bO ?_;refine ed (fun (j:Nat) cz=>(j<=6)/\(c9.find? (fun m:ByteArray×Int×Bool×Bool=>aE l p1 4 m.1)=(c9.drop j).find? (fun m:ByteArray×Int×Bool×Bool=>aE l p1 4 m.1))/\cz=(⟨61,[(0,bE br),(2,aj (ops.length:Nat)),(28,.agg (cmpC.map .v)),(29,aj (j:Nat))],(⟨br,49,3,[ap 3 cT l,aj ((p1:Nat):Int),aB O N.length I]⟩::K)⟩:St)) (fun (j:Nat)=>6-j) 0 ⟨(Nat.zero_le _),(by rw[drop_zero]),rfl⟩ (Wk.bz rfl c5 cD) ?_;rintro j _ ⟨Fa,uJ,rfl⟩;refine ag ?_;refine aa az ?_;refine ak [0,2,28,29,30] ?_;refine aA ?_;refine aI ot (fun ck=>?_) (fun ck=>?_)
 ·have aX:=ck
  (try simp only[V.ah,ne_eq] at aX)
  have aH:j<6:=(by simp at ck;omega)
  refine aN ?_;refine aA ?_;refine bO ?_;refine ag ?_;refine aa (z4 (j:=j) rfl ot ot runUnderlying99 sizeOf98 isAgg98 rfl aH (BY aH)) ?_;refine ep (ds:=[_,_,_,_]) av rfl rfl zeroValue98 rfl (fun b5=>?_);refine bq 0 [_,_,_,_] sizeOf98 ?_;refine aY (Wk.aO (n:=61) (l':=[(0,_),(2,_),(5,_),(28,_),(29,_)]) (S':=(⟨b5,98,4,[_,_,_,_]⟩::⟨br,49,3,[_,_,_]⟩::K)) rfl rfl bi) ?_;refine bg ?_;refine aA ?_;refine ag ?_;refine ae ?_;refine aa (aq 0) ?_;refine aa (aC 0) ?_;refine cG av rfl rfl rfl call20 (dy l hl p1 4 (c9[j]'aH).1 O N.length I br) ⟨ot,aJ,ot,trivial⟩ (Perm.swap _ _ _) ?_;rintro _ _ ⟨rfl,rfl⟩;refine aS (S':=⟨b5,98,4,[_,_,_,_]⟩::⟨br,49,3,[ap 3 cT l,aj (((if aE l p1 4 (c9[j]'aH).1=true then p1+1 else p1):Nat):Int),aB O N.length I]⟩::K) (Perm.swap _ _ _) ?_;refine aa en ?_;refine aY (Wk.aO (n:=61) (l':=[(0,_),(2,_),(5,_),(28,_),(29,_),(36,_)]) (S':=(⟨b5,98,4,[_,_,_,_]⟩::⟨br,49,3,[_,_,_]⟩::K)) rfl rfl bi) ?_;refine bg ?_;refine aI ot (fun cx=>?_) (fun cx=>?_)
  ·have bn:=cx
   (try simp only[V.ah,ne_eq] at bn)
   have yO:aE l p1 4 (c9[j]'aH).1=false:=(by simpa using cx)
   rw[yO];simp only[Bool.false_eq_true,if_false];refine dJ ?_;refine aR ?_;refine aa az ?_;refine ae ?_;refine ak [0,2,28,29] ?_;refine⟨(j+1),_,?_,?_,w8,(uJ.trans (Bl (f:=(fun m:ByteArray×Int×Bool×Bool=>aE l p1 4 m.1)) aH yO)),rfl⟩
   ·first|omega|(simp only[];omega)
   exact Wk.bz (n:=61) rfl c5 cD
  have bn:=cx
  (try simp only[V.ah,ne_eq] at bn)
  have qG:aE l p1 4 (c9[j]'aH).1=true:=(by simpa using cx)
  rw[qG];simp only[if_true];have fM:R=(aQ l n .sum (p1+1) N).bind (fun _ p2 U=>(bM l (bU (c9[j]'aH).2.1) p2 (if (c9[j]'aH).2.2.1=true then eC U ops.length N.length else U)).bind fun _ J E=>if (c9[j]'aH).2.2.2=true then bM l (bU 5) J E else .ok () J E):=fg.trans (B1 ef (uJ.trans (AR (f:=(fun m:ByteArray×Int×Bool×Bool=>aE l p1 4 m.1)) aH qG)));refine aN ?_;refine ag ?_;refine ae ?_;refine aa bu ?_;refine aa (aq 2) ?_;refine aa (aC 1) ?_;refine aa bV ?_;refine ae ?_;refine ak [0,2,5,6] ?_;refine ag ?_;refine ae ?_;have CS:=(cf qG)
  have Eh:aQ l n .sum (p1+1) N≠.stuck:=gP (f:=fun _ p2 U=>(bM l (bU (c9[j]'aH).2.1) p2 (if (c9[j]'aH).2.2.1=true then eC U ops.length N.length else U)).bind (fun _ J E=>if (c9[j]'aH).2.2.2=true then bM l (bU 5) J E else .ok () J E)) (by rw[fM] at cY;exact cY);refine OD.bB av rfl rfl rfl call66 ((ih _ w8).sum (p1+1) N (cf qG) jd Eh O I K ir) ⟨ot,trivial⟩ (perm_append_comm (l₁:=[_])) (fun ch aK=>(Or.inr ⟨ch,rfl,by obtain⟨q,e,h1,h2⟩:=aK;exact⟨q,e,fM.trans cF,h2⟩⟩:bD _ _ _ _ _ _)) ?_;rintro _ _ ⟨M,o9,kr,oz,lg,jg,jN,jx,ku,qC,rfl⟩;refine aS (S':=⟨b5,98,4,[_,_,_,_]⟩::⟨br,49,3,[ap 3 cT l,aj ((M:Nat):Int),aB jN o9.length jx]⟩::ku) (perm_append_comm (l₂:=[_])) ?_;have g6:R=(bM l (bU (c9[j]'aH).2.1) M (if (c9[j]'aH).2.2.1=true then eC o9 ops.length N.length else o9)).bind (fun _ J E=>if (c9[j]'aH).2.2.2=true then bM l (bU 5) J E else .ok () J E):=fM.trans (by rw[kr];rfl);have xO:=dD _ _ kr CS;have xA:=xO.1.length_le;have CT:0<o9.length:=Nat.lt_of_lt_of_le (Nat.succ_pos _) xO.2.2.2;refine aY (Wk.aO (n:=61) (l':=[(0,_),(2,_),(5,_),(6,_)]) (S':=(⟨b5,98,4,[_,_,_,_]⟩::⟨br,49,3,[_,_,_]⟩::ku)) rfl rfl bi) ?_;refine bg ?_;refine aA ?_;refine ag ?_;refine aa (aq 2) ?_;refine aa (aC 0) ?_;refine ak [0,2,5,6,45] ?_;refine aI ot (fun cm=>?_) (fun cm=>?_)
  ·have bJ:=cm
   (try simp only[V.ah,ne_eq] at bJ)
   have iL:R=(bM l (bU (c9[j]'aH).2.1) M (eC o9 ops.length N.length)).bind (fun _ J E=>if (c9[j]'aH).2.2.2=true then bM l (bU 5) J E else .ok () J E):=g6.trans (by rw[if_pos cm]);refine aR ?_;refine ae ?_;refine ae ?_;refine ae ?_;refine cG av rfl rfl rfl call67 (Bj l M o9 ops.length N.length xz xA CT oz jN jx br ku qC) ⟨ot,ot,ot,trivial⟩ (perm_append_comm (l₁:=[_])) ?_;rintro _ _ ⟨xP,xB,sS,CU,rfl⟩;refine aS (S':=⟨b5,98,4,[_,_,_,_]⟩::⟨br,49,3,[ap 3 cT l,aj ((M:Nat):Int),aB xP (eC o9 ops.length N.length).length xB]⟩::sS) (perm_append_comm (l₂:=[_])) ?_;have CV:(eC o9 ops.length N.length).length<=40:=(by rw[rU xz xA];exact oz)
   refine aY (Wk.aO (n:=61) (l':=[(0,_),(5,_)]) (S':=(⟨b5,98,4,[_,_,_,_]⟩::⟨br,49,3,[_,_,_]⟩::sS)) rfl rfl bi) ?_;refine bg ?_;refine ag ?_;refine ae ?_;refine aa (aq 1) ?_;refine aa (aC 0) ?_;refine aa (ct (pl:=[(0,_)]) (ds:=[_,_,_,_,_]) rfl zeroValue41 runUnderlying41 mu ⟨rfl,ot,trivial⟩ rfl rfl) ?_;refine OD.bB av rfl rfl rfl call49 (gR l hl (bU (c9[j]'aH).2.1) M lg (Nat.le_trans jg w8) (eC o9 ops.length N.length) CV xP xB br sS CU) ⟨ot,ot,trivial⟩ (perm_append_comm (l₁:=[_])) (fun ch aK=>(Or.inr ⟨ch,rfl,by obtain⟨q,e,h1,h2⟩:=aK;exact⟨q,e,iL.trans cF,h2⟩⟩:bD _ _ _ _ _ _)) ?_;rintro _ _ ⟨jh,mK,xQ,kT,Y,nS,xR,rfl⟩;refine aS (S':=⟨b5,98,4,[_,_,_,_]⟩::⟨br,49,3,[ap 3 cT l,aj ((M:Nat):Int),aB kT jh.length Y]⟩::nS) (perm_append_comm (l₂:=[_])) ?_;have lW:R=if (c9[j]'aH).2.2.2=true then bM l (bU 5) M jh else .ok () M jh:=iL.trans (by rw[mK];rfl)
   refine aY (Wk.aO (n:=61) (l':=[(0,_),(5,_)]) (S':=(⟨b5,98,4,[_,_,_,_]⟩::⟨br,49,3,[_,_,_]⟩::nS)) rfl rfl bi) ?_;refine bg ?_;refine aA ?_;refine ag ?_;refine aa (aq 3) ?_;refine aa (aC 0) ?_;refine ak [0,56] ?_;refine aI ot (fun Z=>?_) (fun Z=>?_)
   ·have bA:=Z
    (try simp only[V.ah,ne_eq] at bA)
    have mL:R=bM l (bU 5) M jh:=lW.trans (by rw[if_pos Z]);refine aR ?_;refine ae ?_;refine aa (ct (pl:=[(0,_)]) (ds:=[_,_,_,_,_]) rfl zeroValue41 runUnderlying41 mu ⟨rfl,aJ,trivial⟩ rfl rfl) ?_;refine OD.bB av rfl rfl rfl call49 (gR l hl (bU 5) M lg (Nat.le_trans jg w8) jh xQ kT Y br nS xR) ⟨ot,ot,trivial⟩ (perm_append_comm (l₁:=[_])) (fun ch aK=>(Or.inr ⟨ch,rfl,by obtain⟨q,e,h1,h2⟩:=aK;exact⟨q,e,mL.trans h1,h2⟩⟩:bD _ _ _ _ _ _)) ?_;rintro _ _ ⟨qH,CW,CX,sU,sC,pX,CY,rfl⟩;refine aS (S':=⟨b5,98,4,[_,_,_,_]⟩::⟨br,49,3,[ap 3 cT l,aj ((M:Nat):Int),aB sU qH.length sC]⟩::pX) (perm_append_comm (l₂:=[_])) ?_;have mM:R = .ok () M qH:=mL.trans CW;refine aY (Wk.aO (n:=61) (l':=[]) (S':=(⟨b5,98,4,[_,_,_,_]⟩::⟨br,49,3,[_,_,_]⟩::pX)) rfl rfl trivial) ?_;refine bg ?_;refine aD ?_;refine Or.inl ?_;refine⟨.inr rfl,_,⟨br,49,3,[ap 3 cT l,aj ((M:Nat):Int),aB sU qH.length sC]⟩::pX,cw,ej results64,?_⟩;exact⟨M,qH,mM,CX,lg,jg,sU,sC,pX,CY,rfl⟩
   have pY:R = .ok () M jh:=lW.trans (by rw[if_neg (F_ Z)]);refine aN ?_;refine aD ?_;refine Or.inl ?_;refine⟨.inr rfl,_,⟨br,49,3,[ap 3 cT l,aj ((M:Nat):Int),aB kT jh.length Y]⟩::nS,cw,ej results64,?_⟩;exact⟨M,jh,pY,xQ,lg,jg,kT,Y,nS,xR,rfl⟩
  have bJ:=cm
  (try simp only[V.ah,ne_eq] at bJ)
  have jy:R=(bM l (bU (c9[j]'aH).2.1) M (o9)).bind (fun _ J E=>if (c9[j]'aH).2.2.2=true then bM l (bU 5) J E else .ok () J E):=g6.trans (by rw[if_neg (F_ cm)]);refine aN ?_;refine ag ?_;refine ae ?_;refine aa (aq 1) ?_;refine aa (aC 0) ?_;refine aa (ct (pl:=[(0,_)]) (ds:=[_,_,_,_,_]) rfl zeroValue41 runUnderlying41 mu ⟨rfl,ot,trivial⟩ rfl rfl) ?_;refine OD.bB av rfl rfl rfl call49 (gR l hl (bU (c9[j]'aH).2.1) M lg (Nat.le_trans jg w8) o9 oz jN jx br ku qC) ⟨ot,ot,trivial⟩ (perm_append_comm (l₁:=[_])) (fun ch aK=>(Or.inr ⟨ch,rfl,by obtain⟨q,e,h1,h2⟩:=aK;exact⟨q,e,jy.trans cF,h2⟩⟩:bD _ _ _ _ _ _)) ?_;rintro _ _ ⟨lj,pZ,xS,p0,pQ,nT,xT,rfl⟩;refine aS (S':=⟨b5,98,4,[_,_,_,_]⟩::⟨br,49,3,[ap 3 cT l,aj ((M:Nat):Int),aB p0 lj.length pQ]⟩::nT) (perm_append_comm (l₂:=[_])) ?_;have lX:R=if (c9[j]'aH).2.2.2=true then bM l (bU 5) M lj else .ok () M lj:=jy.trans (by rw[pZ];rfl)
  refine aY (Wk.aO (n:=61) (l':=[(0,_),(5,_)]) (S':=(⟨b5,98,4,[_,_,_,_]⟩::⟨br,49,3,[_,_,_]⟩::nT)) rfl rfl bi) ?_;refine bg ?_;refine aA ?_;refine ag ?_;refine aa (aq 3) ?_;refine aa (aC 0) ?_;refine ak [0,56] ?_;refine aI ot (fun Z=>?_) (fun Z=>?_)
  ·have bA:=Z
   (try simp only[V.ah,ne_eq] at bA)
   have lY:R=bM l (bU 5) M lj:=lX.trans (by rw[if_pos Z]);refine aR ?_;refine ae ?_;refine aa (ct (pl:=[(0,_)]) (ds:=[_,_,_,_,_]) rfl zeroValue41 runUnderlying41 mu ⟨rfl,aJ,trivial⟩ rfl rfl) ?_;refine OD.bB av rfl rfl rfl call49 (gR l hl (bU 5) M lg (Nat.le_trans jg w8) lj xS p0 pQ br nT xT) ⟨ot,ot,trivial⟩ (perm_append_comm (l₁:=[_])) (fun ch aK=>(Or.inr ⟨ch,rfl,by obtain⟨q,e,h1,h2⟩:=aK;exact⟨q,e,lY.trans h1,h2⟩⟩:bD _ _ _ _ _ _)) ?_;rintro _ _ ⟨lm,sV,CZ,mN,mF,p7,C0,rfl⟩;refine aS (S':=⟨b5,98,4,[_,_,_,_]⟩::⟨br,49,3,[ap 3 cT l,aj ((M:Nat):Int),aB mN lm.length mF]⟩::p7) (perm_append_comm (l₂:=[_])) ?_;have mO:R = .ok () M lm:=lY.trans sV;refine aY (Wk.aO (n:=61) (l':=[]) (S':=(⟨b5,98,4,[_,_,_,_]⟩::⟨br,49,3,[_,_,_]⟩::p7)) rfl rfl trivial) ?_;refine bg ?_;refine aD ?_;refine Or.inl ?_;refine⟨.inr rfl,_,⟨br,49,3,[ap 3 cT l,aj ((M:Nat):Int),aB mN lm.length mF]⟩::p7,cw,ej results64,?_⟩;exact⟨M,lm,mO,CZ,lg,jg,mN,mF,p7,C0,rfl⟩
  have nU:R = .ok () M lj:=lX.trans (by rw[if_neg (F_ Z)]);refine aN ?_;refine aD ?_;refine Or.inl ?_;refine⟨.inr rfl,_,⟨br,49,3,[ap 3 cT l,aj ((M:Nat):Int),aB p0 lj.length pQ]⟩::nT,cw,ej results64,?_⟩;exact⟨M,lj,nU,xS,lg,jg,p0,pQ,nT,xT,rfl⟩
 have aX:=ck
 (try simp only[V.ah,ne_eq] at aX)
 obtain rfl:j=6:=(by simp at ck;omega)
 have lZ:R = .ok () p1 N:=fg.trans (B0 ef (uJ.trans rfl));refine dJ ?_;refine Or.inl ?_;refine⟨.inl rfl,_,⟨br,49,3,[ap 3 cT l,aj ((p1:Nat):Int),aB O N.length I]⟩::K,cw,ej results64,?_⟩;exact⟨p1,N,lZ,jd,jJ,iP,O,I,K,ir,rfl⟩
theorem all_zero:j3 G br l 0:=⟨fun _ _ _ _ h=>absurd rfl h,fun _ _ _ _ h=>absurd rfl h,fun _ _ _ _ h=>absurd rfl h,fun _ _ _ _ h=>absurd rfl h,fun _ _ _ _ h=>absurd rfl h,fun _ _ _ _ h=>absurd rfl h,fun _ _ _ _ h=>absurd rfl h⟩
theorem vG{br:Nat}{l:List Tk}(hl:l.length<=100)(hm:(0,marksC)∈G)(hw:(2,wordsC)∈G)(hk:(3,cmpC)∈G)(ht:∀t∈l,t.s.size<=maxLen/\(t.k=2->0<=t.n/\t.n<=9223372036854775807)):∀n,∀m,m<=n->j3 G br l m
 | 0,m,h=>by
  obtain rfl:m=0:=(by omega)
  exact all_zero
 | n+1,m,h=>by
  have J:=vG hl hm hw hk ht n (br:=br);rcases Nat.lt_or_ge n m with h1|h1
  ·obtain rfl:m=n+1:=(by omega)
   exact⟨fun p ops hp E cY ad cap I ho=>BW hl hm hw ht J p ops hp E _ rfl cY ad cap I ho,fun p ops hp E cY ad cap I ho=>BV hl J p ops hp E _ rfl cY ad cap I ho,fun p ops hp E cY ad cap I ho=>Cj hl J p ops hp E _ rfl cY ad cap I ho,fun p ops hp E cY ad cap I ho=>B2 hl hk J p ops hp E _ rfl cY ad cap I ho,fun p ops hp E cY ad cap I ho=>Cl hl J p ops hp E _ rfl cY ad cap I ho,fun p ops hp E cY ad cap I ho=>Ck hl J p ops hp E _ rfl cY ad cap I ho,fun p ops hp E cY ad cap I ho=>CP hl J p ops hp E _ rfl cY ad cap I ho⟩
  exact J m h1
def nV(br:Nat)(l:List Tk)(R:Rs α)(dv:α->D->Prop)(r:D)(S':List ay):Prop:=∃v p os ad n cap,R = .ok v p os/\dv v r/\p<=l.length/\S'=[⟨br,49,3,[ap 3 cT l,aj ((p:Nat):Int),aB ad n cap]⟩]
def yP(v:List aT)(r:D):Prop:=r=ap 5 cO v/\v.length<=40
def Ei(v:List Vl)(r:D):Prop:=r=ap 3 cV v/\v.length<=6
theorem wT(hl:l.length<=100)(hm:(0,marksC)∈G)(hw:(2,wordsC)∈G)(hk:(3,cmpC)∈G)(ht:∀t∈l,t.s.size<=maxLen/\(t.k=2->0<=t.n/\t.n<=9223372036854775807))(p:Nat)(hp:p<=l.length)(R:Rs (List aT))(M:R=iH l p)(cY:R≠.stuck)(ad:Option Addr)(n cap:Nat):VX Tryd.prog G 27 [bE br] [⟨br,49,3,[ap 3 cT l,aj ((p:Nat):Int),aB ad n cap]⟩] (fun r S'=>nV br l R yP r S') (gX R):=by
 refine VX.body func27 rfl ntmps27 aV fun X0 w0 dM=>?_;refine aA ?_;refine aR ?_;refine ae ?_;refine ak [0] ?_;refine ag ?_;refine ae ?_;refine aa bu ?_;refine aa (aq 2) ?_;refine bq 0 [_,_,_] sizeOf33 ?_;refine aF [(0,_)] [⟨br,49,3,[_,_,_]⟩] ?_;refine ag ?_;refine ae ?_;have hs:aQ l (12*l.length+24) .or p []≠.stuck:=gP (f:=fun _ p ops=>.ok ops p ops) (by rw[M] at cY;exact cY);refine OD.bB av rfl rfl rfl call37 ((vG hl hm hw hk ht _ _ (Nat.le_refl _)).or p [] hp (Nat.zero_le _) hs none 0 [] kM) ⟨ot,trivial⟩ (Perm.refl _) (fun ch aK=>(Or.inr ⟨ch,rfl,by obtain⟨q,e,h1,h2⟩:=aK;exact⟨q,e,M.trans (by unfold iH;rw[h1];rfl),h2⟩⟩:bD _ _ _ _ _ _)) ?_;rintro _ _ ⟨p1,K,N,O,jJ,U,I,E,J,Y,rfl⟩;refine aS (S':=⟨br,49,3,[ap 3 cT l,aj ((p1:Nat):Int),aB I K.length E]⟩::J) (cr _).symm ?_;have Z:R = .ok K p1 K:=M.trans (by unfold iH;rw[N];rfl);refine aY (Wk.aO (n:=12) (l':=[(0,_)]) (S':=(⟨br,49,3,[_,_,_]⟩::J)) rfl rfl bi) ?_;refine bg ?_;refine ag ?_;refine ae ?_;refine aa bu ?_;refine aa (aq 2) ?_;refine aa (aC 0) ?_;refine ae ?_;refine ak [2] ?_;refine iz (t:=2) (Sq:=J) lk Y (dg jW _) (cy (A:=[_])) ?_;refine aD ?_;refine Or.inl ?_;refine⟨.inr rfl,_,[⟨br,49,3,[ap 3 cT l,aj ((p1:Nat):Int),aB I K.length E]⟩],gZ,c8 results27 (dm aV lk),?_⟩;exact⟨K,p1,K,I,_,E,Z,⟨rfl,O⟩,U,rfl⟩
theorem rV(hl:l.length<=100)(hm:(0,marksC)∈G)(hw:(2,wordsC)∈G)(hk:(3,cmpC)∈G)(ht:∀t∈l,t.s.size<=maxLen/\(t.k=2->0<=t.n/\t.n<=9223372036854775807))(p:Nat)(hp:p<=l.length)(os:List aT)(R:Rs (List aT))(U:R=eM l p os)(cY:R≠.stuck)(ad:Option Addr)(n cap:Nat):VX Tryd.prog G 28 [bE br] [⟨br,49,3,[ap 3 cT l,aj ((p:Nat):Int),aB ad n cap]⟩] (fun r S'=>nV br l R yP r S') (gX R):=by
 refine VX.body func28 rfl ntmps28 aV fun X0 w0 Z=>?_;refine aA ?_;refine aR ?_;refine ae ?_;refine ak [0] ?_;refine aA ?_;refine ag ?_;refine ae ?_;refine cG av rfl rfl rfl call20 (dy l hl p 1 ⟨#[87,72,69,82,69]⟩ ad n cap br) ⟨ot,aJ,aJ,trivial⟩ (Perm.refl _) ?_;rintro _ _ ⟨rfl,rfl⟩;refine aS (S':=⟨br,49,3,[ap 3 cT l,aj (((if aE l p 1 ⟨#[87,72,69,82,69]⟩=true then p+1 else p):Nat):Int),aB ad n cap]⟩::[]) (Perm.refl _) ?_;refine aa en ?_;refine aF [(0,_),(5,_)] [⟨br,49,3,[_,_,_]⟩] ?_;refine aI ot (fun ax=>?_) (fun ax=>?_)
 ·have E:=ax
  (try simp only[V.ah,ne_eq] at E)
  have Y:aE l p 1 ⟨#[87,72,69,82,69]⟩=false:=(by simpa using ax)
  rw[Y];simp only[Bool.false_eq_true,if_false];have K:R = .ok [] p os:=U.trans (by unfold eM;rw[if_neg (F_ Y)]);refine ag ?_;refine ae ?_;refine ak [2] ?_;refine hU (Wk.py (t:=2) (sz:=5) lk) ?_;refine aD ?_;refine Or.inl ?_;refine⟨.inr rfl,_,[⟨br,49,3,[ap 3 cT l,aj ((p:Nat):Int),aB ad n cap]⟩],gZ,c8 results28 (dm aV lk),?_⟩;exact⟨[],p,os,_,_,_,K,⟨rfl,bR⟩,hp,rfl⟩
 have E:=ax
 (try simp only[V.ah,ne_eq] at E)
 have M:aE l p 1 ⟨#[87,72,69,82,69]⟩=true:=(by simpa using ax)
 rw[M];simp only[if_true];have dO:R=iH l (p+1):=U.trans (by unfold eM;rw[if_pos M]);refine aN ?_;refine ag ?_;refine ae ?_;refine OD.bB av rfl rfl rfl call27 (wT hl hm hw hk ht (p+1) (cf M) R dO cY ad n cap) ⟨ot,trivial⟩ (Perm.refl _) (fun ch aK=>(Or.inr ⟨ch,rfl,aK⟩:bD _ _ _ _ _ _)) ?_;rintro _ _ ⟨v,p1,o1,J,n1,I,N,⟨rfl,hv1⟩,O,rfl⟩;refine aS (S':=⟨br,49,3,[ap 3 cT l,aj ((p1:Nat):Int),aB J n1 I]⟩::[]) (Perm.refl _) ?_;refine ae ?_;refine aF [(2,_)] [⟨br,49,3,[_,_,_]⟩] ?_;refine aD ?_;refine Or.inl ?_;refine⟨.inr rfl,_,[⟨br,49,3,[ap 3 cT l,aj ((p1:Nat):Int),aB J n1 I]⟩],gZ,c8 results28 (dm aV lk),?_⟩;exact⟨v,p1,o1,_,_,_,N,⟨rfl,hv1⟩,O,rfl⟩
theorem Ae:(Tryd.prog.info? 23).map (fun i=>(i.zero,i.size,i.bytes))=some (some (.agg #[.int .i64 0,.int .i64 0,.string ⟨#[]⟩]),3,32):=by kernel_rfl
theorem B3(hl:l.length<=100)(ht:∀t∈l,t.s.size<=maxLen/\(t.k=2->0<=t.n/\t.n<=9223372036854775807))(p:Nat)(hp:p<=l.length)(os:List aT)(R:Rs (List Vl))(hR:R=(cE l ⟨#[40]⟩ p os).bind fun _ p ops=>iX l 8 [] p ops)(ad:Option Addr)(n cap:Nat):VX Tryd.prog G 24 [bE br] [⟨br,49,3,[ap 3 cT l,aj ((p:Nat):Int),aB ad n cap]⟩] (fun r S'=>nV br l R Ei r S') (gX R):=by
 refine VX.body func24 rfl ntmps24 aV fun X0 w0 dM=>?_;refine aA ?_;refine aR ?_;refine ae ?_;refine ak [0] ?_;refine ag ?_;refine ae ?_;refine ak [0,3] ?_;refine ag ?_;refine ae ?_;refine OD.bB av rfl rfl rfl call26 (jT l hl p ⟨#[40]⟩ ad n cap br) ⟨ot,aJ,trivial⟩ (Perm.refl _) (fun Z aK=>(Or.inr ⟨Z,rfl,⟨_,_,hR.trans k4,aK.2⟩⟩:bD _ _ _ _ _ _)) ?_;rintro _ _ ⟨mm,rfl⟩;refine aS (S':=⟨br,49,3,[ap 3 cT l,aj (((p+1):Nat):Int),aB ad n cap]⟩::[]) (Perm.refl _) ?_;have fg:R=iX l 8 [] (p+1) os:=hR.trans (by rw[jS mm];rfl);refine aY (Wk.aO (n:=32) (l':=[(0,_),(3,_)]) (S':=(⟨br,49,3,[_,_,_]⟩::[])) rfl rfl bi) ?_;refine bg ?_;refine aA ?_;refine bO ?_;refine ed (fun (M:Nat×List Vl×Nat×Option Addr×Nat×List ay) cz=>match M with|(f,out,q,fa,fb,So)=>(f+out.length=8)/\(out.length<=6)/\(q<=l.length)/\(R=iX l f out q os)/\(bQ 23 3 ((out).flatMap cV) (out).length fa fb So)/\cz=(⟨32,[(0,bE br),(3,aB fa (out).length fb)],(⟨br,49,3,[ap 3 cT l,aj ((q:Nat):Int),aB ad n cap]⟩::So)⟩:St)) (fun (M:Nat×List Vl×Nat×Option Addr×Nat×List ay)=>match M with|(f,out,q,fa,fb,So)=>f) (8,[],(p+1),none,0,[]) ⟨rfl,bR,(cf mm),fg,(bQ.cast kM (by rfl)),rfl⟩ (Wk.bz rfl cw w7) ?_;rintro⟨f,out,q,fa,fb,So⟩ _ ⟨yQ,m6,gj,gJ,iS,rfl⟩;rcases f with _|f
 ·omega
 refine bO ?_;refine aA ?_;refine ag ?_;refine ae ?_;refine aa bV ?_;refine aa az ?_;refine ak [0,3,10] ?_;refine aI ot (fun ax=>?_) (fun ax=>?_)
 ·have N:=ax
  (try simp only[V.ah,ne_eq] at N)
  have h6:out.length=6:=(by simp at ax;omega)
  have dO:R=gv l q 10:=gJ.trans (by rw[iX,if_pos h6]);refine aR ?_;refine ae ?_;exact OD.bB av rfl rfl rfl call12 (eV l hl q 10 ad n cap br) ⟨ot,aJ,trivial⟩ (Perm.refl _) (fun Z aK=>(Or.inr ⟨Z,rfl,⟨_,_,dO,aK⟩⟩:bD _ _ _ _ _ _)) (fun r S' h=>h.elim)
 have N:=ax
 (try simp only[V.ah,ne_eq] at N)
 have h6:¬out.length=6:=(by simp at ax;omega)
 have dZ:R=(eb l q os).bind (fun v p1 ew=>if v.2=false then gv l p1 6 else if aE l p1 4 ⟨#[44]⟩=true then iX l f (out++[v.1]) (p1+1) ew else (cE l ⟨#[41]⟩ p1 ew).bind fun _ p3 J=>.ok (out++[v.1]) p3 J):=gJ.trans (by rw[iX,if_neg h6]);refine aN ?_;refine ag ?_;refine ae ?_;refine OD.bB av rfl rfl rfl call36 (vE l hl ht q ad n cap br) ⟨ot,trivial⟩ (Perm.refl _) (fun Z aK=>(Or.inr ⟨Z,rfl,by obtain⟨q,e,h1,h2⟩:=aK;exact⟨q,e,dZ.trans cF,h2⟩⟩:bD _ _ _ _ _ _)) ?_;rintro _ _ ⟨v,ok,I,lV,rfl,rfl⟩;unfold cV;refine aS (S':=⟨br,49,3,[ap 3 cT l,aj ((I:Nat):Int),aB ad n cap]⟩::So) (Perm.refl _) ?_;have ee:R=(if ok=false then gv l I 6 else if aE l I 4 ⟨#[44]⟩=true then iX l f (out++[v]) (I+1) os else (cE l ⟨#[41]⟩ I os).bind (fun _ p3 J=>.ok (out++[v]) p3 J)):=dZ.trans (by rw[lV];rfl);have yR:=(pJ (lV []) gj).2.1;refine ae ?_;refine aa gY ?_;refine aa gY ?_;refine ep (ds:=[_,_,_]) av rfl rfl zeroValue23 rfl (fun b4=>?_);refine bq 0 [_,_,_] sizeOf23 ?_;refine ae ?_;refine aY (Wk.aO (n:=32) (l':=[(0,_),(3,_),(4,_),(5,_)]) (S':=(⟨b4,23,3,[_,_,_]⟩::⟨br,49,3,[_,_,_]⟩::So)) rfl rfl bi) ?_;refine bg ?_;refine aA ?_;refine ag ?_;refine ae ?_;refine aa en ?_;refine ak [0,3,4,19] ?_;refine aI ot (fun O=>?_) (fun O=>?_)
 ·have U:=O
  (try simp only[V.ah,ne_eq] at U)
  have gF:ok=false:=(by simpa using O)
  have eB:R=gv l I 6:=ee.trans (by rw[if_pos gF]);refine aR ?_;refine ae ?_;exact OD.bB av rfl rfl rfl call12 (eV l hl I 6 ad n cap br) ⟨ot,aJ,trivial⟩ (Perm.swap _ _ _) (fun Z aK=>(Or.inr ⟨Z,rfl,⟨_,_,eB,aK⟩⟩:bD _ _ _ _ _ _)) (fun r S' h=>h.elim)
 have U:=O
 (try simp only[V.ah,ne_eq] at U)
 have gF:ok=true:=(by simpa using O)
 have fL:R=if aE l I 4 ⟨#[44]⟩=true then iX l f (out++[v]) (I+1) os else (cE l ⟨#[41]⟩ I os).bind (fun _ p3 J=>.ok (out++[v]) p3 J):=ee.trans (by rw[if_neg (by rw[gF];decide)])
 refine aN ?_;refine ag ?_;refine ae ?_;refine aa (dF 0 [_,_,_]) ?_;refine dj (aP 0 [_]) [.int .i64 0,.int .i64 0,.string ⟨#[]⟩] [_,_,_] zeroValue23 runUnderlying31 sizeOf23 (fun Ej=>?_);refine eT 0 24 3 1 ?_;refine fA (ls:=(out)) (new:=[v]) (Sq:=So) fO BR av rfl rfl underlying31 Ae rfl bR ot iS (cy (A:=[_,_])) ot cl iN iN (fun K E xU xV=>?_);refine aS (cR (S1:=[⟨K,23,E*3,flatMap cV ((out)++[v])⟩]) (A:=[_,_])) ?_;refine ae ?_;refine aY (Wk.aO (n:=32) (l':=[(0,_),(3,_)]) (S':=(⟨b4,23,3,[_,_,_]⟩::⟨br,49,3,[_,_,_]⟩::[⟨K,23,E*3,flatMap cV ((out)++[v])⟩])) rfl rfl bi) ?_;refine bg ?_;refine ag ?_;refine ae ?_;refine cG av rfl rfl rfl call20 (dy l hl I 4 ⟨#[44]⟩ ad n cap br) ⟨ot,aJ,aJ,trivial⟩ (Perm.swap _ _ _) ?_;rintro _ _ ⟨rfl,rfl⟩;refine aS (S':=⟨b4,23,3,[_,_,_]⟩::⟨br,49,3,[ap 3 cT l,aj (((if aE l I 4 ⟨#[44]⟩=true then I+1 else I):Nat):Int),aB ad n cap]⟩::[⟨K,23,E*3,flatMap cV ((out)++[v])⟩]) (Perm.swap _ _ _) ?_;refine aa en ?_;refine aY (Wk.aO (n:=32) (l':=[(0,_),(3,_),(28,_)]) (S':=(⟨b4,23,3,[_,_,_]⟩::⟨br,49,3,[_,_,_]⟩::[⟨K,23,E*3,flatMap cV ((out)++[v])⟩])) rfl rfl bi) ?_;refine bg ?_;refine aI ot (fun Y=>?_) (fun Y=>?_)
 ·have aX:=Y
  (try simp only[V.ah,ne_eq] at aX)
  have ef:aE l I 4 ⟨#[44]⟩=false:=(by simpa using Y)
  rw[ef];simp only[Bool.false_eq_true,if_false];have gI:R=(cE l ⟨#[41]⟩ I os).bind (fun _ p3 J=>.ok (out++[v]) p3 J):=fL.trans (by rw[if_neg (F_ ef)]);refine dJ ?_;refine ag ?_;refine ae ?_;refine OD.bB av rfl rfl rfl call26 (jT l hl I ⟨#[41]⟩ ad n cap br) ⟨ot,aJ,trivial⟩ (Perm.swap _ _ _) (fun Z aK=>(Or.inr ⟨Z,rfl,⟨_,_,gI.trans k4,aK.2⟩⟩:bD _ _ _ _ _ _)) ?_;rintro _ _ ⟨yS,rfl⟩;refine aS (S':=⟨b4,23,3,[_,_,_]⟩::⟨br,49,3,[ap 3 cT l,aj (((I+1):Nat):Int),aB ad n cap]⟩::[⟨K,23,E*3,flatMap cV ((out)++[v])⟩]) (Perm.swap _ _ _) ?_;have fM:R = .ok (out++[v]) (I+1) os:=gI.trans (by rw[jS yS];rfl);refine aY (Wk.aO (n:=32) (l':=[(3,_)]) (S':=(⟨b4,23,3,[_,_,_]⟩::⟨br,49,3,[_,_,_]⟩::[⟨K,23,E*3,flatMap cV ((out)++[v])⟩])) rfl rfl bi) ?_;refine bg ?_;refine ag ?_;refine ae ?_;refine ae ?_;refine ak [2] ?_;refine iz (t:=2) (Sq:=[⟨K,23,E*3,flatMap cV ((out)++[v])⟩]) lk (cA xU xV) (dg fO _) (cy (A:=[_,_])) ?_;refine aD ?_;refine Or.inl ?_;refine⟨.inr rfl,_,[⟨br,49,3,[ap 3 cT l,aj (((I+1):Nat):Int),aB ad n cap]⟩],gZ,c8 results24 (dm aV lk),?_⟩;exact⟨out++[v],(I+1),os,_,_,_,fM,⟨rfl,by simp;omega⟩,(cf yS),rfl⟩
 have aX:=Y
 (try simp only[V.ah,ne_eq] at aX)
 have et:aE l I 4 ⟨#[44]⟩=true:=(by simpa using Y)
 rw[et];simp only[if_true];have g6:R=iX l f (out++[v]) (I+1) os:=fL.trans (by rw[if_pos et]);refine aN ?_;refine⟨(f,(out++[v]),(I+1),(some ⟨K,0,none⟩),E,[⟨K,23,E*3,flatMap cV ((out)++[v])⟩]),_,?_,?_,fx,fx,(cf et),g6,(bQ.cast (cA xU xV) (by rfl)),rfl⟩
 ·first|omega|(simp only[];omega)
 exact Wk.bz (n:=32) rfl cw w7
def typesC:List Value:=[.string ⟨#[]⟩,.string ⟨#[66,79,79,76]⟩,.string ⟨#[73,78,84]⟩,.string ⟨#[84,69,88,84]⟩]
def lO:List ByteArray:=[⟨#[]⟩,⟨#[66,79,79,76]⟩,⟨#[73,78,84]⟩,⟨#[84,69,88,84]⟩]
theorem Bm(h:k<4):(typesC.map D.v)[k*1]?=some (bH (lO[k]'h)):=by
 rcases k with _|_|_|_|k<;>first|rfl|omega
def fP(l:List Tk)(p:Nat):Nat->Int
 | 0=>0
 | k+1=>if 0<k/\aE l p 1 (lO.getD k ⟨#[]⟩)=true then (k:Int) else fP l p k
theorem Bn(l:List Tk)(p:Nat):fP l p 4=dA l p:=by
 unfold dA;simp only[fP,lO,getD_eq_getElem?_getD,getElem?_cons_succ,getElem?_cons_zero,Option.getD_some];simp
theorem B4(h:k<4)(h0:0<k)(E:aE l p 1 (lO[k]'h)=true):(k:Int)=fP l p (k+1):=by
 rw[fP,if_pos ⟨h0,by rw[getD_eq_getElem?_getD,getElem?_eq_getElem h];exact E⟩]
theorem xn(h:k<4)(E:aE l p 1 (lO[k]'h)=false):fP l p k=fP l p (k+1):=by
 rw[fP,if_neg];rintro⟨_,h1⟩;rw[getD_eq_getElem?_getD,getElem?_eq_getElem h] at h1;exact absurd (E.symm.trans h1) bR
theorem xo(h0:¬0<k):fP l p k=fP l p (k+1):=by
 rw[fP,if_neg];exact fun h=>h0 h.1
theorem AS(ls:List dc)(g:Nat)(da:List D)(S:List ay)(p:dc->Bool)(J:∀args w,(callFunc g args).run Tryd.prog w = .ok (.enter g args) w)(hp:∀x∈ls,VC Tryd.prog G g (.agg (cC x)::da) S (fun r S'=>r=bI (p x)/\S'=S))(O:ls.length<=1000000):VC Tryd.prog G 47 [ap 2 cC ls,.dV (.func g) da] S (fun r S'=>r=aj (kQ p ls)/\S'=S):=by
 refine cL func47 rfl ntmps47 aV fun Y w0 U=>?_;unfold cC at hp;refine ag ?_;refine ae ?_;refine aY (Wk.aO (n:=19) (l':=[(0,_),(1,_)]) (S':=S) rfl jA bi) ?_;refine bg ?_;refine aA ?_;refine ag ?_;refine ae ?_;refine aa bV ?_;refine ae ?_;refine aY (Wk.aO (n:=19) (l':=[(0,_),(1,_),(7,_),(8,_)]) (S':=S) rfl jA bi) ?_;refine bg ?_;refine bO ?_;refine ed (fun (k:Nat) N=>(k<=ls.length)/\(∀x∈ls.take k,p x=false)/\N=(⟨19,[(0,ap 2 cC ls),(1,.dV (.func g) da),(7,aj ls.length),(8,aj (k:Nat))],S⟩:St)) (fun (k:Nat)=>ls.length-k) 0 ⟨Nat.zero_le _,cl,rfl⟩ (Wk.bz rfl c5 cD) ?_;rintro k _ ⟨hk,h0,rfl⟩;refine ag ?_;refine aa az ?_;refine aY (Wk.aO (n:=19) (l':=[(0,_),(1,_),(7,_),(8,_),(9,_)]) (S':=S) rfl jA bi) ?_;refine bg ?_;refine aA ?_;refine aI ot (fun ax=>?_) (fun ax=>?_)
 ·have E:=ax
  (try simp only[V.ah,ne_eq] at E)
  refine aN ?_;refine aA ?_;refine bO ?_;refine ag ?_;refine ae ?_;refine ae ?_;refine aY (Wk.aO (n:=19) (l':=[(0,_),(1,_),(5,_),(7,_),(8,_)]) (S':=S) rfl jA bi) ?_;refine bg ?_;refine ag ?_;refine ae ?_;refine ae ?_;refine ae ?_;refine aa (di 2) ?_;refine aa (jc [_,_]) ?_;refine v8 (f:=g) (args:=[_]) av rfl rfl (lK rfl lk) J (hp (ls[k]'w8) (getElem_mem _)) rfl ⟨lK rfl lk,trivial⟩ (cr _) ?_;rintro _ S2 ⟨rfl,M⟩;rw[M];clear M;refine aY (Wk.aO (n:=19) (l':=[(0,_),(1,_),(5,_),(7,_),(8,_),(16,_)]) (S':=S) rfl jA bi) ?_;refine bg ?_;refine aI ot (fun K=>?_) (fun K=>?_)
  ·have I:=K
   (try simp only[V.ah,ne_eq] at I)
   refine ag ?_;refine ae ?_;refine ae ?_;refine aY (Wk.aO (n:=19) (l':=[(4,_)]) (S':=S) rfl jA bi) ?_;refine bg ?_;refine aD ?_;refine⟨.inr rfl,_,S,c5,c8 results47 (dm aV lk),?_⟩;refine⟨?_,rfl⟩;first|(rw[po w8 h0 dS])|(rw[o8 w8 h0])
  have I:=K
  (try simp only[V.ah,ne_eq] at I)
  refine aN ?_;refine aR ?_;refine aa az ?_;refine ae ?_;refine aY (Wk.aO (n:=19) (l':=[(0,_),(1,_),(7,_),(8,_)]) (S':=S) rfl jA bi) ?_;refine bg ?_;refine⟨k+1,_,?_,?_,w8,(by rw[take_succ_eq_append_getElem w8];intro x hx;rcases mem_append.1 hx with hx|hx;exact h0 x hx;simp only[mem_singleton] at hx;subst hx;assumption),rfl⟩
  ·first|omega|(simp only[];omega)
  exact Wk.bz (n:=19) rfl c5 cD
 have E:=ax
 (try simp only[V.ah,ne_eq] at E)
 refine dJ ?_;refine ag ?_;refine ae ?_;refine aY (Wk.aO (n:=19) (l':=[(4,_)]) (S':=S) rfl jA bi) ?_;refine bg ?_;refine aD ?_;refine⟨.inr rfl,_,S,c5,c8 results47 (dm aV lk),?_⟩;refine⟨?_,rfl⟩;first|(rw[po w8 h0 dS])|(rw[o8 w8 h0])
theorem vp(ls:List dc)(g:Nat)(da:List D)(S:List ay)(p:dc->Bool)(E:∀args w,(callFunc g args).run Tryd.prog w = .ok (.enter g args) w)(hp:∀x∈ls,VC Tryd.prog G g (.agg (cC x)::da) S (fun r S'=>r=bI (p x)/\S'=S))(I:ls.length<=1000000):VC Tryd.prog G 34 [ap 2 cC ls,.dV (.func g) da] S (fun r S'=>r=bI (ls.any p)/\S'=S):=by
 refine cL func34 rfl ntmps34 aV fun M w0 K=>?_;refine ag ?_;refine ae ?_;refine aY (Wk.aO (n:=9) (l':=[(0,_),(1,_)]) (S':=S) rfl jA bi) ?_;refine bg ?_;refine ag ?_;refine ae ?_;refine ae ?_;refine cG av rfl rfl rfl call47 (AS ls g da S p E hp I) ⟨lK rfl lk,lK rfl lk,trivial⟩ (cr _) ?_;rintro _ S2 ⟨rfl,J⟩;rw[J];clear J;refine aa az ?_;refine ae ?_;refine aY (Wk.aO (n:=9) (l':=[(4,_)]) (S':=S) rfl jA bi) ?_;refine bg ?_;refine aD ?_;refine⟨.inr rfl,_,S,c5,c8 results34 (dm aV lk),?_⟩;refine⟨?_,rfl⟩;rw[v9]
theorem Bo(c:dc)(s:ByteArray)(k:Int):VP Tryd.prog G 35 [.agg (cC c),.dh [bH s,aj k] 0] (bI (cj c.n s)):=by
 refine cL func35 rfl ntmps35 aV fun J w0 E=>?_;unfold cC;refine ag ?_;refine fi (ds:=[_,_]) av rfl rfl ot rfl rfl (fun I=>?_);refine ae ?_;refine aF [(1,_),(2,_)] [⟨I,73,2,[_,_]⟩] ?_;refine ag ?_;refine aa (aq 0) ?_;refine aa (aC 0) ?_;refine aa (aq 0) ?_;refine aa eA ?_;refine aa az ?_;refine ae ?_;refine ak [3] ?_;refine aD ?_;refine bf ?_;exact⟨by unfold cj;first|rfl|simp_all,rfl⟩
def Ek(v:List dc)(r:D):Prop:=r=ap 2 cC v/\v.length<=6
theorem Bp(h:¬dA l p=0):p+1<=l.length:=by
 unfold dA at h;split at h
 ·exact cf dS
 split at h
 ·exact cf dS
 split at h
 ·exact cf dS
 exact absurd rfl h
theorem Af:(Tryd.prog.info? 73).map (fun i=>(i.zero,i.size,i.bytes))=some (some (.agg #[.string ⟨#[]⟩,.int .i64 0]),2,24):=by kernel_rfl
theorem zS : ∀ w, ((#[{ name := "Name", type := 9, offset := 0, embedded := false, tag := "", pkgPath := "", byteOffset := 0 }, { name := "Kind", type := 3, offset := 1, embedded := false, tag := "", pkgPath := "", byteOffset := 16 }] : Array Field).mapM fun f => do pure (f.offset, ← sizeOf f.type) : Sem (Array (Nat × Nat))).run Tryd.prog w = .ok #[(0, 1), (1, 1)] w := fun w => by simp [sizeOf3, sizeOf9]
theorem Ag(hl:l.length<=100)(hm:(0,marksC)∈G)(hw:(2,wordsC)∈G)(iv:(1,typesC)∈G)(ht:∀t∈l,t.s.size<=maxLen/\(t.k=2->0<=t.n/\t.n<=9223372036854775807))(p:Nat)(hp:p<=l.length)(os:List aT)(R:Rs (List dc))(hR:R=(cE l ⟨#[40]⟩ p os).bind fun _ p ops=>iI l 8 [] p ops)(ad:Option Addr)(n cap:Nat):VX Tryd.prog G 23 [bE br] [⟨br,49,3,[ap 3 cT l,aj ((p:Nat):Int),aB ad n cap]⟩] (fun r S'=>nV br l R Ek r S') (gX R):=by
 refine VX.body func23 rfl ntmps23 aV fun X0 w0 dM=>?_;refine aA ?_;refine aR ?_;refine ae ?_;refine ak [0] ?_;refine ag ?_;refine ae ?_;refine ak [0,3] ?_;refine ag ?_;refine ae ?_;refine OD.bB av rfl rfl rfl call26 (jT l hl p ⟨#[40]⟩ ad n cap br) ⟨ot,aJ,trivial⟩ (Perm.refl _) (fun Y aK=>(Or.inr ⟨Y,rfl,⟨_,_,hR.trans k4,aK.2⟩⟩:bD _ _ _ _ _ _)) ?_;rintro _ _ ⟨mm,rfl⟩;refine aS (S':=⟨br,49,3,[ap 3 cT l,aj (((p+1):Nat):Int),aB ad n cap]⟩::[]) (Perm.refl _) ?_;have fg:R=iI l 8 [] (p+1) os:=hR.trans (by rw[jS mm];rfl);refine aY (Wk.aO (n:=66) (l':=[(0,_),(3,_)]) (S':=(⟨br,49,3,[_,_,_]⟩::[])) rfl rfl bi) ?_;refine bg ?_;refine aA ?_;refine bO ?_;refine ed (fun (Z:Nat×List dc×Nat×Option Addr×Nat×List ay) cz=>match Z with|(f,out,q,fa,fb,M)=>(f+out.length=8)/\(out.length<=6)/\(q<=l.length)/\(R=iI l f out q os)/\(bQ 73 2 ((out).flatMap cC) (out).length fa fb M)/\cz=(⟨66,[(0,bE br),(3,aB fa (out).length fb)],(⟨br,49,3,[ap 3 cT l,aj ((q:Nat):Int),aB ad n cap]⟩::M)⟩:St)) (fun (Z:Nat×List dc×Nat×Option Addr×Nat×List ay)=>match Z with|(f,out,q,fa,fb,M)=>f) (8,[],(p+1),none,0,[]) ⟨rfl,bR,(cf mm),fg,(bQ.cast kM (by rfl)),rfl⟩ (Wk.bz rfl cw w7) ?_;rintro⟨f,out,q,fa,fb,M⟩ _ ⟨yQ,m6,gj,gJ,iS,rfl⟩;rcases f with _|f
 ·omega
 refine bO ?_;refine aA ?_;refine ag ?_;refine ae ?_;refine aa bV ?_;refine aa az ?_;refine ak [0,3,11] ?_;refine aI ot (fun ax=>?_) (fun ax=>?_)
 ·have ev:=ax
  (try simp only[V.ah,ne_eq] at ev)
  have h6:out.length=6:=(by simp at ax;omega)
  have dO:R=gv l q 10:=gJ.trans (by rw[iI,if_pos h6]);refine aR ?_;refine ae ?_;exact OD.bB av rfl rfl rfl call12 (eV l hl q 10 ad n cap br) ⟨ot,aJ,trivial⟩ (Perm.refl _) (fun Y aK=>(Or.inr ⟨Y,rfl,⟨_,_,dO,aK⟩⟩:bD _ _ _ _ _ _)) (fun r S' h=>h.elim)
 have ev:=ax
 (try simp only[V.ah,ne_eq] at ev)
 have h6:¬out.length=6:=(by simp at ax;omega)
 have dZ:R=(cI l q os).bind (fun s p1 ew=>if (out.any fun c=>cj c.n s)=true then gv l (p1-1) 9 else if dA l p1=0 then gv l p1 6 else if aE l (p1+1) 4 ⟨#[44]⟩=true then iI l f (out++[⟨s,dA l p1⟩]) (p1+2) ew else (cE l ⟨#[41]⟩ (p1+1) ew).bind fun _ p3 E=>.ok (out++[⟨s,dA l p1⟩]) p3 E):=gJ.trans (by rw[iI,if_neg h6]);refine aN ?_;refine ag ?_;refine ae ?_;refine OD.bB av rfl rfl rfl call22 (iB hm hw l hl ht q ad n cap br) ⟨ot,trivial⟩ (Perm.refl _) (fun Y aK=>(Or.inr ⟨Y,rfl,by obtain⟨q,e,h1,h2⟩:=aK;exact⟨q,e,dZ.trans cF,h2⟩⟩:bD _ _ _ _ _ _)) ?_;rintro _ _ ⟨s,k7,rfl,rfl⟩;refine aS (S':=⟨br,49,3,[ap 3 cT l,aj (((q+1):Nat):Int),aB ad n cap]⟩::M) (Perm.refl _) ?_;have ET:=(hJ (k7 [])).2.2;have ee:R=if (out.any fun c=>cj c.n s)=true then gv l ((q+1)-1) 9 else if dA l (q+1)=0 then gv l (q+1) 6 else if aE l ((q+1)+1) 4 ⟨#[44]⟩=true then iI l f (out++[⟨s,dA l (q+1)⟩]) ((q+1)+1+1) os else (cE l ⟨#[41]⟩ ((q+1)+1) os).bind (fun _ p3 E=>.ok (out++[⟨s,dA l (q+1)⟩]) p3 E):=dZ.trans l7
 refine aa (ct (pl:=[(0,_)]) (ds:=[_,_]) rfl zeroValue73 runUnderlying73 zS ⟨rfl,ot,trivial⟩ rfl rfl) ?_;refine ep (ds:=[_,_]) av rfl rfl zeroValue73 rfl (fun N=>?_);refine bq 0 [_,_] sizeOf73 ?_;refine aY (Wk.aO (n:=66) (l':=[(0,_),(3,_),(4,_)]) (S':=(⟨N,73,2,[_,_]⟩::⟨br,49,3,[_,_,_]⟩::M)) rfl rfl bi) ?_;refine bg ?_;refine aA ?_;refine ag ?_;refine ae ?_;refine aa (rN (ds:=[_]) rfl ⟨ot,trivial⟩) ?_;refine OD.look av rfl rfl rfl call34 (vp (out) 35 [.dh [bH s,aj 0] 0] [] (fun c=>cj c.n s) call35 (fun c _=>Bo c s 0) w8) rfl ⟨⟨_,ot,rR iS (dg fj _) (fun B hB=>mem_cons_of_mem _ (mem_cons_of_mem _ hB))⟩,⟨_,ot,AI (by exact⟨AH (e:=73) (size:=2) mem_cons_self iG.same,trivial⟩)⟩,trivial⟩ ?_;refine aY (Wk.aO (n:=66) (l':=[(0,_),(3,_),(4,_),(19,_)]) (S':=(⟨N,73,2,[_,_]⟩::⟨br,49,3,[_,_,_]⟩::M)) rfl rfl bi) ?_;refine bg ?_;refine aI ot (fun bW=>?_) (fun bW=>?_)
 ·have dL:=bW
  (try simp only[V.ah,ne_eq] at dL)
  have eB:R=gv l ((q+1)-1) 9:=ee.trans (by rw[if_pos bW]);refine ag ?_;refine ae ?_;refine aa bu ?_;refine aa (aq 1) ?_;refine aa (aC 1) ?_;refine aa (fc (r:=.int .i64 (((q+1-1:Nat)):Int)) rfl ot aJ (nu (by rw[show(((q+1:Nat)):Int)-1=((q+1-1:Nat):Int) by omega];exact wrap_i64 w8 w8))) ?_;refine aa bu ?_;refine aa (aq 1) ?_;refine bq 1 [_,_,_] sizeOf3 ?_;refine aY (Wk.aO (n:=66) (l':=[(0,_),(3,_),(4,_)]) (S':=(⟨N,73,2,[_,_]⟩::⟨br,49,3,[_,_,_]⟩::M)) rfl rfl bi) ?_;refine bg ?_;refine aR ?_;refine ae ?_;exact OD.bB av rfl rfl rfl call12 (eV l hl ((q+1)-1) 9 ad n cap br) ⟨ot,aJ,trivial⟩ (Perm.swap _ _ _) (fun Y aK=>(Or.inr ⟨Y,rfl,⟨_,_,eB,aK⟩⟩:bD _ _ _ _ _ _)) (fun r S' h=>h.elim)
 have dL:=bW
 (try simp only[V.ah,ne_eq] at dL)
 have fL:R=if dA l (q+1)=0 then gv l (q+1) 6 else if aE l ((q+1)+1) 4 ⟨#[44]⟩=true then iI l f (out++[⟨s,dA l (q+1)⟩]) ((q+1)+1+1) os else (cE l ⟨#[41]⟩ ((q+1)+1) os).bind (fun _ p3 E=>.ok (out++[⟨s,dA l (q+1)⟩]) p3 E):=ee.trans (by rw[if_neg (F_ bW)])
 refine aN ?_;refine aA ?_;refine ag ?_;refine aa (cn (mk:=Op.load 76) rfl kK (by exact wP iv isAgg76 sizeOf76 rfl)) ?_;refine ae ?_;refine aY (Wk.aO (n:=66) (l':=[(0,_),(3,_),(4,_),(29,_),(30,_)]) (S':=(⟨N,73,2,[_,_]⟩::⟨br,49,3,[_,_,_]⟩::M)) rfl rfl bi) ?_;refine bg ?_;refine bO ?_;refine ed (fun (k:Nat) cz=>(k<=4)/\cz=(⟨66,[(0,bE br),(3,aB fa out.length fb),(4,bE N),(29,.agg (typesC.map D.v)),(30,aj (k:Nat))],(⟨N,73,2,[bH s,aj (fP l (q+1) k)]⟩::⟨br,49,3,[ap 3 cT l,aj (((q+1):Nat):Int),aB ad n cap]⟩::M)⟩:St)) (fun (k:Nat)=>4-k) 0 ⟨bR,rfl⟩ (Wk.bz rfl (Sublist.refl _) cD) ?_;rintro k _ ⟨Fb,rfl⟩;refine ag ?_;refine aa az ?_;refine ak [0,3,4,29,30,31] ?_;refine aA ?_;refine aI ot (fun ck=>?_) (fun ck=>?_)
 ·have aX:=ck
  (try simp only[V.ah,ne_eq] at aX)
  have aH:k<4:=(by simp at ck;omega)
  refine aN ?_;refine aA ?_;refine bO ?_;refine ag ?_;refine ae ?_;refine aa (vu (j:=k) rfl ot ot runUnderlying76 sizeOf9 isAgg9 rfl aH (Bm aH)) ?_;refine ae ?_;refine ae ?_;refine aY (Wk.aO (n:=66) (l':=[(0,_),(3,_),(4,_),(5,_),(6,_),(29,_),(30,_)]) (S':=(⟨N,73,2,[_,_]⟩::⟨br,49,3,[_,_,_]⟩::M)) rfl rfl bi) ?_;refine bg ?_;refine ag ?_;refine ae ?_;refine aa az ?_;refine ae ?_;refine cM (t:=36) lk (fun J=>?_) (fun J=>?_)
  ·have O:=J;(try simp only[V.ah,ne_eq] at O)
   refine ae ?_;refine ae ?_;refine cG de rfl rfl rfl call32 (xy l hl (q+1) 1 (lO[k]'aH) ad n cap br) ⟨ot,aJ,ot,trivial⟩ (Perm.swap _ _ _) ?_;rintro _ _ ⟨rfl,rfl⟩;refine aS (S':=⟨N,73,2,[bH s,aj (fP l (q+1) k)]⟩::⟨br,49,3,[ap 3 cT l,aj (((q+1):Nat):Int),aB ad n cap]⟩::M) (Perm.swap _ _ _) ?_;refine aa bZ ?_;refine aY (Wk.aO (n:=66) (l':=[(0,_),(3,_),(4,_),(5,_),(29,_),(30,_),(40,_)]) (S':=(⟨N,73,2,[_,_]⟩::⟨br,49,3,[_,_,_]⟩::M)) rfl rfl bi) ?_;refine bg ?_;refine aI ot (fun U=>?_) (fun U=>?_)
   ·have bn:=U
    (try simp only[V.ah,ne_eq] at bn)
    have oB:=B4 (l:=l) (p:=(q+1)) aH (by simpa using J) U;refine aR ?_;refine ae ?_;refine aa (aq 1) ?_;refine OD.store (k:=0) (cs':=[_,_]) av rfl rfl ot rfl rfl (Eq.trans ot (congrArg (fun z=>D.v (.int .i64 z)) oB)) rfl rfl sizeOf3 rfl rfl rfl ?_;refine aY (Wk.aO (n:=66) (l':=[(0,_),(3,_),(4,_),(29,_),(30,_)]) (S':=(⟨N,73,2,[_,_]⟩::⟨br,49,3,[_,_,_]⟩::M)) rfl rfl bi) ?_;refine bg ?_;refine aR ?_;refine aa az ?_;refine ae ?_;refine ak [0,3,4,29,30] ?_;refine⟨(k+1),_,?_,?_,w8,rfl⟩
    ·first|omega|(simp only[];omega)
    exact Wk.bz (n:=66) rfl (Sublist.refl _) cD
   have bn:=U
   (try simp only[V.ah,ne_eq] at bn)
   have oB:fP l (q+1) k=fP l (q+1) (k+1):=(by first|exact xn aH U|exact xo (by simpa using J))
   rw[oB];refine aN ?_;refine aR ?_;refine aa az ?_;refine ae ?_;refine ak [0,3,4,29,30] ?_;refine⟨(k+1),_,?_,?_,w8,rfl⟩
   ·first|omega|(simp only[];omega)
   exact Wk.bz (n:=66) rfl (Sublist.refl _) cD
  have O:=J;(try simp only[V.ah,ne_eq] at O)
  refine an ?_;refine an ?_;refine an ?_;refine aa bt ?_;refine ak [0,3,4,5,29,30,40] ?_;refine gm ot w5 ?_;have oB:fP l (q+1) k=fP l (q+1) (k+1):=(by first|exact xn aH U|exact xo (by simpa using J))
  rw[oB];refine aN ?_;refine aR ?_;refine aa az ?_;refine ae ?_;refine ak [0,3,4,29,30] ?_;refine⟨(k+1),_,?_,?_,w8,rfl⟩
  ·first|omega|(simp only[];omega)
  exact Wk.bz (n:=66) rfl (Sublist.refl _) cD
 have aX:=ck
 (try simp only[V.ah,ne_eq] at aX)
 obtain rfl:k=4:=(by simp at ck;omega)
 rw[Bn];refine dJ ?_;refine aA ?_;refine ag ?_;refine aa (aq 1) ?_;refine aa (aC 0) ?_;refine aa az ?_;refine ak [0,3,4,46] ?_;refine aI ot (fun cm=>?_) (fun cm=>?_)
 ·have bJ:=cm
  (try simp only[V.ah,ne_eq] at bJ)
  have qI:dA l (q+1)=0:=(by simpa using cm)
  have gI:R=gv l (q+1) 6:=fL.trans (by rw[if_pos qI]);refine aR ?_;refine ae ?_;exact OD.bB av rfl rfl rfl call12 (eV l hl (q+1) 6 ad n cap br) ⟨ot,aJ,trivial⟩ (Perm.swap _ _ _) (fun Y aK=>(Or.inr ⟨Y,rfl,⟨_,_,gI,aK⟩⟩:bD _ _ _ _ _ _)) (fun r S' h=>h.elim)
 have bJ:=cm
 (try simp only[V.ah,ne_eq] at bJ)
 have qI:¬dA l (q+1)=0:=(by simpa using cm)
 have iP:(q+1)+1<=l.length:=Bp qI;have fM:R=if aE l ((q+1)+1) 4 ⟨#[44]⟩=true then iI l f (out++[⟨s,dA l (q+1)⟩]) ((q+1)+1+1) os else (cE l ⟨#[41]⟩ ((q+1)+1) os).bind (fun _ p3 E=>.ok (out++[⟨s,dA l (q+1)⟩]) p3 E):=fL.trans (by rw[if_neg qI])
 refine aN ?_;refine ag ?_;refine ae ?_;refine aa bu ?_;refine aa (aq 1) ?_;refine aa (aC 1) ?_;refine aa az ?_;refine aa bu ?_;refine aa (aq 1) ?_;refine bq 1 [_,_,_] sizeOf3 ?_;refine aY (Wk.aO (n:=66) (l':=[(0,_),(3,_),(4,_)]) (S':=(⟨N,73,2,[_,_]⟩::⟨br,49,3,[_,_,_]⟩::M)) rfl rfl bi) ?_;refine bg ?_;refine ag ?_;refine ae ?_;refine aa (dF 0 [_,_]) ?_;refine dj (aP 0 [_]) [.string ⟨#[]⟩,.int .i64 0] [_,_] zeroValue73 runUnderlying30 sizeOf73 (fun oC=>?_);refine eT 0 58 2 1 ?_;refine fA (ls:=(out)) (new:=[dc.mk s (dA l (q+1))]) (Sq:=M) fj BU av rfl rfl underlying30 Af rfl bR ot iS (cy (A:=[_,_])) ot cl iN iN (fun K I xW xX=>?_);refine aS (cR (S1:=[⟨K,73,I*2,flatMap cC ((out)++[dc.mk s (dA l (q+1))])⟩]) (A:=[_,_])) ?_;refine ae ?_;refine aY (Wk.aO (n:=66) (l':=[(0,_),(3,_)]) (S':=(⟨N,73,2,[_,_]⟩::⟨br,49,3,[_,_,_]⟩::[⟨K,73,I*2,flatMap cC ((out)++[dc.mk s (dA l (q+1))])⟩])) rfl rfl bi) ?_;refine bg ?_;refine ag ?_;refine ae ?_;refine cG av rfl rfl rfl call20 (dy l hl ((q+1)+1) 4 ⟨#[44]⟩ ad n cap br) ⟨ot,aJ,aJ,trivial⟩ (Perm.swap _ _ _) ?_;rintro _ _ ⟨rfl,rfl⟩
 refine aS (S':=⟨N,73,2,[bH s,aj (dA l (q+1))]⟩::⟨br,49,3,[ap 3 cT l,aj (((if aE l ((q+1)+1) 4 ⟨#[44]⟩=true then ((q+1)+1)+1 else ((q+1)+1)):Nat):Int),aB ad n cap]⟩::[⟨K,73,I*2,flatMap cC ((out)++[dc.mk s (dA l (q+1))])⟩]) (Perm.swap _ _ _) ?_;refine aa en ?_;refine aY (Wk.aO (n:=66) (l':=[(0,_),(3,_),(62,_)]) (S':=(⟨N,73,2,[_,_]⟩::⟨br,49,3,[_,_,_]⟩::[⟨K,73,I*2,flatMap cC ((out)++[dc.mk s (dA l (q+1))])⟩])) rfl rfl bi) ?_;refine bg ?_;refine aI ot (fun c7=>?_) (fun c7=>?_)
 ·have bA:=c7
  (try simp only[V.ah,ne_eq] at bA)
  have ef:aE l ((q+1)+1) 4 ⟨#[44]⟩=false:=(by simpa using c7)
  rw[ef];simp only[Bool.false_eq_true,if_false];have g6:R=(cE l ⟨#[41]⟩ ((q+1)+1) os).bind (fun _ p3 E=>.ok (out++[⟨s,dA l (q+1)⟩]) p3 E):=fM.trans (by rw[if_neg (F_ ef)]);refine dJ ?_;refine ag ?_;refine ae ?_;refine OD.bB av rfl rfl rfl call26 (jT l hl ((q+1)+1) ⟨#[41]⟩ ad n cap br) ⟨ot,aJ,trivial⟩ (Perm.swap _ _ _) (fun Y aK=>(Or.inr ⟨Y,rfl,⟨_,_,g6.trans k4,aK.2⟩⟩:bD _ _ _ _ _ _)) ?_;rintro _ _ ⟨xY,rfl⟩;refine aS (S':=⟨N,73,2,[bH s,aj (dA l (q+1))]⟩::⟨br,49,3,[ap 3 cT l,aj (((((q+1)+1)+1):Nat):Int),aB ad n cap]⟩::[⟨K,73,I*2,flatMap cC ((out)++[dc.mk s (dA l (q+1))])⟩]) (Perm.swap _ _ _) ?_;have iL:R = .ok (out++[⟨s,dA l (q+1)⟩]) (((q+1)+1)+1) os:=g6.trans (by rw[jS xY];rfl);refine aY (Wk.aO (n:=66) (l':=[(3,_)]) (S':=(⟨N,73,2,[_,_]⟩::⟨br,49,3,[_,_,_]⟩::[⟨K,73,I*2,flatMap cC ((out)++[dc.mk s (dA l (q+1))])⟩])) rfl rfl bi) ?_;refine bg ?_;refine ag ?_;refine ae ?_;refine ae ?_;refine ak [2] ?_;refine iz (t:=2) (Sq:=[⟨K,73,I*2,flatMap cC ((out)++[dc.mk s (dA l (q+1))])⟩]) lk (cA xW xX) (dg fj _) (cy (A:=[_,_])) ?_;refine aD ?_;refine Or.inl ?_;refine⟨.inr rfl,_,[⟨br,49,3,[ap 3 cT l,aj (((((q+1)+1)+1):Nat):Int),aB ad n cap]⟩],gZ,c8 results23 (dm aV lk),?_⟩;exact⟨out++[⟨s,dA l (q+1)⟩],(((q+1)+1)+1),os,_,_,_,iL,⟨rfl,by simp;omega⟩,(cf xY),rfl⟩
 have bA:=c7
 (try simp only[V.ah,ne_eq] at bA)
 have et:aE l ((q+1)+1) 4 ⟨#[44]⟩=true:=(by simpa using c7)
 rw[et];simp only[if_true];have p8:R=iI l f (out++[⟨s,dA l (q+1)⟩]) (((q+1)+1)+1) os:=fM.trans (by rw[if_pos et]);refine aN ?_;refine⟨(f,(out++[dc.mk s (dA l (q+1))]),(((q+1)+1)+1),(some ⟨K,0,none⟩),I,[⟨K,73,I*2,flatMap cC ((out)++[dc.mk s (dA l (q+1))])⟩]),_,?_,?_,fx,fx,(cf et),p8,(bQ.cast (cA xW xX) (by rfl)),rfl⟩
 ·first|omega|(simp only[];omega)
 exact Wk.bz (n:=66) rfl cw w7
end
variable {α:Type} {p:Nat} {l:List Tk} {ops:List aT} {s:cc}
theorem eH{β:Type}{r:Rs α}{f:α->Nat->List aT->Rs β}(h:r≠.stuck)(k:∀v p o,r = .ok v p o->f v p o≠.stuck):r.bind f≠.stuck:=by
 cases r with
 | ok v p o=>exact k v p o rfl
 | no p e=>exact fun h=>by cases h
 | stuck=>exact absurd rfl h
theorem gU{v:α}{o:List aT}:(Rs.ok v p o)≠.stuck:=fun h=>by cases h
theorem nM{e:Int}:(gv l p e:Rs α)≠.stuck:=fun h=>by cases h
theorem iD{o:aT}:bM l o p ops≠.stuck:=by
 unfold bM;split<;>first|exact nM|exact gU
theorem Bq{s:ByteArray}:cE l s p ops≠.stuck:=by
 unfold cE;split<;>first|exact nM|exact gU
theorem Br:cI l p ops≠.stuck:=by
 unfold cI;repeat' split
 all_goals first|exact nM|exact gU
theorem B5:eb l p ops≠.stuck:=by
 unfold eb;repeat' split
 all_goals first|exact nM|exact gU
theorem wU{l:List Tk}:∀(E:List ByteArray) {p:Nat} {ops:List aT},dw l E p ops≠.stuck
 | [],_,_=>gU
 | s::r,p,ops=>by
  rw[dw];split
  ·exact wU r
  exact nM
def rk:Lv->Nat
 | .prod=>2
 | .sum=>3
 | .comp=>4
 | .not=>5
 | .and=>6
 | .or=>7
 | _=>1
theorem eI{l:List Tk}:∀(n:Nat) (lv:Lv) (p:Nat) (ops:List aT),p<=l.length->12*(l.length-p)+rk lv<=n->aQ l n lv p ops≠.stuck
 | 0,lv,_,_,_,h=>absurd h (by have:0<rk lv:=(by cases lv<;>decide);omega)
 | n+1,.fG,p,ops,hp,h=>by
  simp only[rk] at h;rw[aQ];refine eH B5 fun v p1 E h1=>?_;have:=pJ h1 hp;split
  ·exact iD
  split
  ·have h2:=cf dS;exact eH (eI n _ _ _ h2 gC) fun _ _ _ _=>Bq
  exact eH Br fun _ _ _ _=>iD
 | n+1,.prod,p,ops,hp,h=>by
  simp only[rk] at h;rw[aQ];refine eH (eI n _ _ _ hp gC) fun _ p1 E h1=>?_;have g:=dD n .fG h1 hp;exact eI n _ _ _ g.2.1 j6
 | n+1,.sum,p,ops,hp,h=>by
  simp only[rk] at h;rw[aQ];refine eH (eI n _ _ _ hp gC) fun _ p1 E h1=>?_;have g:=dD n .prod h1 hp;exact eI n _ _ _ g.2.1 j6
 | n+1,.and,p,ops,hp,h=>by
  simp only[rk] at h;rw[aQ];refine eH (eI n _ _ _ hp gC) fun _ p1 E h1=>?_;have g:=dD n .not h1 hp;exact eI n _ _ _ g.2.1 j6
 | n+1,.or,p,ops,hp,h=>by
  simp only[rk] at h;rw[aQ];refine eH (eI n _ _ _ hp gC) fun _ p1 E h1=>?_;have g:=dD n .and h1 hp;exact eI n _ _ _ g.2.1 j6
 | n+1,.not,p,ops,hp,h=>by
  simp only[rk] at h;rw[aQ];split
  ·have h2:=cf dS;exact eH (eI n _ _ _ h2 gC) fun _ _ _ _=>iD
  exact eI n _ _ _ hp gC
 | n+1,.comp,p,ops,hp,h=>by
  simp only[rk] at h;rw[aQ];refine eH (eI n _ _ _ hp gC) fun _ p1 E h1=>?_;have g:=dD n .sum h1 hp;have g2:=g.2.2.1;simp only[wL] at g2;split
  ·refine eH (wU _) fun _ _ _ _=>eH iD fun _ _ _ _=>?_;split
   ·exact iD
   exact gU
  split
  ·exact gU
  have hm:=find?_some dS;have h2:=cf (by simpa using hm);refine eH (eI n _ _ _ h2 gC) fun _ _ _ _=>eH iD fun _ _ _ _=>?_;split
  ·exact iD
  exact gU
 | n+1,.fY,p,ops,hp,h=>by
  simp only[rk] at h;rw[aQ];split
  ·have h2:=cf dS;refine eH (eI n _ _ _ h2 gC) fun _ p1 E h1=>eH iD fun _ J K I=>?_;have g:=dD n _ h1 h2;obtain⟨rfl,-,-⟩:=mB I;exact eI n _ _ _ g.2.1 j6
  exact gU
 | n+1,.ga,p,ops,hp,h=>by
  simp only[rk] at h;rw[aQ];split
  ·have h2:=cf dS;refine eH (eI n _ _ _ h2 gC) fun _ p1 E h1=>eH iD fun _ J K I=>?_;have g:=dD n _ h1 h2;obtain⟨rfl,-,-⟩:=mB I;exact eI n _ _ _ g.2.1 j6
  exact gU
 | n+1,.gi,p,ops,hp,h=>by
  simp only[rk] at h;rw[aQ];split
  ·have h2:=cf dS;refine eH (eI n _ _ _ h2 gC) fun _ p1 E h1=>eH iD fun _ J K I=>?_;have g:=dD n _ h1 h2;obtain⟨rfl,-,-⟩:=mB I;exact eI n _ _ _ g.2.1 j6
  exact gU
 | n+1,.eS,p,ops,hp,h=>by
  simp only[rk] at h;rw[aQ];split
  ·have h2:=cf dS;refine eH (eI n _ _ _ h2 gC) fun _ p1 E h1=>eH iD fun _ J K I=>?_;have g:=dD n _ h1 h2;obtain⟨rfl,-,-⟩:=mB I;exact eI n _ _ _ g.2.1 j6
  split
  ·have h2:=cf dS;refine eH (eI n _ _ _ h2 gC) fun _ p1 E h1=>eH iD fun _ J K I=>?_;have g:=dD n _ h1 h2;obtain⟨rfl,-,-⟩:=mB I;exact eI n _ _ _ g.2.1 j6
  exact gU
theorem wV(hp:p<=l.length):iH l p≠.stuck:=eH (eI _ _ _ _ hp gC) fun _ _ _ _=>gU
theorem rW:eM l p ops≠.stuck:=by
 unfold eM;split
 ·exact wV (cf dS)
 exact gU
variable {G:List (Nat×List Value)}
def dW(s:cc):List D:=[aj s.kind,bH s.table,ap 2 cC s.b9,ap 3 cV s.row,ap 1 cS s.names,bI s.count,ap 5 cO s.bw,bH s.order,bI s.down,aj s.ea,bH s.set,ap 5 cO s.cN]
def qJ(s:cc):Prop:=s.b9.length<=6/\s.row.length<=6/\s.names.length<=6/\s.bw.length<=40/\s.cN.length<=40
def C1(br bs:Nat)(l:List Tk)(R:Rs cc)(S':List ay):Prop:=∃s p os ad n cap,R = .ok s p os/\qJ s/\p<=l.length/\S'=[⟨br,49,3,[ap 3 cT l,aj ((p:Nat):Int),aB ad n cap]⟩,⟨bs,35,12,[aj s.kind,bH s.table,ap 2 cC s.b9,ap 3 cV s.row,ap 1 cS s.names,bI s.count,ap 5 cO s.bw,bH s.order,bI s.down,aj s.ea,bH s.set,ap 5 cO s.cN]⟩]
def nF(l:List Tk)(p:Nat)(ops:List aT):Rs (List ByteArray×Bool):=(cE l ⟨#[42]⟩ p ops).bind fun _ p ops=>(cE l ⟨#[41]⟩ p ops).bind fun _ p ops=>.ok ([],true) p ops
def ny(l:List Tk)(p:Nat)(ops:List aT):Rs (List ByteArray×Bool):=(cE l ⟨#[41]⟩ p ops).bind fun _ p ops=>.ok ([],true) p ops
theorem B6(h:aE l p 4 ⟨#[42]⟩=true):(lR l p ops).bind (dN l)=dN l ([],false) (p+1) ops:=by unfold lR;rw[if_pos h];rfl
theorem B7(h:aE l p 4 ⟨#[42]⟩=false)(h2:aE l p 1 ⟨#[67,79,85,78,84]⟩=true):(lR l p ops).bind (dN l)=(cE l ⟨#[40]⟩ (p+1) ops).bind fun _ p ops=>(nF l p ops).bind (dN l):=by
 unfold lR;rw[if_neg (F_ h),if_pos h2];cases cE l ⟨#[40]⟩ (p+1) ops<;>rfl
theorem B8(h:aE l p 4 ⟨#[42]⟩=false)(h2:aE l p 1 ⟨#[67,79,85,78,84]⟩=false):(lR l p ops).bind (dN l)=(fW l 8 [] p ops).bind fun E p ops=>dN l (E,false) p ops:=by
 unfold lR;rw[if_neg (F_ h),if_neg (F_ h2)];cases fW l 8 [] p ops<;>rfl
theorem Bs:(nF l p ops).bind (dN l)=(cE l ⟨#[42]⟩ p ops).bind fun _ p ops=>(ny l p ops).bind (dN l):=by
 unfold nF;cases cE l ⟨#[42]⟩ p ops<;>rfl
theorem Bt:(ny l p ops).bind (dN l)=(cE l ⟨#[41]⟩ p ops).bind fun _ p ops=>dN l ([],true) p ops:=by
 unfold ny;cases cE l ⟨#[41]⟩ p ops<;>rfl
theorem Bu{n:Nat}{E:List ByteArray}(h:¬E.length=6):(fW l (n+1) E p ops).bind (fun J p ops=>dN l (J,false) p ops) =
  (cI l p ops).bind fun s p1 I=>(if aE l p1 4 ⟨#[44]⟩=true then fW l n (E++[s]) (p1+1) I else .ok (E++[s]) p1 I).bind fun J p ops=>dN l (J,false) p ops:=by
 rw[fW,if_neg h];cases cI l p ops<;>rfl
theorem Cm(h:aE l p 1 ⟨#[76,73,77,73,84]⟩=true)(h2:p+1<l.length)(hk:(l[p+1]'h2).k=2):iK l s p ops = .ok {s with ea:=(l[p+1]'h2).n} (p+2) ops:=by
 unfold iK;rw[if_pos h,dif_pos ⟨h2,by rw[fp h2];exact hk⟩]
theorem xC(h:aE l p 1 ⟨#[76,73,77,73,84]⟩=true)(h2:¬(p+1<l.length/\(l.getD (p+1) ⟨0,⟨#[]⟩,0⟩).k=2)):iK l s p ops=gv l (p+1) 6:=by
 unfold iK;rw[if_pos h,dif_neg h2]
theorem Cn(h:aE l p 1 ⟨#[76,73,77,73,84]⟩=false):iK l s p ops = .ok s p ops:=by
 unfold iK;rw[if_neg (F_ h)]
theorem rF:(Tryd.prog.info? 9).map (fun i=>(i.zero,i.size,i.bytes))=some (some (.string ⟨#[]⟩),1,16):=by kernel_rfl
theorem Bv{br:Nat}(hl:l.length<=100)(hm:(0,marksC)∈G)(hw:(2,wordsC)∈G)(hk:(3,cmpC)∈G)(ht:∀t∈l,t.s.size<=maxLen/\(t.k=2->0<=t.n/\t.n<=9223372036854775807))(p:Nat)(hp:p<=l.length)(os:List aT)(R:Rs cc)(hR:R=sy l p os)(ad:Option Addr)(n cap I:Nat):VX Tryd.prog G 25 [bE br,bE I] [⟨br,49,3,[ap 3 cT l,aj ((p:Nat):Int),aB ad n cap]⟩,⟨I,35,12,[aj 4,cQ,.list 2 [] 0,.list 3 [] 0,cX,bI false,.list 5 [] 0,cQ,bI false,aj (-1),cQ,.list 5 [] 0]⟩] (fun r S'=>C1 br I l R S') (gX R):=by
 refine VX.body func25 rfl ntmps25 aV fun X0 w0 dM=>?_;refine jX (fun cz=>∃(hn:List ByteArray),∃(hb:Bool),∃(q:Nat),∃(os:List aT),∃(ad:Option Addr),∃(n:Nat),∃(cap:Nat),(hn.length<=6)/\(q<=l.length)/\(R=dN l (hn,hb) q os)/\cz=(⟨118,[(0,bE br),(1,bE I)],[⟨br,49,3,[ap 3 cT l,aj ((q:Nat):Int),aB ad n cap]⟩,⟨I,35,12,[aj 4,cQ,.list 2 [] 0,.list 3 [] 0,ap 1 cS hn,bI hb,.list 5 [] 0,cQ,bI false,aj (-1),cQ,.list 5 [] 0]⟩]⟩:St)) ?_ ?_
 ·refine bO ?_;refine aA ?_;refine aR ?_;refine ae ?_;refine cG av rfl rfl rfl call20 (dy l hl p 4 ⟨#[42]⟩ ad n cap br) ⟨ot,aJ,aJ,trivial⟩ (Perm.refl _) ?_;rintro _ _ ⟨rfl,rfl⟩;refine aS (S':=⟨br,49,3,[ap 3 cT l,aj (((if aE l p 4 ⟨#[42]⟩=true then p+1 else p):Nat):Int),aB ad n cap]⟩::[⟨I,35,12,[_,_,_,_,_,_,_,_,_,_,_,_]⟩]) (Perm.refl _) ?_;refine ae ?_;refine aF [(0,_),(1,_),(26,_)] [⟨br,49,3,[_,_,_]⟩,⟨I,35,12,[_,_,_,_,_,_,_,_,_,_,_,_]⟩] ?_;refine aI ot (fun ax=>?_) (fun ax=>?_)
  ·have ev:=ax
   (try simp only[V.ah,ne_eq] at ev)
   have et:aE l p 4 ⟨#[42]⟩=true:=ax;rw[et];simp only[if_true];have fg:R=dN l ([],false) (p+1) os:=hR.trans (B6 et);refine iA (k:=1) (cs':=[_,_,_,_,.list 1 [] 0,_,_,_,_,_,_,_]) (S':=[⟨br,49,3,[ap 3 cT l,aj (((p+1):Nat):Int),aB ad n cap]⟩,⟨I,35,12,[_,_,_,_,_,_,_,_,_,_,_,_]⟩]) rfl w6 rfl ?_;refine aN ?_;refine⟨_,?_,[],false,(p+1),os,ad,n,cap,bR,(cf et),fg,rfl⟩;exact Wk.bz (n:=118) rfl (Sublist.refl _) cD
  have ev:=ax
  (try simp only[V.ah,ne_eq] at ev)
  have ef:aE l p 4 ⟨#[42]⟩=false:=ax;rw[ef];simp only[Bool.false_eq_true,if_false];refine ag ?_;refine ae ?_;refine cG av rfl rfl rfl call20 (dy l hl p 1 ⟨#[67,79,85,78,84]⟩ ad n cap br) ⟨ot,aJ,aJ,trivial⟩ (Perm.refl _) ?_;rintro _ _ ⟨rfl,rfl⟩;refine aS (S':=⟨br,49,3,[ap 3 cT l,aj (((if aE l p 1 ⟨#[67,79,85,78,84]⟩=true then p+1 else p):Nat):Int),aB ad n cap]⟩::[⟨I,35,12,[_,_,_,_,_,_,_,_,_,_,_,_]⟩]) (Perm.refl _) ?_;refine ae ?_;refine aF [(0,_),(1,_),(29,_)] [⟨br,49,3,[_,_,_]⟩,⟨I,35,12,[_,_,_,_,_,_,_,_,_,_,_,_]⟩] ?_;refine aI ot (fun bW=>?_) (fun bW=>?_)
  ·have dL:=bW
   (try simp only[V.ah,ne_eq] at dL)
   have jM:aE l p 1 ⟨#[67,79,85,78,84]⟩=true:=bW;rw[jM];simp only[if_true];have dO:R=(cE l ⟨#[40]⟩ (p+1) os).bind (fun _ p ops=>(nF l p ops).bind (dN l)):=hR.trans (B7 ef jM);refine iA (k:=1) (cs':=[_,_,_,_,.list 1 [] 0,_,_,_,_,_,_,_]) (S':=[⟨br,49,3,[ap 3 cT l,aj (((p+1):Nat):Int),aB ad n cap]⟩,⟨I,35,12,[_,_,_,_,_,_,_,_,_,_,_,_]⟩]) rfl w6 rfl ?_;refine ag ?_;refine ae ?_;refine OD.bB av rfl rfl rfl call26 (jT l hl (p+1) ⟨#[40]⟩ ad n cap br) ⟨ot,aJ,trivial⟩ (Perm.refl _) (fun ch aK=>(Or.inr ⟨ch,rfl,⟨_,_,dO.trans k4,aK.2⟩⟩:bD _ _ _ _ _ _)) ?_;rintro _ _ ⟨El,rfl⟩;refine aS (S':=⟨br,49,3,[ap 3 cT l,aj ((((p+1)+1):Nat):Int),aB ad n cap]⟩::[⟨I,35,12,[_,_,_,_,_,_,_,_,_,_,_,_]⟩]) (Perm.refl _) ?_;have dZ:R=(nF l ((p+1)+1) os).bind (dN l):=dO.trans (by rw[jS El];rfl);refine aF [(0,_),(1,_)] [⟨br,49,3,[_,_,_]⟩,⟨I,35,12,[_,_,_,_,_,_,_,_,_,_,_,_]⟩] ?_;refine aA ?_;have ee:R=(cE l ⟨#[42]⟩ ((p+1)+1) os).bind (fun _ p ops=>(ny l p ops).bind (dN l)):=dZ.trans (Bs);refine aR ?_;refine ae ?_;refine OD.bB av rfl rfl rfl call26 (jT l hl ((p+1)+1) ⟨#[42]⟩ ad n cap br) ⟨ot,aJ,trivial⟩ (Perm.refl _) (fun ch aK=>(Or.inr ⟨ch,rfl,⟨_,_,ee.trans k4,aK.2⟩⟩:bD _ _ _ _ _ _)) ?_;rintro _ _ ⟨Em,rfl⟩;refine aS (S':=⟨br,49,3,[ap 3 cT l,aj (((((p+1)+1)+1):Nat):Int),aB ad n cap]⟩::[⟨I,35,12,[_,_,_,_,_,_,_,_,_,_,_,_]⟩]) (Perm.refl _) ?_
   have eB:R=(ny l (((p+1)+1)+1) os).bind (dN l):=ee.trans (by rw[jS Em];rfl);refine aF [(0,_),(1,_)] [⟨br,49,3,[_,_,_]⟩,⟨I,35,12,[_,_,_,_,_,_,_,_,_,_,_,_]⟩] ?_;refine aA ?_;have fL:R=(cE l ⟨#[41]⟩ (((p+1)+1)+1) os).bind (fun _ p ops=>dN l ([],true) p ops):=eB.trans (Bt);refine aR ?_;refine ae ?_;refine OD.bB av rfl rfl rfl call26 (jT l hl (((p+1)+1)+1) ⟨#[41]⟩ ad n cap br) ⟨ot,aJ,trivial⟩ (Perm.refl _) (fun ch aK=>(Or.inr ⟨ch,rfl,⟨_,_,fL.trans k4,aK.2⟩⟩:bD _ _ _ _ _ _)) ?_;rintro _ _ ⟨yT,rfl⟩;refine aS (S':=⟨br,49,3,[ap 3 cT l,aj ((((((p+1)+1)+1)+1):Nat):Int),aB ad n cap]⟩::[⟨I,35,12,[_,_,_,_,_,_,_,_,_,_,_,_]⟩]) (Perm.refl _) ?_;have gI:R=dN l ([],true) ((((p+1)+1)+1)+1) os:=fL.trans (by rw[jS yT];rfl);refine aF [(0,_),(1,_)] [⟨br,49,3,[_,_,_]⟩,⟨I,35,12,[_,_,_,_,_,_,_,_,_,_,_,_]⟩] ?_;refine aR ?_;refine ae ?_;refine aa bu ?_;refine aa (aq 5) ?_;refine bq 1 [_,_,_,_,_,_,_,_,_,_,_,_] sizeOf4 ?_;refine aF [(0,_),(1,_)] [⟨br,49,3,[_,_,_]⟩,⟨I,35,12,[_,_,_,_,_,_,_,_,_,_,_,_]⟩] ?_;refine⟨_,?_,[],true,((((p+1)+1)+1)+1),os,ad,n,cap,bR,(cf yT),gI,rfl⟩;exact Wk.bz (n:=118) rfl (Sublist.refl _) cD
  have dL:=bW
  (try simp only[V.ah,ne_eq] at dL)
  have oy:aE l p 1 ⟨#[67,79,85,78,84]⟩=false:=bW;rw[oy];simp only[Bool.false_eq_true,if_false];have fM:R=(fW l 8 [] p os).bind (fun ns p ops=>dN l (ns,false) p ops):=hR.trans (B8 ef oy);refine bO ?_;refine ed (fun (gA:Nat×List ByteArray×Nat×Option Addr×Nat×List ay) cz=>match gA with|(f,out,q,fa,fb,So)=>(f+out.length=8)/\(out.length<=6)/\(q<=l.length)/\(R=(fW l f out q os).bind fun ns p ops=>dN l (ns,false) p ops)/\(bQ 9 1 ((out).flatMap cS) (out).length fa fb So)/\cz=(⟨118,[(0,bE br),(1,bE I)],(⟨br,49,3,[ap 3 cT l,aj ((q:Nat):Int),aB ad n cap]⟩::⟨I,35,12,[aj 4,cQ,.list 2 [] 0,.list 3 [] 0,aB fa out.length fb,bI false,.list 5 [] 0,cQ,bI false,aj (-1),cQ,.list 5 [] 0]⟩::So)⟩:St)) (fun (gA:Nat×List ByteArray×Nat×Option Addr×Nat×List ay)=>match gA with|(f,out,q,fa,fb,So)=>f) (8,[],p,none,0,[]) ⟨rfl,bR,hp,fM,(bQ.cast kM (by rfl)),rfl⟩ (Wk.bz rfl cw w7) ?_;rintro⟨f,out,q,fa,fb,So⟩ _ ⟨yQ,m6,gj,gJ,iS,rfl⟩;rcases f with _|f
  ·omega
  refine bO ?_;refine aA ?_;refine ag ?_;refine ae ?_;refine aa bu ?_;refine aa (aq 4) ?_;refine aa (aC 1) ?_;refine aa bV ?_;refine aa az ?_;refine ak [0,1,9] ?_;refine aI ot (fun ck=>?_) (fun ck=>?_)
  ·have aX:=ck
   (try simp only[V.ah,ne_eq] at aX)
   have h6:out.length=6:=(by simp at ck;omega)
   have g6:R=gv l q 10:=gJ.trans (by rw[fW,if_pos h6];rfl);refine aR ?_;refine ae ?_;exact OD.bB av rfl rfl rfl call12 (eV l hl q 10 ad n cap br) ⟨ot,aJ,trivial⟩ (Perm.refl _) (fun ch aK=>(Or.inr ⟨ch,rfl,⟨_,_,g6,aK⟩⟩:bD _ _ _ _ _ _)) (fun r S' h=>h.elim)
  have aX:=ck
  (try simp only[V.ah,ne_eq] at aX)
  have h6:¬out.length=6:=(by simp at ck;omega)
  have iL:R=(cI l q os).bind (fun s p1 ew=>(if aE l p1 4 ⟨#[44]⟩=true then fW l f (out++[s]) (p1+1) ew else .ok (out++[s]) p1 ew).bind fun ns p ops=>dN l (ns,false) p ops):=gJ.trans (Bu h6);refine aN ?_;refine aA ?_;refine dB (au (take 0 _)) af (fun _ h=>(Sublist.map _ (take_sublist _ _)).subset h) ?_;refine ai 0 rfl aU ?_;refine ai 1 rfl aU ?_;refine ai 2 rfl bu ?_;refine ai 3 rfl (aq 4) ?_;refine ai 5 rfl aU ?_;refine bp.later rfl ?_;refine dn (i:=4) (j:=6) af ?_ ?_
  ·refine at_ rfl (aC 1) ?_;refine aG (i:=6) af ?_;refine dr.bB rfl av rfl rfl rfl call22 (iB hm hw l hl ht q ad n cap br) ⟨ot,trivial⟩ (Perm.refl _) k5 (fun ch aK=>(Or.inr ⟨ch,rfl,by obtain⟨q,e,h1,h2⟩:=aK;exact⟨q,e,iL.trans cF,h2⟩⟩:bD _ _ _ _ _ _)) ?_;rintro _ _ ⟨s,mK,rfl,rfl⟩;refine fB (S':=⟨br,49,3,[ap 3 cT l,aj (((q+1):Nat):Int),aB ad n cap]⟩::⟨I,35,12,[_,_,_,_,_,_,_,_,_,_,_,_]⟩::So) (Perm.refl _) ?_;have Co:=(hJ (mK [])).2.2;have lW:R=(if aE l (q+1) 4 ⟨#[44]⟩=true then fW l f (out++[s]) ((q+1)+1) os else .ok (out++[s]) (q+1) os).bind fun ns p ops=>dN l (ns,false) p ops:=iL.trans (by rw[mK];rfl);refine aG (i:=7) af ?_;refine bk (aP 0 [_]) [.string ⟨#[]⟩] [_] zeroValue9 runUnderlying32 sizeOf9 (fun qE=>?_);refine bj 0 19 1 1 ?_;refine aG (i:=8) af ?_;refine lB (hT:=by intro b hb;cases hb) (ls:=(out)) (new:=[s]) (Sq:=So) dz sg rfl av rfl rfl underlying32 rF rfl bR ot iS (cy (A:=[_,_])) ot cl iN iN (fun K E Y Z=>?_);refine fB (cR (S1:=[⟨K,9,E*1,flatMap cS ((out)++[s])⟩]) (A:=[_,_])) ?_;refine bx 9 rfl bu ?_;refine bx 10 rfl (aq 4) ?_;refine aG (i:=11) af ?_;refine aO 1 [_,_,_,_,_,_,_,_,_,_,_,_] sizeOf32 ?_;refine gw (y:=⟨118,[(0,_),(1,_)],(⟨br,49,3,[_,_,_]⟩::⟨I,35,12,[_,_,_,_,_,_,_,_,_,_,_,_]⟩::[⟨K,9,E*1,flatMap cS ((out)++[s])⟩])⟩) (Wk.aO rfl rfl bi) rfl ?_;refine bC af ?_
   refine ag ?_;refine ae ?_;refine cG av rfl rfl rfl call20 (dy l hl (q+1) 4 ⟨#[44]⟩ ad n cap br) ⟨ot,aJ,aJ,trivial⟩ (Perm.refl _) ?_;rintro _ _ ⟨rfl,rfl⟩;refine aS (S':=⟨br,49,3,[ap 3 cT l,aj (((if aE l (q+1) 4 ⟨#[44]⟩=true then (q+1)+1 else (q+1)):Nat):Int),aB ad n cap]⟩::⟨I,35,12,[_,_,_,_,_,_,_,_,_,_,_,_]⟩::[⟨K,9,E*1,flatMap cS ((out)++[s])⟩]) (Perm.refl _) ?_;refine aa en ?_;refine aY (Wk.aO (n:=118) (l':=[(0,_),(1,_),(25,_)]) (S':=(⟨br,49,3,[_,_,_]⟩::⟨I,35,12,[_,_,_,_,_,_,_,_,_,_,_,_]⟩::[⟨K,9,E*1,flatMap cS ((out)++[s])⟩])) rfl rfl bi) ?_;refine bg ?_;refine aI ot (fun N=>?_) (fun N=>?_)
   ·have bn:=N
    (try simp only[V.ah,ne_eq] at bn)
    have ef:aE l (q+1) 4 ⟨#[44]⟩=false:=(by simpa using N)
    rw[ef];simp only[Bool.false_eq_true,if_false];have mL:R=dN l (out++[s],false) (q+1) os:=lW.trans (by rw[if_neg (F_ ef)];rfl);refine rf (i:=4) (j:=1) (S':=[⟨br,49,3,[ap 3 cT l,aj (((q+1):Nat):Int),aB ad n cap]⟩,⟨I,35,12,[_,_,_,_,_,_,_,_,_,_,_,_]⟩]) (cA Y Z) (dg dz _) (cy (A:=[_,_])) rfl rfl rfl rfl ?_;refine dJ ?_;refine⟨_,?_,(out++[s]),false,(q+1),os,ad,n,cap,fx,Co,mL,rfl⟩;exact Wk.bz (n:=118) rfl (Sublist.refl _) cD
   have bn:=N
   (try simp only[V.ah,ne_eq] at bn)
   have et:aE l (q+1) 4 ⟨#[44]⟩=true:=(by simpa using N)
   rw[et];simp only[if_true];have mM:R=(fW l f (out++[s]) ((q+1)+1) os).bind fun ns p ops=>dN l (ns,false) p ops:=lW.trans (by rw[if_pos et]);refine aN ?_;refine⟨(f,(out++[s]),((q+1)+1),(some ⟨K,0,none⟩),E,[⟨K,9,E*1,flatMap cS ((out)++[s])⟩]),_,?_,?_,fx,fx,(cf et),mM,(bQ.cast (cA Y Z) (by rfl)),rfl⟩
   ·first|omega|(simp only[];omega)
   exact Wk.bz (n:=118) rfl cw w7
  refine dr.bB rfl av rfl rfl rfl call22 (iB hm hw l hl ht q ad n cap br) ⟨ot,trivial⟩ (Perm.refl _) k5 (fun ch aK=>(Or.inr ⟨ch,rfl,by obtain⟨q,e,h1,h2⟩:=aK;exact⟨q,e,iL.trans cF,h2⟩⟩:bD _ _ _ _ _ _)) ?_;rintro _ _ ⟨s,nW,rfl,rfl⟩;refine fB (S':=⟨br,49,3,[ap 3 cT l,aj (((q+1):Nat):Int),aB ad n cap]⟩::⟨I,35,12,[_,_,_,_,_,_,_,_,_,_,_,_]⟩::So) (Perm.refl _) ?_;have xD:=(hJ (nW [])).2.2;have jy:R=(if aE l (q+1) 4 ⟨#[44]⟩=true then fW l f (out++[s]) ((q+1)+1) os else .ok (out++[s]) (q+1) os).bind fun ns p ops=>dN l (ns,false) p ops:=iL.trans (by rw[nW];rfl);refine dn (i:=4) (j:=7) af ?_ ?_
  ·refine at_ rfl (aC 1) ?_;refine aG (i:=7) af ?_;refine bk (aP 0 [_]) [.string ⟨#[]⟩] [_] zeroValue9 runUnderlying32 sizeOf9 (fun qE=>?_);refine bj 0 19 1 1 ?_;refine aG (i:=8) af ?_;refine lB (hT:=by intro b hb;cases hb) (ls:=(out)) (new:=[s]) (Sq:=So) dz sg rfl av rfl rfl underlying32 rF rfl bR ot iS (cy (A:=[_,_])) ot cl iN iN (fun K E Y Z=>?_);refine fB (cR (S1:=[⟨K,9,E*1,flatMap cS ((out)++[s])⟩]) (A:=[_,_])) ?_;refine bx 9 rfl bu ?_;refine bx 10 rfl (aq 4) ?_;refine aG (i:=11) af ?_;refine aO 1 [_,_,_,_,_,_,_,_,_,_,_,_] sizeOf32 ?_;refine gw (y:=⟨118,[(0,_),(1,_)],(⟨br,49,3,[_,_,_]⟩::⟨I,35,12,[_,_,_,_,_,_,_,_,_,_,_,_]⟩::[⟨K,9,E*1,flatMap cS ((out)++[s])⟩])⟩) (Wk.aO rfl rfl bi) rfl ?_;refine bC af ?_;refine ag ?_;refine ae ?_;refine cG av rfl rfl rfl call20 (dy l hl (q+1) 4 ⟨#[44]⟩ ad n cap br) ⟨ot,aJ,aJ,trivial⟩ (Perm.refl _) ?_;rintro _ _ ⟨rfl,rfl⟩;refine aS (S':=⟨br,49,3,[ap 3 cT l,aj (((if aE l (q+1) 4 ⟨#[44]⟩=true then (q+1)+1 else (q+1)):Nat):Int),aB ad n cap]⟩::⟨I,35,12,[_,_,_,_,_,_,_,_,_,_,_,_]⟩::[⟨K,9,E*1,flatMap cS ((out)++[s])⟩]) (Perm.refl _) ?_;refine aa en ?_;refine aY (Wk.aO (n:=118) (l':=[(0,_),(1,_),(25,_)]) (S':=(⟨br,49,3,[_,_,_]⟩::⟨I,35,12,[_,_,_,_,_,_,_,_,_,_,_,_]⟩::[⟨K,9,E*1,flatMap cS ((out)++[s])⟩])) rfl rfl bi) ?_;refine bg ?_
   refine aI ot (fun N=>?_) (fun N=>?_)
   ·have bn:=N
    (try simp only[V.ah,ne_eq] at bn)
    have ef:aE l (q+1) 4 ⟨#[44]⟩=false:=(by simpa using N)
    rw[ef];simp only[Bool.false_eq_true,if_false];have lX:R=dN l (out++[s],false) (q+1) os:=jy.trans (by rw[if_neg (F_ ef)];rfl);refine rf (i:=4) (j:=1) (S':=[⟨br,49,3,[ap 3 cT l,aj (((q+1):Nat):Int),aB ad n cap]⟩,⟨I,35,12,[_,_,_,_,_,_,_,_,_,_,_,_]⟩]) (cA Y Z) (dg dz _) (cy (A:=[_,_])) rfl rfl rfl rfl ?_;refine dJ ?_;refine⟨_,?_,(out++[s]),false,(q+1),os,ad,n,cap,fx,xD,lX,rfl⟩;exact Wk.bz (n:=118) rfl (Sublist.refl _) cD
   have bn:=N
   (try simp only[V.ah,ne_eq] at bn)
   have et:aE l (q+1) 4 ⟨#[44]⟩=true:=(by simpa using N)
   rw[et];simp only[if_true];have lY:R=(fW l f (out++[s]) ((q+1)+1) os).bind fun ns p ops=>dN l (ns,false) p ops:=jy.trans (by rw[if_pos et]);refine aN ?_;refine⟨(f,(out++[s]),((q+1)+1),(some ⟨K,0,none⟩),E,[⟨K,9,E*1,flatMap cS ((out)++[s])⟩]),_,?_,?_,fx,fx,(cf et),lY,(bQ.cast (cA Y Z) (by rfl)),rfl⟩
   ·first|omega|(simp only[];omega)
   exact Wk.bz (n:=118) rfl cw w7
  refine bk (aP 0 [_]) [.string ⟨#[]⟩] [_] zeroValue9 runUnderlying32 sizeOf9 (fun qE=>?_);refine bj 0 19 1 1 ?_;refine aG (i:=4) af ?_;refine at_ rfl (aC 1) ?_;refine aG (i:=8) af ?_;refine lB (hT:=by intro b hb;cases hb) (ls:=(out)) (new:=[s]) (Sq:=So) dz sg rfl av rfl rfl underlying32 rF rfl bR ot iS (cy (A:=[_,_])) ot cl iN iN (fun K E Y Z=>?_);refine fB (cR (S1:=[⟨K,9,E*1,flatMap cS ((out)++[s])⟩]) (A:=[_,_])) ?_;refine bx 9 rfl bu ?_;refine bx 10 rfl (aq 4) ?_;refine aG (i:=11) af ?_;refine aO 1 [_,_,_,_,_,_,_,_,_,_,_,_] sizeOf32 ?_;refine gw (y:=⟨118,[(0,_),(1,_)],(⟨br,49,3,[_,_,_]⟩::⟨I,35,12,[_,_,_,_,_,_,_,_,_,_,_,_]⟩::[⟨K,9,E*1,flatMap cS ((out)++[s])⟩])⟩) (Wk.aO rfl rfl bi) rfl ?_;refine bC af ?_;refine ag ?_;refine ae ?_;refine cG av rfl rfl rfl call20 (dy l hl (q+1) 4 ⟨#[44]⟩ ad n cap br) ⟨ot,aJ,aJ,trivial⟩ (Perm.refl _) ?_;rintro _ _ ⟨rfl,rfl⟩;refine aS (S':=⟨br,49,3,[ap 3 cT l,aj (((if aE l (q+1) 4 ⟨#[44]⟩=true then (q+1)+1 else (q+1)):Nat):Int),aB ad n cap]⟩::⟨I,35,12,[_,_,_,_,_,_,_,_,_,_,_,_]⟩::[⟨K,9,E*1,flatMap cS ((out)++[s])⟩]) (Perm.refl _) ?_;refine aa en ?_;refine aY (Wk.aO (n:=118) (l':=[(0,_),(1,_),(25,_)]) (S':=(⟨br,49,3,[_,_,_]⟩::⟨I,35,12,[_,_,_,_,_,_,_,_,_,_,_,_]⟩::[⟨K,9,E*1,flatMap cS ((out)++[s])⟩])) rfl rfl bi) ?_;refine bg ?_
  refine aI ot (fun N=>?_) (fun N=>?_)
  ·have bn:=N
   (try simp only[V.ah,ne_eq] at bn)
   have ef:aE l (q+1) 4 ⟨#[44]⟩=false:=(by simpa using N)
   rw[ef];simp only[Bool.false_eq_true,if_false];have mO:R=dN l (out++[s],false) (q+1) os:=jy.trans (by rw[if_neg (F_ ef)];rfl);refine rf (i:=4) (j:=1) (S':=[⟨br,49,3,[ap 3 cT l,aj (((q+1):Nat):Int),aB ad n cap]⟩,⟨I,35,12,[_,_,_,_,_,_,_,_,_,_,_,_]⟩]) (cA Y Z) (dg dz _) (cy (A:=[_,_])) rfl rfl rfl rfl ?_;refine dJ ?_;refine⟨_,?_,(out++[s]),false,(q+1),os,ad,n,cap,fx,xD,mO,rfl⟩;exact Wk.bz (n:=118) rfl (Sublist.refl _) cD
  have bn:=N
  (try simp only[V.ah,ne_eq] at bn)
  have et:aE l (q+1) 4 ⟨#[44]⟩=true:=(by simpa using N)
  rw[et];simp only[if_true];have nU:R=(fW l f (out++[s]) ((q+1)+1) os).bind fun ns p ops=>dN l (ns,false) p ops:=jy.trans (by rw[if_pos et]);refine aN ?_;refine⟨(f,(out++[s]),((q+1)+1),(some ⟨K,0,none⟩),E,[⟨K,9,E*1,flatMap cS ((out)++[s])⟩]),_,?_,?_,fx,fx,(cf et),nU,(bQ.cast (cA Y Z) (by rfl)),rfl⟩
  ·first|omega|(simp only[];omega)
  exact Wk.bz (n:=118) rfl cw w7
 rintro _ ⟨hn,hb,q,os,ad,n,cap,lp,gj,gJ,rfl⟩;refine aA ?_;have lZ:R=(dw l [⟨#[70,82,79,77]⟩] q os).bind (fun _ p ops=>(cI l p ops).bind fun t p ops=>(eM l p ops).bind fun w p ops=>lS l {bT with kind:=4,names:=hn,count:=hb,table:=t,bw:=w} p ops):=gJ.trans (rfl);refine aR ?_;refine ae ?_;refine dj (aP 0 [_]) [.string ⟨#[]⟩] [_] zeroValue9 runUnderlying32 sizeOf9 (fun Fc=>?_);refine eT 0 42 1 1 ?_;refine OD.bB av rfl rfl rfl call21 (jU l hl [⟨#[70,82,79,77]⟩] bR q ad n cap br) ⟨ot,by exact rfl,trivial⟩ (Perm.refl _) (fun ch aK=>(Or.inr ⟨ch,rfl,by obtain⟨q,e,h1,h2⟩:=aK;exact⟨q,e,lZ.trans cF,h2⟩⟩:bD _ _ _ _ _ _)) ?_;rintro _ _ ⟨gK,nX,rfl⟩;refine aS (S':=⟨br,49,3,[ap 3 cT l,aj ((gK:Nat):Int),aB ad n cap]⟩::[⟨I,35,12,[_,_,_,_,_,_,_,_,_,_,_,_]⟩]) (Perm.refl _) ?_;have C2:=(iU (nX []) gj).2.1;have nY:R=(cI l gK os).bind (fun t p ops=>(eM l p ops).bind fun w p ops=>lS l {bT with kind:=4,names:=hn,count:=hb,table:=t,bw:=w} p ops):=lZ.trans (by rw[nX];rfl);refine aF [(0,_),(1,_)] [⟨br,49,3,[_,_,_]⟩,⟨I,35,12,[_,_,_,_,_,_,_,_,_,_,_,_]⟩] ?_;refine ag ?_;refine ae ?_;refine ae ?_;refine OD.bB av rfl rfl rfl call22 (iB hm hw l hl ht gK ad n cap br) ⟨ot,trivial⟩ (Perm.refl _) (fun ch aK=>(Or.inr ⟨ch,rfl,by obtain⟨q,e,h1,h2⟩:=aK;exact⟨q,e,nY.trans cF,h2⟩⟩:bD _ _ _ _ _ _)) ?_;rintro _ _ ⟨t,nZ,rfl,rfl⟩
 refine aS (S':=⟨br,49,3,[ap 3 cT l,aj (((gK+1):Nat):Int),aB ad n cap]⟩::[⟨I,35,12,[_,_,_,_,_,_,_,_,_,_,_,_]⟩]) (Perm.refl _) ?_;have sD:=(hJ (nZ [])).2.2;have n5:R=(eM l (gK+1) os).bind (fun w p ops=>lS l {bT with kind:=4,names:=hn,count:=hb,table:=t,bw:=w} p ops):=nY.trans (by rw[nZ];rfl);refine aa bu ?_;refine aa (aq 1) ?_;refine bq 1 [_,_,_,_,_,_,_,_,_,_,_,_] sizeOf9 ?_;refine aF [(0,_),(1,_)] [⟨br,49,3,[_,_,_]⟩,⟨I,35,12,[_,_,_,_,_,_,_,_,_,_,_,_]⟩] ?_;refine ag ?_;refine ae ?_;refine ae ?_;have sW:=(rW:eM l (gK+1) os≠.stuck)
 refine OD.bB av rfl rfl rfl call28 (rV hl hm hw hk ht (gK+1) sD os _ rfl sW ad n cap) ⟨ot,trivial⟩ (Perm.refl _) (fun ch aK=>(Or.inr ⟨ch,rfl,by obtain⟨q,e,h1,h2⟩:=aK;exact⟨q,e,n5.trans cF,h2⟩⟩:bD _ _ _ _ _ _)) ?_;rintro _ _ ⟨w,fN,jO,O,gL,J,sX,⟨rfl,qa⟩,sY,rfl⟩;refine aS (S':=⟨br,49,3,[ap 3 cT l,aj ((fN:Nat):Int),aB O gL J]⟩::[⟨I,35,12,[_,_,_,_,_,_,_,_,_,_,_,_]⟩]) (Perm.refl _) ?_;have qb:R=lS l {bT with kind:=4,names:=hn,count:=hb,table:=t,bw:=w} fN jO:=n5.trans (by rw[sX];rfl);refine aa bu ?_;refine aa (aq 6) ?_;refine bq 1 [_,_,_,_,_,_,_,_,_,_,_,_] sizeOf33 ?_;refine aF [(0,_),(1,_)] [⟨br,49,3,[_,_,_]⟩,⟨I,35,12,[_,_,_,_,_,_,_,_,_,_,_,_]⟩] ?_;refine jX (fun cz=>∃(s:cc),∃(q:Nat),∃(os:List aT),∃(ad:Option Addr),∃(n:Nat),∃(cap:Nat),(qJ s)/\(q<=l.length)/\(R=iK l s q os)/\cz=(⟨118,[(0,bE br),(1,bE I)],[⟨br,49,3,[ap 3 cT l,aj ((q:Nat):Int),aB ad n cap]⟩,⟨I,35,12,[aj s.kind,bH s.table,ap 2 cC s.b9,ap 3 cV s.row,ap 1 cS s.names,bI s.count,ap 5 cO s.bw,bH s.order,bI s.down,aj s.ea,bH s.set,ap 5 cO s.cN]⟩]⟩:St)) ?_ ?_
 ·refine ag ?_;refine ae ?_;refine cG av rfl rfl rfl call20 (dy l hl fN 1 ⟨#[79,82,68,69,82]⟩ O gL J br) ⟨ot,aJ,aJ,trivial⟩ (Perm.refl _) ?_;rintro _ _ ⟨rfl,rfl⟩;refine aS (S':=⟨br,49,3,[ap 3 cT l,aj (((if aE l fN 1 ⟨#[79,82,68,69,82]⟩=true then fN+1 else fN):Nat):Int),aB O gL J]⟩::[⟨I,35,12,[_,_,_,_,_,_,_,_,_,_,_,_]⟩]) (Perm.refl _) ?_;refine aF [(0,_),(1,_),(55,_)] [⟨br,49,3,[_,_,_]⟩,⟨I,35,12,[_,_,_,_,_,_,_,_,_,_,_,_]⟩] ?_;refine aI ot (fun cm=>?_) (fun cm=>?_)
  ·have bJ:=cm
   (try simp only[V.ah,ne_eq] at bJ)
   have m9:aE l fN 1 ⟨#[79,82,68,69,82]⟩=true:=cm;rw[m9];simp only[if_true];have qc:R=((dw l [⟨#[66,89]⟩] (fN+1) jO).bind (fun _ p ops=>(cI l p ops).bind fun n p ops=>.ok {({bT with kind:=4,names:=hn,count:=hb,table:=t,bw:=w}:cc) with order:=n,down:=aE l p 1 ⟨#[68,69,83,67]⟩} (if aE l p 1 ⟨#[68,69,83,67]⟩=true then p+1 else p) ops)).bind (iK l):=qb.trans (by unfold lS sO;rw[if_pos m9]);refine ag ?_;refine ae ?_;refine dj (aP 0 [_]) [.string ⟨#[]⟩] [_] zeroValue9 runUnderlying32 sizeOf9 (fun En=>?_);refine eT 0 57 1 1 ?_;refine OD.bB av rfl rfl rfl call21 (jU l hl [⟨#[66,89]⟩] bR (fN+1) O gL J br) ⟨ot,by exact rfl,trivial⟩ (Perm.refl _) (fun ch aK=>(Or.inr ⟨ch,rfl,by obtain⟨q,e,h1,h2⟩:=aK;exact⟨q,e,qc.trans cF,h2⟩⟩:bD _ _ _ _ _ _)) ?_;rintro _ _ ⟨M,xZ,rfl⟩;refine aS (S':=⟨br,49,3,[ap 3 cT l,aj ((M:Nat):Int),aB O gL J]⟩::[⟨I,35,12,[_,_,_,_,_,_,_,_,_,_,_,_]⟩]) (Perm.refl _) ?_;have EU:=(iU (xZ []) (cf m9)).2.1;have qd:R=((cI l M jO).bind fun n p ops=>.ok {({bT with kind:=4,names:=hn,count:=hb,table:=t,bw:=w}:cc) with order:=n,down:=aE l p 1 ⟨#[68,69,83,67]⟩} (if aE l p 1 ⟨#[68,69,83,67]⟩=true then p+1 else p) ops).bind (iK l):=qc.trans (by rw[xZ];rfl);refine aF [(0,_),(1,_)] [⟨br,49,3,[_,_,_]⟩,⟨I,35,12,[_,_,_,_,_,_,_,_,_,_,_,_]⟩] ?_;refine ag ?_;refine ae ?_;refine ae ?_
   refine OD.bB av rfl rfl rfl call22 (iB hm hw l hl ht M O gL J br) ⟨ot,trivial⟩ (Perm.refl _) (fun ch aK=>(Or.inr ⟨ch,rfl,by obtain⟨q,e,h1,h2⟩:=aK;exact⟨q,e,qd.trans cF,h2⟩⟩:bD _ _ _ _ _ _)) ?_;rintro _ _ ⟨on,ya,rfl,rfl⟩;refine aS (S':=⟨br,49,3,[ap 3 cT l,aj (((M+1):Nat):Int),aB O gL J]⟩::[⟨I,35,12,[_,_,_,_,_,_,_,_,_,_,_,_]⟩]) (Perm.refl _) ?_;have Cp:=(hJ (ya [])).2.2;have sZ:R=iK l {({bT with kind:=4,names:=hn,count:=hb,table:=t,bw:=w}:cc) with order:=on,down:=aE l (M+1) 1 ⟨#[68,69,83,67]⟩} (if aE l (M+1) 1 ⟨#[68,69,83,67]⟩=true then (M+1)+1 else (M+1)) jO:=qd.trans (by rw[ya];rfl);refine aa bu ?_;refine aa (aq 7) ?_;refine bq 1 [_,_,_,_,_,_,_,_,_,_,_,_] sizeOf9 ?_;refine aF [(0,_),(1,_)] [⟨br,49,3,[_,_,_]⟩,⟨I,35,12,[_,_,_,_,_,_,_,_,_,_,_,_]⟩] ?_;refine aR ?_;refine ae ?_;refine ae ?_;refine cG av rfl rfl rfl call20 (dy l hl (M+1) 1 ⟨#[68,69,83,67]⟩ O gL J br) ⟨ot,aJ,aJ,trivial⟩ (Perm.refl _) ?_;rintro _ _ ⟨rfl,rfl⟩;refine aS (S':=⟨br,49,3,[ap 3 cT l,aj (((if aE l (M+1) 1 ⟨#[68,69,83,67]⟩=true then (M+1)+1 else (M+1)):Nat):Int),aB O gL J]⟩::[⟨I,35,12,[_,_,_,_,_,_,_,_,_,_,_,_]⟩]) (Perm.refl _) ?_;have Cq:(if aE l (M+1) 1 ⟨#[68,69,83,67]⟩=true then (M+1)+1 else (M+1))<=l.length:=(by (split;exact cf dS;exact Cp))
   refine aa bu ?_;refine aa (aq 8) ?_;refine bq 1 [_,_,_,_,_,_,_,_,_,_,_,_] sizeOf4 ?_;refine aF [(0,_),(1,_)] [⟨br,49,3,[_,_,_]⟩,⟨I,35,12,[_,_,_,_,_,_,_,_,_,_,_,_]⟩] ?_;refine⟨_,?_,{({bT with kind:=4,names:=hn,count:=hb,table:=t,bw:=w}:cc) with order:=on,down:=aE l (M+1) 1 ⟨#[68,69,83,67]⟩},(if aE l (M+1) 1 ⟨#[68,69,83,67]⟩=true then (M+1)+1 else (M+1)),jO,O,gL,J,⟨Nat.zero_le _,Nat.zero_le _,lp,qa,Nat.zero_le _⟩,Cq,sZ,rfl⟩;exact Wk.bz (n:=118) rfl (Sublist.refl _) cD
  have bJ:=cm
  (try simp only[V.ah,ne_eq] at bJ)
  have kv:aE l fN 1 ⟨#[79,82,68,69,82]⟩=false:=cm;rw[kv];simp only[Bool.false_eq_true,if_false];have C3:R=iK l {bT with kind:=4,names:=hn,count:=hb,table:=t,bw:=w} fN jO:=qb.trans (by unfold lS sO;rw[if_neg (F_ kv)];rfl);refine aN ?_;refine⟨_,?_,{bT with kind:=4,names:=hn,count:=hb,table:=t,bw:=w},fN,jO,O,gL,J,⟨Nat.zero_le _,Nat.zero_le _,lp,qa,Nat.zero_le _⟩,sY,C3,rfl⟩;exact Wk.bz (n:=118) rfl (Sublist.refl _) cD
 rintro _ ⟨s,q,os,ad,n,cap,gF,gj,gJ,rfl⟩;refine aA ?_;refine aR ?_;refine ae ?_;refine cG av rfl rfl rfl call20 (dy l hl q 1 ⟨#[76,73,77,73,84]⟩ ad n cap br) ⟨ot,aJ,aJ,trivial⟩ (Perm.refl _) ?_;rintro _ _ ⟨rfl,rfl⟩;refine aS (S':=⟨br,49,3,[ap 3 cT l,aj (((if aE l q 1 ⟨#[76,73,77,73,84]⟩=true then q+1 else q):Nat):Int),aB ad n cap]⟩::[⟨I,35,12,[_,_,_,_,_,_,_,_,_,_,_,_]⟩]) (Perm.refl _) ?_;refine aF [(0,_),(1,_),(70,_)] [⟨br,49,3,[_,_,_]⟩,⟨I,35,12,[_,_,_,_,_,_,_,_,_,_,_,_]⟩] ?_;refine aI ot (fun c7=>?_) (fun c7=>?_)
 ·have bA:=c7
  (try simp only[V.ah,ne_eq] at bA)
  have kw:aE l q 1 ⟨#[76,73,77,73,84]⟩=true:=c7;rw[kw];simp only[if_true];have Fe:=kw;refine aA ?_;refine aA ?_;refine dB (au _) af (fun _ h=>h) ?_;refine ai 0 rfl aU ?_;refine ai 1 rfl bu ?_;refine ai 2 rfl (aq 1) ?_;refine ai 3 rfl (aC 0) ?_;refine ai 4 rfl aU ?_;refine ai 5 rfl bu ?_;refine ai 6 rfl (aq 0) ?_;refine ai 7 rfl (aC 0) ?_;refine ai 8 rfl bV ?_;refine ai 9 rfl az ?_;refine ai 10 rfl aU ?_;refine bp.split (t:=81) lk (fun U=>?_) (fun U=>?_)
  ·have sE:=U;(try simp only[V.ah,ne_eq] at sE)
   refine bc 11 rfl ?_;refine bc 12 rfl ?_;refine bc 13 rfl ?_;refine bc 14 rfl ?_;refine bc 15 rfl ?_;refine bc 16 rfl ?_;refine bc 17 rfl ?_;refine bc 18 rfl ?_;refine bc 19 rfl ?_;refine bc 20 rfl ?_;refine bc 21 rfl ?_;refine bc 22 rfl ?_;refine ai 23 rfl bZ ?_;refine bp.later rfl ?_;refine bL [(0,_),(1,_),(94,_)] [⟨br,49,3,[_,_,_]⟩,⟨I,35,12,[_,_,_,_,_,_,_,_,_,_,_,_]⟩] ?_;refine bC af ?_;refine ei ot w5 ?_;have uK:¬(q+1<l.length/\(l.getD (q+1) ⟨0,⟨#[]⟩,0⟩).k=2):=(by first|exact(fun h=>by simp at U;omega)|exact(fun h=>by rw[fp h.1] at h;have:=h.2;simp at dk;exact dk this))
   have C4:R=gv l (q+1) 6:=gJ.trans (xC kw uK);refine aR ?_;refine ae ?_;exact OD.bB av rfl rfl rfl call12 (eV l hl (q+1) 6 ad n cap br) ⟨ot,aJ,trivial⟩ (Perm.refl _) (fun ch aK=>(Or.inr ⟨ch,rfl,⟨_,_,C4,aK⟩⟩:bD _ _ _ _ _ _)) (fun r S' h=>h.elim)
  have sE:=U;(try simp only[V.ah,ne_eq] at sE)
  refine ai 11 rfl aU ?_;refine ai 12 rfl bu ?_;refine ai 13 rfl (aq 0) ?_;refine ai 14 rfl (aC 0) ?_;refine ai 15 rfl aU ?_;refine ai 16 rfl bu ?_;refine ai 17 rfl (aq 1) ?_;refine ai 18 rfl (aC 0) ?_;refine ai 19 rfl (di 3 (h:=by first|exact .l (j:=q+1) rfl (by simp at U;omega)|exact .r (j:=q+1) rfl (by simp at U;omega))) ?_;refine ai 20 rfl (aq 0) ?_;refine ai 21 rfl (cn (mk:=Op.load 3) rfl ot (by exact jr (i:=q+1) cZ isAgg3 (by simp at U;omega) rfl)) ?_;refine ai 22 rfl az ?_;refine ai 23 rfl bt ?_;refine bp.later rfl ?_;refine bL [(0,_),(1,_),(94,_)] [⟨br,49,3,[_,_,_]⟩,⟨I,35,12,[_,_,_,_,_,_,_,_,_,_,_,_]⟩] ?_;refine bC af ?_;refine aI ot (fun dk=>?_) (fun dk=>?_)
  ·have fu:=dk
   (try simp only[V.ah,ne_eq] at fu)
   have uK:¬(q+1<l.length/\(l.getD (q+1) ⟨0,⟨#[]⟩,0⟩).k=2):=(by first|exact(fun h=>by simp at U;omega)|exact(fun h=>by rw[fp h.1] at h;have:=h.2;simp at dk;exact dk this))
   have C5:R=gv l (q+1) 6:=gJ.trans (xC kw uK);refine aR ?_;refine ae ?_;exact OD.bB av rfl rfl rfl call12 (eV l hl (q+1) 6 ad n cap br) ⟨ot,aJ,trivial⟩ (Perm.refl _) (fun ch aK=>(Or.inr ⟨ch,rfl,⟨_,_,C5,aK⟩⟩:bD _ _ _ _ _ _)) (fun r S' h=>h.elim)
  have fu:=dk
  (try simp only[V.ah,ne_eq] at fu)
  have eE:q+1<l.length:=(by simp at U;omega)
  have ez:l[q+1].k=2:=(by simpa using dk)
  have C6:R = .ok {s with ea:=l[q+1].n} (q+2) os:=gJ.trans (Cm kw eE ez);refine aN ?_;refine aA ?_;refine dB (au (eraseIdx _ 1)) af (fun _ h=>(Sublist.map _ (eraseIdx_sublist _ 1)).subset h) ?_;refine ai 0 rfl aU ?_;refine ai 1 rfl aU ?_;refine ai 2 rfl bu ?_;refine ai 3 rfl (aq 0) ?_;refine ai 4 rfl (aC 0) ?_;refine ai 5 rfl aU ?_;refine ai 6 rfl bu ?_;refine ai 7 rfl (aq 1) ?_;refine ai 8 rfl (aC 0) ?_;refine ai 9 rfl (di 3 (h:=by first|exact .l (j:=q+1) rfl eE|exact .r (j:=q+1) rfl eE)) ?_;refine ai 10 rfl (aq 2) ?_;refine ai 11 rfl (cn (mk:=Op.load 3) rfl ot (by exact jZ (i:=q+1) (j:=2) cZ isAgg3 eE rfl)) ?_;refine ai 12 rfl bu ?_;refine ai 13 rfl (aq 9) ?_;refine bp.later rfl ?_;refine aG (i:=14) af ?_;refine aO 1 [_,_,_,_,_,_,_,_,_,_,_,_] sizeOf3 ?_;refine bL [(0,_)] [⟨br,49,3,[_,_,_]⟩,⟨I,35,12,[_,_,_,_,_,_,_,_,_,_,_,_]⟩] ?_;refine bC af ?_;refine aR ?_;refine ae ?_;refine aa bu ?_;refine aa (aq 1) ?_;refine aa (aC 0) ?_;refine aa az ?_;refine aa bu ?_;refine aa (aq 1) ?_;refine bq 0 [_,_,_] sizeOf3 ?_;refine aF [] [⟨br,49,3,[_,_,_]⟩,⟨I,35,12,[_,_,_,_,_,_,_,_,_,_,_,_]⟩] ?_;refine Or.inl ?_;refine⟨.inl rfl,_,[⟨br,49,3,[ap 3 cT l,aj (((q+2):Nat):Int),aB ad n cap]⟩,⟨I,35,12,_⟩],(Sublist.refl _),ej results25,?_⟩;exact⟨{s with ea:=l[q+1].n},(q+2),os,_,_,_,C6,gF,eE,rfl⟩
 have bA:=c7
 (try simp only[V.ah,ne_eq] at bA)
 have lq:aE l q 1 ⟨#[76,73,77,73,84]⟩=false:=c7;rw[lq];simp only[Bool.false_eq_true,if_false];have C7:R = .ok s q os:=gJ.trans (Cn lq);refine aN ?_;refine Or.inl ?_;refine⟨.inl rfl,_,[⟨br,49,3,[ap 3 cT l,aj ((q:Nat):Int),aB ad n cap]⟩,⟨I,35,12,_⟩],(Sublist.refl _),ej results25,?_⟩;exact⟨s,q,os,_,_,_,C7,gF,gj,rfl⟩
end Pa
end Go.Proofs.YtmapbfkhggjgeaaDoor
