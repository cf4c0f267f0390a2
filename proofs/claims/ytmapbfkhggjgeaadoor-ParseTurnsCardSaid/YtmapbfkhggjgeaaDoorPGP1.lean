/-
  GP: walks and plain facts, part 1.
-/
import Derived.WalkKit
import Derived.Deep.MidRow
import Derived.Deep.AppendLies
import Derived.OrdersHeld
import Derived.IntWalk
import Derived.Laws.Cover3
import Derived.ChangeKeysEq
import Derived.ProofKit
import Derived.OpenShut
import Derived.Lib.LaidTab
import Derived.Below
import Derived.Deep.Slices
import Derived.ArgAppend
import Derived.Lib.AppendStr
import Derived.MapKept
import Derived.RangeFuncLeaves
import Derived.RangeFuncOwn
import Derived.OrdersIn
import Derived.TacticsIn
import Derived.RecoverIn
import Derived.WalkLawsBesides
import Derived.Lib.AppendZeros
import Derived.Laws.IdiomCopy
import Derived.Lib.Overlaps
import Derived.Lib.AppendZerosOnto
import Derived.Test.YtmapbfkhggjgeaaDoorRows
import Derived.Test.YtmapbfkhggjgeaaDoorProg
set_option linter.unusedVariables false
set_option linter.unusedSimpArgs false
set_option maxRecDepth 100000
set_option maxHeartbeats 4000000
namespace Go.Proofs.YtmapbfkhggjgeaaDoor
section
open List
variable {p:Prop}
theorem w2(h:p:=by repeat (first|exact NP.body|exact NP.sq|exact NP.pK|apply NP.tl|apply NP.sr|apply NP.then|apply NP.cut|apply NP.inBlock|apply NP.round)):p:=h
theorem w4(h:p:=by simp only[flatten_cons,flatten_nil,length_append,length_cons,length_nil];omega):p:=h
theorem w5(h:p:=by first|rfl|assumption):p:=h
theorem w6(h:p:=by repeat (first|exact trivial|exact⟨jq,trivial⟩|exact⟨sb,trivial⟩|refine⟨jq,?_⟩|refine⟨sb,?_⟩)):p:=h
theorem w7(h:p:=by repeat (first|exact trivial|refine⟨(by (repeat (first|exact iy|(apply jm;focus (first|rfl|(simp;done)|(congr 2;omega)|(apply eW;rfl)|(apply eW;rfl)|(apply eW;simp;done)))|(apply ix;focus rfl)));done),?_⟩)):p:=h
theorem w8(h:p:=by omega):p:=h
theorem w9(h:p:=by first|assumption|omega):p:=h
theorem gd(h:p:=by simp only[length_append,length_map,length_cons,length_nil];omega):p:=h
theorem ey(h:p:=by show _<=1000;exact Nat.le_of_ble_eq_true rfl):p:=h
theorem kX(h:p:=by have gg:=ju;have q1:=rY yh i;(try have q2:=yh _ (getElem_mem aH));(try simp only[length_append,length_cons,length_nil]);omega):p:=h
theorem ij(h:p:=by simp only[maxLen,length_append,length_map,length_cons,length_nil];omega):p:=h
theorem mQ(h:p:=by rw[pu jW,nt jW,show(ops.drop fr).take (mid-fr)=(ops.take mid).drop fr from(drop_take).symm,show mid-fr=((ops.take mid).drop fr).length from by rw[length_drop,length_take];omega];rfl):p:=h
theorem fw(h:p:=by repeat (first|exact trivial|refine⟨yj,?_⟩)):p:=h
theorem iN(h:p:=by simp only[maxLen,length_append,length_cons,length_nil] at *;omega):p:=h
theorem qi(h:p:=by repeat (first|exact trivial|refine⟨(by (repeat (first|exact iy|(apply jm;focus (first|rfl|(simp;done)|(congr 2;omega)|(apply eW;rw[oV aH])|(apply eW;rfl)|(apply eW;simp;done)))|(apply ix;focus rfl)));done),?_⟩)):p:=h
theorem cJ(h:p:=by intro h;cases h):p:=h
theorem cu(h:p:=by exact trivial):p:=h
theorem cF(h:p:=by rw[h1];rfl):p:=h
theorem mR(h:p:=by simp only[flatten_cons,flatten_nil,length_append,length_map,length_cons,length_nil];omega):p:=h
theorem qj(h:p:=by repeat (first|exact trivial|refine⟨(by (repeat (first|exact iy|(apply jm;focus (first|rfl|(congr 2;omega)|(simp;done)))|(apply ix;focus rfl)));done),?_⟩)):p:=h
theorem kY(h:p:=by first|exact nA (k:=0) rfl rfl isAgg9 rfl|exact pS isAgg9 rfl):p:=h
theorem n8(h:p:=by first|exact BH (off:=1) runUnderlying28 rfl sizeOf9 rfl|exact EL (off:=1) runUnderlying28 rfl sizeOf9 rfl):p:=h
theorem bR(h:p:=by decide):p:=h
theorem kZ(h:p:=by first|exact .l (j:=i) rfl aH|exact .r (j:=i) rfl aH):p:=h
theorem j6(h:p:=by have:=g.2.2.1;simp only[rk,wL] at *;omega):p:=h
theorem dS(h:p:=by assumption):p:=h
theorem qk(h:p:=by first|exact .l (j:=_) rfl (by simp at dY;omega)|exact .r (j:=_) rfl (by simp at dY;omega)):p:=h
theorem gC(h:p:=by simp only[rk];omega):p:=h
theorem tJ(h:p:=by first|exact .l (j:=(bl H l[i])) rfl (by first|exact dH|exact fI)|exact .r (j:=(bl H l[i])) rfl (by first|exact dH|exact fI)):p:=h
theorem tK(h:p:=by have:=rG s.names s.names.length;(try rw[iZ]);simp only[length_append,length_map,length_cons,length_nil];omega):p:=h
theorem cl(h:p:=by simp):p:=h
theorem yl(h:p:=by repeat (first|exact trivial|refine⟨(by (repeat (first|exact iy|(apply jm;focus (first|rfl|(simp;done)|(congr 2;omega)|(apply eW;rw[hT];rfl)|(apply eW;rfl)|(apply eW;simp;done)))|(apply ix;focus rfl)));done),?_⟩)):p:=h
theorem fJ(h:p:=by simpa using fK):p:=h
theorem ym(h:p:=by repeat (first|exact trivial|refine⟨(by (repeat (first|exact iy|(apply jm;focus (first|rfl|(simp;done)|(congr 2;omega)|(apply eW;exact my aM aH)|(apply eW;simp;done)))|(apply ix;focus rfl)));done),?_⟩)):p:=h
theorem yn(h:p:=by repeat (first|exact trivial|refine⟨(by (repeat (first|exact iy|(apply jm;focus (first|rfl|(simp;done)|(congr 2;omega)|(apply eW;exact my dK aH)|(apply eW;simp;done)))|(apply ix;focus rfl)));done),?_⟩)):p:=h
theorem yo(h:p:=by repeat (first|exact trivial|refine⟨(by (repeat (first|exact iy|(apply jm;focus (first|rfl|(simp;done)|(congr 2;omega)|(apply eW;exact my eu aH)|(apply eW;simp;done)))|(apply ix;focus rfl)));done),?_⟩)):p:=h
theorem jA(h:p:=by first|rfl|simp[St.put]):p:=h
theorem j7(h:p:=by first|assumption|decide):p:=h
theorem fx(h:p:=by simp;omega):p:=h
theorem ql(h:p:=by first|exact .l (j:=j) rfl aH|exact .r (j:=j) rfl aH):p:=h
theorem tL(h:p:=by repeat (first|exact trivial|refine⟨(by (repeat (first|exact iy|(apply jm;focus (first|rfl|(simp;done)|(congr 2;omega)|(apply eW;first|exact ry aH w8 _|exact rh aH w8 _)|(apply eW;simp[ek])|(apply eW;simp;done)))|(apply ix;focus rfl)));done),?_⟩)):p:=h
theorem tM(h:p:=by repeat (first|exact trivial|refine⟨(by (repeat (first|exact iy|(apply jm;focus (first|rfl|(simp;done)|(congr 2;omega)|(apply eW;first|exact rH aH w8|exact rz aH w8)|(apply eW;rfl)|(apply eW;simp;done)))|(apply ix;focus rfl)));done),?_⟩)):p:=h
theorem oa(h:p:=by exact px (fun h=>by cases h) (fun h=>by cases h) runUnderlying33 sizeOf41 w8 w8):p:=h
theorem oc(h:p:=by exact A1 rfl jW (fun h=>by cases h) runUnderlying33 sizeOf41 w8):p:=h
theorem od(h:p:=by exact wC jW (fun h=>by cases h) runUnderlying33 sizeOf41 w8):p:=h
theorem qm(h:p:=by exact lJ (j:=p+1) runUnderlying29 sizeOf28 w8 eE):p:=h
theorem jB(h:p:=by exact fun _=>rfl):p:=h
theorem k4(h:p:=by rw[wD aK.1];rfl):p:=h
theorem qn(h:p:=by exact jr cZ isAgg3 (by simp at dY;omega) rfl):p:=h
theorem qo(h:p:=by exact lJ (j:=p) runUnderlying29 sizeOf28 w8 eE):p:=h
theorem yp(h:p:=by rw[show((((ls.take j).flatten).length:Nat):Int)+(ls[j].length:Nat)=((((ls.take (j+1)).flatten).length:Nat):Int) by omega];exact wrap_i64 w8 w8):p:=h
theorem tN(h:p:=by exact fT (k:=2) (i:=(bl H l[i])) gQ rfl rfl rfl isAgg29 dH rfl):p:=h
theorem tO(h:p:=by exact fT (k:=1) (i:=(bl H l[i])) gQ rfl rfl rfl isAgg29 dH rfl):p:=h
theorem tP(h:p:=by exact fT (k:=0) (i:=(bl H l[i])) gQ rfl rfl rfl isAgg29 dH rfl):p:=h
theorem tQ(h:p:=by unfold jv;rw[if_neg aX,if_neg bn,if_neg bJ,if_pos bA,mS]):p:=h
theorem k5(h:p:=by intro b hb;cases hb):p:=h
theorem jC(h:p:=by simpa using ax):p:=h
theorem k6(h:p:=by simp at ax;omega):p:=h
theorem l5(h:p:=by show 2<=10;decide):p:=h
theorem yq(h:p:=by have gg:=ju;(try simp only[length_append,length_cons,length_nil,length_map,length_take]);omega):p:=h
theorem qp(h:p:=by exact jZ (j:=2) cZ isAgg3 eE rfl):p:=h
theorem mT(h:p:=by simp at eZ;exact eZ):p:=h
theorem yt(h:p:=by first|exact lJ runUnderlying33 sizeOf41 (j:=0) rfl bR|exact nB runUnderlying33 sizeOf41 (j:=0) rfl bR):p:=h
theorem mU(h:p:=by first|omega|decide):p:=h
theorem tT(h:p:=by first|exact trivial|exact g7 (k0:=0) rfl rfl):p:=h
theorem mV(h:p:=by show 1<=10;decide):p:=h
theorem l6(h:p:=by show j<2;omega):p:=h
theorem oe(h:p:=by rw[e8] at cY;exact cY):p:=h
theorem og(h:p:=by simp at j1;exact j1):p:=h
theorem oh(h:p:=by unfold zeroV;simp_all):p:=h
theorem qq(h:p:=by rw[<-fp eE];exact ez):p:=h
theorem qs(h:p:=by first|exact dH|exact fI):p:=h
theorem l7(h:p:=by rw[k7];rfl):p:=h
theorem qt(h:p:=by rw[dO] at cY;exact cY):p:=h
theorem qu(h:p:=by have:=hf.ok.2.2.1;omega):p:=h
theorem qv(h:p:=by simp only[maxLen];omega):p:=h
theorem yu(h:p:=by simp only[length_append,length_cons,length_nil] at *;omega):p:=h
end
namespace V
open List
open Go.RowKit
section
variable {w w':World} {L X:Nat->Prop} {b i n off o' len cap sz j m h' tt bytes:Nat} {I:Array Field} {v u r:Value} {e t:TypeId} {y z s fo:Operand} {a:Act} {k:IntKind} {f:Field} {J hi:Option Operand} {cur:Array Value} {ts:Array TypeId} {ad:Option Addr} {ps:Array (Nat×Operand)} {bN:Array Operand}
inductive D where
 | v (x:Value)
 | list (sz:Nat) (cs:List D) (len:Nat)
 | dh (cs:List D) (off:Nat)
 | agg (cs:List D)
 | dU (cs:List D)
 | dV (f:Fn) (cs:List D)
 | mW (l:Nat) (os:List (Nat×Obj))
 | cU
 deriving Inhabited
variable {d:D} {cs ds cs' args:List D} {l:List (Nat×D)}
inductive bF (w:World) (L:Nat->Prop):D->Value->Prop
 | v (x:Value):bF w L (.v x) x
 | gz (sz:Nat) (ad:Option Addr) (cap:Nat):bF w L (.list sz [] 0) (.slice ad 0 cap)
 | list (sz:Nat) (cs:List D) (len b o cap:Nat) (f:Nat->Value) (hl:cs.length=len*sz) (h1:len<=cap) (h2:cap<=maxLen) (hb:b<w.heap.size) (hL:¬L b)
   (hc:∀i,i<cs.length->w.cell? ⟨b,o+i,none⟩=some (f i)) (hr:∀i (h:i<cs.length),bF w L cs[i] (f i)):bF w L (.list sz cs len) (.slice (some ⟨b,o,none⟩) len cap)
 | dh (cs:List D) (off b o:Nat) (f:Nat->Value) (hb:b<w.heap.size) (hL:¬L b)
   (hc:∀i,i<cs.length->w.cell? ⟨b,o+i,none⟩=some (f i)) (hr:∀i (h:i<cs.length),bF w L cs[i] (f i)):bF w L (.dh cs off) (.pointer (some ⟨b,o+off,none⟩))
 | agg (cs:List D) (vs:List Value) (hl:vs.length=cs.length) (hr:∀i (h:i<cs.length) (h':i<vs.length),bF w L cs[i] vs[i]):bF w L (.agg cs) (.agg vs.toArray)
 | dU (cs:List D) (vs:List Value) (hl:vs.length=cs.length) (hr:∀i (h:i<cs.length) (h':i<vs.length),bF w L cs[i] vs[i]):bF w L (.dU cs) (.tuple vs.toArray)
 | dV (fn:Fn) (cs:List D) (vs:List Value) (hl:vs.length=cs.length) (hr:∀i (h:i<cs.length) (h':i<vs.length),bF w L cs[i] vs[i]):bF w L (.dV fn cs) (.func fn #[] vs.toArray)
 | mW (l:Nat) (os:List (Nat×Obj)) (h:∀z∈os,z.1<w.heap.size/\¬L z.1/\w.heap[z.1]?=some z.2):bF w L (.mW l os) (.func (.yield l) #[] #[])
 | cU (x:Value):bF w L .cU x
theorem bF.nil(sz:Nat):bF w L (.list sz [] 0) (.slice none 0 0):=.gz sz none 0
theorem kE(hb:b<w.heap.size)(h:w'.heap[b]?=w.heap[b]?):b<w'.heap.size:=by
 rcases Nat.lt_or_ge b w'.heap.size with h'|h'
 ·exact h'
 rw[Array.getElem?_eq_none h',Array.getElem?_eq_getElem hb] at h;cases h
theorem bF.mono{I:Nat->Prop}(h:bF w L d v)(H:∀b,b<w.heap.size->¬L b->w'.heap[b]?=w.heap[b]?/\¬I b):bF w' I d v:=by
 induction h with
 | v x=>exact .v x
 | gz sz ad cap=>exact .gz sz ad cap
 | list sz cs len b o cap f hl h1 h2 hb hL hc hr ih =>
  have E:=H b hb hL;exact .list sz cs len b o cap f hl h1 h2 (kE hb E.1) E.2 (fun i hi=>(World.cell?_of_block (w:=w) (a:=⟨b,o+i,none⟩) E.1).trans (hc i hi)) ih
 | dh cs off b o f hb hL hc hr ih =>
  have E:=H b hb hL;exact .dh cs off b o f (kE hb E.1) E.2 (fun i hi=>(World.cell?_of_block (w:=w) (a:=⟨b,o+i,none⟩) E.1).trans (hc i hi)) ih
 | agg cs vs hl hr ih=>exact .agg cs vs hl ih
 | dU cs vs hl hr ih=>exact .dU cs vs hl ih
 | dV fn cs vs hl hr ih=>exact .dV fn cs vs hl ih
 | mW l os h =>
  refine .mW l os fun z hz=>?_;obtain⟨h1,h2,h3⟩:=h z hz;have E:=H z.1 h1 h2;exact⟨kE h1 E.1,E.2,E.1.trans h3⟩
 | cU x=>exact .cU x
structure ay where
 b:Nat
 e:TypeId
 size:Nat
 cs:List D
 deriving Inhabited
variable {S S' Sf R:List ay} {B:ay} {post:D->List ay->Prop}
def BI:TypeId:=1000003
def wE:TypeId:=1000004
def isMap(e:TypeId):Bool:=Nat.beq e BI||Nat.beq e wE
def Cf(cur:Array Value):Obj:=.map (cur.mapIdx fun i k=>⟨k,.agg #[],i⟩) cur.size
def xf:Value->Nat
 | .int _ n=>n.toNat
 | _=>0
def xH:List Value->List MapEntry
 | k::v::b::r=>⟨k,v,xf b⟩::xH r
 | _=>[]
def BJ(cur:Array Value):Obj:=match cur.toList with
 | c::r=>.map (xH r).toArray (xf c)
 | []=>.map #[] 0
def ob(e:TypeId)(cur:Array Value):Obj:=bif isMap e then (bif Nat.beq e wE then BJ cur else Cf cur) else .cells cur e (0,0)
theorem fS(he:isMap e=false)(cur:Array Value):ob e cur = .cells cur e (0,0):=by rw[ob,he];rfl
def mD(w:World)(L:Nat->Prop)(B:ay):Prop :=
 B.b<w.heap.size/\∃cur:Array Value,w.heap[B.b]?=some (ob B.e cur)/\cur.size=B.size/\B.cs.length<=B.size/\∀i (h:i<B.cs.length),∃u,cur[i]?=some u/\bF w L B.cs[i] u
def hN:Value->Bool
 | .tuple _=>false
 | _=>true
def g9(w:World)(b i:Nat):Value->Prop
 | .tuple vs=>∃t fz,w.heap[b]?=some (.cells vs t fz)
 | v=>w.cell? ⟨b,i,none⟩=some v
theorem g9.cell(h:g9 w b i v)(E:hN v=true):w.cell? ⟨b,i,none⟩=some v:=by
 cases v<;>first|exact h|cases E
theorem g9.of(h:w.cell? ⟨b,i,none⟩=some v)(E:hN v=true):g9 w b i v:=by
 cases v<;>first|exact h|cases E
theorem g9.on(hb:w'.heap[b]?=w.heap[b]?)(h:g9 w b i v):g9 w' b i v:=by
 by_cases E:hN v=true
 ·exact .of ((World.cell?_of_block (w:=w) (a:=⟨b,i,none⟩) hb).trans (h.cell E)) E
 cases v<;>first|exact absurd rfl E|(obtain⟨t,fz,h⟩:=h;exact⟨t,fz,hb.trans h⟩)
theorem g9.lt(h:g9 w b i v):b<w.heap.size:=by
 by_cases E:hN v=true
 ·exact World.block_lt_of_cell? w _ (h.cell E)
 cases v<;>first|exact absurd rfl E|(obtain⟨t,fz,h⟩:=h;exact(Array.getElem?_eq_some_iff.1 h).1)
theorem rI{vs:List Value}(h:vs.all hN=true)(hi:vs[i]?=some v):hN v=true:=all_eq_true.1 h v (mem_of_getElem? hi)
structure cq where
 X:Nat->Prop
 w0:World
 S0:List Nat
 G:List (Nat×List Value)
 df:List Deferred
 om:Act->World->Prop
variable {C:cq}
structure St where
 n:Nat
 env:List (Nat×D)
 S:List ay
def look(t:Nat):List (Nat×D)->D
 | []=>.cU
 | (i,d)::r=>bif Nat.beq i t then d else look t r
theorem jj(t i:Nat)(d:D)(l:List (Nat×D)):look t ((i,d)::l)=if i=t then d else look t l:=by
 rw[look];by_cases e:i=t
 ·subst e;simp
 have:Nat.beq i t=false:=by
  cases h:Nat.beq i t with
  | false=>rfl
  | true=>exact absurd (Nat.eq_of_beq_eq_true h) e
 rw[this,if_neg e];rfl
def au(S:List ay):List Nat:=S.map (·.b)
def live(X:Nat->Prop)(S:List ay)(b:Nat):Prop:=X b\/b∈au S
structure Fr (w:World) (S:List Nat) (w':World) (S':List Nat):Prop where
 os:w'.os=w.os
 tape:w'.tape=w.tape
 output:w'.output=w.output
 size:w.heap.size<=w'.heap.size
 block:∀b,b<w.heap.size->b∉S->w'.heap[b]?=w.heap[b]?/\b∉S'
theorem Fr.refl(w:World)(S:List Nat):Fr w S w S:=⟨rfl,rfl,rfl,Nat.le_refl _,fun _ _ h=>⟨rfl,h⟩⟩
structure Own (w:World) (L:Nat->Prop) (S:List ay):Prop where
 at_:∀B∈S,mD w L B
 apart:(au S).Nodup
structure bP (C:cq) (x:St) (a:Act) (w:World):Prop where
 defers:a.defers=C.df
 size:a.tmps.size=x.n
 env:∀t,t<x.n->bF w (live C.X x.S) (look t x.env) (a.tmps.getD t undef)
 own:Own w (live C.X x.S) x.S
 fr:Fr C.w0 C.S0 w (au x.S)
 ex:∀b,C.X b->b<C.w0.heap.size/\b∉C.S0
 dI:∀g∈C.G,(g.1<C.w0.heap.size/\g.1∉C.S0/\¬C.X g.1)/\∀i v,g.2[i]?=some v->g9 C.w0 g.1 i v
def St.put(x:St)(t:Nat)(d:D):St:=⟨x.n,(t,d)::x.env,x.S⟩
theorem bP.put{C:cq}{x:St}{a:Act}{w:World}(h:bP C x a w){t:Nat}{d:D}{v:Value}(hd:bF w (live C.X x.S) d v):bP C (x.put t d) (a.put (some t) v) w:=by
 refine⟨h.defers,by simp[Act.put,St.put,h.size],fun i hi=>?_,h.own,h.fr,h.ex,h.dI⟩;have hs:=h.size;simp only[St.put,jj,Act.put] at hi |-;by_cases e:t=i
 ·subst e;rw[if_pos rfl];have:(a.tmps.setIfInBounds t v).getD t undef=v:=by
   simp[Array.getElem?_setIfInBounds,hs,hi]
  rw[this];exact hd
 rw[if_neg e];have:(a.tmps.setIfInBounds t v).getD i undef=a.tmps.getD i undef:=by
  simp[Array.getElem?_setIfInBounds_ne e]
 rw[this];exact h.env i hi
def Wk(x y:St):Prop:=∀C a w,bP C x a w->bP C y a w
theorem Wk.refl(x:St):Wk x x:=fun _ _ _ h=>h
theorem Wk.trans{x y z:St}(h:Wk x y)(k:Wk y z):Wk x z:=fun C a w s=>k C a w (h C a w s)
theorem Own.sub(h:Own w (live X S) S)(hs:S'.Sublist S):Own w (live X S') S' :=
 have E:(au S').Sublist (au S):=Sublist.map _ hs
 ⟨fun B I=>by
  obtain⟨h0,cur,h1,h2,h3,h4⟩:=h.at_ B (hs.subset I);refine⟨h0,cur,h1,h2,h3,fun i hi=>?_⟩;obtain⟨u,hu,hr⟩:=h4 i hi;exact⟨u,hu,hr.mono fun b _ hn=>⟨rfl,fun hl=>hn (hl.imp id fun q=>E.subset q)⟩⟩,h.apart.sublist E⟩
theorem Wk.drop(n:Nat)(l:List (Nat×D))(S S':List ay)(hs:S'.Sublist S):Wk ⟨n,l,S⟩ ⟨n,l,S'⟩:=fun C a w h =>
 have E:(au S').Sublist (au S):=Sublist.map _ hs
 ⟨h.defers,h.size,fun t ht=>(h.env t ht).mono fun b _ hn=>⟨rfl,fun hl=>hn (hl.imp id fun q=>E.subset q)⟩,h.own.sub hs,
  ⟨h.fr.os,h.fr.tape,h.fr.output,h.fr.size,fun b hb hn=>⟨(h.fr.block b hb hn).1,fun q=>(h.fr.block b hb hn).2 (E.subset q)⟩⟩,h.ex,h.dI⟩
theorem bF.eK{x y:Value}(h:bF w L (.v x) y):y=x:=by cases h;rfl
def aL(x:St):Operand->D
 | .tmp t=>bif Nat.blt t x.n then look t x.env else .cU
 | .const v=>.v v
 | .global g=>.v (.pointer (some ⟨g,0,none⟩))
 | .func f=>.dV (.func f) []
theorem bP.eval{C:cq}{x:St}{a:Act}{w:World}(h:bP C x a w)(o:Operand):bF w (live C.X x.S) (aL x o) (a.eval o):=by
 cases o with
 | tmp t =>
  simp only[aL,Act.eval];cases ht:Nat.blt t x.n with
  | true=>exact h.env t (Nat.le_of_ble_eq_true ht)
  | false=>exact .cU _
 | const v=>exact .v _
 | global g=>exact .v _
 | func f=>exact .dV (.func f) [] [] rfl (fun i h=>by simp at h)
theorem bP.flat{x:St}(h:bP C x a w){o:Operand}(ho:aL x o = .v u):a.eval o=u:=by
 have:=h.eval o;rw[ho] at this;exact this.eK
theorem bP.ec{x:St}(h:bP C x a w){k:Nat}(hk:x.S[k]?=some B):mD w (live C.X x.S) B:=h.own.at_ B (mem_of_getElem? hk)
theorem Az{k:Nat}(hk:S[k]?=some B):live X S B.b:=.inr (mem_map.2 ⟨B,mem_of_getElem? hk,rfl⟩)
theorem bP.kO{x:St}(h:bP C x a w){g:Nat×List Value}(hg:g∈C.G)(hi:g.2[i]?=some v):g9 w g.1 i v:=by
 obtain⟨⟨h1,h2,h3⟩,h4⟩:=h.dI g hg;exact(h4 i v hi).on (h.fr.block g.1 h1 h2).1
inductive Rd where
 | none
 | ec (k:Nat)
 | eP
def Same(C:cq)(x:St)(w w':World):Rd->Prop
 | .none=>True
 | .ec k=>∀B,x.S[k]?=some B->w'.heap[B.b]?=w.heap[B.b]?
 | .eP=>∀b,b<w.heap.size->¬live C.X x.S b->w'.heap[b]?=w.heap[b]?
theorem Same.self(C:cq)(x:St)(w:World):∀k,Same C x w w k
 | .none=>trivial
 | .ec _=>fun _ _=>rfl
 | .eP=>fun _ _ _=>rfl
def bG(P:Program)(G:List (Nat×List Value))(x:St)(o:Oper)(k:Rd)(d:D):Prop :=
 ∀C a w,C.G=G->bP C x a w->∃v,bF w (live C.X x.S) d v/\∀w',Same C x w w' k->(execOp a.eval o).run P w' = .ok (.value v) w'
variable {P:Program} {G:List (Nat×List Value)} {x:St} {o:Oper}
theorem z9(ho:o.op = .move y):bG P G x o .none (aL x y):=fun C a w _ h =>
 ⟨a.eval y,h.eval y,fun w' _=>by unfold execOp;simp[ho]⟩
theorem zC(ho:o.op = .assign y):bG P G x o .none (aL x y):=fun C a w _ h =>
 ⟨a.eval y,h.eval y,fun w' _=>by unfold execOp;simp[ho]⟩
theorem vq{c:Operand}{t:Bool}(ho:o.op = .pick c y z)(hc:aL x c = .v (.bool t)):bG P G x o .none (if t then aL x y else aL x z):=fun C a w _ h=>by
 refine⟨if t then a.eval y else a.eval z,by cases t<;>simp[h.eval],fun w' _=>?_⟩;unfold execOp;simp only[ho,h.flat hc,asBool];cases t<;>simp
def fX(P:Program)(op:BinOp)(t:TypeId)(u u' r:Value):Prop:=∀(y z:Operand) w,(do eqGuard op t y z u u';Go.binOp op t u u':Sem Value).run P w = .ok r w
theorem fc{op:BinOp}{t':TypeId}{u':Value}(ho:o.op = .binOp op t y z t')(hy:aL x y = .v u)(hz:aL x z = .v u')(hb:fX P op t u u' r):bG P G x o .none (.v r):=fun C a w _ h =>
 ⟨r,.v _,fun w' _=>by
  unfold execOp;have:=hb y z w';simp only[Sem.run_bind] at this;simp only[ho,h.flat hy,h.flat hz,Sem.run_bind,this,Result.andThen_ok,Sem.run_pure]⟩
theorem rJ{op:UnOp}(ho:o.op = .unOp op t y)(hy:aL x y = .v u)(hb:∀w,(Op.unary op u).run P w = .ok r w):bG P G x o .none (.v r):=fun C a w _ h =>
 ⟨r,.v _,fun w' _=>by
  unfold execOp;simp only[ho,h.flat hy,Sem.run_bind,hb w',Result.andThen_ok,Sem.run_pure]⟩
theorem u9{s:TypeId}(J:∀w,(underlying s).run P w = .ok (.struct I) w)(hf:I[i]?=some f)(hn:∀w,(sizeOf f.type).run P w = .ok (n+1) w)(E:f.offset=off) :
  (Instr.fieldAt s (.pointer (some ⟨b,o',none⟩)) i).run P w = .ok (.pointer (some ⟨b,o'+off,none⟩)) w:=by
 subst E;simp[Instr.fieldAt,J,hf,Instr.sureAddr,fieldPlace,hn,Addr.add_mid]
theorem vl {s:TypeId} (ho:o.op = .fieldAddr s y i) (hy:aL x y = .v (.pointer (some ⟨b,o',none⟩)))
  (J:∀w,(underlying s).run P w = .ok (.struct I) w) (hf:I[i]?=some f) (hn:∀w,(sizeOf f.type).run P w = .ok (n+1) w) (E:f.offset=off):bG P G x o .none (.v (.pointer (some ⟨b,o'+off,none⟩))):=fun C a w _ h =>
 ⟨_,.v _,fun w' _=>by
  unfold execOp;simp only[ho,h.flat hy,Sem.run_bind,u9 J hf hn E,Result.andThen_ok,Sem.run_pure]⟩
theorem zD {s:TypeId} {J:Array Field} (ho:o.op = .fieldAddr s y i) (hy:aL x y = .dh cs o')
  (K:∀w,(underlying s).run P w = .ok (.struct J) w) (hf:J[i]?=some f) (hn:∀w,(sizeOf f.type).run P w = .ok (n+1) w) (E:f.offset=off):bG P G x o .none (.dh cs (o'+off)):=fun C a w _ h=>by
 have hr:=h.eval y;rw[hy] at hr;generalize hg:a.eval y=u at hr;cases hr with
 | dh _ _ b I g hb hL hc hr =>
  refine⟨_,.dh cs (o'+off) b I g hb hL hc hr,fun w' _=>?_⟩;unfold execOp;simp only[ho,hg,Sem.run_bind,u9 K hf hn E,Result.andThen_ok,Sem.run_pure,Nat.add_assoc]
theorem zv(ho:o.op = .extract y i)(hy:aL x y = .dU cs)(hd:cs[i]?=some d):bG P G x o .none d:=fun C a w _ h=>by
 have hr:=h.eval y;rw[hy] at hr;generalize hg:a.eval y=u at hr;cases hr with
 | dU _ vs hl hr =>
  obtain⟨aH,he⟩:=List.getElem?_eq_some_iff.1 hd;refine⟨vs[i]'w8,?_,fun w' _=>?_⟩
  ·rw[<-he];exact hr _ aH w8
  unfold execOp;simp[ho,hg,Instr.extract,getElem?_eq_getElem (show i<vs.length by omega)]
theorem oW(ha:∀w,(isAgg t).run P w = .ok false w)(hc:w.cell? ⟨b,o',none⟩=some v) :
  (Instr.loadAt t (.pointer (some ⟨b,o',none⟩))).run P w = .ok v w:=by
 simp[Instr.loadAt,Instr.sureAddr,loadVar,ha,hc]
theorem oX {vs:List Value} (ha:∀w,(isAgg t).run P w = .ok true w) (hn:∀w,(sizeOf t).run P w = .ok n w) (hl:vs.length=n)
  (hc:∀j (h:j<vs.length),w.cell? ⟨b,o'+j,none⟩=some vs[j]) :
  (Instr.loadAt t (.pointer (some ⟨b,o',none⟩))).run P w = .ok (.agg vs.toArray) w:=by
 have:=run_loadCells_list (P:=P) w ⟨b,o',none⟩ vs (fun j v E=>by
  obtain⟨h1,h2⟩:=List.getElem?_eq_some_iff.1 E;rw[Addr.add_mid,hc j h1,h2])
 rw[hl] at this;simp[Instr.loadAt,Instr.sureAddr,loadVar,ha,hn,this]
theorem jk(E:w.heap[b]?=some (.cells cur e (0,0)))(I:cur[i]?=some u):w.cell? ⟨b,i,none⟩=some u:=by
 unfold World.cell?;simp[E,I]
theorem ri {k:Nat} (ho:o.op = .load t y) (hy:aL x y = .v (.pointer (some ⟨b,o',none⟩)))
  (hk:x.S[k]?=some B) (hb:B.b=b) (ha:∀w,(isAgg t).run P w = .ok false w) (hd:B.cs[o']?=some d) (hne:isMap B.e=false:=by rfl):bG P G x o (.ec k) d:=fun C a w _ h=>by
 obtain⟨_,cur,h1,h2,h3,h4⟩:=h.ec hk;rw[fS hne] at h1;obtain⟨aH,he⟩:=List.getElem?_eq_some_iff.1 hd;obtain⟨u,hu,hr⟩:=h4 o' aH;refine⟨u,by rw[<-he];exact hr,fun w' hw=>?_⟩;have E:w'.heap[B.b]?=_:=(hw B hk).trans h1;unfold execOp;subst hb;simp only[ho,h.flat hy,Sem.run_bind,oW ha (jk E hu),Result.andThen_ok,Sem.run_pure]
theorem q8 {k:Nat} (ho:o.op = .load t y) (hy:aL x y = .v (.pointer (some ⟨b,o',none⟩)))
  (hk:x.S[k]?=some B) (hb:B.b=b) (ha:∀w,(isAgg t).run P w = .ok true w) (hn:∀w,(sizeOf t).run P w = .ok n w) (hl:ds.length=n) (hd:(B.cs.drop o').take n=ds) (hne:isMap B.e=false:=by rfl):bG P G x o (.ec k) (.agg ds):=fun C a w _ h=>by
 obtain⟨_,cur,h1,h2,h3,h4⟩:=h.ec hk;rw[fS hne] at h1;have I:o'+n<=B.cs.length\/n=0:=by
  have:=congrArg length hd;simp only[length_take,length_drop] at this;omega
 have E:∀j,j<n->∃u,cur[o'+j]?=some u/\∀(h:j<ds.length),bF w (live C.X x.S) ds[j] u:=fun j hj=>by
  obtain⟨u,hu,hr⟩:=h4 (o'+j) w8;refine⟨u,hu,fun h=>?_⟩;subst hd;simpa using hr
 refine⟨.agg ((range n).map fun j=>cur.getD (o'+j) undef).toArray,.agg _ _ (by simp[hl]) (fun i q1 q2=>?_),fun w' hw=>?_⟩
 ·obtain⟨u,hu,hr⟩:=E i w8;simp only[getElem_map,getElem_range,Array.getD_eq_getD_getElem?,hu,Option.getD_some];exact hr q1
 have J:w'.heap[B.b]?=_:=(hw B hk).trans h1;unfold execOp;subst hb;have:=oX (P:=P) (w:=w') (b:=B.b) (o':=o') (vs:=(range n).map fun j=>cur.getD (o'+j) undef) ha hn cl (fun j hj=>by
  simp only[length_map,length_range] at hj;obtain⟨u,hu,_⟩:=E j hj;simp only[getElem_map,getElem_range,Array.getD_eq_getD_getElem?,hu,Option.getD_some];exact jk J hu)
 simp only[ho,h.flat hy,Sem.run_bind,this,Result.andThen_ok,Sem.run_pure]
theorem oQ (ho:o.op = .load t y) (hy:aL x y = .dh cs o')
  (ha:∀w,(isAgg t).run P w = .ok false w) (hd:cs[o']?=some d):bG P G x o .eP d:=fun C a w _ h=>by
 have hr:=h.eval y;rw[hy] at hr;generalize hg:a.eval y=u at hr;cases hr with
 | dh _ _ b E g hb hL hc hr =>
  obtain⟨aH,he⟩:=List.getElem?_eq_some_iff.1 hd;refine⟨g o',by rw[<-he];exact hr o' aH,fun w' hw=>?_⟩;have I:=World.cell?_of_block (w:=w) (a:=⟨b,E+o',none⟩) (hw b hb hL);unfold execOp;simp only[ho,hg,Sem.run_bind,oW ha (I.trans (hc o' aH)),Result.andThen_ok,Sem.run_pure]
theorem q6 (ho:o.op = .load t y) (hy:aL x y = .dh cs o')
  (ha:∀w,(isAgg t).run P w = .ok true w) (hn:∀w,(sizeOf t).run P w = .ok n w) (hl:ds.length=n) (hd:(cs.drop o').take n=ds):bG P G x o .eP (.agg ds):=fun C a w _ h=>by
 have hr:=h.eval y;rw[hy] at hr;generalize hg:a.eval y=u at hr;cases hr with
 | dh _ _ b E g hb hL hc hr =>
  have I:o'+n<=cs.length\/n=0:=by
   have:=congrArg length hd;simp only[length_take,length_drop] at this;omega
  refine⟨.agg ((range n).map fun j=>g (o'+j)).toArray,.agg _ _ (by simp[hl]) (fun i q1 q2=>?_),fun w' hw=>?_⟩
  ·simp only[getElem_map,getElem_range];have:=hr (o'+i) w8;subst hd;simpa using this
  have:=oX (P:=P) (w:=w') (b:=b) (o':=E+o') (vs:=(range n).map fun j=>g (o'+j)) ha hn cl (fun j hj=>by
   simp only[length_map,length_range] at hj;simp only[getElem_map,getElem_range];have J:=World.cell?_of_block (w:=w) (a:=⟨b,E+o'+j,none⟩) (hw b hb hL);rw[J,Nat.add_assoc];exact hc _ w8)
  unfold execOp;simp only[ho,hg,Sem.run_bind,this,Result.andThen_ok,Sem.run_pure]
theorem z0 {vs:List Value} (ho:o.op = .load t y) (hy:aL x y = .v (.pointer (some ⟨b,o',none⟩)))
  (hg:(b,vs)∈G) (ha:∀w,(isAgg t).run P w = .ok false w) (hd:vs[o']?=some v) (ja:hN v=true:=by rfl):bG P G x o .eP (.v v):=fun C a w E h=>by
 subst E;refine⟨v,.v _,fun w' hw=>?_⟩;have h1:=(h.kO hg hd).cell ja;obtain⟨⟨q1,q2,I⟩,_⟩:=h.dI _ hg;have hb:b<w.heap.size:=Nat.lt_of_lt_of_le q1 h.fr.size;have hn:¬live C.X x.S b:=fun hl=>hl.elim I (h.fr.block b q1 q2).2;have J:=World.cell?_of_block (w:=w) (a:=⟨b,o',none⟩) (hw b hb hn);unfold execOp;simp only[ho,h.flat hy,Sem.run_bind,oW ha (J.trans h1),Result.andThen_ok,Sem.run_pure]
theorem wF{i:Int}(E:∀w,(underlying t).run P w = .ok (.slice e) w)(hs:∀w,(sizeOf e).run P w = .ok sz w)(hi:i=j)(hj:j<len) :
  (Instr.indexAt t (.slice (some ⟨b,o',none⟩) len cap) (.int k i)).run P w = .ok (.pointer (some ⟨b,o'+j*sz,none⟩)) w:=by
 subst hi;simp[Instr.indexAt,asIntOf,E,hs,hj,Addr.add_mid]
theorem vL {i:Int} (ho:o.op = .indexAddr t y z) (hy:aL x y = .list sz cs len) (hz:aL x z = .v (.int k i))
  (I:∀w,(underlying t).run P w = .ok (.slice e) w) (hs:∀w,(sizeOf e).run P w = .ok sz w) (hi:i=j) (hj:j<len):bG P G x o .none (.dh cs (j*sz)):=fun C a w _ h=>by
 have hr:=h.eval y;rw[hy] at hr;generalize hg:a.eval y=u at hr;cases hr with
 | gz=>omega
 | list _ _ _ b E cap g hl h1 h2 hb hL hc hr =>
  refine⟨_,.dh cs (j*sz) b E g hb hL hc hr,fun w' _=>?_⟩;unfold execOp;simp only[ho,hg,h.flat hz,Sem.run_bind,wF I hs hi hj,Result.andThen_ok,Sem.run_pure]
theorem vr {i:Int} (ho:o.op = .indexAddr t y z) (hy:aL x y = .v (.slice (some ⟨b,o',none⟩) len cap)) (hz:aL x z = .v (.int k i))
  (E:∀w,(underlying t).run P w = .ok (.slice e) w) (hs:∀w,(sizeOf e).run P w = .ok sz w) (hi:i=j) (hj:j<len):bG P G x o .none (.v (.pointer (some ⟨b,o'+j*sz,none⟩))):=fun C a w _ h =>
 ⟨_,.v _,fun w' _=>by
  unfold execOp;simp only[ho,h.flat hy,h.flat hz,Sem.run_bind,wF E hs hi hj,Result.andThen_ok,Sem.run_pure]⟩
theorem AA{i:Int}(E:∀w,(underlying t).run P w = .ok (.array len e) w)(hs:∀w,(sizeOf e).run P w = .ok sz w)(hi:i=j)(hj:j<len) :
  (Instr.indexAt t (.pointer (some ⟨b,o',none⟩)) (.int k i)).run P w = .ok (.pointer (some ⟨b,o'+j*sz,none⟩)) w:=by
 subst hi;simp[Instr.indexAt,asIntOf,E,hs,hj,Addr.add_mid,Instr.sureAddr]
theorem Aa {i:Int} (ho:o.op = .indexAddr t y z) (hy:aL x y = .v (.pointer (some ⟨b,o',none⟩))) (hz:aL x z = .v (.int k i))
  (E:∀w,(underlying t).run P w = .ok (.array len e) w) (hs:∀w,(sizeOf e).run P w = .ok sz w) (hi:i=j) (hj:j<len):bG P G x o .none (.v (.pointer (some ⟨b,o'+j*sz,none⟩))):=fun C a w _ h =>
 ⟨_,.v _,fun w' _=>by
  unfold execOp;simp only[ho,h.flat hy,h.flat hz,Sem.run_bind,AA E hs hi hj,Result.andThen_ok,Sem.run_pure]⟩
theorem vt {s:ByteArray} {c:UInt8} {i:Int} (ho:o.op = .index t y z) (hy:aL x y = .v (.string s)) (hz:aL x z = .v (.int k i))
  (E:∀w,(underlying t).run P w = .ok .string w) (hi:i=j) (hj:s[j]?=some c):bG P G x o .none (.v (.int .u8 c.toNat)):=fun C a w _ h =>
 ⟨_,.v _,fun w' _=>by
  subst hi;unfold execOp;simp[ho,h.flat hy,h.flat hz,Instr.index,asIntOf,E,hj]⟩
theorem vu {i:Int} (ho:o.op = .index t y z) (hy:aL x y = .agg cs) (hz:aL x z = .v (.int k i))
  (E:∀w,(underlying t).run P w = .ok (.array len e) w) (hs:∀w,(sizeOf e).run P w = .ok sz w) (ha:∀w,(isAgg e).run P w = .ok false w) (hi:i=j) (hj:j<len) (hd:cs[j*sz]?=some d):bG P G x o .none d:=fun C a w _ h=>by
 have hr:=h.eval y;rw[hy] at hr;generalize hg:a.eval y=u at hr;subst hi;cases hr with
 | agg _ vs hl hr =>
  obtain⟨aH,he⟩:=List.getElem?_eq_some_iff.1 hd;refine⟨vs[j*sz]'w8,?_,fun w' _=>?_⟩
  ·rw[<-he];exact hr _ aH w8
  unfold execOp;simp[ho,hg,h.flat hz,Instr.index,asIntOf,E,hj,part,ha,hs,getElem?_eq_getElem (show j*sz<vs.length by omega)]
def gT(x:St)(y:Option Operand)(n:Nat)(CK:Nat):Prop :=
 match y with
 | some y=>∃(k:IntKind) (i:Int),aL x y = .v (.int k i)/\i=n
 | none=>n=CK
theorem kF(h:bP C x a w){y:Option Operand}{E:Nat}(hb:gT x y n E):(∃k,y.map a.eval=some (.int k n))\/(y.map a.eval=none/\n=E):=by
 cases y with
 | none=>exact .inr ⟨rfl,hb⟩
 | some y =>
  obtain⟨k,i,h1,h2⟩:=hb;exact .inl ⟨k,by rw[Option.map_some,h.flat h1,h2]⟩
theorem rj{code:BoundsCode}(h:n<=m):(Instr.sliceBound (.int k n) m code).run P w = .ok n w:=by
 unfold Instr.sliceBound;simp[asIntOf,h]
theorem mv{il:Bool}{l h:Nat}{E hi:Option Value}(I:(∃k,E=some (.int k l))\/(E=none/\l=0))(J:(∃k,hi=some (.int k h))\/(hi=none/\h=len))(h1:l<=h)(h2:h<=cap) :
  (Instr.sliceBounds il len cap E hi none).run P w = .ok (l,h,cap) w:=by
 unfold Instr.sliceBounds;rcases I with ⟨k,rfl⟩|⟨rfl,rfl⟩<;>rcases J with ⟨K,rfl⟩|⟨rfl,rfl⟩<;>simp[rj,h1,h2]
theorem q9 {l:Nat} {lo:Option Operand} (ho:o.op = .slice t y lo hi none) (hy:aL x y = .list sz cs len) (M:gT x lo l 0) (N:gT x hi h' len)
  (O:∀w,(underlying t).run P w = .ok (.slice e) w) (hs:∀w,(sizeOf e).run P w = .ok sz w) (h1:l<=h') (h2:h'<=len):bG P G x o .none (.list sz ((cs.drop (l*sz)).take ((h'-l)*sz)) (h'-l)):=fun C a w _ h=>by
 have hr:=h.eval y;rw[hy] at hr;generalize hg:a.eval y=u at hr;have U:=kF h M;have Y:=kF h N;cases hr with
 | gz _ ad cap =>
  have e1:l=0:=(by omega)
  have Z:h'=0:=(by omega)
  subst e1 Z;refine⟨.slice (if cap=0 then ad else ad.map (·.add (0*sz))) 0 cap,by simpa using bF.gz sz _ _,fun w' _=>?_⟩;unfold execOp;simp[ho,hg,Instr.sliceAt,Instr.slice,O,mv U Y (Nat.le_refl _) (Nat.zero_le _),hs]
 | list _ _ _ b I cap g hl q1 q2 hb hL hc hr =>
  have E:((cs.drop (l*sz)).take ((h'-l)*sz)).length=(h'-l)*sz:=by
   rw[length_take,length_drop,hl,<-Nat.sub_mul];exact Nat.min_eq_left (Nat.mul_le_mul_right _ w8)
  have K:∀i,i<(h'-l)*sz->l*sz+i<cs.length:=fun i hi=>by
   rw[hl];have:l*sz+(h'-l)*sz<=len*sz:=(by rw[<-Nat.add_mul];exact Nat.mul_le_mul_right _ w8)
   omega
  by_cases J:cap=l
  ·have Z:h'=l:=(by omega)
   refine⟨.slice (some ⟨b,I,none⟩) (h'-l) (cap-l),?_,fun w' _=>?_⟩
   ·refine .list sz _ _ b I _ g E w8 w8 hb hL (fun i hi=>?_) (fun i hi=>?_)<;>(rw[E,Z] at hi;simp at hi)
   have b3:=fun w=>mv (P:=P) (il:=true) (w:=w) U Y h1 (Nat.le_trans h2 q1);unfold execOp;simp only[ho,hg,Instr.sliceAt,Instr.slice,O,Sem.run_bind,Result.andThen_ok,Option.map_none,b3,hs,Sem.run_pure,if_pos J]
  refine⟨.slice (some ⟨b,I+l*sz,none⟩) (h'-l) (cap-l),?_,fun w' _=>?_⟩
  ·refine .list sz _ _ b (I+l*sz) _ (fun i=>g (l*sz+i)) E w8 w8 hb hL (fun i hi=>?_) (fun i hi=>?_)
   ·rw[Nat.add_assoc];exact hc _ (K i (by rw[E] at hi;exact hi))
   simp only[getElem_take,getElem_drop];exact hr _ _
  have b3:=fun w=>mv (P:=P) (il:=true) (w:=w) U Y h1 (Nat.le_trans h2 q1);unfold execOp;simp only[ho,hg,Instr.sliceAt,Instr.slice,O,Sem.run_bind,Result.andThen_ok,Option.map_none,b3,hs,Sem.run_pure,if_neg J,Option.map_some,Addr.add_mid]
theorem zE (ho:o.op = .slice t y J hi none) (hy:aL x y = .v (.slice (some ⟨b,o',none⟩) len cap)) (E:gT x J 0 0) (I:gT x hi h' len)
  (K:∀w,(underlying t).run P w = .ok (.slice e) w) (hs:∀w,(sizeOf e).run P w = .ok sz w) (h2:h'<=cap):bG P G x o .none (.v (.slice (some ⟨b,o',none⟩) h' cap)):=fun C a w _ h =>
 ⟨_,.v _,fun w' _=>by
  have M:=kF h E;have N:=kF h I;unfold execOp;simp[ho,h.flat hy,Instr.sliceAt,Instr.slice,K,mv M N (Nat.zero_le _) h2,hs,Addr.add_mid]⟩
theorem zF {s:ByteArray} {l:Nat} (ho:o.op = .slice t y J hi none) (hy:aL x y = .v (.string s)) (E:gT x J l 0) (I:gT x hi h' s.size)
  (K:∀w,(underlying t).run P w = .ok .string w) (h1:l<=h') (h2:h'<=s.size):bG P G x o .none (.v (.string (s.extract l h'))):=fun C a w _ h =>
 ⟨_,.v _,fun w' _=>by
  have M:=kF h E;have N:=kF h I;unfold execOp;simp[ho,h.flat hy,Instr.sliceAt,Instr.slice,K,mv M N h1 h2]⟩
theorem Ak(ho:o.op = .call {callee:=.builtin .len,args:=#[y],argTypes:=ts})(ht:ts = #[t])(hy:aL x y = .list sz cs len)(E:∀w,(underlying t).run P w = .ok (.slice e) w):bG P G x o .none (.v (.int .i64 len)):=fun C a w _ h=>by
 have hr:=h.eval y;rw[hy] at hr;generalize hg:a.eval y=u at hr;subst ht;refine⟨_,.v _,fun w' _=>?_⟩;cases hr<;>(unfold execOp;simp[ho,hg,resolve,invoke,builtin,Builtin.len_,E,goInt])
theorem vv(ho:o.op = .call {callee:=.builtin .len,args:=#[y],argTypes:=ts})(ht:ts = #[t])(hy:aL x y = .v (.slice ad len cap))(E:∀w,(underlying t).run P w = .ok (.slice e) w):bG P G x o .none (.v (.int .i64 len)):=fun C a w _ h=>by
 subst ht;refine⟨_,.v _,fun w' _=>?_⟩;unfold execOp;simp[ho,h.flat hy,resolve,invoke,builtin,Builtin.len_,E,goInt]
theorem kG {s:ByteArray} (ho:o.op = .call {callee:=.builtin .len,args:=#[y],argTypes:=ts}) (ht:ts = #[t]) (hy:aL x y = .v (.string s))
  (E:∀w,(underlying t).run P w = .ok .string w):bG P G x o .none (.v (.int .i64 s.size)):=fun C a w _ h=>by
 subst ht;refine⟨_,.v _,fun w' _=>?_⟩;unfold execOp;simp[ho,h.flat hy,resolve,invoke,builtin,Builtin.len_,E,goInt]
theorem zG {b:Builtin} {u':Value} (ho:o.op = .call {callee:=.builtin b,args:=#[y,z],argTypes:=ts}) (hy:aL x y = .v u) (hz:aL x z = .v u')
  (hb:∀cs w,(Go.builtin b ts o.type cs #[u,u']).run P w = .ok (.value r) w):bG P G x o .none (.v r):=fun C a w _ h =>
 ⟨_,.v _,fun w' _=>by
  unfold execOp;simp[ho,h.flat hy,h.flat hz,resolve,invoke,hb]⟩
theorem Ab{fn:Fn}{da:Array Operand}(ho:o.op = .makeFunc fn #[] da)(hd:da.toList.map (aL x)=ds):bG P G x o .none (.dV fn ds):=fun C a w _ h=>by
 subst hd;refine⟨.func fn #[] (da.toList.map a.eval).toArray,.dV _ _ _ cl (fun i q1 q2=>?_),fun w' _=>?_⟩
 ·simp only[getElem_map];exact h.eval _
 unfold execOp;simp[ho,Instr.makeFunc];rw[<-Array.toList_map,Array.toArray_toList]
def ik(W:List Nat)(w w':World):Prop:=w.heap.size<=w'.heap.size/\∀b,b<w.heap.size->b∉W->w'.heap[b]?=w.heap[b]?
def gh(P:Program)(G:List (Nat×List Value))(x:St)(o:Oper)(W:List Nat)(post:St->Prop):Prop :=
 ∀(C:cq) (a:Act) (w:World) (K:Act->World->Prop) (Q:Exit->Act->World->Prop),C.G=G->bP C x a w->(∀y a' w',post y->bP C y a' w'->ik W w w'->Fr w (au x.S) w' (au y.S)->K a' w')->o.wp P a w K Q
theorem ik.refl(W:List Nat)(w:World):ik W w w:=⟨Nat.le_refl _,fun _ _ _=>rfl⟩
theorem bG.eR{k:Rd}{t:Nat}(h:bG P G x o k d)(hd:o.dst=some t):gh P G x o [] (fun y=>y=x.put t d):=fun C a w K Q E hs I=>by
 obtain⟨v,hr,nO⟩:=h C a w E hs;unfold Oper.wp;rw[nO w (Same.self C x w k),Oper.upon_value,hd];exact I _ _ _ rfl (hs.put hr) (ik.refl _ _) (Fr.refl _ _)
def cellsOf:D->List D
 | .agg cs=>cs
 | .v (.agg cs)=>cs.toList.map .v
 | d=>[d]
def bY(w:World)(L:Nat->Prop)(ds:List D)(vs:List Value):Prop:=vs.length=ds.length/\∀i (h:i<ds.length) (h':i<vs.length),bF w L ds[i] vs[i]
theorem bY.mono{w w':World}{L E:Nat->Prop}{ds:List D}{vs:List Value}(h:bY w L ds vs)(H:∀b,b<w.heap.size->¬L b->w'.heap[b]?=w.heap[b]?/\¬E b):bY w' E ds vs :=
 ⟨h.1,fun i h1 h2=>(h.2 i h1 h2).mono H⟩
def one:D->Bool
 | .v x=>x.oneCell'
 | .list ..|.dh ..|.dV ..=>true
 | _=>false
theorem bF.rK(h:bF w L d v)(hd:one d=true):v.oneCell'=true:=by
 cases h<;>first|exact hd|rfl|exact absurd hd (by simp[one])
theorem bF.cells{w:World}{L:Nat->Prop}{d:D}{v:Value}(h:bF w L d v)(hd:d≠.cU):bY w L (cellsOf d) v.cells.toList:=by
 have E:∀(d:D) (v:Value),v.cells = #[v]->cellsOf d=[d]->bF w L d v->bY w L (cellsOf d) v.cells.toList:=fun d v h1 h2 I=>by
  rw[h1,h2];refine⟨rfl,fun i q1 q2=>?_⟩;have:i=0:=(by simpa using q1)
  subst this;exact I
 cases h with
 | v =>
  cases v with
  | agg cs =>
   refine⟨by simp[cellsOf,Value.cells],fun i q1 q2=>?_⟩;simp only[cellsOf,getElem_map,Value.cells];exact .v _
  | _=>exact E _ _ rfl rfl (.v _)
 | gz sz ad cap=>exact E _ _ rfl rfl (.gz sz ad cap)
 | list sz cs len b o cap f hl h1 h2 hb hL hc hr=>exact E _ _ rfl rfl (.list sz cs len b o cap f hl h1 h2 hb hL hc hr)
 | dh cs off b o f hb hL hc hr=>exact E _ _ rfl rfl (.dh cs off b o f hb hL hc hr)
 | agg cs vs hl hr=>exact⟨by simp[cellsOf,Value.cells,hl],fun i q1 q2=>hr i q1 q2⟩
 | dU cs vs hl hr=>exact E _ _ rfl rfl (.dU cs vs hl hr)
 | dV fn cs vs hl hr=>exact E _ _ rfl rfl (.dV fn cs vs hl hr)
 | mW l os h=>exact E _ _ rfl rfl (.mW l os h)
 | cU=>exact absurd rfl hd
theorem getElem?_push_lt{ob:Obj}(h:b<w.heap.size):(w.alloc ob).heap[b]?=w.heap[b]?:=Below.heap_alloc w ob b h
theorem bP.Cg (h:bP C x a w) {t:Nat} {cells:Array Value} {size:Nat} (hr:bY w (live C.X x.S) ds cells.toList) (J:cells.size=size)
  (hd:∀L,bF (w.alloc (ob e cells)) L d v) :
  bP C ⟨x.n,(t,d)::x.env,⟨w.heap.size,e,size,ds⟩::x.S⟩ (a.put (some t) v) (w.alloc (ob e cells)):=by
 have aH:∀b,live C.X x.S b->b<w.heap.size:=fun b hb=>by
  rcases hb with hb|hb
  ·exact Nat.lt_of_lt_of_le (h.ex b hb).1 h.fr.size
  obtain⟨B,I,rfl⟩:=mem_map.1 hb;exact(h.own.at_ B I).1
 have H:∀b,b<w.heap.size->¬live C.X x.S b->(w.alloc (ob e cells)).heap[b]?=w.heap[b]?/\¬live C.X (⟨w.heap.size,e,size,ds⟩::x.S) b:=fun b hb hn =>
  ⟨getElem?_push_lt hb,fun hl=>by
   rcases hl with hl|hl
   ·exact hn (.inl hl)
   simp only[au,map_cons,mem_cons] at hl;rcases hl with hl|hl
   ·omega
   exact hn (.inr hl)⟩
 have base:bP C ⟨x.n,x.env,⟨w.heap.size,e,size,ds⟩::x.S⟩ a (w.alloc (ob e cells)):=by
  refine⟨h.defers,h.size,fun t ht=>(h.env t ht).mono H,⟨fun B I=>?_,?_⟩,?_,h.ex,h.dI⟩
  ·rcases mem_cons.1 I with rfl|I
   ·refine⟨by simp,cells,heap_alloc_new w _,J,?_,fun i hi=>?_⟩
    ·have:=hr.1;simp at this;simp only;omega
    have E:i<cells.toList.length:=(by rw[hr.1];exact hi)
    refine⟨cells.toList[i],?_,(hr.2 i hi E).mono H⟩;simp at E;simp[E]
   obtain⟨h0,cur,h1,h2,h3,h4⟩:=h.own.at_ B I;refine⟨by simp;omega,cur,(getElem?_push_lt h0).trans h1,h2,h3,fun i hi=>?_⟩;obtain⟨u,hu,hq⟩:=h4 i hi;exact⟨u,hu,hq.mono H⟩
  ·show(w.heap.size::au x.S).Nodup;exact nodup_cons.2 ⟨fun hm=>Nat.lt_irrefl _ (aH _ (.inr hm)),h.own.apart⟩
  refine⟨h.fr.os,h.fr.tape,h.fr.output,by simp;have:=h.fr.size;omega,fun b hb hn=>?_⟩;obtain⟨q1,q2⟩:=h.fr.block b hb hn;have K:=Nat.lt_of_lt_of_le hb h.fr.size;refine⟨(getElem?_push_lt K).trans q1,fun hm=>?_⟩;simp only[au,map_cons,mem_cons] at hm;rcases hm with hm|hm
  ·omega
  exact q2 hm
 exact base.put (hd _)
theorem bP.new (h:bP C x a w) {t:Nat} {cells:Array Value} {size:Nat} (hr:bY w (live C.X x.S) ds cells.toList) (E:cells.size=size)
  (hd:∀L,bF (w.alloc (.cells cells e)) L d v) (hne:isMap e=false:=by rfl) :
  bP C ⟨x.n,(t,d)::x.env,⟨w.heap.size,e,size,ds⟩::x.S⟩ (a.put (some t) v) (w.alloc (.cells cells e)):=by
 have:=bP.Cg h (e:=e) hr E (t:=t) (d:=d) (v:=v) (fun L=>by rw[fS hne];exact hd L);rw[fS hne] at this;exact this
theorem ik.alloc(w:World)(ob:Obj):ik [] w (w.alloc ob):=⟨by simp,fun b hb _=>getElem?_push_lt hb⟩
theorem Fr.alloc(w:World)(ob:Obj)(S:List Nat):Fr w S (w.alloc ob) (w.heap.size::S) :=
 ⟨rfl,rfl,rfl,by simp,fun b hb hn=>⟨getElem?_push_lt hb,fun hm=>by
  rcases mem_cons.1 hm with hm|hm
  ·omega
  exact hn hm⟩⟩
def xg(x:St)(t:Nat)(e:TypeId)(ds:List D)(y:St):Prop:=∃b,y=⟨x.n,(t,.v (.pointer (some ⟨b,0,none⟩)))::x.env,⟨b,e,ds.length,ds⟩::x.S⟩
theorem Al{z:Value}{t:Nat}(ho:o.op = .alloc e)(hd:o.dst=some t)(hz:∀w,(zeroValue e).run P w = .ok z w)(jb:z.cells.toList.map .v=ds)(hne:isMap e=false:=by rfl):gh P G x o [] (xg x t e ds):=fun C a w K Q I h E=>by
 subst jb;unfold Oper.wp;have:(execOp a.eval o).run P w = .ok (.value (.pointer (some ⟨w.heap.size,0,none⟩))) (w.alloc (.cells z.cells e)):=by
  unfold execOp;simp[ho,Instr.alloc,hz,newVar,newRow]
 rw[this,Oper.upon_value,hd];refine E _ _ _ ⟨w.heap.size,rfl⟩ (h.new (ds:=z.cells.toList.map .v) ⟨by simp,fun i q1 q2=>?_⟩ cl (fun L=>.v _) hne) (ik.alloc _ _) (Fr.alloc _ _ _);simp only[getElem_map];exact .v _
theorem A2{t:Nat}(ho:o.op = .box e y)(hd:o.dst=some t)(hy:aL x y=d)(hj:d≠.cU)(jb:cellsOf d=ds)(hne:isMap e=false:=by rfl):gh P G x o [] (xg x t e ds):=fun C a w K Q I h E=>by
 subst jb;unfold Oper.wp;have:(execOp a.eval o).run P w = .ok (.value (.pointer (some ⟨w.heap.size,0,none⟩))) (w.alloc (.cells (a.eval y).cells e)):=by
  unfold execOp;simp[ho,Instr.box,newVar,newRow]
 rw[this,Oper.upon_value,hd];have hr:=h.eval y;rw[hy] at hr;have hc:=hr.cells hj;refine E _ _ _ ⟨w.heap.size,rfl⟩ (h.new (ds:=cellsOf d) hc (by have:=hc.1;simpa using this) (fun L=>.v _) hne) (ik.alloc _ _) (Fr.alloc _ _ _)
def eX(cs:List D)(off:Nat):List D->List D
 | []=>cs
 | d::r=>eX (cs.set off d) (off+1) r
def fD(place:Nat->Option (Nat×Nat))(cells:List D):List (Nat×D)->Option (List D)
 | []=>some cells
 | (i,d)::rest =>
  match place i with
  | none=>none
  | some (off,size)=>if (cellsOf d).length≠size||off+(cellsOf d).length>cells.length then none else fD place (eX cells off (cellsOf d)) rest
theorem bY.set{w:World}{L:Nat->Prop}{ds:List D}{vs:List Value}(h:bY w L ds vs)(i:Nat){d:D}{v:Value}(hd:bF w L d v):bY w L (ds.set i d) (vs.set i v) :=
 ⟨by simp[h.1],fun j h1 h2=>by
  rw[getElem_set,getElem_set];split
  ·exact hd
  exact h.2 j _ _⟩
theorem bY.tail{vs:List Value}(h:bY w L (d::ds) (v::vs)):bF w L d v/\bY w L ds vs :=
 ⟨h.2 0 cl cl,by simpa using h.1,fun i h1 h2=>h.2 (i+1) (by simpa using h1) (by simpa using h2)⟩
theorem rA{β:Type}(f:β->Value->Nat->β):∀(r:List Value) (k:Nat) (z:β),(r.zipIdx (k+1)).foldl (fun c (x:Value×Nat)=>f c x.1 x.2) z=(r.zipIdx k).foldl (fun c (x:Value×Nat)=>f c x.1 (x.2+1)) z
 | [],_,_=>rfl
 | v::r,k,z=>by
  simp only[zipIdx_cons,foldl_cons];exact rA f r (k+1) _
theorem bY.eX{w:World}{L:Nat->Prop}:∀(ds:List D) (vs:List Value) (cs:List D) (cells:List Value) (off:Nat),bY w L ds vs->bY w L cs cells->bY w L (eX cs off ds) (vs.zipIdx.foldl (fun cs (c,j)=>cs.set (off+j) c) cells)
 | [],[],cs,cells,off,_,h=>h
 | [],_::_,_,_,_,h,_=>by simp[bY] at h
 | _::_,[],_,_,_,h,_=>by simp[bY] at h
 | d::ds,v::vs,cs,cells,off,h,hc=>by
  obtain⟨h0,h1⟩:=h.tail;have E:=bY.eX ds vs (cs.set off d) (cells.set off v) (off+1) h1 (hc.set off h0);have e:(v::vs).zipIdx.foldl (fun cs (x:Value×Nat)=>cs.set (off+x.2) x.1) cells=vs.zipIdx.foldl (fun cs (x:Value×Nat)=>cs.set (off+1+x.2) x.1) (cells.set off v):=by
   rw[zipIdx_cons,foldl_cons,Nat.add_zero,rA (fun (c:List Value) v n=>c.set (off+n) v)];congr 1;funext a b;rw[Nat.add_assoc,Nat.add_comm 1]
  rw[e];exact E
theorem oY:∀(l:List (Value×Nat)) (cells:Array Value) (off:Nat),(l.foldl (fun cs (x:Value×Nat)=>cs.setIfInBounds (off+x.2) x.1) cells).toList=l.foldl (fun cs (x:Value×Nat)=>cs.set (off+x.2) x.1) cells.toList
 | [],_,_=>rfl
 | (v,j)::l,cells,off=>by
  simp only[foldl_cons];rw[oY l];simp
theorem ph{w:World}{L:Nat->Prop}(I:Nat->Option (Nat×Nat)):∀(E:List (Nat×D)) (jw:List (Nat×Value)) (cs:List D) (cells:Array Value) (ds:List D),
  E.length=jw.length->(∀i (h:i<E.length) (h':i<jw.length),E[i].1=jw[i].1/\E[i].2≠.cU/\bF w L E[i].2 jw[i].2)->bY w L cs cells.toList->fD I cs E=some ds ->
  ∃J,Instr.fill I cells jw=some J/\bY w L ds J.toList
 | [],[],cs,cells,ds,_,_,hc,hf=>by
  simp only[fD,Option.some.injEq] at hf;subst hf;exact⟨cells,rfl,hc⟩
 | [],_::_,_,_,_,h,_,_,_=>by simp at h
 | _::_,[],_,_,_,h,_,_,_=>by simp at h
 | (i,d)::E,(j,v)::jw,cs,cells,ds,hl,hp,hc,hf=>by
  obtain⟨h1,h2,h3⟩:=hp 0 cl cl;simp only[getElem_cons_zero] at h1 h2 h3;subst h1;have K:=h3.cells h2;have N:v.cells.size=(cellsOf d).length:=(by have:=K.1;simpa using this)
  have O:cells.size=cs.length:=(by have:=hc.1;simpa using this)
  unfold fD at hf;unfold Instr.fill;cases M:I i with
  | none=>rw[M] at hf;simp at hf
  | some os =>
   obtain⟨off,size⟩:=os;simp only[M] at hf |-;rw[N,O];split at hf
   ·cases hf
   rename_i hn;rw[if_neg hn];refine ph I E jw _ _ ds (by simpa using hl) (fun i h h'=>hp (i+1) (by simpa using h) (by simpa using h')) ?_ hf;have:=bY.eX (w:=w) (L:=L) (cellsOf d) v.cells.toList cs cells.toList off K hc;rw[<-oY] at this;have e:v.cells.zipIdx.foldl (fun cs (x:Value×Nat)=>cs.setIfInBounds (off+x.2) x.1) cells=v.cells.toList.zipIdx.foldl (fun cs (x:Value×Nat)=>cs.setIfInBounds (off+x.2) x.1) cells:=by
    rw[<-Array.foldl_toList,Array.toList_zipIdx]
   rw[e];exact this
theorem bY.jw(w:World)(L:Nat->Prop)(vs:List Value):bY w L (vs.map .v) vs:=⟨by simp,fun i h1 h2=>by simp only[getElem_map];exact .v _⟩
def fe(x:St)(ps:Array (Nat×Operand)):List (Nat×D):=ps.toList.map fun p=>(p.1,aL x p.2)
theorem rB(h:bP C x a w)(ps:Array (Nat×Operand))(hj:∀p∈fe x ps,p.2≠.cU):(fe x ps).length=((ps.map fun p=>(p.1,a.eval p.2)).toList).length /\
  ∀i (h1:i<(fe x ps).length) (h2:i<((ps.map fun p=>(p.1,a.eval p.2)).toList).length),(fe x ps)[i].1=((ps.map fun p=>(p.1,a.eval p.2)).toList)[i].1/\(fe x ps)[i].2≠.cU/\bF w (live C.X x.S) (fe x ps)[i].2 ((ps.map fun p=>(p.1,a.eval p.2)).toList)[i].2:=by
 refine⟨by simp[fe],fun i h1 h2=>⟨?_,hj _ (getElem_mem h1),?_⟩⟩
 ·simp[fe]
 simp only[fe,getElem_map,Array.toList_map];exact h.eval _
theorem z1 {E:Array Field} {places:Array (Nat×Nat)} {z:Value} (ho:o.op = .build t ps) (hz:∀w,(zeroValue t).run P w = .ok z w)
  (I:∀w,(underlying t).run P w = .ok (.struct E) w) (hp:∀w,(E.mapM fun f=>do pure (f.offset,<-sizeOf f.type):Sem (Array (Nat×Nat))).run P w = .ok places w)
  (hj:∀p∈fe x ps,p.2≠.cU) (hd:fD (places[·]?) (z.cells.toList.map .v) (fe x ps)=some ds):bG P G x o .none (.agg ds):=fun C a w _ h=>by
 obtain⟨q1,q2⟩:=rB h ps hj;obtain⟨nC,h1,h2⟩:=ph (w:=w) (L:=live C.X x.S) (places[·]?) (fe x ps) ((ps.map fun p=>(p.1,a.eval p.2)).toList) _ z.cells ds q1 q2 (bY.jw _ _ _) hd;refine⟨.agg nC.toList.toArray,.agg _ _ h2.1 h2.2,fun w' _=>?_⟩;unfold execOp;simp only[ho,Instr.build,hz,I,hp,Sem.run_bind,Result.andThen_ok,h1,Sem.run_pure,Array.toArray_toList]
theorem zH {z:Value} (ho:o.op = .build t ps) (hz:∀w,(zeroValue t).run P w = .ok z w)
  (E:∀w,(underlying t).run P w = .ok (.array n e) w) (hs:∀w,(sizeOf e).run P w = .ok sz w)
  (hj:∀p∈fe x ps,p.2≠.cU) (hd:fD (fun i=>some (i*sz,sz)) (z.cells.toList.map .v) (fe x ps)=some ds):bG P G x o .none (.agg ds):=fun C a w _ h=>by
 obtain⟨q1,q2⟩:=rB h ps hj;obtain⟨nC,h1,h2⟩:=ph (w:=w) (L:=live C.X x.S) (fun i=>some (i*sz,sz)) (fe x ps) ((ps.map fun p=>(p.1,a.eval p.2)).toList) _ z.cells ds q1 q2 (bY.jw _ _ _) hd;refine⟨.agg nC.toList.toArray,.agg _ _ h2.1 h2.2,fun w' _=>?_⟩;unfold execOp;simp only[ho,Instr.build,hz,E,hs,Sem.run_bind,Result.andThen_ok,h1,Sem.run_pure,Array.toArray_toList]
def A3(x:St)(t:Nat)(e:TypeId)(len:Nat)(ds:List D)(y:St):Prop:=∃b,y=⟨x.n,(t,.v (.slice (some ⟨b,0,none⟩) len len))::x.env,⟨b,e,ds.length,ds⟩::x.S⟩
theorem u7 {z:Value} {zs:List D} (ho:o.op = .buildSlice t len ps) (fq:o.dst=some tt) (hz:∀w,(zeroValue e).run P w = .ok z w)
  (I:∀w,(underlying t).run P w = .ok (.slice e) w) (hs:∀w,(sizeOf e).run P w = .ok sz w) (hl:0<len*sz) (j8:len*sz<=2 ^ 24) (cW:(Array.range (len*sz)).map (fun i=>z.cells[i % z.cells.size]!)=(zs.map (fun d=>match d with|.v u=>u|_=>undef)).toArray) (J:∀d∈zs,∃u,d = .v u)
  (hj:∀p∈fe x ps,p.2≠.cU) (hd:fD (fun i=>some (i*sz,sz)) zs (fe x ps)=some ds) (hne:isMap e=false:=by rfl):gh P G x o [] (A3 x tt e len ds):=fun C a w K Q U h O=>by
 obtain⟨q1,q2⟩:=rB h ps hj;have M:bY w (live C.X x.S) zs ((zs.map (fun d=>match d with|.v u=>u|_=>undef)).toArray).toList:=by
  refine⟨by simp,fun i h1 h2=>?_⟩;obtain⟨u,I⟩:=J _ (getElem_mem h1);simp only[getElem_map,I];exact .v _
 obtain⟨nC,h1,h2⟩:=ph (w:=w) (L:=live C.X x.S) (fun i=>some (i*sz,sz)) (fe x ps) ((ps.map fun p=>(p.1,a.eval p.2)).toList) _ _ ds q1 q2 M hd;unfold Oper.wp;have:(execOp a.eval o).run P w = .ok (.value (.slice (some ⟨w.heap.size,0,none⟩) len len)) (w.alloc (.cells nC e)):=by
  unfold execOp;have E:¬len*sz=0:=(by omega)
  have N:¬len*sz>2 ^ 24:=(by omega)
  simp only[ho,Instr.buildSlice,hz,I,hs,Sem.run_bind,Result.andThen_ok,Sem.run_pure,if_neg E,if_neg N,cW,h1];simp[newRow]
 rw[this,Oper.upon_value,fq];exact O _ _ _ ⟨w.heap.size,rfl⟩ (h.new (ds:=ds) h2 (by have:=h2.1;simpa using this) (fun L=>.v _) hne) (ik.alloc _ _) (Fr.alloc _ _ _)
theorem va(b:Nat):∀(vs:List Value) (o':Nat) (w:World) (cur:Array Value) (e:TypeId),w.heap[b]?=some (.cells cur e (0,0))->o'+vs.length<=cur.size ->
  (w.setCells b o' vs).heap[b]?=some (.cells (vs.zipIdx.foldl (fun cs (x:Value×Nat)=>cs.setIfInBounds (o'+x.2) x.1) cur) e (0,0))/\(∀k,k≠b->(w.setCells b o' vs).heap[k]?=w.heap[k]?)/\(w.setCells b o' vs).heap.size=w.heap.size /\
  (w.setCells b o' vs).os=w.os/\(w.setCells b o' vs).tape=w.tape/\(w.setCells b o' vs).output=w.output
 | [],o',w,cur,e,h,_=>⟨h,fun _ _=>rfl,rfl,rfl,rfl,rfl⟩
 | v::r,o',w,cur,e,h,hl=>by
  have h0:(w.setCell ⟨b,o',none⟩ v).heap[b]?=some (.cells (cur.setIfInBounds o' v) e (0,0)):=by
   simp[World.setCell,Array.getElem?_modify,h]
  obtain⟨i1,i2,i3,i4,i5,i6⟩:=va b r (o'+1) (w.setCell ⟨b,o',none⟩ v) (cur.setIfInBounds o' v) e h0 (by simp at hl |-;omega);refine⟨?_,fun k hk=>?_,?_,i4,i5,i6⟩
  ·rw[World.setCells,i1,zipIdx_cons,foldl_cons,Nat.add_zero,rA (fun (c:Array Value) v n=>c.setIfInBounds (o'+n) v)];congr 3;funext a b;rw[Nat.add_assoc,Nat.add_comm 1]
  ·rw[World.setCells,i2 k hk,Below.heap_setCell _ _ _ _ hk]
  rw[World.setCells,i3];simp
theorem vc:∀(ds cs:List D) (off:Nat),(eX cs off ds).length=cs.length
 | [],cs,off=>rfl
 | d::ds,cs,off=>by rw[eX,vc ds];simp
theorem bP.store(h:bP C x a w){k:Nat}{vs:List Value}(hk:x.S[k]?=some B)(hr:bY w (live C.X x.S) ds vs)(hl:o'+ds.length<=B.cs.length)(hne:isMap B.e=false:=by rfl) :
  bP C ⟨x.n,x.env,x.S.set k {B with cs:=eX B.cs o' ds}⟩ a (w.setCells B.b o' vs)/\ik [B.b] w (w.setCells B.b o' vs)/\Fr w (au x.S) (w.setCells B.b o' vs) (au (x.S.set k {B with cs:=eX B.cs o' ds})):=by
 obtain⟨h0,cur,h1,h2,h3,h4⟩:=h.ec hk;rw[fS hne] at h1;have l8:vs.length=ds.length:=hr.1;obtain⟨i1,i2,i3,i4,i5,i6⟩:=va B.b vs o' w cur B.e h1 w8;have U:k<x.S.length:=(List.getElem?_eq_some_iff.1 hk).1;have Z:x.S[k]=B:=(List.getElem?_eq_some_iff.1 hk).2;have E:au (x.S.set k {B with cs:=eX B.cs o' ds})=au x.S:=by
  unfold au;rw[map_set];apply ext_getElem cl;intro i q1 q2;rw[getElem_set];split
  ·rename_i e;subst e;simp[Z]
  rfl
 have I:live C.X (x.S.set k {B with cs:=eX B.cs o' ds})=live C.X x.S:=(by funext b;simp only[live,E])
 have hB:live C.X x.S B.b:=Az hk;have H:∀b,b<w.heap.size->¬live C.X x.S b->(w.setCells B.b o' vs).heap[b]?=w.heap[b]?/\¬live C.X x.S b:=fun b _ hn=>⟨i2 b (fun e=>hn (e ▸ hB)),hn⟩
 refine⟨⟨h.defers,h.size,fun t ht=>?_,⟨fun B' DV=>?_,?_⟩,?_,h.ex,h.dI⟩,⟨by rw[i3];exact Nat.le_refl _,fun b _ hn=>i2 b (by simpa using hn)⟩,?_⟩
 ·simp only[I];exact(h.env t ht).mono H
 ·simp only[I];obtain⟨j,hj,J⟩:=mem_iff_getElem.1 DV;rw[length_set] at hj;rw[getElem_set] at J;by_cases e:k=j
  ·rw[if_pos e] at J;subst J;refine⟨by rw[i3];exact h0,_,i1.trans (by rw[fS hne]),?_,by simp only[vc];exact h3,fun i hi=>?_⟩
   ·have:=oY vs.zipIdx cur o';have K:=congrArg length this;have CL:∀(l:List (Value×Nat)) (c:List Value),(l.foldl (fun cs (x:Value×Nat)=>cs.set (o'+x.2) x.1) c).length=c.length:=by
     intro l;induction l with
     | nil=>intro c;rfl
     | cons p l ih=>intro c;rw[foldl_cons,ih];simp
    rw[CL] at K;simp only[Array.length_toList] at K;rw[K,h2]
   have cB:bY w (live C.X x.S) B.cs (cur.toList.take B.cs.length):=by
    refine⟨by simp;omega,fun i q1 q2=>?_⟩;obtain⟨u,hu,O⟩:=h4 i q1;have:(cur.toList.take B.cs.length)[i]=u:=by
     rw[getElem_take];rw[<-Array.getElem?_toList,List.getElem?_eq_some_iff] at hu;exact hu.2
    rw[this];exact O
   have M:=bY.eX ds vs B.cs (cur.toList.take B.cs.length) o' hr cB;have Y:∀(l:List (Value×Nat)) (c:List Value),(∀p∈l,o'+p.2<B.cs.length)->l.foldl (fun cs (x:Value×Nat)=>cs.set (o'+x.2) x.1) (c.take B.cs.length)=(l.foldl (fun cs (x:Value×Nat)=>cs.set (o'+x.2) x.1) c).take B.cs.length:=by
    intro l;induction l with
    | nil=>intro c _;rfl
    | cons p l ih =>
     intro c hp;rw[foldl_cons,foldl_cons,<-ih _ (fun q O=>hp q (mem_cons_of_mem _ O)),take_set]
   rw[Y vs.zipIdx cur.toList (fun p hp=>by have:=mem_zipIdx hp;omega),<-oY] at M;simp only at hi;have yw:=hi;rw[<-M.1] at yw;have O:=M.2 i hi yw;rw[getElem_take] at O;refine⟨_,?_,O.mono H⟩;rw[<-Array.getElem?_toList,getElem?_eq_getElem]
  rw[if_neg e] at J;subst J;have hne:x.S[j].b≠B.b:=fun he=>by
   have hn:=h.own.apart;have yx:(au x.S)[j]'(by simpa[au] using hj)=(au x.S)[k]'(by simpa[au] using U):=(by simp[au,he,Z])
   have hp:=pairwise_iff_getElem.1 hn;rcases Nat.lt_trichotomy j k with N|N|N
   ·exact hp j k (by simpa[au] using hj) (by simpa[au] using U) N yx
   ·exact e N.symm
   exact hp k j (by simpa[au] using U) (by simpa[au] using hj) N yx.symm
  obtain⟨r0,sH,r1,r2,r3,r4⟩:=h.own.at_ x.S[j] (getElem_mem hj);refine⟨by rw[i3];exact r0,sH,(i2 _ hne).trans r1,r2,r3,fun i hi=>?_⟩;obtain⟨u,hu,O⟩:=r4 i hi;exact⟨u,hu,O.mono H⟩
 ·simp only[E];exact h.own.apart
 ·refine⟨i4.trans h.fr.os,i5.trans h.fr.tape,i6.trans h.fr.output,by rw[i3];exact h.fr.size,fun b hb hn=>?_⟩;obtain⟨q1,q2⟩:=h.fr.block b hb hn;refine⟨(i2 b (fun e=>q2 (e ▸ mem_map.2 ⟨B,mem_of_getElem? hk,rfl⟩))).trans q1,?_⟩;simp only[E];exact q2
 rw[E];exact⟨i4,i5,i6,by rw[i3];exact Nat.le_refl _,fun b hb hn=>⟨i2 b (fun e=>hn (e ▸ mem_map.2 ⟨B,mem_of_getElem? hk,rfl⟩)),hn⟩⟩
theorem vM {k:Nat} (ho:o.op = .store t y z) (fq:o.dst=none) (hy:aL x y = .v (.pointer (some ⟨b,o',none⟩)))
  (hk:x.S[k]?=some B) (hb:B.b=b) (hz:aL x z=d) (hj:d≠.cU) (h1:(cellsOf d).all one=true) (hn:∀w,(sizeOf t).run P w = .ok n w) (j9:(cellsOf d).length=n) (hl:o'+n<=B.cs.length) (cB:eX B.cs o' (cellsOf d)=cs') (hne:isMap B.e=false:=by rfl) :
  gh P G x o [b] (fun y=>y=⟨x.n,x.env,x.S.set k {B with cs:=cs'}⟩):=fun C a w K Q Z h O=>by
 subst cB hb;have hr:=h.eval z;rw[hz] at hr;have hc:=hr.cells hj;obtain⟨s1,s2,U⟩:=h.store hk hc (o':=o') w8 hne;obtain⟨h0,cur,q1,q2,q3,q4⟩:=h.ec hk;rw[fS hne] at q1;have M:(a.eval z).cells.toList.length=n:=(by rw[hc.1,j9])
 have E:=run_storeCells_cells (P:=P) B.b o' (a.eval z).cells.toList 0 w (fun j hj=>by
   have:(o'+0+j)<cur.size:=(by omega)
   rw[jk q1 (u:=cur[o'+0+j]) (by simp[this])];rfl)
  (fun j hj=>by unfold World.frozen?;simp[q1]) (fun v Y=>by
   obtain⟨j,hj,rfl⟩:=mem_iff_getElem.1 Y;have J:j<(cellsOf d).length:=(by rw[<-hc.1];exact hj)
   exact(hc.2 j J hj).rK (all_eq_true.1 h1 _ (getElem_mem J)))
 have I:(execOp a.eval o).run P w = .ok .skip (w.setCells B.b o' (a.eval z).cells.toList):=by
  unfold execOp;have N:(a.eval z).cells.size=n:=(by simpa using M)
  simp only[Nat.add_zero] at E;simp[ho,h.flat hy,Instr.storeAt,Instr.sureAddr,storeVar,hn,N,E]
 unfold Oper.wp;rw[I,Oper.upon_skip,fq];exact O _ _ _ rfl s1 s2 U
structure ke (G:List (Nat×List Value)) (X:Nat->Prop) (w:World) (S:List ay) (args:List D) (vs:List Value):Prop where
 ex:∀b,X b->b<w.heap.size/\b∉au S
 dI:∀g∈G,(g.1<w.heap.size/\g.1∉au S/\¬X g.1)/\∀i v,g.2[i]?=some v->g9 w g.1 i v
 own:Own w (live X S) S
 args:bY w (live X S) args vs
def VC(P:Program)(G:List (Nat×List Value))(f:FuncId)(args:List D)(S:List ay)(post:D->List ay->Prop):Prop :=
 ∀(X:Nat->Prop) (w:World) (vs:List Value),ke G X w S args vs->Calls P f vs.toArray w fun e w'=>∃v r S',e = .returned v/\post r S'/\Own w' (live X S') S'/\bF w' (live X S') r v/\Fr w (au S) w' (au S')
abbrev VP(P:Program)(G:List (Nat×List Value))(f:FuncId)(args:List D)(r:D):Prop:=VC P G f args [] fun r' S'=>r'=r/\S'=[]
theorem kH(hp:S.Perm (Sf++R)):live X S=live (fun b=>X b\/b∈au R) Sf:=by
 funext b;have:(au S).Perm (au Sf++au R):=(by have:=hp.map ay.b;simpa[au] using this)
 have:=this.mem_iff (a:=b);simp only[live,mem_append] at *;rw[this];exact propext ⟨fun h=>by rcases h with h|h|h<;>simp[h],fun h=>by rcases h with (h|h)|h<;>simp[h]⟩
theorem bP.call(h:bP C x a w)(hG:C.G=G){f:FuncId}{vs:List Value}(hc:VC P G f args Sf post)(hp:x.S.Perm (Sf++R))(hr:bY w (live C.X x.S) args vs) :
  Calls P f vs.toArray w fun e w'=>∃v r S',e = .returned v/\post r S'/\bF w' (live C.X (S'++R)) r v/\bP C ⟨x.n,x.env,S'++R⟩ a w'/\ik (au Sf) w w'/\Fr w (au x.S) w' (au (S'++R)):=by
 have hb:(au x.S).Perm (au Sf++au R):=(by have:=hp.map ay.b;simpa[au] using this)
 have hL:=kH (X:=C.X) hp;have hnd:(au Sf++au R).Nodup:=hb.nodup_iff.1 h.own.apart;obtain⟨n1,n2,n3⟩:=nodup_append.1 hnd;have M:∀b,b∈au R->b<w.heap.size:=fun b tU=>by
  obtain⟨B,K,rfl⟩:=mem_map.1 tU;exact(h.own.at_ B (hp.symm.subset (mem_append_right _ K))).1
 have O:ke G (fun b=>C.X b\/b∈au R) w Sf args vs:=by
  refine⟨fun b hx=>?_,fun g hg=>?_,⟨fun B K=>?_,n1⟩,?_⟩
  ·rcases hx with hx|hx
   ·obtain⟨q1,q2⟩:=h.ex b hx;exact⟨Nat.lt_of_lt_of_le q1 h.fr.size,fun hm=>(h.fr.block b q1 q2).2 (hb.symm.subset (mem_append_left _ hm))⟩
   exact⟨M b hx,fun hm=>n3 b hm b hx rfl⟩
  ·rw[<-hG] at hg;obtain⟨⟨q1,q2,U⟩,q4⟩:=h.dI g hg;have q5:=(h.fr.block g.1 q1 q2).2;refine⟨⟨Nat.lt_of_lt_of_le q1 h.fr.size,fun hm=>q5 (hb.symm.subset (mem_append_left _ hm)),fun hx=>?_⟩,fun i v hi=>h.kO hg hi⟩;rcases hx with hx|hx
   ·exact U hx
   exact q5 (hb.symm.subset (mem_append_right _ hx))
  ·rw[<-hL];exact h.own.at_ B (hp.symm.subset (mem_append_left _ K))
  rw[<-hL];exact hr
 refine(hc _ w vs O).mono fun e w' ⟨v,r,S',h1,h2,h3,h4,I⟩=>⟨v,r,S',h1,h2,?_,?_,⟨I.size,fun b J hn=>(I.block b J hn).1⟩,?_⟩
 ·have:live C.X (S'++R)=live (fun b=>C.X b\/b∈au R) S':=kH (Perm.refl _);rw[this];exact h4
 ·have Y:live C.X (S'++R)=live (fun b=>C.X b\/b∈au R) S':=kH (Perm.refl _);have H:∀b,b<w.heap.size->¬live C.X x.S b->w'.heap[b]?=w.heap[b]?/\¬live C.X (S'++R) b:=fun b aH hn=>by
   rw[hL] at hn;have E:b∉au Sf:=fun hm=>hn (.inr hm);obtain⟨q1,q2⟩:=I.block b aH E;refine⟨q1,fun hl=>?_⟩;rw[Y] at hl;rcases hl with hl|hl
   ·exact hn (.inl hl)
   exact q2 hl
  refine⟨h.defers,h.size,fun t ht=>(h.env t ht).mono H,⟨fun B K=>?_,?_⟩,?_,h.ex,h.dI⟩
  ·rcases mem_append.1 K with K|K
   ·have:=h3.at_ B K;rw[<-Y] at this;exact this
   obtain⟨r0,cur,r1,r2,r3,r4⟩:=h.own.at_ B (hp.symm.subset (mem_append_right _ K));have tV:B.b∈au R:=mem_map.2 ⟨B,K,rfl⟩;have E:B.b∉au Sf:=fun hm=>n3 B.b hm B.b tV rfl;have hh:=(I.block B.b r0 E).1;refine⟨kE r0 hh,cur,hh.trans r1,r2,r3,fun i hi=>?_⟩;obtain⟨u,hu,hq⟩:=r4 i hi;exact⟨u,hu,hq.mono H⟩
  ·show(au (S'++R)).Nodup;have:au (S'++R)=au S'++au R:=(by simp[au])
   rw[this];refine nodup_append.2 ⟨h3.apart,n2,fun b tW c Z he=>?_⟩;subst he;have E:b∉au Sf:=fun hm=>n3 b hm b Z rfl;exact(I.block b (M b Z) E).2 tW
  refine⟨I.os.trans h.fr.os,I.tape.trans h.fr.tape,I.output.trans h.fr.output,Nat.le_trans h.fr.size I.size,fun b J hn=>?_⟩;obtain⟨q1,q2⟩:=h.fr.block b J hn;have fI:b∉au Sf:=fun hm=>q2 (hb.symm.subset (mem_append_left _ hm));have N:b∉au R:=fun hm=>q2 (hb.symm.subset (mem_append_right _ hm));obtain⟨U,q4⟩:=I.block b (Nat.lt_of_lt_of_le J h.fr.size) fI;refine⟨U.trans q1,fun hm=>?_⟩;have:au (S'++R)=au S'++au R:=(by simp[au])
  rw[this] at hm;rcases mem_append.1 hm with hm|hm
  ·exact q4 hm
  exact N hm
 refine⟨I.os,I.tape,I.output,I.size,fun b J hn=>?_⟩;have fI:b∉au Sf:=fun hm=>hn (hb.symm.subset (mem_append_left _ hm));have N:b∉au R:=fun hm=>hn (hb.symm.subset (mem_append_right _ hm));obtain⟨U,q4⟩:=I.block b J fI;refine⟨U,fun hm=>?_⟩;have:au (S'++R)=au S'++au R:=(by simp[au])
 rw[this] at hm;rcases mem_append.1 hm with hm|hm
 ·exact q4 hm
 exact N hm
theorem bY.pT(h:bP C x a w)(bN:List Operand):bY w (live C.X x.S) (bN.map (aL x)) (bN.map a.eval) :=
 ⟨by simp,fun i h1 h2=>by simp only[getElem_map];exact h.eval _⟩
theorem bY.append{E:List D}{vs I:List Value}(h:bY w L ds vs)(h':bY w L E I):bY w L (ds++E) (vs++I) :=
 ⟨by simp[h.1,h'.1],fun i h1 h2=>by
  by_cases hi:i<ds.length
  ·rw[getElem_append_left hi,getElem_append_left (by rw[h.1];exact hi)];exact h.2 i _ _
  rw[getElem_append_right w8,getElem_append_right (by rw[h.1];omega)];have:=h.1;simp only[this];exact h'.2 _ _ _⟩
def called(x:St)(t:Nat)(R:List ay)(post:D->List ay->Prop)(y:St):Prop:=∃r S',post r S'/\y=⟨x.n,(t,r)::x.env,S'++R⟩
theorem rL {f t:Nat} (ho:o.op = .call {callee:=.value fo,args:=bN,argTypes:=ts}) (hd:o.dst=some t)
  (hf:fo = .func f) (E:∀args w,(callFunc f args).run P w = .ok (.enter f args) w) (ha:bN.toList.map (aL x)=args) (hp:x.S.Perm (Sf++R)) (hc:VC P G f args Sf post) :
  gh P G x o (au Sf) (called x t R post):=fun C a w K Q J h M=>by
 subst hf ha;have hr:=bY.pT h bN.toList;have I:(execOp a.eval o).run P w = .ok (.enter f (bN.toList.map a.eval).toArray) w:=by
  unfold execOp;have e:bN.map a.eval=(bN.toList.map a.eval).toArray:=by
   rw[<-Array.toList_map,Array.toArray_toList]
  simp only[ho,resolve,Act.eval,Deferred.ofValue,Sem.run_bind,Sem.run_pure,Result.andThen_ok,invoke,e];simp[E]
 unfold Oper.wp;rw[I,Oper.upon_enter,hd];refine(h.call J hc hp hr).mono fun e w' ⟨v,r,S',h1,h2,N,O,U,Y⟩=>?_;subst h1;exact M _ _ _ ⟨r,S',h2,rfl⟩ (O.put N) U Y
theorem Am {f t:Nat} {da:List D} (ho:o.op = .call {callee:=.value fo,args:=bN,argTypes:=ts}) (hd:o.dst=some t)
  (hf:aL x fo = .dV (.func f) da) (E:∀args w,(callFunc f args).run P w = .ok (.enter f args) w) (ha:bN.toList.map (aL x)++da=args) (hp:x.S.Perm (Sf++R)) (hc:VC P G f args Sf post) :
  gh P G x o (au Sf) (called x t R post):=fun C a w K Q N h O=>by
 subst ha;have hr:=bY.pT h bN.toList;have I:=h.eval fo;rw[hf] at I;generalize hg:a.eval fo=u at I;cases I with
 | dV _ _ vs hl M =>
  have J:(execOp a.eval o).run P w = .ok (.enter f (bN.toList.map a.eval++vs).toArray) w:=by
   unfold execOp;have e:bN.map a.eval++vs.toArray=(bN.toList.map a.eval++vs).toArray:=by
    rw[<-append_toArray,<-Array.toList_map,Array.toArray_toList]
   simp only[ho,resolve,hg,Deferred.ofValue,Sem.run_bind,Sem.run_pure,Result.andThen_ok,invoke];simp[E]
  unfold Oper.wp;rw[J,Oper.upon_enter,hd];refine(h.call N hc hp (hr.append ⟨hl,M⟩)).mono fun e w' ⟨v,r,S',h1,h2,U,Y,Z,h6⟩=>?_;subst h1;exact O _ _ _ ⟨r,S',h2,rfl⟩ (Y.put U) Z h6
theorem nl{k:Nat}(hk:S[k]?=some B):S.Perm (B::S.eraseIdx k):=by
 obtain⟨h1,h2⟩:=List.getElem?_eq_some_iff.1 hk;subst h2;clear hk;induction S generalizing k with
 | nil=>simp at h1
 | cons A S ih =>
  cases k with
  | zero=>exact Perm.refl _
  | succ k =>
   have E:k<S.length:=(by simpa using h1)
   rw[eraseIdx_cons_succ];exact((ih E).cons A).trans (Perm.swap _ _ _)
theorem kI(S:List ay):S.Perm ([]++S):=Perm.refl _
theorem AB{k:Nat}(hk:S[k]?=some B):S.Perm ([B]++S.eraseIdx k):=nl hk
theorem bF.nG{k:Nat}(h:Own w (live X S) S)(J:∀b,X b->b∉au S)(hk:S[k]?=some B)(hl:B.cs.length=n*sz)(h1:n<=cap)(h2:cap<=maxLen)(hne:isMap B.e=false:=by rfl) :
  bF w (live X (S.eraseIdx k)) (.list sz B.cs n) (.slice (some ⟨B.b,0,none⟩) n cap):=by
 have hm:=mem_of_getElem? hk;obtain⟨r0,cur,r1,r2,K,I⟩:=h.at_ B hm;rw[fS hne] at r1;have E:(au (S.eraseIdx k)).Sublist (au S):=Sublist.map _ (eraseIdx_sublist S k);have hL:¬live X (S.eraseIdx k) B.b:=fun hl=>by
  rcases hl with hl|hl
  ·exact J _ hl (mem_map.2 ⟨B,hm,rfl⟩)
  have hp:(au S).Perm (B.b::au (S.eraseIdx k)):=(by have:=(nl hk).map ay.b;simpa[au] using this)
  have hnd:=hp.nodup_iff.1 h.apart;exact(nodup_cons.1 hnd).1 hl
 refine .list sz B.cs n B.b 0 cap (fun i=>cur.getD i undef) hl h1 h2 r0 hL (fun i hi=>?_) (fun i hi=>?_)
 ·obtain⟨u,hu,_⟩:=I i hi;rw[Nat.zero_add,jk r1 hu];simp[hu]
 obtain⟨u,hu,hq⟩:=I i hi;simp only[Array.getD_eq_getD_getElem?,hu,Option.getD_some];exact hq.mono fun b _ hn=>⟨rfl,fun hl=>hn (hl.imp id fun q=>E.subset q)⟩
theorem bP.mX(h:bP C x a w):∀b,C.X b->b∉au x.S:=fun b hb=>(h.fr.block b (h.ex b hb).1 (h.ex b hb).2).2
theorem Wk.sI{k t:Nat}(hk:S[k]?=some B)(ht:look t l = .v (.slice (some ⟨B.b,0,none⟩) m cap))(cB:B.cs=cs)(hl:cs.length=m*sz)(h1:m<=cap)(h2:cap<=maxLen)(hne:isMap B.e=false:=by rfl) :
  Wk ⟨n,l,S⟩ ⟨n,(t,.list sz cs m)::l,S.eraseIdx k⟩:=fun C a w h=>by
 subst cB;have hd:=Wk.drop n l S (S.eraseIdx k) (eraseIdx_sublist S k) C a w h;refine⟨hd.defers,hd.size,fun i hi=>?_,hd.own,hd.fr,hd.ex,hd.dI⟩;simp only[jj];by_cases e:t=i
 ·subst e;rw[if_pos rfl];have E:=h.env t hi;simp only[ht] at E;rw[E.eK];exact bF.nG h.own h.mX hk hl h1 h2 hne
 rw[if_neg e];exact hd.env i hi
theorem Wk.py{t:Nat}(ht:look t l = .v (.slice none 0 0)):Wk ⟨n,l,S⟩ ⟨n,(t,.list sz [] 0)::l,S⟩:=fun C a w h=>by
 refine⟨h.defers,h.size,fun i hi=>?_,h.own,h.fr,h.ex,h.dI⟩;simp only[jj];by_cases e:t=i
 ·subst e;rw[if_pos rfl];have E:=h.env t hi;simp only[ht] at E;rw[E.eK];exact .nil sz
 rw[if_neg e];exact h.env i hi
theorem Wk.BK {k:Nat} {A:ay} (hk:S[k]?=some B) (hj:(S.eraseIdx k)[j]?=some A) (hi:A.cs[i]?=some (.v (.slice (some ⟨B.b,0,none⟩) m cap))) (cB:B.cs=cs) (hl:cs.length=m*sz) (h1:m<=cap) (h2:cap<=maxLen)
  (M:A.cs.set i (.list sz cs m)=cs') (hS:(S.eraseIdx k).set j {A with cs:=cs'}=S') (hne:isMap B.e=false:=by rfl):Wk ⟨n,l,S⟩ ⟨n,l,S'⟩:=fun C a w h=>by
 subst cB M hS;have hd:=Wk.drop n l S (S.eraseIdx k) (eraseIdx_sublist S k) C a w h;have N:=bF.nG h.own h.mX hk hl h1 h2 hne;have Z:=(List.getElem?_eq_some_iff.1 hj).1;have O:=(List.getElem?_eq_some_iff.1 hj).2;have E:au ((S.eraseIdx k).set j {A with cs:=A.cs.set i (.list sz B.cs m)})=au (S.eraseIdx k):=by
  unfold au;rw[map_set];apply ext_getElem cl;intro i q1 q2;rw[getElem_set];split
  ·rename_i e;subst e;simp[O]
  rfl
 have I:live C.X ((S.eraseIdx k).set j {A with cs:=A.cs.set i (.list sz B.cs m)})=live C.X (S.eraseIdx k):=(by funext b;simp only[live,E])
 refine⟨hd.defers,hd.size,fun t ht=>?_,⟨fun B' U=>?_,?_⟩,?_,hd.ex,hd.dI⟩
 ·simp only[I];exact hd.env t ht
 ·simp only[I];obtain⟨p,hp,J⟩:=mem_iff_getElem.1 U;rw[length_set] at hp;rw[getElem_set] at J;by_cases e:j=p
  ·rw[if_pos e] at J;subst J;obtain⟨r0,cur,r1,r2,r3,r4⟩:=hd.own.at_ A (mem_of_getElem? hj);refine⟨r0,cur,r1,r2,by simpa using r3,fun q Y=>?_⟩;simp only[length_set] at Y;obtain⟨u,hu,K⟩:=r4 q Y;refine⟨u,hu,?_⟩;rw[getElem_set];split
   ·rename_i he;subst he;have:=(List.getElem?_eq_some_iff.1 hi).2;rw[this] at K;rw[K.eK];exact N
   exact K
  rw[if_neg e] at J;subst J;exact hd.own.at_ _ (getElem_mem hp)
 ·simp only[E];exact hd.own.apart
 simp only[E];exact hd.fr
def wG(x:St)(t:Nat)(e:TypeId)(sz len:Nat)(cs:List D)(S:List ay)(y:St):Prop :=
 ∃b cap,len<=cap/\cap<=maxLen/\y=⟨x.n,(t,.v (.slice (some ⟨b,0,none⟩) len cap))::x.env,⟨b,e,cap*sz,cs⟩::S⟩
theorem bP.grown (h:bP C x a w) {t g e:Nat} {row:Option Nat}
  (hS:S.Sublist x.S) (I:∀k,row=some k->k∈au x.S/\k∉au S) (E:w.grownBy w' row) (hg:row=some g\/g=w.heap.size) (aH:g<w'.heap.size)
  (O:w'.heap[g]?=some (.cells cur e (0,0))) (Z:cur.size=cap*sz) (hl:cs.length<=cap*sz) (hr:∀i (h:i<cs.length),∃u,cur[i]?=some u/\bF w (live C.X x.S) cs[i] u) (hne:isMap e=false:=by rfl) :
  bP C ⟨x.n,(t,.v (.slice (some ⟨g,0,none⟩) m cap))::x.env,⟨g,e,cap*sz,cs⟩::S⟩ (a.put (some t) (.slice (some ⟨g,0,none⟩) m cap)) w'/\ik row.toList w w'/\Fr w (au x.S) w' (au (⟨g,e,cap*sz,cs⟩::S)):=by
 have J:(au S).Sublist (au x.S):=Sublist.map _ hS;have M:∀b,live C.X x.S b->b<w.heap.size:=fun b hb=>by
  rcases hb with hb|hb
  ·exact Nat.lt_of_lt_of_le (h.ex b hb).1 h.fr.size
  obtain⟨B,N,rfl⟩:=mem_map.1 hb;exact(h.own.at_ B N).1
 have DW:g∉au S:=by
  rcases hg with hg|hg
  ·exact(I g hg).2
  intro hm;have:=M g (.inr (J.subset hm));omega
 have E8:¬C.X g:=fun hx=>by
  rcases hg with hg|hg
  ·exact h.mX g hx (I g hg).1
  have:=M g (.inl hx);omega
 have K:g<w.heap.size->g∈au x.S:=fun aH=>by
  rcases hg with hg|hg
  ·exact(I g hg).1
  omega
 have H:∀b,b<w.heap.size->¬live C.X x.S b->w'.heap[b]?=w.heap[b]?/\¬live C.X (⟨g,e,cap*sz,cs⟩::S) b:=fun b hb hn=>by
  refine⟨E.block b hb (fun hm=>hn (.inr (I b hm.symm).1)),fun hl=>?_⟩;rcases hl with hl|hl
  ·exact hn (.inl hl)
  simp only[au,map_cons,mem_cons] at hl;rcases hl with hl|hl
  ·subst hl;exact hn (.inr (K hb))
  exact hn (.inr (J.subset hl))
 have base:bP C ⟨x.n,x.env,⟨g,e,cap*sz,cs⟩::S⟩ a w':=by
  refine⟨h.defers,h.size,fun t ht=>(h.env t ht).mono H,⟨fun B N=>?_,?_⟩,?_,h.ex,h.dI⟩
  ·rcases mem_cons.1 N with rfl|N
   ·refine⟨aH,cur,O.trans (by rw[fS hne]),Z,hl,fun i hi=>?_⟩;obtain⟨u,hu,hq⟩:=hr i hi;exact⟨u,hu,hq.mono H⟩
   obtain⟨r0,U,r1,r2,r3,r4⟩:=h.own.at_ B (hS.subset N);have tV:B.b∈au S:=mem_map.2 ⟨B,N,rfl⟩;have hh:=E.block B.b r0 (fun hm=>(I B.b hm.symm).2 tV);refine⟨kE r0 hh,U,hh.trans r1,r2,r3,fun i hi=>?_⟩;obtain⟨u,hu,hq⟩:=r4 i hi;exact⟨u,hu,hq.mono H⟩
  ·show(g::au S).Nodup;exact nodup_cons.2 ⟨DW,h.own.apart.sublist J⟩
  refine⟨E.os.trans h.fr.os,E.tape.trans h.fr.tape,E.output.trans h.fr.output,Nat.le_trans h.fr.size E.size,fun b hb hn=>?_⟩;obtain⟨q1,q2⟩:=h.fr.block b hb hn;have Y:=Nat.lt_of_lt_of_le hb h.fr.size;refine⟨(E.block b Y (fun hm=>q2 (I b hm.symm).1)).trans q1,fun hm=>?_⟩;simp only[au,map_cons,mem_cons] at hm;rcases hm with hm|hm
  ·subst hm;exact q2 (K Y)
  exact q2 (J.subset hm)
 refine⟨base.put (.v _),⟨E.size,fun b hb hn=>E.block b hb (fun hm=>hn (by rw[<-hm];simp))⟩,⟨E.os,E.tape,E.output,E.size,fun b hb hn=>?_⟩⟩;refine⟨E.block b hb (fun hm=>hn (I b hm.symm).1),fun hm=>?_⟩;simp only[au,map_cons,mem_cons] at hm;rcases hm with hm|hm
 ·subst hm;exact hn (K hb)
 exact hn (J.subset hm)
theorem oS {t:Nat} {I:Value} (ho:o.op = .call {callee:=.builtin .append,args:=#[s,y],argTypes:=#[t,t]}) (hs:a.eval s=v) (hy:a.eval y=u)
  (E:(Builtin.append_ #[t,t] o.type #[v,u]).run P w = .ok I w'):(execOp a.eval o).run P w = .ok (.value I) w':=by
 unfold execOp;simp[ho,resolve,invoke,builtin,hs,hy,E]
theorem pz{e:Nat}{z:Value}(hi:(P.info? e).map (fun i=>(i.zero,i.size,i.bytes))=some (some z,sz,bytes)):∃i,P.info? e=some i/\i.zero=some z/\i.size=sz/\i.bytes=bytes:=by
 cases h:P.info? e with
 | none=>simp[h] at hi
 | some i=>simp[h] at hi;exact⟨i,rfl,hi⟩
theorem vw {t e k:Nat} {z:Value} (ho:o.op = .call {callee:=.builtin .append,args:=#[s,y],argTypes:=#[t,t]}) (hd:o.dst=some tt)
  (ht:P.underlying t=some (.slice e)) (hi:(P.info? e).map (fun i=>(i.zero,i.size,i.bytes))=some (some z,sz,bytes)) (cW:z.cells.size=sz) (l9:0<sz)
  (hs:aL x s = .v (.slice (some ⟨b,0,none⟩) n cap)) (hk:x.S[k]?=some B) (hb:B.b=b) (he:B.e=e) (EO:B.size=cap*sz) (hl:B.cs.length=n*sz) (hn:n<=cap) (N:cap<=maxLen)
  (hy:aL x y = .list sz cs m) (O:∀d∈cs,one d=true) (hm:0<m) (oo:n+m<=maxLen) (J:(n+m)*bytes<=140737488355328) (hne:isMap B.e=false:=by rfl) :
  gh P G x o [b] (wG x tt e sz (n+m) (B.cs++cs) (x.S.eraseIdx k)):=fun C a w K Q hG h hK=>by
 subst hb he;obtain⟨i,mb,mc,oq,me⟩:=pz hi;obtain⟨r0,cur,r1,r2,r3,r4⟩:=h.ec hk;rw[fS hne] at r1;have hr:=h.eval y;rw[hy] at hr;generalize hg:a.eval y=u at hr;cases hr with
 | gz=>omega
 | list _ _ _ b' o' I f jD q1 q2 tX hL hc U =>
  have Y:w.ownsRow 0 B.e sz (.slice (some ⟨B.b,0,none⟩) n cap) n (cur.toList.take (n*sz)) :=
   ⟨by simp;omega,.inr ⟨B.b,cap,cur,rfl,Nat.zero_le _,r1,hn,N,by omega,rfl⟩⟩
  obtain⟨v',w',nO,h2,h3,_,Z⟩:=run_append_own_at (P:=P) w 0 t o.type B.e i z sz bytes ht mb mc oq me cW l9 _ n _ Y ⟨b',o',none⟩ m I ((range cs.length).map f) (by simp[jD]) (fun j u hu=>by
    rw[Addr.add_mid];obtain⟨hj,he⟩:=List.getElem?_eq_some_iff.1 hu;simp only[length_map,length_range] at hj;rw[hc j hj,<-he];simp) (fun u hu=>by
    obtain⟨j,hj,rfl⟩:=mem_map.1 hu;have yy:=mem_range.1 hj;exact(U j yy).rK (O _ (getElem_mem yy))) oo J (Nat.zero_le _)
  obtain⟨g,E,rfl,_,aH⟩:=h2.form w8;have h6:(Value.slice (some ⟨B.b,0,none⟩) n cap).ownBlock=some g\/g=w.heap.size:=by
   rcases Z with Z|Z
   ·exact .inl (by rw[<-Z];rfl)
   right;simpa[Value.ownBlock] using Z
  obtain⟨_,h2⟩:=h2;rcases h2 with ⟨h2,_⟩|⟨g',I,sH,e1,_,e2,e3,e4,e5,e6⟩
  ·cases h2
  have tY:g=g'/\E=I:=(by simpa using e1)
  obtain⟨rfl,rfl⟩:=tY;have hlen:(B.cs++cs).length=(n+m)*sz:=(by rw[length_append,hl,jD,Nat.add_mul])
  have DX:(n+m)*sz<=E*sz:=Nat.mul_le_mul_right _ e3;have CM:∀i,i<(n+m)*sz->sH[i]?=(cur.toList.take (n*sz)++(range cs.length).map f)[i]?:=fun i hi=>by
   rw[<-e6,getElem?_take_of_lt hi,Array.getElem?_toList]
  obtain⟨s1,s2,s3⟩:=h.grown (t:=tt) (m:=n+m) (e:=B.e) (sz:=sz) (S:=x.S.eraseIdx k) (cs:=B.cs++cs) (row:=some B.b) (g:=g) (cap:=E) (eraseIdx_sublist _ _) (fun k' tZ=>by
    have:B.b=k':=(by simpa using tZ)
    subst this;refine⟨mem_map.2 ⟨B,mem_of_getElem? hk,rfl⟩,fun hm=>?_⟩;have hp:(au x.S).Perm (B.b::au (x.S.eraseIdx k)):=(by have:=(nl hk).map ay.b;simpa[au] using this)
    exact(nodup_cons.1 (hp.nodup_iff.1 h.own.apart)).1 hm) h3 h6 aH e2 e5 w8 (fun i hi=>by
    rw[hlen] at hi;rw[CM i hi];by_cases ua:i<n*sz
    ·obtain⟨u,hu,hq⟩:=r4 i w8;refine⟨u,?_,?_⟩
     ·rw[getElem?_append_left fx,getElem?_take_of_lt ua,Array.getElem?_toList,hu]
     rw[getElem_append_left w8];exact hq
    have M:i-n*sz<cs.length:=(by rw[jD];rw[Nat.add_mul] at hi;omega)
    refine⟨f (i-n*sz),?_,?_⟩
    ·rw[getElem?_append_right fx];have:(cur.toList.take (n*sz)).length=n*sz:=(by simp;omega)
     rw[this];simp[M]
    rw[getElem_append_right w8];have:=U (i-n*sz) M;simp only[hl];exact this) hne
  unfold Oper.wp;rw[oS (P:=P) ho (h.flat hs) hg nO,Oper.upon_value,hd];exact hK _ _ _ ⟨g,E,e3,e4,rfl⟩ s1 s2 s3
theorem ve {t e:Nat} {z:Value} (ho:o.op = .call {callee:=.builtin .append,args:=#[s,y],argTypes:=#[t,t]}) (hd:o.dst=some tt)
  (ht:P.underlying t=some (.slice e)) (hi:(P.info? e).map (fun i=>(i.zero,i.size,i.bytes))=some (some z,sz,bytes)) (cW:z.cells.size=sz) (l9:0<sz)
  (hs:aL x s = .v (.slice none 0 0)) (hy:aL x y = .list sz cs m) (M:∀d∈cs,one d=true) (hm:0<m) (oo:m<=maxLen) (J:m*bytes<=140737488355328) (hne:isMap e=false:=by rfl) :
  gh P G x o [] (wG x tt e sz m cs x.S):=fun C a w K Q hG h hK=>by
 obtain⟨i,mb,mc,oq,me⟩:=pz hi;have hr:=h.eval y;rw[hy] at hr;generalize hg:a.eval y=u at hr;cases hr with
 | gz=>omega
 | list _ _ _ b' o' I f jD q1 q2 tX hL hc N =>
  have O:w.ownsRow 0 e sz (.slice none 0 0) 0 []:=⟨by simp,.inl ⟨rfl,rfl⟩⟩
  obtain⟨v',w',nO,h2,h3,_,U⟩:=run_append_own_at (P:=P) w 0 t o.type e i z sz bytes ht mb mc oq me cW l9 _ 0 _ O ⟨b',o',none⟩ m I ((range cs.length).map f) (by simp[jD]) (fun j u hu=>by
    rw[Addr.add_mid];obtain⟨hj,he⟩:=List.getElem?_eq_some_iff.1 hu;simp only[length_map,length_range] at hj;rw[hc j hj,<-he];simp) (fun u hu=>by
    obtain⟨j,hj,rfl⟩:=mem_map.1 hu;have Y:=mem_range.1 hj;exact(N j Y).rK (M _ (getElem_mem Y))) (by rw[Nat.zero_add];exact oo) (by rw[Nat.zero_add];exact J) (Nat.zero_le _)
  simp only[Nat.zero_add,nil_append] at h2;obtain⟨g,E,rfl,_,aH⟩:=h2.form w8;have h6:(none:Option Nat)=some g\/g=w.heap.size:=by
   rcases U with U|U
   ·simp[Value.ownBlock] at U
   right;simpa[Value.ownBlock] using U
  obtain⟨_,h2⟩:=h2;rcases h2 with ⟨h2,_⟩|⟨g',I,Z,e1,_,e2,e3,e4,e5,e6⟩
  ·cases h2
  have tY:g=g'/\E=I:=(by simpa using e1)
  obtain⟨rfl,rfl⟩:=tY;have DX:m*sz<=E*sz:=Nat.mul_le_mul_right _ e3;obtain⟨s1,s2,s3⟩:=h.grown (t:=tt) (m:=m) (e:=e) (sz:=sz) (S:=x.S) (cs:=cs) (row:=none) (g:=g) (cap:=E) (Sublist.refl _) (fun k' tZ=>by cases tZ) h3 h6 aH e2 e5 w8 (fun i hi=>by
    refine⟨f i,?_,N i hi⟩;have:Z[i]?=((range cs.length).map f)[i]?:=(by rw[<-e6,getElem?_take_of_lt w8,Array.getElem?_toList])
    rw[this];simp[hi]) hne
  unfold Oper.wp;rw[oS (P:=P) ho (h.flat hs) hg nO,Oper.upon_value,hd];exact hK _ _ _ ⟨g,E,e3,e4,rfl⟩ s1 s2 s3
theorem vf {t e:Nat} (ho:o.op = .call {callee:=.builtin .append,args:=#[s,y],argTypes:=#[t,t]})
  (J:∀w,(underlying t).run P w = .ok (.slice e) w) (E:∀w,(sizeOf e).run P w = .ok sz w) (hs:aL x s = .v (.slice ad n cap)) (hn:n<=cap) (hy:aL x y = .list sz cs 0):bG P G x o .none (.v (.slice ad n cap)):=fun C a w _ h=>by
 refine⟨_,.v _,fun w' _=>?_⟩;have hr:=h.eval y;rw[hy] at hr;generalize hg:a.eval y=u at hr;refine oS (P:=P) ho (h.flat hs) hg ?_;have K:n+0<=cap:=hn;cases hr with
 | gz _ I CN=>cases I<;>cases ad<;>simp[Builtin.append_,J,E,Builtin.lenOf,Builtin.firstCells,storeCells,loadCells,loadCellsFrom,hn,Nat.not_lt.2 hn]
 | list _ _ _ b' o' CN f jD q1 q2 tX hL hc M=>cases ad<;>simp[Builtin.append_,J,E,Builtin.lenOf,Builtin.firstCells,storeCells,loadCells,loadCellsFrom,hn,Nat.not_lt.2 hn]
end
section
variable {g t n id:Nat} {E r1:ResultVar} {b:Bool} {d:D} {r l':List (Nat×D)} {S':List ay} {c e:Code} {ds:List D} {fn:Func} {L:Nat->Prop}
def LQ(C:cq)(Q:Exit->St->Prop):Exit->Act->World->Prop:=fun e a w=>(∃y,bP C y a w/\Q e y)\/(e = .ret/\C.om a w)
def CD(P:Program)(C:cq)(c:Code)(x:St)(Q:Exit->St->Prop):Prop:=∀a w,bP C x a w->c.wp P (LQ C Q) a w
def OD(P:Program)(C:cq)(ops:Array Oper)(l:List Oper)(x:St)(Q:Exit->St->Prop):Prop:=∀a w,bP C x a w->wpList P ops (LQ C Q) l a w
variable {P:Program} {C:cq} {Q:Exit->St->Prop} {x y:St} {ops:Array Oper} {l:List Oper} {o:Oper}
def cg(ops:Array Oper)(x:St)(o:Oper)(b:Bool):Prop:=∀C a w,bP C x a w->Region.wanted o (yielded ops a.tmps)=b
theorem kD(h:o.guard=none):cg ops x o true:=fun C a w _=>by simp[Region.wanted,h]
theorem vZ{E:Bool}(h:o.guard=some (g,E))(hg:(ops[g]?).bind (·.dst)=some t)(ht:t<x.n)(hb:look t x.env = .v (.bool b)):cg ops x o (b==E):=fun C a w hs=>by
 have I:=hs.env t ht;rw[hb] at I;have I:=I.eK;have J:=hs.size;have:a.tmps[t]?=some (.bool b):=by
  rw[Array.getD_eq_getD_getElem?,Array.getElem?_eq_getElem w8] at I;rw[Array.getElem?_eq_getElem w8];simpa using I
 simp only[Region.wanted,h,yielded,hg,Option.bind_some,this];cases b<;>cases E<;>rfl
theorem iy:look t ((t,d)::r)=d:=by rw[jj,if_pos rfl]
theorem jm{d':D}(h:d=d'):look t ((t,d)::r)=d':=by rw[jj,if_pos rfl,h]
theorem ix{i:Nat}{d':D}(h:Nat.beq i t=false)(k:look t r=d'):look t ((i,d)::r)=d':=by rw[look,h];exact k
theorem aJ{v:Value}{x:St}:aL x (.const v) = .v v:=rfl
theorem lH{f:FuncId}{x:St}:aL x (.func f) = .dV (.func f) []:=rfl
theorem kK{x:St}:aL x (.global g) = .v (.pointer (some ⟨g,0,none⟩)):=rfl
theorem lK{x:St}(h:Nat.blt t x.n=true)(k:look t x.env=d):aL x (.tmp t)=d:=by simp only[aL,h,k];rfl
theorem lk{l:List (Nat×D)}(h:look t l=d:=by (repeat (first|exact iy|(apply ix;focus rfl)|exact look_nil));first|done|fail):look t l=d:=h
theorem ot{x:St}(h:Nat.blt t x.n=true:=by exact rfl)(k:look t x.env=d:=by (repeat (first|exact iy|(apply ix;focus rfl)|exact look_nil));first|done|fail):aL x (.tmp t)=d:=lK h k
def hO(l:List (Nat×D)):List (Nat×D)->Prop
 | []=>True
 | (i,d)::r=>look i l=d/\hO l r
theorem hO.look{l:List (Nat×D)}:∀{l':List (Nat×D)},hO l l'->∀t,V.look t l'=V.look t l\/V.look t l' = .cU
 | [],_,t=>.inr rfl
 | (i,d)::r,h,t=>by
  rw[jj];by_cases e:i=t
  ·subst e;rw[if_pos rfl];exact .inl h.1.symm
  rw[if_neg e];exact h.2.look t
theorem Wk.pL{l:List (Nat×D)}{S:List ay}(h:hO l l'):Wk ⟨n,l,S⟩ ⟨n,l',S⟩:=fun C a w hs =>
 ⟨hs.defers,hs.size,fun t ht=>by
  rcases h.look t with e|e
  ·simp only[e];exact hs.env t ht
  simp only[e];exact .cU _,hs.own,hs.fr,hs.ex,hs.dI⟩
theorem Wk.aO{x:St}(hn:x.n=n)(hS:x.S=S')(h:hO x.env l'):Wk x ⟨n,l',S'⟩:=by
 obtain⟨n0,l0,S0⟩:=x;simp only at hn hS h;subst hn hS;exact Wk.pL h
theorem Wk.bz{x:St}(hn:x.n=n)(hS:S'.Sublist x.S)(h:hO x.env l'):Wk x ⟨n,l',S'⟩:=by
 obtain⟨n0,l0,S0⟩:=x;simp only at hn hS h;subst hn;exact(Wk.drop n0 l0 S0 S' hS).trans (Wk.pL h)
theorem mA{ops:Array Oper}{x:St}{o:Oper}{E:Bool}(h:o.guard=some (g,E))(hg:(ops[g]?).bind (·.dst)=some t)(ht:Nat.blt t x.n=true)(hb:look t x.env = .v (.bool b))(hw:b=E):cg ops x o true:=by
 have:=vZ h hg (Nat.le_of_ble_eq_true ht) hb;rw[hw] at this;simpa using this
theorem bX{ops:Array Oper}{x:St}{o:Oper}{E:Bool}(h:o.guard=some (g,E))(hg:(ops[g]?).bind (·.dst)=some t)(ht:Nat.blt t x.n=true)(hb:look t x.env = .v (.bool b))(hw:b = !E):cg ops x o false:=by
 have:=vZ h hg (Nat.le_of_ble_eq_true ht) hb;rw[hw] at this;cases E<;>simpa using this
theorem wH{ops:Array Oper}{x:St}{o:Oper}{E b:Bool}(h:o.guard=some (g,E))(hg:(ops[g]?).bind (·.dst)=some t)(ht:Nat.blt t x.n=true)(hb:look t x.env = .v (.tuple #[])):cg ops x o false:=fun C a w hs=>by
 have I:=hs.env t (Nat.le_of_ble_eq_true ht);rw[hb] at I;have I:=I.eK;have J:=hs.size;have yz:t<x.n:=Nat.le_of_ble_eq_true ht;have:a.tmps[t]?=some (.tuple #[]):=by
  rw[Array.getD_eq_getD_getElem?,Array.getElem?_eq_getElem w8] at I;rw[Array.getElem?_eq_getElem w8];simpa using I
 simp only[Region.wanted,h,yielded,hg,Option.bind_some,this];cases E<;>rfl
theorem bg(h:Q .normal x):OD P C ops [] x Q:=fun a w hs=>.inl ⟨x,hs,h⟩
theorem OD.eR{W:List Nat}{post:St->Prop}(hw:cg ops x o true)(h:gh P C.G x o W post)(k:∀y,post y->OD P C ops l y Q):OD P C ops (o::l) x Q:=fun a w hs=>by
 unfold wpList;rw[if_pos (hw C a w hs)];exact .inl (h C a w _ _ rfl hs fun y I w' hp E _ _=>k y hp I w' E)
theorem iT{kd:Rd}(hw:cg ops x o true)(hd:o.dst=some t)(h:bG P C.G x o kd d)(k:OD P C ops l (x.put t d) Q):OD P C ops (o::l) x Q :=
 OD.eR hw (h.eR hd) fun y hy=>by subst hy;exact k
theorem wI(hw:cg ops x o false)(hd:o.dst=some t)(k:OD P C ops l (x.put t (.v (.tuple #[]))) Q):OD P C ops (o::l) x Q:=fun a w hs=>by
 unfold wpList;rw[if_neg (by rw[hw C a w hs];simp),hd];exact k _ _ (hs.put (.v _))
theorem aY(h:Wk x y)(k:OD P C ops l y Q):OD P C ops l x Q:=fun a w hs=>k a w (h C a w hs)
theorem hU(h:Wk x y)(k:CD P C c y Q):CD P C c x Q:=fun a w hs=>k a w (h C a w hs)
theorem CD.mono{E:Exit->St->Prop}(h:CD P C c x Q)(k:∀e y,Q e y->E e y):CD P C c x E:=fun a w hs =>
 wp_mono (h a w hs) fun e I w' h=>h.imp (fun ⟨y,h1,h2⟩=>⟨y,h1,k e y h2⟩) id
theorem aN(h:Q .normal x):CD P C .skip x Q:=fun a w hs=>wp_skip (.inl ⟨x,hs,h⟩)
theorem aD(h:Q .ret x):CD P C .ret x Q:=fun a w hs=>wp_ret (.inl ⟨x,hs,h⟩)
theorem dJ(h:Q (.exit id) x):CD P C (.exit id) x Q:=fun a w hs=>wp_exit (.inl ⟨x,hs,h⟩)
def xI(P:Program)(C:cq)(c:Code)(Q:Exit->St->Prop):Exit->St->Prop
 | .normal,y=>CD P C c y Q
 | e,y=>Q e y
theorem aA{d:Code}(h:CD P C c x (xI P C d Q)):CD P C (.seq c d) x Q:=fun a w hs =>
 wp_seq (wp_mono (h a w hs) fun e E w' h=>by
  rcases h with ⟨y,h1,h2⟩|⟨rfl,h⟩
  ·cases e<;>first|exact h2 E w' h1|exact .inl ⟨y,h1,h2⟩
  exact .inr ⟨rfl,h⟩)
theorem aR{l:List Oper}(h:OD P C l.toArray l x Q):CD P C (.region id l.toArray false) x Q:=fun a w hs=>wp_region_lit (h a w hs)
theorem aI{c:Operand}{d:Code}(hc:aL x c = .v (.bool b))(ht:b=true->CD P C d x Q)(hf:b=false->CD P C e x Q):CD P C (.cond c d e) x Q:=fun a w hs =>
 wp_cond_split (hs.flat hc) (fun h=>ht h a w hs) (fun h=>hf h a w hs)
theorem ei{c:Operand}{d:Code}(hc:aL x c = .v (.bool b))(hb:b=true)(ht:CD P C d x Q):CD P C (.cond c d e) x Q:=fun a w hs =>
 wp_cond_true (by rw[hs.flat hc,hb]) (ht a w hs)
theorem gm{c:Operand}{d:Code}(hc:aL x c = .v (.bool b))(hb:b=false)(hf:CD P C e x Q):CD P C (.cond c d e) x Q:=fun a w hs =>
 wp_cond_false (by rw[hs.flat hc,hb]) (hf a w hs)
def DY(Inv:St->Prop)(Q:Exit->St->Prop):Exit->St->Prop
 | .normal,y=>∃z,Wk y z/\Inv z
 | e,y=>Q e y
theorem jX{d:Code}(E:St->Prop)(h1:CD P C c x (DY E Q))(h2:∀z,E z->CD P C d z Q):CD P C (.seq c d) x Q :=
 aA (CD.mono h1 fun e y h=>by cases e<;>first|(obtain⟨z,hw,hz⟩:=h;exact hU hw (h2 z hz))|exact h)
def wJ(id:Nat)(Q:Exit->St->Prop):Exit->St->Prop
 | .exit mY,y=>bif Nat.beq mY id then Q .normal y else Q (.exit mY) y
 | e,y=>Q e y
theorem bO(h:CD P C c x (wJ id Q)):CD P C (.block id c) x Q:=fun a w hs =>
 wp_block (wp_mono (h a w hs) fun e E w' h=>by
  rcases h with ⟨y,h1,h2⟩|⟨rfl,h⟩
  case inr=>exact .inr ⟨rfl,h⟩
  cases e with
  | exit mY =>
   simp only[wJ] at h2;simp only[Exit.inBlock];by_cases he:mY=id
   ·subst he;rw[if_pos rfl];simp at h2;exact .inl ⟨y,h1,h2⟩
   rw[if_neg he];have:Nat.beq mY id=false:=by
    cases h:Nat.beq mY id with
    | false=>rfl
    | true=>exact absurd (Nat.eq_of_beq_eq_true h) he
   rw[this] at h2;exact .inl ⟨y,h1,h2⟩
  | _=>exact .inl ⟨y,h1,h2⟩)
theorem least(p:Nat->Prop)(h:∃n,p n):∃n,p n/\∀m,p m->n<=m:=by
 obtain⟨n,hn⟩:=h;induction n using Nat.strongRecOn with
 | _ n ih =>
  by_cases E:∃m,m<n/\p m
  ·obtain⟨m,hm,hp⟩:=E;exact ih m hm hp
  exact⟨n,hn,fun m hm=>Nat.le_of_not_lt fun aH=>E ⟨m,aH,hm⟩⟩
def xu{ι:Type}(I:ι->St->Prop)(μ:ι->Nat)(i:ι)(Q:Exit->St->Prop):Exit->St->Prop
 | .normal,y=>∃j z,μ j < μ i/\Wk y z/\I j z
 | e,y=>Q e y
open Classical in
theorem A4{ι:Type}(I:ι->St->Prop)(μ:ι->Nat)(i:ι)(h0:I i x)(round:∀i y,I i y->CD P C c y (xu I μ i Q)):CD P C (.loop c) x Q:=fun a w hs=>by
 let p:Act->World->Nat->Prop:=fun a w n=>∃i y,μ i=n/\I i y/\bP C y a w
 let m:Act->World->Nat:=fun a w=>if h:∃n,p a w n then Classical.choose (least _ h) else 0
 refine wp_loop (fun a w=>∃n,p a w n) m ⟨_,i,x,rfl,h0,hs⟩ fun a w K=>?_;have hm:m a w=Classical.choose (least _ K):=dif_pos K;obtain⟨⟨i,y,h1,h2,h3⟩,_⟩:=Classical.choose_spec (least _ K);rw[<-hm] at h1;refine wp_mono (round i y h2 a w h3) fun e J w' h=>?_;rcases h with ⟨z,q1,q2⟩|⟨rfl,h⟩
 case inr=>exact .inr ⟨rfl,h⟩
 cases e with
 | normal =>
  obtain⟨j,z',r1,r2,N⟩:=q2;have hp:p J w' (μ j):=⟨j,z',rfl,N,r2 C J w' q1⟩
  have E:∃n,p J w' n:=⟨_,hp⟩
  have M:m J w'=Classical.choose (least _ E):=dif_pos E;refine⟨E,?_⟩;have:=(Classical.choose_spec (least _ E)).2 _ hp;rw[M];omega
 | _=>exact .inl ⟨z,q1,q2⟩
def pU(tmps:Array Value):ResultVar->Sem Value
 | .tmp t=>pure (tmps.getD t undef)
 | .cell a t=>do loadVar t (<-asAddr (tmps.getD a undef))
theorem rm(fn:Func)(tmps:Array Value):results fn tmps=(do let vs <-fn.results.mapM (pU tmps);pure (if h:vs.size=1 then vs[0] else .tuple vs)):=rfl
def kf(P:Program)(y:St)(rv:ResultVar)(d:D):Prop :=
 ∀C a w,bP C y a w->∃v,bF w (live C.X y.S) d v/\(pU a.tmps rv).run P w = .ok v w
theorem dm(ht:t<y.n)(hd:look t y.env=d):kf P y (.tmp t) d:=fun C a w h=>⟨_,hd ▸ h.env t ht,rfl⟩
theorem kL{c k b:Nat}{B:ay}(hc:c<y.n)(hd:look c y.env = .v (.pointer (some ⟨b,0,none⟩)))(hk:y.S[k]?=some B)(hb:B.b=b)(ha:∀w,(isAgg t).run P w = .ok false w)(cB:B.cs=[d])(hne:isMap B.e=false:=by rfl):kf P y (.cell c t) d:=fun C a w h=>by
 subst hb;have he:=h.env c hc;rw[hd] at he;obtain⟨_,cur,h1,h2,h3,h4⟩:=h.ec hk;rw[fS hne] at h1;obtain⟨u,hu,hr⟩:=h4 0 (by simp[cB]);refine⟨u,by simpa[cB] using hr,?_⟩;simp only[pU,he.eK,asAddr,Sem.run_bind,Sem.run_pure,Result.andThen_ok];have:=oW (P:=P) (t:=t) (w:=w) ha (jk h1 hu);simpa[Instr.loadAt,Instr.sureAddr] using this
theorem dG{c k b:Nat}{B:ay}(hc:c<y.n)(hd:look c y.env = .v (.pointer (some ⟨b,0,none⟩)))(hk:y.S[k]?=some B)(hb:B.b=b)(ha:∀w,(isAgg t).run P w = .ok true w)(hn:∀w,(sizeOf t).run P w = .ok n w)(cB:B.cs=ds)(hl:ds.length=n)(hne:isMap B.e=false:=by rfl):kf P y (.cell c t) (.agg ds):=fun C a w h=>by
 subst hb cB;have he:=h.env c hc;rw[hd] at he;obtain⟨_,cur,h1,h2,h3,h4⟩:=h.ec hk;rw[fS hne] at h1;refine⟨.agg ((range n).map fun j=>cur.getD j undef).toArray,.agg _ _ (by simp[hl]) (fun i q1 q2=>?_),?_⟩
 ·obtain⟨u,hu,hr⟩:=h4 i q1;simp only[getElem_map,getElem_range,Array.getD_eq_getD_getElem?,hu,Option.getD_some];exact hr
 simp only[pU,he.eK,asAddr,Sem.run_bind,Sem.run_pure,Result.andThen_ok];have:=oX (P:=P) (t:=t) (w:=w) (b:=B.b) (o':=0) (vs:=(range n).map fun j=>cur.getD j undef) ha hn cl (fun j hj=>by
  simp only[length_map,length_range] at hj;obtain⟨u,hu,_⟩:=h4 j w8;simp only[getElem_map,getElem_range,Array.getD_eq_getD_getElem?,hu,Option.getD_some,Nat.zero_add];exact jk h1 hu)
 simpa[Instr.loadAt,Instr.sureAddr] using this
def iq(P:Program)(fn:Func)(y:St)(r:D):Prop:=∀C a w,bP C y a w->∃v,bF w (live C.X y.S) r v/\(results fn a.tmps).run P w = .ok v w
theorem ej(hr:fn.results = #[]):iq P fn y (.dU []):=fun C a w h =>
 ⟨.tuple #[],.dU [] [] rfl (fun i h1 _=>by simp at h1),by unfold results;simp[hr]⟩
theorem c8(hr:fn.results = #[E])(h:kf P y E d):iq P fn y d:=fun C a w hs=>by
 obtain⟨v,h1,h2⟩:=h C a w hs;refine⟨v,h1,?_⟩;rw[rm,hr];simp[h2]
theorem wK{w:World}{vs:List Value}(h:bY w L ds vs):bF w L (.dU ds) (.tuple vs.toArray):=.dU ds vs h.1 h.2
theorem bY.cons{w:World}{v:Value}{vs:List Value}(h:bF w L d v)(hs:bY w L ds vs):bY w L (d::ds) (v::vs) :=
 ⟨by simp[hs.1],fun i h1 h2=>by
  cases i with
  | zero=>exact h
  | succ i=>exact hs.2 i _ _⟩
theorem bY.nil(w:World)(L:Nat->Prop):bY w L [] []:=⟨rfl,fun i h=>by simp at h⟩
theorem gN{d1 I:D}(hr:fn.results = #[r1,E])(h1:kf P y r1 d1)(h2:kf P y E I):iq P fn y (.dU [d1,I]):=fun C a w hs=>by
 obtain⟨v1,a1,b1⟩:=h1 C a w hs;obtain⟨v2,a2,b2⟩:=h2 C a w hs;refine⟨_,wK (.cons a1 (.cons a2 (.nil _ _))),?_⟩;rw[rm,hr];simp[b1,b2]
theorem oZ{I:ResultVar}{d1 J K:D}(hr:fn.results = #[r1,E,I])(h1:kf P y r1 d1)(h2:kf P y E J)(M:kf P y I K):iq P fn y (.dU [d1,J,K]):=fun C a w hs=>by
 obtain⟨v1,a1,b1⟩:=h1 C a w hs;obtain⟨v2,a2,b2⟩:=h2 C a w hs;obtain⟨v3,a3,b3⟩:=M C a w hs;refine⟨_,wK (.cons a1 (.cons a2 (.cons a3 (.nil _ _)))),?_⟩;rw[rm,hr];simp[b1,b2,b3]
def Body(P:Program)(fn:Func)(post:D->List ay->Prop)(e:Exit)(y:St):Prop :=
 (e = .normal\/e = .ret)/\∃r S',S'.Sublist y.S/\iq P fn y r/\post r S'
def ia:Nat->List D->List (Nat×D)
 | _,[]=>[]
 | i,d::r=>(i,d)::ia (i+1) r
theorem nj:∀(ds:List D) (i t:Nat),look t (ia i ds)=if i<=t then ds.getD (t-i) .cU else .cU
 | [],i,t=>by simp[ia,look]
 | d::r,i,t=>by
  rw[ia,jj,nj r (i+1) t];by_cases h:i=t
  ·subst h;simp
  rw[if_neg h];by_cases h2:i<=t
  ·rw[if_pos h2,if_pos w8,show t-i=(t-(i+1))+1 from by omega];simp
  rw[if_neg h2,if_neg w8]
theorem cL {G:List (Nat×List Value)} {f:FuncId} {args:List D} {S:List ay} {post:D->List ay->Prop} (hf:P.funcs[f]?=some fn) (hb:fn.body=some c) (hn:fn.ntmps=n) (hl:args.length<=n)
  (h:∀X w0 S0,CD P ⟨X,w0,S0,G,[],fun _ _=>False⟩ c ⟨n,ia 0 args,S⟩ (Body P fn post)):VC P G f args S post:=fun X w vs hp=>by
 have U:vs.length=args.length:=hp.args.1;let C:cq:=⟨X,w,au S,G,[],fun _ _=>False⟩
 have I:bP C ⟨n,ia 0 args,S⟩ {tmps:=vs.toArray++Array.replicate (fn.ntmps-vs.toArray.size) undef,defers:=[]} w:=by
  refine⟨rfl,by simp[hn];omega,fun t ht=>?_,hp.own,Fr.refl _ _,hp.ex,hp.dI⟩;simp only[nj,Nat.zero_le,if_true,Nat.sub_zero];by_cases aH:t<args.length
  ·have K:args.getD t .cU=args[t]:=(by simp[getD,aH])
   have Y:(vs.toArray++Array.replicate (fn.ntmps-vs.toArray.size) undef).getD t undef=vs[t]'w8:=by
    rw[Array.getD_eq_getD_getElem?,Array.getElem?_append_left fx];simp[show t<vs.length by omega]
   rw[K,Y];exact hp.args.2 t aH w8
  have K:args.getD t .cU = .cU:=(by simp[getD,getElem?_eq_none (show args.length<=t by omega)])
  rw[K];exact .cU _
 refine calls_of_wp hf hb (wp_mono (h _ _ _ _ _ I) fun e a w' h=>?_);rcases h with ⟨y,h1,h2,r,S',N,Z,h5⟩|⟨_,h⟩
 case inr=>exact h.elim
 obtain⟨v,q1,q2⟩:=Z C a w' h1;have E:(au S').Sublist (au y.S):=Sublist.map _ N;have M:a.defers=[]/\∃v,(results fn a.tmps).run P w' = .ok v w'/\∃O r S',Ending.returned v = .returned O/\post r S'/\Own w' (live X S') S'/\bF w' (live X S') r O/\Fr w (au S) w' (au S') :=
  ⟨h1.defers,v,q2,v,r,S',rfl,h5,h1.own.sub N,q1.mono fun b _ hn=>⟨rfl,fun hl=>hn (hl.imp id fun q=>E.subset q)⟩,
   ⟨h1.fr.os,h1.fr.tape,h1.fr.output,h1.fr.size,fun b J hn=>⟨(h1.fr.block b J hn).1,fun q=>(h1.fr.block b J hn).2 (E.subset q)⟩⟩⟩
 rcases h2 with rfl|rfl<;>exact M
end
section
variable {aZ i t:Nat} {ld:Array Bool}
def gW(w1:World)(S1 T:List Nat)(w:World):Prop:=(∀b,b<w1.heap.size->b∉S1->w.heap[b]?=w1.heap[b]?)/\∀b∈T,w.heap[b]?=w1.heap[b]?
def AD(P:Program)(C:cq)(ops:Array Oper)(S1 T:List Nat)(aZ:Nat)(ld:Array Bool)(x:St)(Q:Exit->St->Prop):Prop :=
 ∀w1 a w,bP C x a w->(∀b∈T,b∈S1)->(∀b∈S1,b<w1.heap.size)->Fr w1 S1 w (au x.S)->gW w1 S1 T w->wpAnyH P .any ops (LQ C Q) (gW w1 S1 T) aZ ld a w
def bp(P:Program)(C:cq)(ops:Array Oper)(S1 T:List Nat)(aZ:Nat)(ld:Array Bool)(x:St)(Q:Exit->St->Prop):Prop :=
 ∀a w,bP C x a w->au x.S=S1->(∀b∈T,b∈S1)->wpAnyH P .any ops (LQ C Q) (gW w S1 T) aZ ld a w
def NP(Q:Exit->St->Prop):Prop:=∀c y t,Q (.panic c) y->Q (.panic c) (y.put t .cU)
variable {P:Program} {C:cq} {Q:Exit->St->Prop} {x y:St} {ops:Array Oper} {l:List Oper} {o:Oper} {S1 T:List Nat}
theorem NP.body{fn:Func}{post:D->List ay->Prop}:NP (Body P fn post):=fun I y t E=>by rcases E.1 with h|h<;>cases h
theorem gW.refl(w1:World)(S1 T:List Nat):gW w1 S1 T w1:=⟨fun _ _ _=>rfl,fun _ _=>rfl⟩
theorem bp.later(hS:au x.S=S1)(h:AD P C ops S1 T aZ ld x Q):bp P C ops S1 T aZ ld x Q:=fun a w hs _ hT =>
 h w a w hs hT (fun b hb=>by
  rw[<-hS] at hb;obtain⟨B,hB,rfl⟩:=mem_map.1 hb;exact(hs.own.at_ B hB).1) (hS ▸ Fr.refl _ _) (gW.refl _ _ _)
def Safe(x:St)(T:List Nat):Rd->Prop
 | .none=>True
 | .eP=>True
 | .ec k=>∃B,x.S[k]?=some B/\B.b∈T
theorem pM(h:NP Q)(d:Option Nat)(v:Value):∀c a w,LQ C Q (.panic c) (a.put d v) w->LQ C Q (.panic c) a w:=fun c a w E=>by
 rcases E with ⟨y,h1,h2⟩|⟨h2,_⟩
 ·cases d with
  | none=>exact .inl ⟨y,h1,h2⟩
  | some t =>
   refine .inl ⟨y.put t .cU,⟨h1.defers,by have I:=h1.size;simp only[Act.put,Array.size_setIfInBounds] at I;exact I,fun q E=>?_,h1.own,h1.fr,h1.ex,h1.dI⟩,h c y t h2⟩;have J:=h1.env q E;simp only[St.put,jj];by_cases e:t=q
   ·rw[if_pos e];exact .cU _
   rw[if_neg e];have:(a.put (some t) v).tmps.getD q undef=a.tmps.getD q undef:=(by simp[Act.put,Array.getD_eq_getD_getElem?,Array.getElem?_setIfInBounds,e])
   rw[this] at J;exact J
 cases h2
theorem bp.take {k:Rd} {d:D} (hi:ops[i]?=some o) (hs:Region.noSelect ops=true) (hf:Region.free .any ops ld i=true) (hr:(Region.ready .any ops ld).contains i=true) (hp:NP Q)
  (hw:cg ops x o true) (hd:o.dst=some t) (h:bG P C.G x o k d) (hk:Safe x T k) (K:bp P C ops S1 T aZ (ld.setIfInBounds i true) (x.put t d) Q):bp P C ops S1 T (aZ+1) ld x Q:=fun a w E hS hT=>by
 obtain⟨v,h1,h2⟩:=h C a w rfl E;refine wpAnyH_take hi hs hf hr (pM hp _ v) (.inl ⟨hw C a w E,fun w' I=>h2 w' ?_⟩) (gW.refl _ _ _) ?_
 ·cases k with
  | none=>trivial
  | eP=>exact fun b hb hn=>I.1 b hb (fun hm=>hn (.inr (hS ▸ hm)))
  | ec k =>
   obtain⟨B,hB,hm⟩:=hk;intro M J;rw[hB] at J;obtain rfl:=Option.some.inj J;exact I.2 _ hm
 rw[hd];exact K _ _ (E.put h1) hS hT
theorem bp.g8 (hi:ops[i]?=some o) (hs:Region.noSelect ops=true) (hf:Region.free .any ops ld i=true) (hr:(Region.ready .any ops ld).contains i=true) (hp:NP Q)
  (hw:cg ops x o false) (hd:o.dst=some t) (K:bp P C ops S1 T aZ (ld.setIfInBounds i true) (x.put t (.v (.tuple #[]))) Q):bp P C ops S1 T (aZ+1) ld x Q:=fun a w E hS hT=>by
 refine wpAnyH_take (v:=undef) hi hs hf hr (pM hp _ _) (.inr ⟨hw C a w E,rfl⟩) (gW.refl _ _ _) ?_;rw[hd];exact K _ _ (E.put (.v _)) hS hT
theorem AD.take {k:Rd} {d:D} (hi:ops[i]?=some o) (hs:Region.noSelect ops=true) (hf:Region.free .any ops ld i=true) (hr:(Region.ready .any ops ld).contains i=true) (hp:NP Q)
  (hw:cg ops x o true) (hd:o.dst=some t) (h:bG P C.G x o k d) (hk:Safe x T k) (uc:k≠.eP) (K:AD P C ops S1 T aZ (ld.setIfInBounds i true) (x.put t d) Q):AD P C ops S1 T (aZ+1) ld x Q:=fun w1 a w E hT aH M I=>by
 obtain⟨v,h1,h2⟩:=h C a w rfl E;refine wpAnyH_take hi hs hf hr (pM hp _ v) (.inl ⟨hw C a w E,fun w' N=>h2 w' ?_⟩) I ?_
 ·cases k with
  | none=>trivial
  | eP=>exact absurd rfl uc
  | ec k =>
   obtain⟨B,hB,hm⟩:=hk;intro O J;rw[hB] at J;obtain rfl:=Option.some.inj J;exact(N.2 _ hm).trans (I.2 _ hm).symm
 rw[hd];exact K _ _ _ (E.put h1) hT aH M I
theorem eG (hi:ops[i]?=some o) (hs:Region.noSelect ops=true) (hf:Region.free .any ops ld i=true) (hr:(Region.ready .any ops ld).contains i=true) (hp:NP Q)
  (hw:cg ops x o false) (hd:o.dst=some t) (K:AD P C ops S1 T aZ (ld.setIfInBounds i true) (x.put t (.v (.tuple #[]))) Q):AD P C ops S1 T (aZ+1) ld x Q:=fun w1 a w E hT aH J I=>by
 refine wpAnyH_take (v:=undef) hi hs hf hr (pM hp _ _) (.inr ⟨hw C a w E,rfl⟩) I ?_;rw[hd];exact K _ _ _ (E.put (.v _)) hT aH J I
def dr(P:Program)(C:cq)(ops:Array Oper)(S1 T:List Nat)(aZ:Nat)(ld:Array Bool)(x:St)(Q:Exit->St->Prop)(i:Nat):Prop :=
 ∀w1 a w,bP C x a w->(∀b∈T,b∈S1)->(∀b∈S1,b<w1.heap.size)->Fr w1 S1 w (au x.S)->gW w1 S1 T w ->
  wpOp P ops (LQ C Q) i (fun a' w'=>gW w1 S1 T w'/\wpAnyH P .any ops (LQ C Q) (gW w1 S1 T) aZ (ld.setIfInBounds i true) a' w') a w
theorem AD.all{I:List Nat}(hr:Region.ready .any ops ld=I)(hne:I≠[])(h:∀i∈I,dr P C ops S1 T aZ ld x Q i):AD P C ops S1 T (aZ+1) ld x Q:=fun w1 a w E hT aH J K =>
 wpAnyH_all hr hne fun i hi=>h i hi w1 a w E hT aH J K
theorem aG(hr:Region.ready .any ops ld=[i])(h:dr P C ops S1 T aZ ld x Q i):AD P C ops S1 T (aZ+1) ld x Q :=
 AD.all hr cl fun j hj=>by
  have:j=i:=(by simpa using hj)
  subst this;exact h
theorem dn{j:Nat}(hr:Region.ready .any ops ld=[i,j])(h:dr P C ops S1 T aZ ld x Q i)(h':dr P C ops S1 T aZ ld x Q j):AD P C ops S1 T (aZ+1) ld x Q :=
 AD.all hr cl fun k hk=>by
  simp only[mem_cons,not_mem_nil,or_false] at hk;rcases hk with rfl|rfl
  ·exact h
  exact h'
theorem rM{j k:Nat}(hr:Region.ready .any ops ld=[i,j,k])(h:dr P C ops S1 T aZ ld x Q i)(h':dr P C ops S1 T aZ ld x Q j)(E:dr P C ops S1 T aZ ld x Q k):AD P C ops S1 T (aZ+1) ld x Q :=
 AD.all hr cl fun m hm=>by
  simp only[mem_cons,not_mem_nil,or_false] at hm;rcases hm with rfl|rfl|rfl
  ·exact h
  ·exact h'
  exact E
theorem bC(hr:Region.ready .any ops ld=[])(h:Q .normal x):AD P C ops S1 T aZ ld x Q:=fun w1 a w E hT aH I J=>wpAnyH_done hr (.inl ⟨x,E,h⟩) _
theorem dr.eR {W:List Nat} {post:St->Prop} (hi:ops[i]?=some o) (hw:cg ops x o true) (h:gh P C.G x o W post) (hW:∀C a w,bP C x a w->∀b∈T,b∉W) (U:∀b∈W,b∈au x.S)
  (k:∀y,post y->AD P C ops S1 T aZ (ld.setIfInBounds i true) y Q):dr P C ops S1 T aZ ld x Q i:=fun w1 a w I hT aH E M=>by
 unfold wpOp;simp only[hi,hw C a w I,if_true];refine .inl (h C a w _ _ rfl I fun y Y w' hp N hc hf=>?_);have J:Fr w1 S1 w' (au y.S):=⟨hf.os.trans E.os,hf.tape.trans E.tape,hf.output.trans E.output,Nat.le_trans E.size hf.size,fun b hb hn=>by
  obtain⟨q1,q2⟩:=E.block b hb hn;obtain⟨Z,q4⟩:=hf.block b (Nat.lt_of_lt_of_le hb E.size) q2;exact⟨Z.trans q1,q4⟩⟩
 have K:gW w1 S1 T w':=⟨fun b hb hn=>(J.block b hb hn).1,fun b hb=>by
  have O:=Nat.lt_of_lt_of_le (aH b (hT b hb)) E.size;exact(hc.2 b O (hW C a w I b hb)).trans (M.2 b hb)⟩
 exact⟨K,k y hp w1 Y w' N hT aH J K⟩
theorem lD{kd:Rd}{d:D}(hi:ops[i]?=some o)(hw:cg ops x o true)(hd:o.dst=some t)(h:bG P C.G x o kd d)(k:AD P C ops S1 T aZ (ld.setIfInBounds i true) (x.put t d) Q):dr P C ops S1 T aZ ld x Q i :=
 dr.eR hi hw (h.eR hd) (fun _ _ _ _ b _ hb=>by simp at hb) (fun b hb=>by simp at hb) fun y hy=>by subst hy;exact k
theorem eo(hi:ops[i]?=some o)(hw:cg ops x o false)(hd:o.dst=some t)(k:AD P C ops S1 T aZ (ld.setIfInBounds i true) (x.put t (.v (.tuple #[]))) Q):dr P C ops S1 T aZ ld x Q i:=fun w1 a w E hT aH J I=>by
 unfold wpOp;simp only[hi,hw C a w E,hd];exact⟨I,k w1 _ w (E.put (.v _)) hT aH J I⟩
theorem gw(h:Wk x y)(hb:au y.S=au x.S)(k:AD P C ops S1 T aZ ld y Q):AD P C ops S1 T aZ ld x Q:=fun w1 a w E hT aH I J=>k w1 a w (h C a w E) hT aH (hb ▸ I) J
theorem pi(h:Wk x y)(hb:∀b∈au y.S,b∈au x.S)(k:AD P C ops S1 T aZ ld y Q):AD P C ops S1 T aZ ld x Q:=fun w1 a w I hT aH E J =>
 k w1 a w (h C a w I) hT aH ⟨E.os,E.tape,E.output,E.size,fun b h1 h2=>⟨(E.block b h1 h2).1,fun K=>(E.block b h1 h2).2 (hb b K)⟩⟩ J
theorem dB{id:Nat}{l:List Oper}(T:List Nat)(hm:P.follows .mixedOrders=true)(hT:∀b∈T,b∈au x.S)(h:bp P C l.toArray (au x.S) T l.toArray.size (Array.replicate l.toArray.size false) x Q):CD P C (.region id l.toArray true) x Q:=fun a w hs =>
 wp_region_held (S:=gW {w with drawn:=w.drawn+1} (au x.S) T) hm (h a _ ⟨hs.defers,hs.size,fun t ht=>(hs.env t ht).mono fun b _ hn=>⟨rfl,hn⟩,⟨fun B E=>by
  obtain⟨r0,cur,r1,r2,I,J⟩:=hs.own.at_ B E;exact⟨r0,cur,r1,r2,I,fun i hi=>by
   obtain⟨u,hu,hq⟩:=J i hi;exact⟨u,hu,hq.mono fun b _ hn=>⟨rfl,hn⟩⟩⟩,hs.own.apart⟩,⟨hs.fr.os,hs.fr.tape,hs.fr.output,hs.fr.size,hs.fr.block⟩,hs.ex,hs.dI⟩ rfl hT)
end
section
variable {P:Program}
variable {t:TypeId} {k:IntKind} {a b r:Int} {us jE:List Value}
theorem rZ{op:BinOp}(h:(op = .add/\k.wrap (a+b)=r)\/(op = .sub/\k.wrap (a-b)=r)\/(op = .mul/\k.wrap (a*b)=r)):fX P op t (.int k a) (.int k b) (.int k r):=fun y z w=>by
 rcases h with ⟨rfl,h⟩|⟨rfl,h⟩|⟨rfl,h⟩<;>simp[eqGuard,binOp,Op.intArith,h]
theorem pA(h:k.wrap (a+b)=r):fX P .add t (.int k a) (.int k b) (.int k r):=rZ (.inl ⟨rfl,h⟩)
theorem nu(h:k.wrap (a-b)=r):fX P .sub t (.int k a) (.int k b) (.int k r):=rZ (.inr (.inl ⟨rfl,h⟩))
theorem nv(h:k.wrap (a*b)=r):fX P .mul t (.int k a) (.int k b) (.int k r):=rZ (.inr (.inr ⟨rfl,h⟩))
theorem A5:fX P .lss t (.int k a) (.int k b) (.bool (decide (a<b))):=fun y z w=>by simp[eqGuard,binOp,Op.intCmp]
theorem A6:fX P .leq t (.int k a) (.int k b) (.bool (decide (a<=b))):=fun y z w=>by simp[eqGuard,binOp,Op.intCmp]
theorem A7:fX P .gtr t (.int k a) (.int k b) (.bool (decide (a>b))):=fun y z w=>by simp[eqGuard,binOp,Op.intCmp]
theorem A8:fX P .geq t (.int k a) (.int k b) (.bool (decide (a>=b))):=fun y z w=>by simp[eqGuard,binOp,Op.intCmp]
theorem pB:fX P .eql t (.int k a) (.int k b) (.bool (a==b)):=fun y z w=>by simp[eqGuard,binOp,Op.intCmp]
theorem A9:fX P .neq t (.int k a) (.int k b) (.bool (a != b)):=fun y z w=>by simp[eqGuard,binOp,Op.intCmp]
theorem wM(hb:b≠0):fX P .rem t (.int k a) (.int k b) (.int k (a.tmod b)):=fun y z w=>by simp[eqGuard,binOp,Op.intDiv,hb]
theorem AE{a b:ByteArray}:fX P .eql t (.string a) (.string b) (.bool (a.toList==b.toList)):=fun y z w=>by simp[eqGuard,binOp,Op.stringOp]
theorem v5{a b:ByteArray}:fX P .neq t (.string a) (.string b) (.bool (!(a.toList==b.toList))):=fun y z w=>by simp[eqGuard,binOp,Op.stringOp]
theorem v7{a b:Bool}(E:P.underlying t=some .bool):fX P .eql t (.bool a) (.bool b) (.bool (a==b)):=fun y z w=>by
 have:binOp .eql t (.bool a) (.bool b)=(do pure (.bool (<-Op.equal t (.bool a) (.bool b)))):=rfl;simp only[eqGuard,this,Sem.run_bind];simp[run_equal_bool w t a b E]
theorem bF.pN{w:World}{L:Nat->Prop}{v:Value}(h:bF w L (.agg (us.map .v)) v):v = .agg us.toArray:=by
 cases h with
 | agg _ vs hl hr =>
  congr 1;congr 1;refine ext_getElem (by simpa using hl) fun i h1 h2=>?_;have:=hr i (by simpa using h2) h1;simp only[getElem_map] at this;exact this.eK
section
variable {G:List (Nat×List Value)} {x:St} {o:Oper}
theorem rC {t':TypeId} {y z:Operand} {r:Bool} (ho:o.op = .binOp .eql t y z t') (hy:aL x y = .agg (us.map .v)) (hz:aL x z = .agg (jE.map .v)) (hg:P.eqGuardType P.depth t=false)
  (E:∀w,(Op.equalIn 10000 t (.agg us.toArray) (.agg jE.toArray)).run P w = .ok r w):bG P G x o .none (.v (.bool r)):=fun C a w _ h=>by
 have h1:=h.eval y;have h2:=h.eval z;rw[hy] at h1;rw[hz] at h2;refine⟨_,.v _,fun w' _=>?_⟩;unfold execOp;simp only[ho,h1.pN,h2.pN,Sem.run_bind,run_eqGuard_agg _ _ _ _ _ _ _ hg,Result.andThen_ok,run_eql_struct,E,Sem.run_pure]
theorem vN {t':TypeId} {y z:Operand} {r:Bool} (ho:o.op = .binOp .neq t y z t') (hy:aL x y = .agg (us.map .v)) (hz:aL x z = .agg (jE.map .v)) (hg:P.eqGuardType P.depth t=false)
  (E:∀w,(Op.equalIn 10000 t (.agg us.toArray) (.agg jE.toArray)).run P w = .ok r w):bG P G x o .none (.v (.bool !r)):=fun C a w _ h=>by
 have h1:=h.eval y;have h2:=h.eval z;rw[hy] at h1;rw[hz] at h2;refine⟨_,.v _,fun w' _=>?_⟩;unfold execOp;simp only[ho,h1.pN,h2.pN,Sem.run_bind,run_eqGuard_agg _ _ _ _ _ _ _ hg,Result.andThen_ok,run_neq_struct,E,Sem.run_pure]
end
theorem BL{b:Bool}:∀w,(Op.unary .not (.bool b)).run P w = .ok (.bool !b) w:=fun w=>rfl
theorem xh(h:k.wrap (0-a)=r):∀w,(Op.unary .neg (.int k a)).run P w = .ok (.int k r) w:=fun w=>by
 subst h;rfl
theorem wrap_i64{x:Int}(h1:-9223372036854775808<=x)(h2:x<=9223372036854775807):IntKind.i64.wrap x=x:=IntWalk.i64_in _ w8
theorem BM{ts:Array TypeId}{E:TypeId}:∀cs w,(builtin .min ts E cs #[.int k a,.int k b]).run P w = .ok (.value (.int k (if b<a then b else a))) w:=fun cs w=>by
 simp[builtin,Builtin.min_,Builtin.min2]
theorem ah:(∀{p:Prop} [Decidable p],(decide p=true)=p)/\(∀{p:Prop} [Decidable p],(decide p=false)↔¬p)/\(∀{a b:Int},(a==b)=true↔a=b)/\(∀{a b:Int},(a != b)=true↔a≠b)/\(∀{a b:Bool},(a==b)=true↔a=b)/\(∀{a b:Bool},(a != b)=true↔a≠b)
  /\ (∀{b:Bool},((!b)=true)=(b=false))/\(∀{b:Bool},((!b)=false)=(b=true))/\(∀{b:Bool},(¬b=true)=(b=false))/\(∀{b:Bool},(¬b=false)=(b=true))/\(∀{a b:Int},(a==b)=false↔¬a=b)/\(∀{a b:Int},(a != b)=false↔a=b)/\(∀{a b:Bool},(a==b)=false↔¬a=b)/\(∀{a b:Bool},(a != b)=false↔a=b)
  /\ (∀{a b:Bool},((a&&b)=true)=(a=true/\b=true))/\(∀{a b:Bool},((a||b)=true)=(a=true\/b=true))/\(∀{b:Bool},(!!b)=b)/\(∀{a b:Bool},(a&&b)=false↔a=false\/b=false)/\(∀{a b:Bool},(a||b)=false↔a=false/\b=false)/\(∀{a b:Int},(¬a<b)↔b<=a)/\(∀{a b:Int},(¬a<=b)↔b<a):=by
 refine⟨fun {p} _=>by simp,fun {p} _=>by simp,by simp,by simp,by simp,by simp,by simp,by simp,by simp,by simp,by simp,by simp,by simp,by simp,by simp,by simp,by simp,by simp,by simp,by simp,by simp⟩
end
section
variable {P:Program} {C:cq} {G:List (Nat×List Value)} {Q:Exit->St->Prop} {x y:St} {ops:Array Oper} {l:List Oper} {o:Oper}
variable {z fo:Operand} {d:D} {t e:TypeId} {ps:List (Nat×Operand)} {pl:List (Nat×D)} {ds args:List D} {sz f i:Nat} {bN:Array Operand} {ts:Array TypeId} {Sf:List ay} {post:D->List ay->Prop} {α:Type} {J hi:Option Operand}
theorem jl(ho:o.op = .move z)(hd:aL x z=d):bG P G x o .none d:=hd ▸ z9 ho
theorem gp(ho:o.op = .assign z)(hd:aL x z=d):bG P G x o .none d:=hd ▸ zC ho
theorem lE{c y:Operand}{t:Bool}(ho:o.op = .pick c y z)(hc:aL x c = .v (.bool t))(h:t=true)(hd:aL x y=d):bG P G x o .none d:=by
 have:=vq (P:=P) (G:=G) ho hc;rw[if_pos h,hd] at this;exact this
theorem gM{c y:Operand}{t:Bool}(ho:o.op = .pick c y z)(hc:aL x c = .v (.bool t))(h:t=false)(hd:aL x z=d):bG P G x o .none d:=by
 have:=vq (P:=P) (G:=G) ho hc;rw[if_neg (by rw[h];simp),hd] at this;exact this
def fZ(x:St):List Operand->List D->Prop
 | [],[]=>True
 | o::r,d::r'=>aL x o=d/\fZ x r r'
 | _,_=>False
theorem fZ.eq:∀{os:List Operand} {ds:List D},fZ x os ds->os.map (aL x)=ds
 | [],[],_=>rfl
 | o::r,d::r',h=>by rw[map_cons,h.1,fZ.eq h.2]
 | [],_::_,h=>h.elim
 | _::_,[],h=>h.elim
def iE(x:St):List (Nat×Operand)->List (Nat×D)->Prop
 | [],[]=>True
 | p::r,q::r'=>p.1=q.1/\aL x p.2=q.2/\iE x r r'
 | _,_=>False
theorem iE.eq:∀{ps:List (Nat×Operand)} {ds:List (Nat×D)},iE x ps ds->fe x ps.toArray=ds
 | [],[],_=>rfl
 | p::r,(i,d)::r',h=>by
  have:=iE.eq h.2.2;simp only[fe,map_cons] at this |-;rw[this,h.1,h.2.1]
 | [],_::_,h=>h.elim
 | _::_,[],h=>h.elim
def iF:D->Bool
 | .cU=>false
 | _=>true
theorem oR{ps:List (Nat×D)}(h:ps.all (fun p=>iF p.2)=true):∀p∈ps,p.2≠.cU:=fun p hp he=>by
 have:=all_eq_true.1 h p hp;rw[he] at this;cases this
theorem ct {E:Array Field} {places:Array (Nat×Nat)} {z:Value} (ho:o.op = .build t ps.toArray) (hz:∀w,(zeroValue t).run P w = .ok z w)
  (I:∀w,(underlying t).run P w = .ok (.struct E) w) (hp:∀w,(E.mapM fun f=>do pure (f.offset,<-sizeOf f.type):Sem (Array (Nat×Nat))).run P w = .ok places w)
  (gD:iE x ps pl) (hj:pl.all (fun p=>iF p.2)=true) (hd:fD (places[·]?) (z.cells.toList.map .v) pl=some ds):bG P G x o .none (.agg ds):=by
 refine z1 ho hz I hp ?_ ?_
 ·rw[gD.eq];exact oR hj
 rw[gD.eq];exact hd
theorem Ac {n:Nat} {z:Value} (ho:o.op = .build t ps.toArray) (hz:∀w,(zeroValue t).run P w = .ok z w)
  (E:∀w,(underlying t).run P w = .ok (.array n e) w) (hs:∀w,(sizeOf e).run P w = .ok sz w)
  (gD:iE x ps pl) (hj:pl.all (fun p=>iF p.2)=true) (hd:fD (fun i=>some (i*sz,sz)) (z.cells.toList.map .v) pl=some ds):bG P G x o .none (.agg ds):=by
 refine zH ho hz E hs ?_ ?_
 ·rw[gD.eq];exact oR hj
 rw[gD.eq];exact hd
def aP(k:Nat):List D->List (Nat×D)
 | []=>[]
 | d::r=>(k,d)::aP (k+1) r
theorem vO:∀(ds pre post:List D),ds.length<=post.length->eX (pre++post) pre.length ds=(pre++ds)++post.drop ds.length
 | [],pre,post,_=>by simp[eX]
 | d::ds,pre,[],h=>by simp at h
 | d::ds,pre,p::post,h=>by
  rw[eX,show(pre++p::post).set pre.length d=(pre++[d])++post by simp,show pre.length+1=(pre++[d]).length by simp,vO ds (pre++[d]) post (by simpa using h)];simp
theorem wN{sz:Nat}:∀(pd:List D) (k:Nat) (pre post:List D),(pd.all fun d=>Nat.beq (cellsOf d).length sz)=true->pre.length=k*sz->post.length=pd.length*sz->fD (fun i=>some (i*sz,sz)) (pre++post) (aP k pd)=some (pre++pd.flatMap cellsOf)
 | [],k,pre,post,_,_,h=>by
  have:post=[]:=length_eq_zero_iff.1 (by simpa using h);simp[aP,fD,this]
 | d::r,k,pre,post,ha,h1,h2=>by
  rw[all_cons,Bool.and_eq_true] at ha;have hd:(cellsOf d).length=sz:=Nat.eq_of_beq_eq_true ha.1;have hp:post.length=r.length*sz+sz:=(by rw[h2,length_cons,Nat.succ_mul])
  rw[aP,fD];simp only;rw[if_neg (by simp only[hd,length_append,h1,hp,ne_eq,not_true_eq_false,decide_false,Bool.false_or,decide_eq_true_eq];omega),<-h1,vO _ _ _ w8,wN r (k+1) _ _ ha.2 (by rw[length_append,hd,h1,Nat.succ_mul]) (by rw[length_drop,hd];omega),flatMap_cons];simp
theorem An{pd zs:List D}(ha:(pd.all fun d=>Nat.beq (cellsOf d).length sz)=true)(hl:Nat.beq zs.length (pd.length*sz)=true)(jb:pd.flatMap cellsOf=ds):fD (fun i=>some (i*sz,sz)) zs (aP 0 pd)=some ds:=by
 have:=wN pd 0 [] zs ha cl (Nat.eq_of_beq_eq_true hl);rw[nil_append,nil_append,jb] at this;exact this
theorem Ba {tt len:Nat} {z:Value} {gE:List Value} (hw:cg ops x o true) (ho:o.op = .buildSlice t len ps.toArray) (fq:o.dst=some tt) (hz:∀w,(zeroValue e).run P w = .ok z w)
  (E:∀w,(underlying t).run P w = .ok (.slice e) w) (hs:∀w,(sizeOf e).run P w = .ok sz w) (hl:Nat.ble 1 (len*sz)=true) (j8:Nat.ble (len*sz) (2 ^ 24)=true) (cW:(Array.range (len*sz)).map (fun i=>z.cells[i % z.cells.size]!)=gE.toArray)
  (gD:iE x ps pl) (hj:pl.all (fun p=>iF p.2)=true) (hd:fD (fun i=>some (i*sz,sz)) (gE.map .v) pl=some ds)
  (k:∀b,OD P C ops l ⟨x.n,(tt,.v (.slice (some ⟨b,0,none⟩) len len))::x.env,⟨b,e,ds.length,ds⟩::x.S⟩ Q) (hne:isMap e=false:=by rfl):OD P C ops (o::l) x Q:=by
 refine OD.eR hw (u7 (hne:=hne) (zs:=gE.map .v) (ds:=ds) ho fq hz E hs (Nat.le_of_ble_eq_true hl) (Nat.le_of_ble_eq_true j8) ?_ ?_ ?_ ?_) ?_
 ·rw[cW];congr 1;rw[map_map];exact(map_id gE).symm
 ·intro d hd;obtain⟨u,_,rfl⟩:=mem_map.1 hd;exact⟨u,rfl⟩
 ·rw[gD.eq];exact oR hj
 ·rw[gD.eq];exact hd
 rintro _ ⟨b,rfl⟩;exact k b
theorem ep {z:Value} {t:Nat} (hw:cg ops x o true) (ho:o.op = .alloc e) (hd:o.dst=some t) (hz:∀w,(zeroValue e).run P w = .ok z w) (jb:z.cells.toList.map .v=ds)
  (k:∀b,OD P C ops l ⟨x.n,(t,.v (.pointer (some ⟨b,0,none⟩)))::x.env,⟨b,e,ds.length,ds⟩::x.S⟩ Q) (hne:isMap e=false:=by rfl):OD P C ops (o::l) x Q :=
 OD.eR hw (Al (hne:=hne) ho hd hz jb) fun y ⟨b,hy⟩=>hy ▸ k b
theorem fi {t:Nat} (hw:cg ops x o true) (ho:o.op = .box e z) (hd:o.dst=some t) (hy:aL x z=d) (hj:iF d=true) (jb:cellsOf d=ds)
  (k:∀b,OD P C ops l ⟨x.n,(t,.v (.pointer (some ⟨b,0,none⟩)))::x.env,⟨b,e,ds.length,ds⟩::x.S⟩ Q) (hne:isMap e=false:=by rfl):OD P C ops (o::l) x Q :=
 OD.eR hw (A2 (hne:=hne) ho hd hy (fun h=>by rw[h] at hj;cases hj) jb) fun y ⟨b,hy⟩=>hy ▸ k b
theorem OD.store {t:TypeId} {k b o' n:Nat} {B:ay} {d:D} {cs':List D} {y z:Operand} (hw:cg ops x o true) (ho:o.op = .store t y z) (fq:o.dst=none) (hy:aL x y = .v (.pointer (some ⟨b,o',none⟩)))
  (hk:x.S[k]?=some B) (hb:B.b=b) (hz:aL x z=d) (hj:iF d=true) (h1:(cellsOf d).all one=true) (hn:∀w,(sizeOf t).run P w = .ok n w) (j9:(cellsOf d).length=n) (hl:Nat.ble (o'+n) B.cs.length=true) (cB:eX B.cs o' (cellsOf d)=cs')
  (K:OD P C ops l ⟨x.n,x.env,x.S.set k {B with cs:=cs'}⟩ Q) (hne:isMap B.e=false:=by rfl):OD P C ops (o::l) x Q :=
 OD.eR hw (vM (hne:=hne) ho fq hy hk hb hz (fun h=>by rw[h] at hj;cases hj) h1 hn j9 (Nat.le_of_ble_eq_true hl) cB) fun y hy=>hy ▸ K
theorem cG {t:Nat} {R:List ay} (hw:cg ops x o true) (ho:o.op = .call {callee:=.value fo,args:=bN,argTypes:=ts}) (hd:o.dst=some t)
  (hf:fo = .func f) (E:∀args w,(callFunc f args).run P w = .ok (.enter f args) w) (hc:VC P C.G f args Sf post) (ha:fZ x bN.toList args) (hp:x.S.Perm (Sf++R))
  (K:∀r S',post r S'->OD P C ops l ⟨x.n,(t,r)::x.env,S'++R⟩ Q):OD P C ops (o::l) x Q :=
 OD.eR hw (rL ho hd hf E ha.eq hp hc) fun y ⟨r,S',h,hy⟩=>hy ▸ K r S' h
theorem nn {t:Nat} {r:D} (hw:cg ops x o true) (ho:o.op = .call {callee:=.value fo,args:=bN,argTypes:=ts}) (hd:o.dst=some t)
  (hf:fo = .func f) (E:∀args w,(callFunc f args).run P w = .ok (.enter f args) w) (hc:VP P C.G f args r) (ha:fZ x bN.toList args)
  (K:OD P C ops l (x.put t r) Q):OD P C ops (o::l) x Q :=
 cG hw ho hd hf E hc ha (kI _) fun I S' ⟨h1,h2⟩=>by subst h1 h2;exact K
theorem v8 {t:Nat} {da all:List D} {R:List ay} (hw:cg ops x o true) (ho:o.op = .call {callee:=.value fo,args:=bN,argTypes:=ts}) (hd:o.dst=some t)
  (hf:aL x fo = .dV (.func f) da) (E:∀args w,(callFunc f args).run P w = .ok (.enter f args) w) (hc:VC P C.G f all Sf post) (I:args++da=all) (ha:fZ x bN.toList args) (hp:x.S.Perm (Sf++R))
  (K:∀r S',post r S'->OD P C ops l ⟨x.n,(t,r)::x.env,S'++R⟩ Q):OD P C ops (o::l) x Q :=
 OD.eR hw (Am ho hd hf E (by rw[ha.eq,I]) hp hc) fun y ⟨r,S',h,hy⟩=>hy ▸ K r S' h
theorem OD.append {s y:Operand} {t e tt sz bytes n m b cap k:Nat} {z:Value} {B:ay} {cs:List D} (hw:cg ops x o true) (ho:o.op = .call {callee:=.builtin .append,args:=#[s,y],argTypes:=#[t,t]}) (hd:o.dst=some tt)
  (ht:P.underlying t=some (.slice e)) (hi:(P.info? e).map (fun i=>(i.zero,i.size,i.bytes))=some (some z,sz,bytes)) (cW:z.cells.size=sz) (U:0<sz)
  (hs:aL x s = .v (.slice (some ⟨b,0,none⟩) n cap)) (hk:x.S[k]?=some B) (hb:B.b=b) (he:B.e=e) (J:B.size=cap*sz) (hl:B.cs.length=n*sz) (hn:n<=cap) (M:cap<=maxLen)
  (hy:aL x y = .list sz cs m) (N:∀d∈cs,one d=true) (hm:0<m) (Y:n+m<=maxLen) (I:(n+m)*bytes<=140737488355328)
  (K:∀O E,n+m<=E->E<=maxLen->OD P C ops l ⟨x.n,(tt,.v (.slice (some ⟨O,0,none⟩) (n+m) E))::x.env,⟨O,e,E*sz,B.cs++cs⟩::x.S.eraseIdx k⟩ Q) (hne:isMap B.e=false:=by rfl):OD P C ops (o::l) x Q :=
 OD.eR hw (vw (hne:=hne) ho hd ht hi cW U hs hk hb he J hl hn M hy N hm Y I) fun y ⟨O,E,h1,h2,hy⟩=>hy ▸ K O E h1 h2
theorem zI {s y:Operand} {t e tt bytes m:Nat} {z:Value} {cs:List D} (hw:cg ops x o true) (ho:o.op = .call {callee:=.builtin .append,args:=#[s,y],argTypes:=#[t,t]}) (hd:o.dst=some tt)
  (ht:P.underlying t=some (.slice e)) (hi:(P.info? e).map (fun i=>(i.zero,i.size,i.bytes))=some (some z,sz,bytes)) (cW:z.cells.size=sz) (N:0<sz)
  (hs:aL x s = .v (.slice none 0 0)) (hy:aL x y = .list sz cs m) (J:∀d∈cs,one d=true) (hm:0<m) (O:m<=maxLen) (I:m*bytes<=140737488355328)
  (K:∀M E,m<=E->E<=maxLen->OD P C ops l ⟨x.n,(tt,.v (.slice (some ⟨M,0,none⟩) m E))::x.env,⟨M,e,E*sz,cs⟩::x.S⟩ Q) (hne:isMap e=false:=by rfl):OD P C ops (o::l) x Q :=
 OD.eR hw (ve (hne:=hne) ho hd ht hi cW N hs hy J hm O I) fun y ⟨M,E,h1,h2,hy⟩=>hy ▸ K M E h1 h2
theorem cM{t:Nat}{b:Bool}(hb:look t x.env = .v (.bool b))(h1:b=true->OD P C ops l x Q)(h2:b=false->OD P C ops l x Q):OD P C ops l x Q:=by
 cases h:b
 ·exact h2 h
 exact h1 h
theorem zu{E:Addr}(ho:o.op = .nilCheck z)(hz:aL x z = .v (.pointer (some E))):bG P G x o .none (.v (.pointer (some E))):=fun C a w _ h =>
 ⟨_,.v _,fun w' _=>by unfold execOp;simp only[ho,h.flat hz];rfl⟩
theorem zn{cs:List D}{off:Nat}(ho:o.op = .nilCheck z)(hz:aL x z = .dh cs off):bG P G x o .none (.dh cs off):=fun C a w _ h=>by
 have hr:=h.eval z;rw[hz] at hr;generalize hg:a.eval z=u at hr;cases hr with
 | dh _ _ b E g hb hL hc I=>exact⟨_,.dh cs off b E g hb hL hc I,fun w' _=>by unfold execOp;simp only[ho,hg];rfl⟩
theorem rN{fn:Fn}{da:Array Operand}(ho:o.op = .makeFunc fn #[] da)(hd:fZ x da.toList ds):bG P G x o .none (.dV fn ds):=Ab ho hd.eq
theorem dg{α:Type}{g:α->List D}{sz:Nat}(hg:∀a,(g a).length=sz):∀(ls:List α),(ls.flatMap g).length=ls.length*sz
 | []=>by simp
 | a::r=>by rw[flatMap_cons,length_append,hg,dg hg r,length_cons,Nat.add_mul];omega
theorem pu{α:Type}{g:α->List D}{sz:Nat}(hg:∀a,(g a).length=sz):∀(ls:List α) (i:Nat),(ls.flatMap g).drop (i*sz)=(ls.drop i).flatMap g
 | [],i=>by simp
 | a::r,0=>by simp
 | a::r,i+1=>by
  rw[flatMap_cons,drop_succ_cons,<-pu hg r i,Nat.add_mul,Nat.one_mul,Nat.add_comm,<-drop_drop];congr 1;rw[<-hg a,drop_left]
theorem nt{α:Type}{g:α->List D}{sz:Nat}(hg:∀a,(g a).length=sz):∀(ls:List α) (i:Nat),(ls.flatMap g).take (i*sz)=(ls.take i).flatMap g
 | [],i=>by simp
 | a::r,0=>by simp
 | a::r,i+1=>by
  rw[flatMap_cons,take_succ_cons,flatMap_cons,<-nt hg r i,Nat.add_mul,Nat.one_mul,Nat.add_comm,<-hg a,take_length_add_append]
theorem pO{g:α->List D}(hg:∀a,(g a).length=sz){ls:List α}(hi:i<ls.length):((ls.flatMap g).drop (i*sz)).take sz=g ls[i]:=by
 rw[pu hg,drop_eq_getElem_cons hi,flatMap_cons,<-hg ls[i],take_left]
theorem pC{g:α->List D}(hg:∀a,(g a).length=sz){ls:List α}{j:Nat}(hi:i<ls.length)(hd:(g ls[i])[j]?=some d):(ls.flatMap g)[i*sz+j]?=some d:=by
 have h:=pO hg hi;have hj:=(List.getElem?_eq_some_iff.1 hd).1;rw[hg] at hj;rw[<-hd,<-h,getElem?_take_of_lt hj,getElem?_drop]
theorem rO{g:α->List D}(hg:∀a,(g a).length=sz){ls:List α}(hi:i<ls.length)(hd:(g ls[i])[0]?=some d):(ls.flatMap g)[i*sz]?=some d:=pC hg hi hd
theorem nD{g:α->List D}(hg:∀a,(g a).all one=true)(ls:List α):∀d∈ls.flatMap g,one d=true:=fun d hd=>by
 obtain⟨a,_,h⟩:=mem_flatMap.1 hd;exact all_eq_true.1 (hg a) d h
theorem z2 {g:α->List D} {h':Nat} (hg:∀a,(g a).length=sz) {ls:List α} {y:Operand} (ho:o.op = .slice t y J hi none) (hy:aL x y = .list sz (ls.flatMap g) ls.length) (E:gT x J 0 0) (I:gT x hi h' ls.length)
  (K:∀w,(underlying t).run P w = .ok (.slice e) w) (hs:∀w,(sizeOf e).run P w = .ok sz w) (h2:h'<=ls.length):bG P G x o .none (.list sz ((ls.take h').flatMap g) (ls.take h').length):=by
 have:=q9 (P:=P) (G:=G) ho hy E I K hs (Nat.zero_le _) h2;rw[Nat.zero_mul,drop_zero,Nat.sub_zero,nt hg] at this;rw[length_take,Nat.min_eq_left h2];exact this
theorem z3 {g:α->List D} {l':Nat} (hg:∀a,(g a).length=sz) {ls:List α} {y:Operand} (ho:o.op = .slice t y J hi none) (hy:aL x y = .list sz (ls.flatMap g) ls.length) (E:gT x J l' 0) (I:gT x hi ls.length ls.length)
  (K:∀w,(underlying t).run P w = .ok (.slice e) w) (hs:∀w,(sizeOf e).run P w = .ok sz w) (h2:l'<=ls.length):bG P G x o .none (.list sz ((ls.drop l').flatMap g) (ls.drop l').length):=by
 have:=q9 (P:=P) (G:=G) ho hy E I K hs h2 (Nat.le_refl _);rw[pu hg,take_of_length_le (by rw[dg hg,length_drop];exact Nat.le_refl _)] at this;rw[length_drop];exact this
end
section
variable {P:Program} {C:cq} {Q:Exit->St->Prop} {x:St} {ops:Array Oper} {o:Oper} {S1 T:List Nat} {aZ i:Nat} {ld:Array Bool}
variable {k t:Nat} {B:ay} {fo:Operand} {bN:Array Operand} {ts:Array TypeId} {args:List D}
theorem r5{S:List ay}(hk:S[k]?=some B):B.b∈au S:=mem_map.2 ⟨B,mem_of_getElem? hk,rfl⟩
theorem g7{S:List ay}{k0:Nat}(hk:x.S[k]?=some B)(h0:S[k0]?=some B):Safe x (au S) (.ec k):=⟨B,hk,r5 h0⟩
theorem rP{b:Bool}(hb:look t x.env = .v (.bool b))(h1:b=true->AD P C ops S1 T aZ ld x Q)(h2:b=false->AD P C ops S1 T aZ ld x Q):AD P C ops S1 T aZ ld x Q:=by
 cases h:b
 ·exact h2 h
 exact h1 h
theorem bp.split{b:Bool}(hb:look t x.env = .v (.bool b))(h1:b=true->bp P C ops S1 T aZ ld x Q)(h2:b=false->bp P C ops S1 T aZ ld x Q):bp P C ops S1 T aZ ld x Q:=by
 cases h:b
 ·exact h2 h
 exact h1 h
theorem rp{post:St->Prop}(hi:ops[i]?=some o)(hw:cg ops x o true)(h:gh P C.G x o [] post)(k:∀y,post y->AD P C ops S1 T aZ (ld.setIfInBounds i true) y Q):dr P C ops S1 T aZ ld x Q i :=
 dr.eR hi hw h (fun _ _ _ _ _ _ hb=>by simp at hb) (fun _ hb=>by simp at hb) k
theorem xJ{C:cq}{a:Act}{w:World}(h:bP C x a w)(hk:x.S[k]?=some B)(hT:∀b∈T,b∈au (x.S.eraseIdx k)):∀b∈T,b∉[B.b]:=fun b hb hm=>by
 have hp:(au x.S).Perm (B.b::au (x.S.eraseIdx k)):=(by have:=(nl hk).map ay.b;simpa[au] using this)
 have hn:=(nodup_cons.1 (hp.nodup_iff.1 h.own.apart)).1;have:b=B.b:=(by simpa using hm)
 exact hn (this ▸ hT b hb)
theorem Ad {t e:TypeId} {tt len sz:Nat} {ps:List (Nat×Operand)} {pl:List (Nat×D)} {z:Value} {gE:List Value} {ds:List D} (hi:ops[i]?=some o) (hw:cg ops x o true) (ho:o.op = .buildSlice t len ps.toArray) (fq:o.dst=some tt) (hz:∀w,(zeroValue e).run P w = .ok z w)
  (E:∀w,(underlying t).run P w = .ok (.slice e) w) (hs:∀w,(sizeOf e).run P w = .ok sz w) (hl:Nat.ble 1 (len*sz)=true) (j8:Nat.ble (len*sz) (2 ^ 24)=true) (cW:(Array.range (len*sz)).map (fun i=>z.cells[i % z.cells.size]!)=gE.toArray)
  (gD:iE x ps pl) (hj:pl.all (fun p=>iF p.2)=true) (hd:fD (fun i=>some (i*sz,sz)) (gE.map .v) pl=some ds)
  (k:∀b,AD P C ops S1 T aZ (ld.setIfInBounds i true) ⟨x.n,(tt,.v (.slice (some ⟨b,0,none⟩) len len))::x.env,⟨b,e,ds.length,ds⟩::x.S⟩ Q) (hne:isMap e=false:=by rfl):dr P C ops S1 T aZ ld x Q i:=by
 refine rp hi hw (u7 (hne:=hne) (zs:=gE.map .v) (ds:=ds) ho fq hz E hs (Nat.le_of_ble_eq_true hl) (Nat.le_of_ble_eq_true j8) ?_ ?_ ?_ ?_) ?_
 ·rw[cW];congr 1;rw[map_map];exact(map_id gE).symm
 ·intro d hd;obtain⟨u,_,rfl⟩:=mem_map.1 hd;exact⟨u,rfl⟩
 ·rw[gD.eq];exact oR hj
 ·rw[gD.eq];exact hd
 rintro _ ⟨b,rfl⟩;exact k b
theorem dr.store {t:TypeId} {k b o' n:Nat} {B:ay} {d:D} {cs':List D} {y z:Operand} (hi:ops[i]?=some o) (hw:cg ops x o true) (ho:o.op = .store t y z) (fq:o.dst=none) (hy:aL x y = .v (.pointer (some ⟨b,o',none⟩)))
  (hk:x.S[k]?=some B) (hb:B.b=b) (hz:aL x z=d) (hj:iF d=true) (h1:(cellsOf d).all one=true) (hn:∀w,(sizeOf t).run P w = .ok n w) (j9:(cellsOf d).length=n) (hl:Nat.ble (o'+n) B.cs.length=true) (cB:eX B.cs o' (cellsOf d)=cs')
  (hT:∀b∈T,b∈au (x.S.eraseIdx k))
  (K:AD P C ops S1 T aZ (ld.setIfInBounds i true) ⟨x.n,x.env,x.S.set k {B with cs:=cs'}⟩ Q) (hne:isMap B.e=false:=by rfl):dr P C ops S1 T aZ ld x Q i :=
 dr.eR hi hw (vM (hne:=hne) ho fq hy hk hb hz (fun h=>by rw[h] at hj;cases hj) h1 hn j9 (Nat.le_of_ble_eq_true hl) cB) (fun C a w hs I E=>hb ▸ xJ hs hk hT I E) (fun I E=>by
  have:I=b:=(by simpa using E)
  subst this;rw[<-hb];exact r5 hk) fun y hy=>hy ▸ K
theorem lF {f:Nat} {r:D} (hi:ops[i]?=some o) (hw:cg ops x o true) (ho:o.op = .call {callee:=.value fo,args:=bN,argTypes:=ts}) (hd:o.dst=some t)
  (hf:fo = .func f) (E:∀args w,(callFunc f args).run P w = .ok (.enter f args) w) (hc:VP P C.G f args r) (ha:fZ x bN.toList args)
  (K:AD P C ops S1 T aZ (ld.setIfInBounds i true) (x.put t r) Q):dr P C ops S1 T aZ ld x Q i :=
 rp hi hw (rL ho hd hf E ha.eq (kI _) hc) fun y ⟨I,S',⟨h1,h2⟩,hy⟩=>by subst h1 h2;exact hy ▸ K
theorem lG {f:Nat} {Sf R:List ay} {post:D->List ay->Prop} (hi:ops[i]?=some o) (hw:cg ops x o true) (ho:o.op = .call {callee:=.value fo,args:=bN,argTypes:=ts}) (hd:o.dst=some t)
  (hf:fo = .func f) (E:∀args w,(callFunc f args).run P w = .ok (.enter f args) w) (hc:VC P C.G f args Sf post) (ha:fZ x bN.toList args) (hp:x.S.Perm (Sf++R)) (hT:∀b∈T,b∈au R)
  (K:∀r S',post r S'->AD P C ops S1 T aZ (ld.setIfInBounds i true) ⟨x.n,(t,r)::x.env,S'++R⟩ Q):dr P C ops S1 T aZ ld x Q i :=
 dr.eR hi hw (rL ho hd hf E ha.eq hp hc) (fun C a w hs b hb hm=>by
  have h1:(au x.S).Perm (au Sf++au R):=(by have:=hp.map ay.b;simpa[au] using this)
  have h2:=h1.nodup_iff.1 hs.own.apart;exact(nodup_append.1 h2).2.2 b hm b (hT b hb) rfl) (fun b hb=>by
  have h1:(au x.S).Perm (au Sf++au R):=(by have:=hp.map ay.b;simpa[au] using this)
  exact h1.symm.subset (mem_append_left _ hb)) fun y ⟨r,S',h,hy⟩=>hy ▸ K r S' h
theorem dr.append {s y:Operand} {t e tt sz bytes n m b cap k:Nat} {z:Value} {B:ay} {cs:List D} (Y:ops[i]?=some o) (hw:cg ops x o true) (ho:o.op = .call {callee:=.builtin .append,args:=#[s,y],argTypes:=#[t,t]}) (hd:o.dst=some tt)
  (ht:P.underlying t=some (.slice e)) (hi:(P.info? e).map (fun i=>(i.zero,i.size,i.bytes))=some (some z,sz,bytes)) (cW:z.cells.size=sz) (Z:0<sz)
  (hs:aL x s = .v (.slice (some ⟨b,0,none⟩) n cap)) (hk:x.S[k]?=some B) (hb:B.b=b) (he:B.e=e) (M:B.size=cap*sz) (hl:B.cs.length=n*sz) (hn:n<=cap) (O:cap<=maxLen)
  (hy:aL x y = .list sz cs m) (U:∀d∈cs,one d=true) (hm:0<m) (oo:n+m<=maxLen) (I:(n+m)*bytes<=140737488355328) (hT:∀b∈T,b∈au (x.S.eraseIdx k))
  (K:∀J E,n+m<=E->E<=maxLen->AD P C ops S1 T aZ (ld.setIfInBounds i true) ⟨x.n,(tt,.v (.slice (some ⟨J,0,none⟩) (n+m) E))::x.env,⟨J,e,E*sz,B.cs++cs⟩::x.S.eraseIdx k⟩ Q) (hne:isMap B.e=false:=by rfl):dr P C ops S1 T aZ ld x Q i :=
 dr.eR Y hw (vw (hne:=hne) ho hd ht hi cW Z hs hk hb he M hl hn O hy U hm oo I) (fun C a w hs J N=>hb ▸ xJ hs hk hT J N) (fun J N=>by
  have:J=b:=(by simpa using N)
  subst this;rw[<-hb];exact r5 hk) fun y ⟨J,E,h1,h2,hy⟩=>hy ▸ K J E h1 h2
theorem zo {s y:Operand} {e tt sz bytes m:Nat} {z:Value} {cs:List D} (N:ops[i]?=some o) (hw:cg ops x o true) (ho:o.op = .call {callee:=.builtin .append,args:=#[s,y],argTypes:=#[t,t]}) (hd:o.dst=some tt)
  (ht:P.underlying t=some (.slice e)) (hi:(P.info? e).map (fun i=>(i.zero,i.size,i.bytes))=some (some z,sz,bytes)) (cW:z.cells.size=sz) (O:0<sz)
  (hs:aL x s = .v (.slice none 0 0)) (hy:aL x y = .list sz cs m) (J:∀d∈cs,one d=true) (hm:0<m) (U:m<=maxLen) (I:m*bytes<=140737488355328)
  (K:∀M E,m<=E->E<=maxLen->AD P C ops S1 T aZ (ld.setIfInBounds i true) ⟨x.n,(tt,.v (.slice (some ⟨M,0,none⟩) m E))::x.env,⟨M,e,E*sz,cs⟩::x.S⟩ Q) (hne:isMap e=false:=by rfl):dr P C ops S1 T aZ ld x Q i :=
 rp N hw (ve (hne:=hne) ho hd ht hi cW O hs hy J hm U I) fun y ⟨M,E,h1,h2,hy⟩=>hy ▸ K M E h1 h2
end
section
variable {P:Program} {C:cq} {G:List (Nat×List Value)} {Q:Exit->St->Prop} {x:St} {ops:Array Oper} {l:List Oper} {o:Oper} {S1 T:List Nat} {aZ i:Nat} {ld:Array Bool}
variable {S Sq S' R:List ay} {sz k n cap b t e m:Nat} {B:ay} {cs args:List D} {fo:Operand} {bN:Array Operand} {ts:Array TypeId} {ad:Option Addr}
def View(S:List ay)(d d':D):Prop:=∀(X Y:Nat->Prop) w v,(∀b,Y b->X b)->(∀b,X b->b∉au S)->Own w (live X S) S->bF w (live X S) d v->bF w Y d' v
theorem bF.bare{w:World}{X Y:Nat->Prop}{d:D}{v:Value}(h:bF w (live X S) d v)(E:∀b,Y b->X b):bF w Y d v:=h.mono fun b _ hn=>⟨rfl,fun hy=>hn (.inl (E b hy))⟩
theorem rD{d:D}:View S d d:=fun X Y w v E _ _ h=>h.bare E
theorem AF:View S (.v (.slice none 0 0)) (.list sz [] 0):=fun X Y w v _ _ _ h=>by rw[h.eK];exact .nil sz
theorem rQ(hk:S[k]?=some B)(hb:B.b=b)(cB:B.cs=cs)(hl:cs.length=n*sz)(h1:n<=cap)(h2:cap<=maxLen)(hne:isMap B.e=false:=by rfl):View S (.v (.slice (some ⟨b,0,none⟩) n cap)) (.list sz cs n):=fun X Y w v E J ho h=>by
 subst hb cB;rw[h.eK];obtain⟨r0,cur,r1,r2,K,I⟩:=ho.at_ B (mem_of_getElem? hk);rw[fS hne] at r1;refine .list sz B.cs n B.b 0 cap (fun i=>cur.getD i undef) hl h1 h2 r0 (fun hy=>J _ (E _ hy) (mem_map.2 ⟨B,mem_of_getElem? hk,rfl⟩)) (fun i hi=>?_) (fun i hi=>?_)
 ·obtain⟨u,hu,_⟩:=I i hi;rw[Nat.zero_add,jk r1 hu];simp[hu]
 obtain⟨u,hu,hq⟩:=I i hi;simp only[Array.getD_eq_getD_getElem?,hu,Option.getD_some];exact hq.bare E
def iG(S:List ay):List D->List D->Prop
 | [],[]=>True
 | d::r,d'::r'=>View S d d'/\iG S r r'
 | _,_=>False
theorem iG.spec{S:List ay}:∀{ds E:List D},iG S ds E->ds.length=E.length/\∀i (h:i<ds.length) (h':i<E.length),View S ds[i] E[i]
 | [],[],_=>⟨rfl,fun i h=>by simp at h⟩
 | d::r,d'::r',h=>⟨by simp[(iG.spec h.2).1],fun i h1 h2=>by
  cases i with
  | zero=>exact h.1
  | succ i=>exact(iG.spec h.2).2 i _ _⟩
 | [],_::_,h=>h.elim
 | _::_,[],h=>h.elim
def Looks(x:St):List Operand->List D->Prop
 | [],[]=>True
 | o::r,d::r'=>(∃d0,aL x o=d0/\View x.S d0 d)/\Looks x r r'
 | _,_=>False
theorem Looks.yA{C:cq}{a:Act}{w:World}(h:bP C x a w):∀{os:List Operand} {ds:List D},Looks x os ds->bY w (fun _=>False) ds (os.map a.eval)
 | [],[],_=>⟨rfl,fun i h=>by simp at h⟩
 | o::r,d::r',⟨⟨d0,h1,h2⟩,h3⟩=>bY.cons (h2 _ _ _ _ (fun _ hf=>hf.elim) h.mX h.own (h1 ▸ h.eval o)) (Looks.yA h h3)
 | [],_::_,h=>h.elim
 | _::_,[],h=>h.elim
theorem VC.cover{f:FuncId}{post:D->List ay->Prop}{I:D}(h:VC P G f args [] post)(J:∀r S',post r S'->View S' r I):VP P G f args I:=fun X w vs hp =>
 (h X w vs hp).mono fun e w' ⟨v,r,S',h1,h2,K,M,E⟩=>by
  have N:∀b,X b->b∉au S':=fun b hb=>(E.block b (hp.ex b hb).1 (hp.ex b hb).2).2;refine⟨v,I,[],h1,⟨rfl,rfl⟩,⟨fun B O=>by simp at O,by simp[au]⟩,J r S' h2 X _ w' v (fun b hb=>?_) N K M,⟨E.os,E.tape,E.output,E.size,fun b hb hn=>⟨(E.block b hb hn).1,by simp[au]⟩⟩⟩;rcases hb with hb|hb
  ·exact hb
  simp[au] at hb
def su:D->Bool
 | .v _=>true
 | .dU cs=>cs.all fun d=>match d with|.v _=>true|.agg es=>es.all (fun e=>match e with|.v _=>true|_=>false)|_=>false
 | .agg cs=>cs.all fun d=>match d with|.v _=>true|_=>false
 | _=>false
theorem bF.flat{w w':World}{L J:Nat->Prop}{d:D}{v:Value}(h:bF w L d v)(hf:su d=true):bF w' J d v:=by
 have E:∀(d:D),(match d with|.v _=>true|_=>false)=true->∀v,bF w L d v->bF w' J d v:=fun d hd v h=>by
  cases d<;>simp at hd
  rw[h.eK];exact .v _
 have I:∀(d:D),(match d with|.v _=>true|.agg es=>es.all (fun e=>match e with|.v _=>true|_=>false)|_=>false)=true->∀v,bF w L d v->bF w' J d v:=fun d hd v h=>by
  cases d<;>simp at hd
  ·rw[h.eK];exact .v _
  cases h with
  | agg _ vs hl hr=>exact .agg _ vs hl fun i h1 h2=>E _ (by have:=hd _ (getElem_mem h1);simpa using this) _ (hr i h1 h2)
 cases h with
 | v=>exact .v _
 | dU cs vs hl hr=>exact .dU cs vs hl fun i h1 h2=>I _ (all_eq_true.1 hf _ (getElem_mem h1)) _ (hr i h1 h2)
 | agg cs vs hl hr=>exact .agg cs vs hl fun i h1 h2=>E _ (all_eq_true.1 hf _ (getElem_mem h1)) _ (hr i h1 h2)
 | _=>cases hf
theorem AG {f:Nat} {r:D} (ho:o.op = .call {callee:=.value fo,args:=bN,argTypes:=ts}) (hd:o.dst=some t)
  (hf:fo = .func f) (J:∀args w,(callFunc f args).run P w = .ok (.enter f args) w) (hc:VP P G f args r) (hr:su r=true) (ha:Looks x bN.toList args) :
  gh P G x o [] (fun y=>y=x.put t r):=fun C a w K Q Y h Z=>by
 subst hf;have M:(execOp a.eval o).run P w = .ok (.enter f (bN.toList.map a.eval).toArray) w:=by
  unfold execOp;have e:bN.map a.eval=(bN.toList.map a.eval).toArray:=by
   rw[<-Array.toList_map,Array.toArray_toList]
  simp only[ho,resolve,Act.eval,Deferred.ofValue,Sem.run_bind,Sem.run_pure,Result.andThen_ok,invoke,e];simp[J]
 have N:ke G (fun _=>False) w [] args (bN.toList.map a.eval):=by
  refine⟨fun b hx=>hx.elim,fun g hg=>?_,⟨fun B O=>by simp at O,by simp[au]⟩,(Looks.yA h ha).mono fun b _ _=>⟨rfl,fun hl=>by rcases hl with hl|hl;exact hl;simp[au] at hl⟩⟩;rw[<-Y] at hg;exact⟨⟨Nat.lt_of_lt_of_le (h.dI g hg).1.1 h.fr.size,by simp[au],id⟩,fun i v hi=>h.kO hg hi⟩
 unfold Oper.wp;rw[M,Oper.upon_enter,hd];refine(hc _ w _ N).mono fun e w' ⟨v,r',S',h1,⟨h2,U⟩,h3,h4,I⟩=>?_;subst h1 h2 U;have hb:∀b,b<w.heap.size->w'.heap[b]?=w.heap[b]?:=fun b hb=>(I.block b hb (by simp[au])).1;have base:bP C x a w':=by
  refine⟨h.defers,h.size,fun t ht=>(h.env t ht).mono fun b E hn=>⟨hb b E,hn⟩,⟨fun B O=>?_,h.own.apart⟩,?_,h.ex,h.dI⟩
  ·obtain⟨r0,cur,r1,r2,r3,r4⟩:=h.own.at_ B O;refine⟨kE r0 (hb _ r0),cur,(hb _ r0).trans r1,r2,r3,fun i hi=>?_⟩;obtain⟨u,hu,hq⟩:=r4 i hi;exact⟨u,hu,hq.mono fun b E hn=>⟨hb b E,hn⟩⟩
  exact⟨I.os.trans h.fr.os,I.tape.trans h.fr.tape,I.output.trans h.fr.output,Nat.le_trans h.fr.size I.size,fun b E hn=>⟨(hb b (Nat.lt_of_lt_of_le E h.fr.size)).trans (h.fr.block b E hn).1,(h.fr.block b E hn).2⟩⟩
 exact Z _ _ _ rfl (base.put (h4.flat hr)) ⟨I.size,fun b E _=>hb b E⟩ ⟨I.os,I.tape,I.output,I.size,fun b E hn=>⟨hb b E,hn⟩⟩
theorem OD.look {f:Nat} {r:D} (hw:cg ops x o true) (ho:o.op = .call {callee:=.value fo,args:=bN,argTypes:=ts}) (hd:o.dst=some t)
  (hf:fo = .func f) (E:∀args w,(callFunc f args).run P w = .ok (.enter f args) w) (hc:VP P C.G f args r) (hr:su r=true) (ha:Looks x bN.toList args)
  (K:OD P C ops l (x.put t r) Q):OD P C ops (o::l) x Q:=OD.eR hw (AG ho hd hf E hc hr ha) fun y hy=>hy ▸ K
def bQ(e sz:Nat)(cs:List D)(n:Nat)(ad:Option Addr)(cap:Nat)(S:List ay):Prop :=
 (n=0/\cs=[]/\ad=none/\cap=0/\S=[])\/∃b,ad=some ⟨b,0,none⟩/\n<=cap/\cap<=maxLen/\S=[⟨b,e,cap*sz,cs⟩]
theorem rR(h:bQ e sz cs n ad cap Sq)(hl:cs.length=n*sz)(hs:∀B∈Sq,B∈S)(hne:isMap e=false:=by rfl):View S (.v (.slice ad n cap)) (.list sz cs n):=by
 rcases h with ⟨rfl,rfl,rfl,rfl,rfl⟩|⟨b,rfl,h1,h2,rfl⟩
 ·exact AF
 obtain⟨k,hk,he⟩:=mem_iff_getElem.1 (hs _ mem_cons_self);exact rQ (hne:=hne) (k:=k) (by rw[getElem?_eq_getElem hk,he]) rfl rfl hl h1 h2
theorem bQ.le(h:bQ e sz cs n ad cap S):n<=cap:=by
 rcases h with ⟨rfl,_,_,rfl,_⟩|⟨_,_,h,_⟩
 ·exact Nat.le_refl _
 exact h
theorem Wk.perm{env:List (Nat×D)}(hp:S.Perm S'):Wk ⟨n,env,S⟩ ⟨n,env,S'⟩:=fun C a w h=>by
 have hb:(au S).Perm (au S'):=hp.map ay.b;have hl:live C.X S=live C.X S':=(by funext b;exact propext (or_congr Iff.rfl hb.mem_iff))
 have I:=h.env;have E:=h.own;simp only[hl] at I E;exact⟨h.defers,h.size,I,⟨fun B J=>E.at_ B (hp.symm.subset J),hb.nodup_iff.1 E.apart⟩,
  ⟨h.fr.os,h.fr.tape,h.fr.output,h.fr.size,fun b h1 h2=>⟨(h.fr.block b h1 h2).1,fun hm=>(h.fr.block b h1 h2).2 (hb.symm.subset hm)⟩⟩,h.ex,h.dI⟩
theorem aS(hp:x.S.Perm S')(k:OD P C ops l ⟨x.n,x.env,S'⟩ Q):OD P C ops l x Q:=aY (Wk.perm hp) k
theorem fB(hp:x.S.Perm S')(k:AD P C ops S1 T aZ ld ⟨x.n,x.env,S'⟩ Q):AD P C ops S1 T aZ ld x Q:=pi (Wk.perm hp) (fun b hb=>(hp.map ay.b).symm.subset hb) k
theorem Bb{c:Code}(hp:x.S.Perm S')(k:CD P C c ⟨x.n,x.env,S'⟩ Q):CD P C c x Q:=hU (Wk.perm hp) k
theorem Wk.cover{l:List (Nat×D)}{Sd:List ay}{A:ay}{cs':List D}(hp:S.Perm ((A::R)++Sd))(M:iG Sd A.cs cs'):Wk ⟨n,l,S⟩ ⟨n,l,{A with cs:=cs'}::R⟩:=fun C a w h0=>by
 have h:=Wk.perm hp C a w h0;have hd:bP C ⟨n,l,A::R⟩ a w:=Wk.drop n l _ (A::R) (sublist_append_left _ _) C a w h;obtain⟨v1,v2⟩:=M.spec;have K:live C.X ({A with cs:=cs'}::R)=live C.X (A::R):=rfl;have hL:live C.X ((A::R)++Sd)=live (fun b=>live C.X (A::R) b) Sd:=by
  funext b;simp only[live,au,map_append,mem_append];exact propext or_assoc.symm
 have hnd:(au (A::R)++au Sd).Nodup:=(by have:=h.own.apart;simpa[au] using this)
 have N:∀b,live C.X (A::R) b->b∉au Sd:=fun b hb hm=>by
  rcases hb with hb|hb
  ·exact h.mX b hb (by simp only[au,map_append,mem_append] at hm |-;exact .inr hm)
  exact(nodup_append.1 hnd).2.2 b hb b hm rfl
 have E:Own w (live (fun b=>live C.X (A::R) b) Sd) Sd:=⟨fun B I=>by rw[<-hL];exact h.own.at_ B (mem_append_right _ I),(nodup_append.1 hnd).2.1⟩
 refine⟨hd.defers,hd.size,hd.env,⟨fun B I=>?_,hd.own.apart⟩,hd.fr,hd.ex,hd.dI⟩;rcases mem_cons.1 I with rfl|I
 ·obtain⟨r0,cur,r1,r2,O,U⟩:=h.own.at_ A (mem_append_left _ mem_cons_self);refine⟨r0,cur,r1,r2,by rw[<-v1];exact O,fun i hi=>?_⟩;have J:i<A.cs.length:=(by rw[v1];exact hi)
  obtain⟨u,hu,hq⟩:=U i J;refine⟨u,hu,v2 i J hi (fun b=>live C.X (A::R) b) _ w u (fun b hb=>hb) N E ?_⟩;rw[<-hL];exact hq
 exact hd.own.at_ B (mem_cons_of_mem _ I)
theorem oT(hk:S[k]?=some B)(hp:S.Perm (B::R)):(S.eraseIdx k).Perm R:=((nl hk).symm.trans hp).cons_inv
theorem Bc (hk:x.S[k]?=some B) (ht:V.look t x.env = .v (.slice (some ⟨b,0,none⟩) m cap)) (hb:B.b=b) (cB:B.cs=cs) (hl:cs.length=m*sz) (h1:m<=cap) (h2:cap<=maxLen)
  (K:OD P C ops l ⟨x.n,(t,.list sz cs m)::x.env,x.S.eraseIdx k⟩ Q) (hne:isMap B.e=false:=by rfl):OD P C ops l x Q:=by
 subst hb;exact aY (Wk.sI (hne:=hne) (n:=x.n) (l:=x.env) (S:=x.S) hk ht cB hl h1 h2) K
theorem Be (hk:x.S[k]?=some B) (ht:V.look t x.env = .v (.slice (some ⟨b,0,none⟩) m cap)) (hb:B.b=b) (cB:B.cs=cs) (hl:cs.length=m*sz) (h1:m<=cap) (h2:cap<=maxLen)
  (K:AD P C ops S1 T aZ ld ⟨x.n,(t,.list sz cs m)::x.env,x.S.eraseIdx k⟩ Q) (hne:isMap B.e=false:=by rfl):AD P C ops S1 T aZ ld x Q:=by
 subst hb;exact pi (Wk.sI (hne:=hne) (n:=x.n) (l:=x.env) (S:=x.S) hk ht cB hl h1 h2) (fun b hb=>(Sublist.map ay.b (eraseIdx_sublist x.S k)).subset hb) K
theorem zJ {s y:Operand} {tt bytes:Nat} {z:Value} {new:List D} (hw:cg ops x o true) (ho:o.op = .call {callee:=.builtin .append,args:=#[s,y],argTypes:=#[t,t]}) (hd:o.dst=some tt)
  (ht:P.underlying t=some (.slice e)) (hi:(P.info? e).map (fun i=>(i.zero,i.size,i.bytes))=some (some z,sz,bytes)) (cW:z.cells.size=sz) (N:0<sz)
  (hs:aL x s = .v (.slice ad n cap)) (U:bQ e sz cs n ad cap Sq) (hp:x.S.Perm (Sq++R)) (hl:cs.length=n*sz)
  (hy:aL x y = .list sz new m) (J:∀d∈new,one d=true) (hm:0<m) (Y:n+m<=maxLen) (I:(n+m)*bytes<=140737488355328)
  (K:∀M E,n+m<=E->E<=maxLen->OD P C ops l ⟨x.n,(tt,.v (.slice (some ⟨M,0,none⟩) (n+m) E))::x.env,⟨M,e,E*sz,cs++new⟩::R⟩ Q) (hne:isMap e=false:=by rfl):OD P C ops (o::l) x Q:=by
 rcases U with ⟨rfl,rfl,rfl,rfl,rfl⟩|⟨b,rfl,h1,h2,rfl⟩
 ·refine zI (hne:=hne) hw ho hd ht hi cW N hs hy J hm w8 (by rw[Nat.zero_add] at I;exact I) fun M E q1 q2=>?_;have:=K M E w8 q2;rw[Nat.zero_add] at this;exact aY (Wk.perm (hp.cons _)) this
 obtain⟨k,hk,he⟩:=mem_iff_getElem.1 (hp.symm.subset (mem_append_left _ mem_cons_self));have O:x.S[k]?=some (⟨b,e,cap*sz,cs⟩:ay):=(by rw[getElem?_eq_getElem hk,he])
 refine OD.append (hne:=hne) hw ho hd ht hi cW N hs O rfl rfl rfl hl h1 h2 hy J hm Y I fun M E q1 q2=>?_;exact aY (Wk.perm ((oT O hp).cons _)) (K M E q1 q2)
theorem u6 {s y:Operand} {tt bytes:Nat} {z:Value} {new:List D} (O:ops[i]?=some o) (hw:cg ops x o true) (ho:o.op = .call {callee:=.builtin .append,args:=#[s,y],argTypes:=#[t,t]}) (hd:o.dst=some tt)
  (ht:P.underlying t=some (.slice e)) (hi:(P.info? e).map (fun i=>(i.zero,i.size,i.bytes))=some (some z,sz,bytes)) (cW:z.cells.size=sz) (U:0<sz)
  (hs:aL x s = .v (.slice ad n cap)) (Y:bQ e sz cs n ad cap Sq) (hp:x.S.Perm (Sq++R)) (hl:cs.length=n*sz)
  (hy:aL x y = .list sz new m) (M:∀d∈new,one d=true) (hm:0<m) (Z:n+m<=maxLen) (I:(n+m)*bytes<=140737488355328) (hT:∀b∈T,b∈au R)
  (K:∀N E,n+m<=E->E<=maxLen->AD P C ops S1 T aZ (ld.setIfInBounds i true) ⟨x.n,(tt,.v (.slice (some ⟨N,0,none⟩) (n+m) E))::x.env,⟨N,e,E*sz,cs++new⟩::R⟩ Q) (hne:isMap e=false:=by rfl):dr P C ops S1 T aZ ld x Q i:=by
 rcases Y with ⟨rfl,rfl,rfl,rfl,rfl⟩|⟨b,rfl,h1,h2,rfl⟩
 ·refine zo (hne:=hne) O hw ho hd ht hi cW U hs hy M hm w8 (by rw[Nat.zero_add] at I;exact I) fun N E q1 q2=>?_;have:=K N E w8 q2;rw[Nat.zero_add] at this;exact pi (Wk.perm (hp.cons _)) (fun b hb=>((hp.cons _).map ay.b).symm.subset hb) this
 obtain⟨k,hk,he⟩:=mem_iff_getElem.1 (hp.symm.subset (mem_append_left _ mem_cons_self));have J:x.S[k]?=some (⟨b,e,cap*sz,cs⟩:ay):=(by rw[getElem?_eq_getElem hk,he])
 refine dr.append (hne:=hne) O hw ho hd ht hi cW U hs J rfl rfl rfl hl h1 h2 hy M hm Z I (fun b hb=>((oT J hp).map ay.b).symm.subset (hT b hb)) fun N E q1 q2=>?_;exact pi (Wk.perm ((oT J hp).cons _)) (fun b hb=>(((oT J hp).cons _).map ay.b).symm.subset hb) (K N E q1 q2)
end
section
variable {P:Program} {G:List (Nat×List Value)} {x:St} {o:Oper} {S:List ay}
variable {y:Operand} {d0 d:D} {k b o' n sz i j len cap h' l':Nat} {t e:TypeId} {B:ay} {cs:List D} {α:Type} {I hi J:Option Operand} {ad:Option Addr}
def R1(P:Program)(G:List (Nat×List Value))(S:List ay)(mk:Operand->Op)(d0:D)(k:Rd)(d:D):Prop:=∀x o y,o.op=mk y->aL x y=d0->x.S=S->bG P G x o k d
theorem cn{mk:Operand->Op}{k:Rd}(ho:o.op=mk y)(hy:aL x y=d0)(H:R1 P G x.S mk d0 k d):bG P G x o k d:=H x o y ho hy rfl
def R2(P:Program)(G:List (Nat×List Value))(S:List ay)(mk:Operand->Operand->Op)(d0 d1:D)(k:Rd)(d:D):Prop:=∀x o y z,o.op=mk y z->aL x y=d0->aL x z=d1->x.S=S->bG P G x o k d
theorem gq{mk:Operand->Operand->Op}{z:Operand}{d1:D}{k:Rd}(ho:o.op=mk y z)(hy:aL x y=d0)(hz:aL x z=d1)(H:R2 P G x.S mk d0 d1 k d):bG P G x o k d:=H x o y z ho hy hz rfl
theorem nA{t:Nat}(hk:S[k]?=some B)(hb:B.b=b)(ha:∀w,(isAgg t).run P w = .ok false w)(hd:B.cs[o']?=some d)(hne:isMap B.e=false:=by rfl):R1 P G S (Op.load t) (.v (.pointer (some ⟨b,o',none⟩))) (.ec k) d:=fun x o y ho hy hS=>ri (hne:=hne) ho hy (hS ▸ hk) hb ha hd
theorem nw{t:Nat}{ds:List D}(hk:S[k]?=some B)(hb:B.b=b)(ha:∀w,(isAgg t).run P w = .ok true w)(hn:∀w,(sizeOf t).run P w = .ok n w)(hl:ds.length=n)(hd:(B.cs.drop o').take n=ds)(hne:isMap B.e=false:=by rfl):R1 P G S (Op.load t) (.v (.pointer (some ⟨b,o',none⟩))) (.ec k) (.agg ds):=fun x o y ho hy hS=>q8 (hne:=hne) ho hy (hS ▸ hk) hb ha hn hl hd
theorem pS{t:Nat}(ha:∀w,(isAgg t).run P w = .ok false w)(hd:cs[o']?=some d):R1 P G S (Op.load t) (.dh cs o') .eP d:=fun x o y ho hy _=>oQ ho hy ha hd
theorem nH{t:Nat}{ds:List D}(ha:∀w,(isAgg t).run P w = .ok true w)(hn:∀w,(sizeOf t).run P w = .ok n w)(hl:ds.length=n)(hd:(cs.drop o').take n=ds):R1 P G S (Op.load t) (.dh cs o') .eP (.agg ds):=fun x o y ho hy _=>q6 ho hy ha hn hl hd
theorem jZ{g:α->List D}{t:Nat}{ls:List α}(hg:∀a,(g a).length=sz)(ha:∀w,(isAgg t).run P w = .ok false w)(hi:i<ls.length)(hd:(g ls[i])[j]?=some d):R1 P G S (Op.load t) (.dh (ls.flatMap g) (i*sz+j)) .eP d:=pS ha (pC hg hi hd)
theorem jr{g:α->List D}{t:Nat}{ls:List α}(hg:∀a,(g a).length=sz)(ha:∀w,(isAgg t).run P w = .ok false w)(hi:i<ls.length)(hd:(g ls[i])[0]?=some d):R1 P G S (Op.load t) (.dh (ls.flatMap g) (i*sz)) .eP d:=pS ha (rO hg hi hd)
theorem iC{g:α->List D}{t:Nat}{ls:List α}(hg:∀a,(g a).length=sz)(ha:∀w,(isAgg t).run P w = .ok true w)(hn:∀w,(sizeOf t).run P w = .ok sz w)(hi:i<ls.length):R1 P G S (Op.load t) (.dh (ls.flatMap g) (i*sz)) .eP (.agg (g ls[i])):=nH ha hn (hg _) (pO hg hi)
theorem BN{t:Nat}{vs:List Value}{v:Value}(hg:(b,vs)∈G)(ha:∀w,(isAgg t).run P w = .ok false w)(hd:vs[o']?=some v)(ja:hN v=true:=by rfl):R1 P G S (Op.load t) (.v (.pointer (some ⟨b,o',none⟩))) .eP (.v v):=fun x o y ho hy _=>z0 ho hy hg ha hd ja
theorem lM{g:α->List D}{t:Nat}{ls:List α}(hg:∀a,(g a).length=sz)(hk:S[k]?=some B)(hb:B.b=b)(cB:B.cs=ls.flatMap g)(ha:∀w,(isAgg t).run P w = .ok false w)(hi:i<ls.length)(hd:(g ls[i])[j]?=some d)(hne:isMap B.e=false:=by rfl):R1 P G S (Op.load t) (.v (.pointer (some ⟨b,0+i*sz+j,none⟩))) (.ec k) d :=
 nA (hne:=hne) hk hb ha (by rw[cB,Nat.zero_add];exact pC hg hi hd)
theorem fT{g:α->List D}{t:Nat}{ls:List α}(hg:∀a,(g a).length=sz)(hk:S[k]?=some B)(hb:B.b=b)(cB:B.cs=ls.flatMap g)(ha:∀w,(isAgg t).run P w = .ok false w)(hi:i<ls.length)(hd:(g ls[i])[0]?=some d)(hne:isMap B.e=false:=by rfl):R1 P G S (Op.load t) (.v (.pointer (some ⟨b,0+i*sz,none⟩))) (.ec k) d :=
 nA (hne:=hne) hk hb ha (by rw[cB,Nat.zero_add];exact rO hg hi hd)
theorem fU{g:α->List D}{t:Nat}{ls:List α}(hg:∀a,(g a).length=sz)(hk:S[k]?=some B)(hb:B.b=b)(cB:B.cs=ls.flatMap g)(ha:∀w,(isAgg t).run P w = .ok true w)(hn:∀w,(sizeOf t).run P w = .ok sz w)(hi:i<ls.length)(hne:isMap B.e=false:=by rfl):R1 P G S (Op.load t) (.v (.pointer (some ⟨b,0+i*sz,none⟩))) (.ec k) (.agg (g ls[i])) :=
 nw (hne:=hne) hk hb ha hn (hg _) (by rw[cB,Nat.zero_add];exact pO hg hi)
theorem BH{s:TypeId}{off:Nat}{f:Field}{I:Array Field}(J:∀w,(underlying s).run P w = .ok (.struct I) w)(hf:I[i]?=some f)(hn:∀w,(sizeOf f.type).run P w = .ok (n+1) w)(E:f.offset=off):R1 P G S (fun y=>Op.fieldAddr s y i) (.v (.pointer (some ⟨b,o',none⟩))) .none (.v (.pointer (some ⟨b,o'+off,none⟩))):=fun x o y ho hy _=>vl ho hy J hf hn E
theorem pD{ts:Array TypeId}(ht:ts = #[t])(E:∀w,(underlying t).run P w = .ok (.slice e) w):R1 P G S (fun y=>.call {callee:=.builtin .len,args:=#[y],argTypes:=ts}) (.v (.slice ad len cap)) .none (.v (.int .i64 len)):=fun x o y ho hy _=>vv ho ht hy E
theorem lJ{k:IntKind}{i:Int}(E:∀w,(underlying t).run P w = .ok (.slice e) w)(hs:∀w,(sizeOf e).run P w = .ok sz w)(hi:i=j)(hj:j<len):R2 P G S (Op.indexAddr t) (.list sz cs len) (.v (.int k i)) .none (.dh cs (j*sz)):=fun x o y z ho hy hz _=>vL ho hy hz E hs hi hj
theorem nB{k:IntKind}{i:Int}(E:∀w,(underlying t).run P w = .ok (.slice e) w)(hs:∀w,(sizeOf e).run P w = .ok sz w)(hi:i=j)(hj:j<len):R2 P G S (Op.indexAddr t) (.v (.slice (some ⟨b,o',none⟩) len cap)) (.v (.int k i)) .none (.v (.pointer (some ⟨b,o'+j*sz,none⟩))):=fun x o y z ho hy hz _=>vr ho hy hz E hs hi hj
theorem xj{k:IntKind}{i:Int}(E:∀w,(underlying t).run P w = .ok (.array len e) w)(hs:∀w,(sizeOf e).run P w = .ok sz w)(hi:i=j)(hj:j<len):R2 P G S (Op.indexAddr t) (.v (.pointer (some ⟨b,o',none⟩))) (.v (.int k i)) .none (.v (.pointer (some ⟨b,o'+j*sz,none⟩))):=fun x o y z ho hy hz _=>Aa ho hy hz E hs hi hj
def Bd(x:St)(y:Option Operand)(n:Nat):Prop:=match y with|some y=>∃(k:IntKind),aL x y = .v (.int k n)|none=>True
def Rs(P:Program)(G:List (Nat×List Value))(t:TypeId)(lo hi:Option Operand)(l h:Nat)(d0:D)(d:D):Prop:=∀x o y,o.op = .slice t y lo hi none->aL x y=d0->Bd x lo l->Bd x hi h->bG P G x o .none d
theorem eU{E:Option Operand}{l h:Nat}(ho:o.op = .slice t y E hi none)(hy:aL x y=d0)(hl:Bd x E l)(I:Bd x hi h)(H:Rs P G t E hi l h d0 d):bG P G x o .none d:=H x o y ho hy hl I
theorem jQ{y:Option Operand}{df:Nat}(h:Bd x y n)(hd:y=none->n=df):gT x y n df:=by
 cases y with
 | none=>exact hd rfl
 | some y=>obtain⟨k,hk⟩:=h;exact⟨k,_,hk,rfl⟩
theorem wC {g:α->List D} (hg:∀a,(g a).length=sz) {ls:List α} (E:hi=none->h'=ls.length)
  (J:∀w,(underlying t).run P w = .ok (.slice e) w) (hs:∀w,(sizeOf e).run P w = .ok sz w) (h2:h'<=ls.length):Rs P G t I hi 0 h' (.list sz (ls.flatMap g) ls.length) (.list sz ((ls.take h').flatMap g) (ls.take h').length):=fun x o y ho hy hl K =>
 z2 hg ho hy (jQ hl fun _=>rfl) (jQ K E) J hs h2
theorem A1 {g:α->List D} {ls:List α} (E:h'=ls.length) (hg:∀a,(g a).length=sz) (I:J=none->l'=0)
  (K:∀w,(underlying t).run P w = .ok (.slice e) w) (hs:∀w,(sizeOf e).run P w = .ok sz w) (h2:l'<=ls.length):Rs P G t J none l' h' (.list sz (ls.flatMap g) ls.length) (.list sz ((ls.drop l').flatMap g) (ls.drop l').length):=fun x o y ho hy hl M=>by
 subst E;exact z3 hg ho hy (jQ hl I) rfl K hs h2
theorem px (E:J=none->l'=0) (I:hi=none->h'=len)
  (K:∀w,(underlying t).run P w = .ok (.slice e) w) (hs:∀w,(sizeOf e).run P w = .ok sz w) (h1:l'<=h') (h2:h'<=len):Rs P G t J hi l' h' (.list sz cs len) (.list sz ((cs.drop (l'*sz)).take ((h'-l')*sz)) (h'-l')):=fun x o y ho hy hl M =>
 q9 ho hy (jQ hl E) (jQ M I) K hs h1 h2
theorem sc (E:hi=none->h'=len)
  (J:∀w,(underlying t).run P w = .ok (.slice e) w) (hs:∀w,(sizeOf e).run P w = .ok sz w) (h2:h'<=cap):Rs P G t I hi 0 h' (.v (.slice (some ⟨b,o',none⟩) len cap)) (.v (.slice (some ⟨b,o',none⟩) h' cap)):=fun x o y ho hy hl K =>
 zE ho hy (jQ hl fun _=>rfl) (jQ K E) J hs h2
theorem BO {s:ByteArray} (E:J=none->l'=0) (I:hi=none->h'=s.size)
  (K:∀w,(underlying t).run P w = .ok .string w) (h1:l'<=h') (h2:h'<=s.size):Rs P G t J hi l' h' (.v (.string s)) (.v (.string (s.extract l' h'))):=fun x o y ho hy hl M =>
 zF ho hy (jQ hl E) (jQ M I) K h1 h2
theorem fA {C:cq} {Q:Exit->St->Prop} {ops:Array Oper} {l:List Oper} {g:α->List D} {ls new:List α} {s:Operand} {t e tt bytes:Nat} {z:Value} {Sq R:List ay} (hg:∀a,(g a).length=sz) (hg1:∀a,(g a).all one=true) (hw:cg ops x o true) (ho:o.op = .call {callee:=.builtin .append,args:=#[s,y],argTypes:=#[t,t]}) (hd:o.dst=some tt)
  (ht:P.underlying t=some (.slice e)) (hi:(P.info? e).map (fun i=>(i.zero,i.size,i.bytes))=some (some z,sz,bytes)) (cW:z.cells.size=sz) (M:0<sz)
  (hs:aL x s = .v (.slice ad ls.length cap)) (N:bQ e sz (ls.flatMap g) ls.length ad cap Sq) (hp:x.S.Perm (Sq++R))
  (hy:aL x y = .list sz (new.flatMap g) new.length) (hm:0<new.length) (O:ls.length+new.length<=maxLen) (I:(ls.length+new.length)*bytes<=140737488355328)
  (K:∀J E,(ls++new).length<=E->E<=maxLen->OD P C ops l ⟨x.n,(tt,.v (.slice (some ⟨J,0,none⟩) (ls++new).length E))::x.env,⟨J,e,E*sz,(ls++new).flatMap g⟩::R⟩ Q) (hne:isMap e=false:=by rfl):OD P C ops (o::l) x Q :=
 zJ (hne:=hne) hw ho hd ht hi cW M hs N hp (dg hg ls) hy (nD hg1 new) hm O I fun J E h1 h2=>by
  have:=K J E (by rw[length_append];exact h1) h2;rw[length_append,flatMap_append] at this;exact this
end
variable {P:Program} {C:cq} {G:List (Nat×List Value)} {Q:Exit->St->Prop} {x:St} {ops:Array Oper} {l:List Oper} {o:Oper} {n:Nat} {e:List (Nat×D)} {S:List ay}
variable {t i:Nat} {b:Bool} {z y:Operand} {d d' d0:D} {kd:Rd} {l':List (Nat×D)} {p:Prop} {post:D->List ay->Prop}
def ou(P:Program)(t n:Nat):Bool:=match P.info? t with|some i=>Nat.beq i.size n|none=>false
theorem sv{n:Nat}(h:ou P t n=true):∀w,(sizeOf t).run P w = .ok n w:=by
 unfold ou at h;cases hi:P.info? t with
 | none=>rw[hi] at h;cases h
 | some i =>
  rw[hi] at h;intro w;have:=run_sizeOf (P:=P) w hi;rw[this];simp only[Program.cellsOf,hi,Option.map_some,Option.getD_some,Nat.eq_of_beq_eq_true h]
def mZ(P:Program)(t:Nat)(b:Bool):Bool:=match P.underlying t with
 | some (.struct _)=>b
 | some (.array _ _)=>b
 | some _=>!b
 | none=>false
theorem lP(h:mZ P t b=true):∀w,(isAgg t).run P w = .ok b w:=by
 unfold mZ at h;intro w;cases hu:P.underlying t with
 | none=>rw[hu] at h;cases h
 | some d =>
  rw[hu] at h;have hr:=run_underlying hu w;unfold isAgg;rw[Sem.run_bind,hr];cases d<;>simp only at h<;>first|(subst h;rfl)|(cases b;rfl;cases h)
def ud(P:Program)(s i off:Nat):Bool:=match P.underlying s with
 | some (.struct fs)=>match fs[i]? with
  | some f=>Nat.beq f.offset off&&(match P.info? f.type with|some j=>Nat.ble 1 j.size|none=>false)
  | none=>false
 | _=>false
theorem Ch{s off:Nat}(h:ud P s i off=true):∃E f m,(∀w,(underlying s).run P w = .ok (.struct E) w)/\E[i]?=some f/\(∀w,(sizeOf f.type).run P w = .ok (m+1) w)/\f.offset=off:=by
 unfold ud at h;split at h
 ·rename_i E I;split at h
  ·rename_i f hf;rw[Bool.and_eq_true] at h;obtain⟨h1,h2⟩:=h;split at h2
   ·rename_i j hj;have J:=Nat.le_of_ble_eq_true h2;refine⟨E,f,j.size-1,run_underlying I,hf,fun w=>?_,Nat.eq_of_beq_eq_true h1⟩;have:=run_sizeOf (P:=P) w hj;rw[this];simp only[Program.cellsOf,hj,Option.map_some,Option.getD_some];congr 1;omega
   cases h2
  cases h
 cases h
def ue(P:Program)(t sz:Nat):Bool:=match P.underlying t with
 | some (.slice e)=>ou P e sz
 | _=>false
theorem Ci{sz:Nat}(h:ue P t sz=true):∃e,(∀w,(underlying t).run P w = .ok (.slice e) w)/\∀w,(sizeOf e).run P w = .ok sz w:=by
 unfold ue at h;split at h
 ·rename_i e E;exact⟨e,run_underlying E,sv h⟩
 cases h
def uf(P:Program)(t:Nat):Bool:=match P.underlying t with
 | some (.slice _)=>true
 | _=>false
theorem BP(h:uf P t=true):∃e,∀w,(underlying t).run P w = .ok (.slice e) w:=by
 unfold uf at h;split at h
 ·rename_i e E;exact⟨e,run_underlying E⟩
 cases h
theorem aU(ho:o.op = .move z\/o.op = .assign z:=by first|exact .inl rfl|exact .inr rfl)(hz:aL x z=d:=by first|exact ot|exact aJ|exact lH|exact kK):bG P G x o .none d:=by
 rcases ho with h|h
 ·exact jl h hz
 exact gp h hz
inductive FA (off:Nat):D->D->Prop
 | p {b o':Nat}:FA off (.v (.pointer (some ⟨b,o',none⟩))) (.v (.pointer (some ⟨b,o'+off,none⟩)))
 | i {cs:List D} {o':Nat}:FA off (.dh cs o') (.dh cs (o'+off))
theorem aq(off:Nat){s:TypeId}(ho:o.op = .fieldAddr s y i:=by exact rfl)(hy:aL x y=d:=by first|exact ot|exact kK)(hc:ud P s i off=true:=by kernel_rfl)(h:FA off d d':=by first|exact .p|exact .i):bG P G x o .none d':=by
 obtain⟨fs,f,m,h1,h2,h3,h4⟩:=Ch hc;cases h with
 | p=>exact vl ho hy h1 h2 h3 h4
 | i=>exact zD ho hy h1 h2 h3 h4
theorem bu(ho:o.op = .nilCheck y:=by exact rfl)(hy:aL x y=d:=by exact ot)(h:FA 0 d d:=by first|exact .p|exact .i):bG P G x o .none d:=by
 cases h with
 | p=>exact zu ho hy
 | i=>exact zn ho hy
theorem gY{cs:List D}(ho:o.op = .extract y i:=by exact rfl)(hy:aL x y = .dU cs:=by exact ot)(hd:cs[i]?=some d:=by exact rfl):bG P G x o .none d:=zv ho hy hd
inductive LD (S:List ay):D->Rd->D->Prop
 | b (k:Nat) {b o':Nat} {B:ay} {d:D} (hk:S[k]?=some B) (hb:B.b=b) (hd:B.cs[o']?=some d) (hne:isMap B.e=false):LD S (.v (.pointer (some ⟨b,o',none⟩))) (.ec k) d
 | m {α:Type} {g:α->List D} {sz i j:Nat} {ls:List α} {d:D} (hg:∀a,(g a).length=sz) (hi:i<ls.length) (hd:(g ls[i])[j]?=some d):LD S (.dh (ls.flatMap g) (i*sz+j)) .eP d
 | m0 {α:Type} {g:α->List D} {sz i:Nat} {ls:List α} {d:D} (hg:∀a,(g a).length=sz) (hi:i<ls.length) (hd:(g ls[i])[0]?=some d):LD S (.dh (ls.flatMap g) (i*sz)) .eP d
 | r (k:Nat) {α:Type} {g:α->List D} {b sz i j:Nat} {B:ay} {ls:List α} {d:D} (hg:∀a,(g a).length=sz) (hk:S[k]?=some B) (hb:B.b=b) (cB:B.cs=ls.flatMap g) (hi:i<ls.length) (hd:(g ls[i])[j]?=some d) (hne:isMap B.e=false):LD S (.v (.pointer (some ⟨b,0+i*sz+j,none⟩))) (.ec k) d
 | r0 (k:Nat) {α:Type} {g:α->List D} {b sz i:Nat} {B:ay} {ls:List α} {d:D} (hg:∀a,(g a).length=sz) (hk:S[k]?=some B) (hb:B.b=b) (cB:B.cs=ls.flatMap g) (hi:i<ls.length) (hd:(g ls[i])[0]?=some d) (hne:isMap B.e=false):LD S (.v (.pointer (some ⟨b,0+i*sz,none⟩))) (.ec k) d
 | i {o':Nat} {cs:List D} {d:D} (hd:cs[o']?=some d):LD S (.dh cs o') .eP d
theorem LD.still{t:TypeId}(h:LD x.S d0 kd d)(ho:o.op = .load t y)(hy:aL x y=d0)(ha:∀w,(isAgg t).run P w = .ok false w):bG P G x o kd d:=by
 cases h with
 | b k hk hb hd hne=>exact ri (hne:=hne) ho hy hk hb ha hd
 | m hg hi hd=>exact oQ ho hy ha (pC hg hi hd)
 | m0 hg hi hd=>exact oQ ho hy ha (rO hg hi hd)
 | r k hg hk hb cB hi hd hne=>exact lM (hne:=hne) hg hk hb cB ha hi hd x o y ho hy rfl
 | r0 k hg hk hb cB hi hd hne=>exact fT (hne:=hne) hg hk hb cB ha hi hd x o y ho hy rfl
 | i hd=>exact oQ ho hy ha hd
theorem eA {t:TypeId} (ho:o.op = .load t y:=by exact rfl) (hy:aL x y=d0:=by exact ot) (ha:mZ P t false=true:=by kernel_rfl)
  (h:LD x.S d0 kd d:=by first|exact .m jB w9 rfl|exact .m0 jB w9 rfl|exact .b 0 rfl rfl rfl rfl|exact .b 1 rfl rfl rfl rfl|exact .b 2 rfl rfl rfl rfl|exact .b 3 rfl rfl rfl rfl|exact .b 4 rfl rfl rfl rfl|exact .i rfl|exact .r 0 jB rfl rfl rfl w9 rfl rfl|exact .r0 0 jB rfl rfl rfl w9 rfl rfl|exact .r 1 jB rfl rfl rfl w9 rfl rfl|exact .r0 1 jB rfl rfl rfl w9 rfl rfl):bG P G x o kd d:=h.still ho hy (lP ha)
theorem aC(k:Nat){b o':Nat}{B:ay}(ho:o.op = .load t y:=by exact rfl)(hy:aL x y = .v (.pointer (some ⟨b,o',none⟩)):=by exact ot)(hk:x.S[k]?=some B:=by exact rfl)(hb:B.b=b:=by exact rfl)(ha:mZ P t false=true:=by kernel_rfl)(hd:B.cs[o']?=some d:=by exact rfl)(hne:isMap B.e=false:=by exact rfl):bG P G x o (.ec k) d:=ri (hne:=hne) ho hy hk hb (lP ha) hd
inductive LA (S:List ay):List D->D->Rd->List D->Prop
 | b (k:Nat) {b o':Nat} {B:ay} {ds:List D} (hk:S[k]?=some B) (hb:B.b=b) (hd:(B.cs.drop o').take ds.length=ds) (hne:isMap B.e=false):LA S ds (.v (.pointer (some ⟨b,o',none⟩))) (.ec k) ds
 | m {α:Type} {g:α->List D} {sz i:Nat} {ls:List α} {ds:List D} (hg:∀a,(g a).length=sz) (hi:i<ls.length) (hd:g ls[i]=ds):LA S ds (.dh (ls.flatMap g) (i*sz)) .eP (g ls[i])
 | r (k:Nat) {α:Type} {g:α->List D} {b sz i:Nat} {B:ay} {ls:List α} {ds:List D} (hg:∀a,(g a).length=sz) (hk:S[k]?=some B) (hb:B.b=b) (cB:B.cs=ls.flatMap g) (hi:i<ls.length) (hd:g ls[i]=ds) (hne:isMap B.e=false):LA S ds (.v (.pointer (some ⟨b,0+i*sz,none⟩))) (.ec k) (g ls[i])
 | i {o':Nat} {cs ds:List D} (hd:(cs.drop o').take ds.length=ds):LA S ds (.dh cs o') .eP ds
theorem jc (ds:List D) {t:TypeId} {es:List D} (ho:o.op = .load t y:=by exact rfl) (hy:aL x y=d0:=by exact ot) (ha:mZ P t true=true:=by kernel_rfl)
  (h:LA x.S ds d0 kd es:=by first|exact .m jB w9 rfl|exact .b 0 rfl rfl rfl rfl|exact .b 1 rfl rfl rfl rfl|exact .b 2 rfl rfl rfl rfl|exact .b 3 rfl rfl rfl rfl|exact .b 4 rfl rfl rfl rfl|exact .i rfl|exact .r 0 jB rfl rfl rfl w9 rfl rfl|exact .r 1 jB rfl rfl rfl w9 rfl rfl|exact .r 2 jB rfl rfl rfl w9 rfl rfl) (hn:ou P t ds.length=true:=by kernel_rfl):bG P G x o kd (.agg es):=by
 have E:=sv hn;cases h with
 | b k hk hb hd hne=>exact q8 (hne:=hne) ho hy hk hb (lP ha) E rfl hd
 | m hg hi hd=>exact q6 ho hy (lP ha) (by rw[<-hd,hg] at E;exact E) (hg _) (pO hg hi)
 | r k hg hk hb cB hi hd hne=>exact fU (hne:=hne) hg hk hb cB (lP ha) (by rw[<-hd,hg] at E;exact E) hi x o y ho hy rfl
 | i hd=>exact q6 ho hy (lP ha) E rfl hd
theorem dF(k:Nat)(ds:List D){b o':Nat}{B:ay}(ho:o.op = .load t y:=by exact rfl)(hy:aL x y = .v (.pointer (some ⟨b,o',none⟩)):=by exact ot)(ha:mZ P t true=true:=by kernel_rfl)(hk:x.S[k]?=some B:=by exact rfl)(hb:B.b=b:=by exact rfl)(hd:(B.cs.drop o').take ds.length=ds:=by exact rfl)(hne:isMap B.e=false:=by exact rfl)(hn:ou P t ds.length=true:=by kernel_rfl):bG P G x o (.ec k) (.agg ds):=q8 (hne:=hne) ho hy hk hb (lP ha) (sv hn) rfl hd
inductive IX (sz:Nat) (i:Int):D->D->Prop
 | l {cs:List D} {len j:Nat} (hi:i=j) (hj:j<len):IX sz i (.list sz cs len) (.dh cs (j*sz))
 | r {b o' len cap j:Nat} (hi:i=j) (hj:j<len):IX sz i (.v (.slice (some ⟨b,o',none⟩) len cap)) (.v (.pointer (some ⟨b,o'+j*sz,none⟩)))
theorem di (sz:Nat) {t:TypeId} {k:IntKind} {i:Int} (ho:o.op = .indexAddr t y z:=by exact rfl) (hy:aL x y=d:=by exact ot) (hz:aL x z = .v (.int k i):=by first|exact ot|exact aJ) (hs:ue P t sz=true:=by kernel_rfl)
  (h:IX sz i d d':=by first|exact .l rfl w9|exact .r rfl w9|exact .l (Int.toNat_of_nonneg w8).symm w8|exact .r (Int.toNat_of_nonneg w8).symm w8):bG P G x o .none d':=by
 obtain⟨e,h1,h2⟩:=Ci hs;cases h with
 | l hi hj=>exact vL ho hy hz h1 h2 hi hj
 | r hi hj=>exact vr ho hy hz h1 h2 hi hj
theorem bV{t:TypeId}{m:Nat}{ts:Array TypeId}(ho:o.op = .call {callee:=.builtin .len,args:=#[y],argTypes:=ts}:=by exact rfl)(ht:ts = #[t]:=by exact rfl)(hy:aL x y=d:=by exact ot)(hs:uf P t=true:=by kernel_rfl)(h:(∃sz cs,d = .list sz cs m)\/∃ad cap,d = .v (.slice ad m cap):=by first|exact .inl ⟨_,_,rfl⟩|exact .inr ⟨_,_,rfl⟩):bG P G x o .none (.v (.int .i64 m)):=by
 obtain⟨e,he⟩:=BP hs;rcases h with ⟨sz,cs,rfl⟩|⟨ad,cap,rfl⟩
 ·exact Ak ho ht hy he
 exact vv ho ht hy he
theorem az {op:BinOp} {t t':TypeId} {u u' r:Value} (ho:o.op = .binOp op t y z t':=by exact rfl) (hy:aL x y = .v u:=by first|exact ot|exact aJ) (hz:aL x z = .v u':=by first|exact ot|exact aJ)
  (hb:fX P op t u u' r:=by first|exact pB|exact A5|exact pA (wrap_i64 w8 w8)|exact nu (wrap_i64 w8 w8)|exact A9|exact A7|exact A6|exact A8|exact nv (wrap_i64 w8 w8)|exact AE|exact v5|exact EH|exact EI|exact EJ|exact EK|exact EM w8):bG P G x o .none (.v r):=fc ho hy hz hb
theorem en{t:TypeId}(ho:o.op = .unOp .not t y:=by exact rfl)(hy:aL x y = .v (.bool b):=by exact ot):bG P G x o .none (.v (.bool !b)):=rJ ho hy BL
theorem bZ{c:Operand}(ho:o.op = .pick c y z:=by exact rfl)(hc:aL x c = .v (.bool b):=by exact ot)(h:b=true:=by first|rfl|assumption)(hd:aL x y=d:=by first|exact ot|exact aJ):bG P G x o .none d:=lE ho hc h hd
theorem bt{c:Operand}(ho:o.op = .pick c y z:=by exact rfl)(hc:aL x c = .v (.bool b):=by exact ot)(h:b=false:=by first|rfl|assumption)(hd:aL x z=d:=by first|exact ot|exact aJ):bG P G x o .none d:=gM ho hc h hd
theorem aa(h:bG P C.G ⟨n,e,S⟩ o kd d)(K:OD P C ops l ⟨n,(t,d)::e,S⟩ Q)(hw:cg ops ⟨n,e,S⟩ o true:=by first|exact kD rfl|exact mA rfl rfl rfl lk w5)(hd:o.dst=some t:=by exact rfl):OD P C ops (o::l) ⟨n,e,S⟩ Q:=iT hw hd h K
theorem an(K:OD P C ops l ⟨n,(t,.v (.tuple #[]))::e,S⟩ Q)(hw:cg ops ⟨n,e,S⟩ o false:=by exact bX rfl rfl rfl lk w5)(hd:o.dst=some t:=by exact rfl):OD P C ops (o::l) ⟨n,e,S⟩ Q:=wI hw hd K
theorem k8(K:OD P C ops l ⟨n,(t,.v (.tuple #[]))::e,S⟩ Q)(hw:cg ops ⟨n,e,S⟩ o false:=by exact wH (b:=false) rfl rfl rfl lk)(hd:o.dst=some t:=by exact rfl):OD P C ops (o::l) ⟨n,e,S⟩ Q:=wI hw hd K
inductive kP:List Nat->List (Nat×D)->List (Nat×D)->Prop
 | nil {e:List (Nat×D)}:kP [] e []
 | cons {t:Nat} {ts:List Nat} {d:D} {e l':List (Nat×D)} (h:look t e=d) (k:kP ts e l'):kP (t::ts) e ((t,d)::l')
theorem kP.pL{ts:List Nat}{e:List (Nat×D)}(h:kP ts e l'):hO e l':=by
 induction h with
 | nil=>trivial
 | cons h _ ih=>exact⟨h,ih⟩
theorem ak(ts:List Nat)(K:Q .normal ⟨n,l',S⟩)(h:kP ts e l':=by repeat (first|exact kP.nil|(apply kP.cons;focus exact lk))):OD P C ops [] ⟨n,e,S⟩ Q:=aY (Wk.aO rfl rfl h.pL) (bg K)
theorem ug{q:Prop}(h:q->p:=by intro k;(repeat (first|refine E9 ?_|refine aN ?_|refine bO ?_|refine dJ ?_|refine aD ?_|fail));exact k):q->p:=h
theorem bf{fn:Func}{ex:Exit}(hp:post d [])(h0:Body P fn post ex ⟨n,e,S⟩->p:=by exact ug)(he:ex = .normal\/ex = .ret:=by first|exact .inr rfl|exact .inl rfl)(hr:fn.results = #[.tmp t]:=by exact rfl)(ht:Nat.blt t n=true:=by exact rfl)(hd:look t e=d:=by exact lk):p :=
 h0 ⟨he,d,[],nil_sublist _,c8 hr (dm (Nat.le_of_ble_eq_true ht) hd),hp⟩
theorem DZ{fn:Func}{ex:Exit}{t':Nat}(hp:post (.dU [d,d']) [])(h0:Body P fn post ex ⟨n,e,S⟩->p:=by exact ug)(he:ex = .normal\/ex = .ret:=by first|exact .inr rfl|exact .inl rfl)(hr:fn.results = #[.tmp t,.tmp t']:=by exact rfl)(ht:Nat.blt t n=true:=by exact rfl)(yz:Nat.blt t' n=true:=by exact rfl)(hd:look t e=d:=by exact lk)(D0:look t' e=d':=by exact lk):p :=
 h0 ⟨he,_,[],nil_sublist _,gN hr (dm (Nat.le_of_ble_eq_true ht) hd) (dm (Nat.le_of_ble_eq_true yz) D0),hp⟩
theorem ag{id:Nat}{r:List Oper}{d:Code}(h:OD P C r.toArray r x (xI P C d Q))(h0:CD P C (.seq (.region id r.toArray false) d) x Q->p:=by exact ug):p:=h0 (aA (aR h))
end V
namespace Tab
open List
open Go.RowKit Go.ChangeShapes
variable {α:Type} {e t:TypeId}
theorem chunks{α:Type}{g:α->List Value}{c:Nat}:∀(E:List α) (cs:List Value),cs.length=E.length*c->(∀i (h:i<E.length),(cs.drop (i*c)).take c=g E[i])->cs=E.flatMap g
 | [],cs,hl,_=>by
  have:cs=[]:=length_eq_zero_iff.1 (by simpa using hl);simp[this]
 | r::E,cs,hl,h=>by
  have h0:cs.take c=g r:=by
   have h1:=h 0 cl;simp only[Nat.zero_mul,drop_zero] at h1;exact h1
  have I:=chunks (c:=c) E (cs.drop c) (by rw[length_drop,hl,length_cons,Nat.add_mul];omega) (fun i hi=>by
   have h1:=h (i+1) (by simpa using hi);rw[drop_drop,show c+i*c=(i+1)*c from by rw[Nat.add_mul];omega];exact h1)
  rw[flatMap_cons,<-h0,<-I,take_append_drop]
variable {H:Type} {enc:TypeId×Value->H} {P:Program} {w:World} {base:Nat} {sp:Nat->Bool} {held:Bool}
def Reads(enc:TypeId×Value->H)(P:Program)(w:World)(base:Nat)(sp:Nat->Bool)(held:Bool)(e:TypeId)(f:α->DataW H)(g:α->List Value):Prop :=
 ∀(aZ:Nat) (cs:List Value) (x:DataW H×List MemPlace),DataW.trod enc P w base sp held aZ e cs=some x->∀r,x.1=f r->cs=g r
theorem reads_bool(he:P.underlying e=some .bool):Reads enc P w base sp held e (fun b:Bool=>.lit (.bool b)) (fun b=>[.bool b]):=by
 intro aZ cs x h r hr;obtain⟨b,rfl,rfl⟩:=DataW.trod_bool he h;simp at hr;rw[hr]
theorem reads_int{k:IntKind}(he:P.underlying e=some (.int k)):Reads enc P w base sp held e (fun b:Int=>.lit (.int k b)) (fun b=>[.int k b]):=by
 intro aZ cs x h r hr;obtain⟨b,rfl,rfl,_⟩:=DataW.trod_int he h;simp at hr;rw[hr]
theorem reads_string(he:P.underlying e=some .string):Reads enc P w base sp held e (fun b:List UInt8=>.lit (.string b)) (fun b=>[.string ⟨b.toArray⟩]):=by
 intro aZ cs x h r hr;obtain⟨s,rfl,rfl,_⟩:=DataW.trod_string he h;simp at hr;obtain⟨⟨s⟩⟩:=s;simp at hr;rw[<-hr]
theorem reads_arr {f:α->DataW H} {g:α->List Value} {n:Nat} (ht:P.underlying t=some (.array n e)) (I:P.cellsOf t=n*P.cellsOf e)
  (J:Reads enc P w base sp held e f g):Reads enc P w base sp held t (fun E:List α=>.agg (E.map f)) (fun E=>E.flatMap g):=by
 intro aZ cs x h E hr;obtain⟨xs,m,_,rfl,hl,hn,hi⟩:=DataW.trod_array ht h;simp only[DataW.agg.injEq] at hr;have K:E.length=n:=(by have:=congrArg length hr;simp at this;omega)
 refine chunks E cs (by rw[hl,I,K]) fun i M=>?_;have h1:=hi i w8;rw[getElem?_eq_getElem w8] at h1;refine J m _ _ h1 _ ?_;have:=congrArg (fun l=>l[i]?) hr;simpa[getElem?_eq_getElem M,getElem?_eq_getElem (show i<xs.length by omega)] using this
theorem reads_four {E I J K:Type} {f0:E->DataW H} {f1:I->DataW H} {f2:J->DataW H} {f3:K->DataW H} {g0:E->List Value} {g1:I->List Value} {g2:J->List Value} {g3:K->List Value} {d0 d1 M N:Field}
  (ht:P.underlying t=some (.struct #[d0,d1,M,N])) (hc:P.cellsOf t=4) (o0:d0.offset=0) (o1:d1.offset=1) (o2:M.offset=2) (o3:N.offset=3) (c0:P.cellsOf d0.type=1) (c1:P.cellsOf d1.type=1) (c2:P.cellsOf M.type=1) (c3:P.cellsOf N.type=1)
  (h0:Reads enc P w base sp held d0.type f0 g0) (h1:Reads enc P w base sp held d1.type f1 g1) (h2:Reads enc P w base sp held M.type f2 g2) (h3:Reads enc P w base sp held N.type f3 g3) :
  Reads enc P w base sp held t (fun r:E × I × J × K=>.agg [f0 r.1,f1 r.2.1,f2 r.2.2.1,f3 r.2.2.2]) (fun r=>g0 r.1++(g1 r.2.1++(g2 r.2.2.1++g3 r.2.2.2))):=by
 intro aZ cs x h r hr;obtain⟨xs,m,_,rfl,hl,hn,hf⟩:=DataW.trod_struct ht h;rw[hc] at hl;have q0:=hf 0 d0 rfl;have q1:=hf 1 d1 rfl;have q2:=hf 2 M rfl;have O:=hf 3 N rfl;rw[o0,c0] at q0;rw[o1,c1] at q1;rw[o2,c2] at q2;rw[o3,c3] at O;match xs,hn with
 | [y0,y1,y2,y3],_ =>
  simp only[DataW.agg.injEq,map_cons,map_nil,cons.injEq,and_true] at hr;match cs,hl with
  | [v0,v1,v2,v3],_ =>
   have U:=h0 m _ _ q0 _ hr.1;have Y:=h1 m _ _ q1 _ hr.2.1;have Z:=h2 m _ _ q2 _ hr.2.2.1;have e3:=h3 m _ _ O _ hr.2.2.2;simp only[drop_zero,drop_succ_cons,take_succ_cons,take_zero] at U Y Z e3;show[v0,v1,v2,v3]=g0 r.1++(g1 r.2.1++(g2 r.2.2.1++g3 r.2.2.2));rw[<-U,<-Y,<-Z,<-e3];rfl
theorem var_cells {f:α->DataW Unit} {g:α->List Value} {W:World} {n:String} {I:Nat} {cs:Array Value} {aZ:Nat} {p:List MemPlace} {r:α}
  (hg:P.globalNamed n=some I) (J:W.var? P n=some cs) (hd:DataW.trod (fun _=>()) P W 0 (fun _=>true) false aZ t cs.toList=some (f r,p))
  (E:Reads (fun _=>()) P W 0 (fun _=>true) false t f g) (i:Nat) (v:Value) (hi:(g r)[i]?=some v):W.cell? ⟨I,i,none⟩=some v:=by
 have h:=E _ _ _ hd r rfl;rw[World.var?_cell hg J i,<-Array.getElem?_toList,h,hi]
def nI(w:World)(g:Nat)(l:List Value):Prop:=∀i v,l[i]?=some v->w.cell? ⟨g,i,none⟩=some v
end Tab
namespace V
open List
open Go.RowKit
section
variable {G:List (Nat×List Value)} {args:List D}
def nP(w:World)(g:Nat)(l:List Value):Prop:=∀i v,l[i]?=some v->g9 w g i v
theorem nP.of{w:World}{g:Nat}{l:List Value}(h:Tab.nI w g l)(hp:l.all hN=true):nP w g l:=fun i v hi=>.of (h i v hi) (rI hp hi)
theorem VP.run {P:Program} {f:FuncId} {vs:List Value} {r:Value} {w:World} (h:VP P G f args (.v r))
  (I:∀g∈G,g.2≠[]/\nP w g.1 g.2) (hr:bY w (live (fun _=>False) []) args vs):Calls P f vs.toArray w fun e w'=>e = .returned r/\Below w.heap.size w w':=by
 have hp:ke G (fun _=>False) w [] args vs:=by
  refine⟨fun _ h=>h.elim,fun g hg=>⟨⟨?_,by simp[au],fun h=>h⟩,(I g hg).2⟩,⟨fun B J=>by simp at J,by simp[au]⟩,hr⟩;obtain⟨h1,h2⟩:=I g hg;cases hl:g.2 with
  | nil=>exact absurd hl h1
  | cons v l=>exact(h2 0 v (by rw[hl];rfl)).lt
 refine(h _ w vs hp).mono fun e w' ⟨v,M,S',h1,⟨h2,N⟩,O,K,E⟩=>?_;subst h2;rw[K.eK] at h1;exact⟨h1,E.os,E.tape,E.output,E.size,fun k hk=>(E.block k hk (by simp[au])).1⟩
theorem bY.vs(w:World)(L:Nat->Prop)(vs:List Value):bY w L (vs.map .v) vs:=⟨by simp,fun i h1 h2=>by rw[getElem_map];exact .v _⟩
theorem pP{a:Int}(h:(Lit.int .i64 a).wf=true):-9223372036854775808<=a/\a<=9223372036854775807:=bounds_i64 h
variable {H:Type} {enc:TypeId×Value->H} {P:Program} {w:World} {base:Nat} {sp:Nat->Bool} {held:Bool}
theorem VP.CO {f:FuncId} {vs:List Value} {r:Value} (h:VP P G f args (.v r))
  (E:∀g∈G,g.2≠[]/\nP w g.1 g.2) (hr:bY w (fun _=>False) args vs):Calls P f vs.toArray w fun e w'=>e = .returned r/\Below w.heap.size w w' :=
 h.run E (hr.mono fun b _ _=>⟨rfl,fun hl=>by rcases hl with hl|hl;exact hl;simp[au] at hl⟩)
end
section
variable {P:Program} {C:cq} {G:List (Nat×List Value)} {Q:Exit->St->Prop} {x:St} {ops:Array Oper} {l:List Oper} {o:Oper} {S1 T:List Nat} {aZ i:Nat} {ld:Array Bool}
theorem NP.norm{Φ:St->Prop}:NP (fun e y=>e=Exit.normal/\Φ y):=fun c y t E=>by cases E.1
end
variable {P:Program} {C:cq} {G:List (Nat×List Value)} {Q:Exit->St->Prop} {x:St} {ops:Array Oper} {l:List Oper} {o:Oper}
variable {e sz cap b n t m k:Nat} {α:Type} {ad:Option Addr} {S Sq R A S1 S2:List ay} {cs:List D} {s:ByteArray}
theorem kM{g:α->List D}:bQ e sz (([]:List α).flatMap g) ([]:List α).length none 0 []:=.inl ⟨rfl,rfl,rfl,rfl,rfl⟩
theorem bQ.cast{g:α->List D}{ls E:List α}(h:bQ e sz (ls.flatMap g) ls.length ad cap S)(he:ls=E):bQ e sz (E.flatMap g) E.length ad cap S:=he ▸ h
theorem cA{g:α->List D}{ls:List α}(h1:ls.length<=cap)(h2:cap<=maxLen):bQ e sz (ls.flatMap g) ls.length (some ⟨b,0,none⟩) cap [⟨b,e,cap*sz,ls.flatMap g⟩]:=.inr ⟨b,rfl,h1,h2,rfl⟩
def iJ(g:α->List D)(e sz:Nat)(ls:List α)(r:D)(S:List ay):Prop:=∃ad cap,r = .v (.slice ad ls.length cap)/\bQ e sz (ls.flatMap g) ls.length ad cap S
theorem iJ.view{g:α->List D}{ls:List α}{r:D}(hg:∀a,(g a).length=sz)(h:iJ g e sz ls r S)(hne:isMap e=false:=by rfl):View S r (.list sz (ls.flatMap g) ls.length):=by
 obtain⟨ad,cap,rfl,ho⟩:=h;exact rR (hne:=hne) ho (dg hg ls) (fun B E=>E)
theorem VC.nG{g:α->List D}{ls:List α}{f:FuncId}{args:List D}(hg:∀a,(g a).length=sz)(h:VC P G f args [] (iJ g e sz ls))(hne:isMap e=false:=by rfl):VP P G f args (.list sz (ls.flatMap g) ls.length) :=
 h.cover fun r S hr=>iJ.view (hne:=hne) hg hr
theorem Wk.xw{l:List (Nat×D)}(ht:look t l = .v (.slice ad m cap))(ho:bQ e sz cs m ad cap Sq)(hl:cs.length=m*sz)(hp:S.Perm (Sq++R))(hne:isMap e=false:=by rfl):Wk ⟨n,l,S⟩ ⟨n,(t,.list sz cs m)::l,R⟩:=by
 refine(Wk.perm hp).trans ?_;rcases ho with ⟨rfl,rfl,rfl,rfl,rfl⟩|⟨b,rfl,h1,h2,rfl⟩
 ·exact Wk.py ht
 exact Wk.sI (hne:=hne) (k:=0) rfl ht rfl hl h1 h2
theorem gr(ht:V.look t x.env = .v (.slice ad m cap))(ho:bQ e sz cs m ad cap Sq)(hl:cs.length=m*sz)(hp:x.S.Perm (Sq++R))(K:OD P C ops l ⟨x.n,(t,.list sz cs m)::x.env,R⟩ Q)(hne:isMap e=false:=by rfl):OD P C ops l x Q :=
 aY (Wk.xw (hne:=hne) (n:=x.n) (S:=x.S) ht ho hl hp) K
theorem iz{c:Code}(ht:V.look t x.env = .v (.slice ad m cap))(ho:bQ e sz cs m ad cap Sq)(hl:cs.length=m*sz)(hp:x.S.Perm (Sq++R))(K:CD P C c ⟨x.n,(t,.list sz cs m)::x.env,R⟩ Q)(hne:isMap e=false:=by rfl):CD P C c x Q :=
 hU (Wk.xw (hne:=hne) (n:=x.n) (S:=x.S) ht ho hl hp) K
theorem iJ.mk{g:α->List D}{ls:List α}(h:bQ e sz (ls.flatMap g) ls.length ad cap S):iJ g e sz ls (.v (.slice ad ls.length cap)) S:=⟨ad,cap,rfl,h⟩
theorem iJ.cast{g:α->List D}{ls E:List α}{r:D}(h:iJ g e sz ls r S)(he:ls=E):iJ g e sz E r S:=he ▸ h
theorem eW{ls E:List α}(h:ls=E):D.v (.slice ad ls.length cap)=D.v (.slice ad E.length cap):=by rw[h]
theorem cy:(A++S1).Perm (S1++A):=perm_append_comm
theorem rS:(A++(S1++S2)).Perm (S1++(A++S2)):=perm_append_comm_assoc _ _ _
theorem mz:(A++(S1++S2)).Perm (S2++(A++S1)):=(List.perm_append_comm.append_left A).trans rS
theorem cR:(S1++A).Perm (A++S1):=cy.symm
theorem lI:(S2++(A++S1)).Perm (A++(S1++S2)):=mz.symm
theorem mr {g:α->List D} {ls new:List α} {s y:Operand} {tt bytes:Nat} {z:Value} (hg:∀a,(g a).length=sz) (hg1:∀a,(g a).all one=true) (hw:cg ops x o true) (ho:o.op = .call {callee:=.builtin .append,args:=#[s,y],argTypes:=#[t,t]}) (hd:o.dst=some tt)
  (ht:P.underlying t=some (.slice e)) (hi:(P.info? e).map (fun i=>(i.zero,i.size,i.bytes))=some (some z,sz,bytes)) (cW:z.cells.size=sz) (N:0<sz) (Y:∀w,(underlying t).run P w = .ok (.slice e) w) (O:∀w,(sizeOf e).run P w = .ok sz w)
  (hs:aL x s = .v (.slice ad ls.length cap)) (J:bQ e sz (ls.flatMap g) ls.length ad cap Sq) (hp:x.S.Perm (Sq++R))
  (hy:aL x y = .list sz (new.flatMap g) new.length) (U:ls.length+new.length<=maxLen) (I:(ls.length+new.length)*bytes<=140737488355328)
  (K:∀M E S',bQ e sz ((ls++new).flatMap g) (ls++new).length M E S'->OD P C ops l ⟨x.n,(tt,.v (.slice M (ls++new).length E))::x.env,S'++R⟩ Q) (hne:isMap e=false:=by rfl):OD P C ops (o::l) x Q:=by
 rcases Nat.eq_zero_or_pos new.length with h0|h0
 ·have hn:new=[]:=eq_nil_of_length_eq_zero h0;subst hn;refine iT hw hd (vf ho Y O hs J.le hy) ?_;have:=K ad cap Sq (by rw[append_nil];exact J);rw[append_nil] at this;exact aY (Wk.perm (n:=x.n) hp) this
 exact fA (hne:=hne) hg hg1 hw ho hd ht hi cW N hs J hp hy h0 U I fun Z E h1 h2=>K _ E _ (cA h1 h2)
theorem zK {t e:TypeId} {vs:List Value} {y:Operand} (ho:o.op = .slice t y none none none) (hy:aL x y = .v (.pointer (some ⟨b,0,none⟩))) (hg:(b,vs)∈G)
  (J:∀w,(underlying t).run P w = .ok (.array n e) w) (hs:∀w,(sizeOf e).run P w = .ok sz w) (hl:vs.length=n*sz) (hn:n≠0) (I:n<=maxLen) (ja:vs.all hN=true:=by rfl):bG P G x o .none (.list sz (vs.map .v) n):=fun C a w K h=>by
 subst K;obtain⟨⟨q1,q2,M⟩,O⟩:=h.dI _ hg;refine⟨.slice (some ⟨b,0,none⟩) n n,.list sz (vs.map .v) n b 0 n (fun i=>vs.getD i undef) (by simpa using hl) (Nat.le_refl _) I (Nat.lt_of_lt_of_le q1 h.fr.size) (fun hl=>hl.elim M (h.fr.block b q1 q2).2) (fun i hi=>?_) (fun i hi=>?_),fun w' _=>?_⟩
 ·have E:i<vs.length:=(by simpa using hi)
  have:=(h.kO hg (getElem?_eq_getElem E)).cell (rI ja (getElem?_eq_getElem E));rw[Nat.zero_add,this];simp[E]
 ·have E:i<vs.length:=(by simpa using hi)
  simp only[getElem_map,getD_eq_getElem?_getD,getElem?_eq_getElem E,Option.getD_some];exact .v _
 unfold execOp;have N:(Instr.sliceBounds false n n none none none).run P w' = .ok (0,n,n) w':=(by unfold Instr.sliceBounds;simp)
 simp only[ho,h.flat hy,Instr.sliceAt,J,Instr.sureAddr,Sem.run_bind,Result.andThen_ok,Option.map_none,Sem.run_pure,N,hs,Nat.sub_zero];rw[if_neg hn];simp[Addr.add_mid]
theorem wO {g:α->List D} {ls:List α} {t e:TypeId} {l' h':Nat} {vs:List Value} (hg:(b,vs)∈G) (J:vs.map D.v=ls.flatMap g) (E:n=ls.length)
  (K:∀w,(underlying t).run P w = .ok (.array n e) w) (hs:∀w,(sizeOf e).run P w = .ok sz w) (hl:vs.length=n*sz) (hn:n≠0) (I:n<=maxLen) (ja:vs.all hN=true:=by rfl):Rs P G t none none l' h' (.v (.pointer (some ⟨b,0,none⟩))) (.list sz (ls.flatMap g) ls.length):=fun x o y ho hy _ _=>by
 have:=zK (P:=P) (G:=G) ho hy hg K hs hl hn I ja;rw[J,E] at this;exact this
theorem vb{x y:Bool}(h:x=y):D.v (.bool x)=D.v (.bool y):=by rw[h]
theorem vi{k:IntKind}{x y:Int}(h:x=y):D.v (.int k x)=D.v (.int k y):=by rw[h]
def cS(s:ByteArray):List D:=[.v (.string s)]
theorem dz(s:ByteArray):(cS s).length=1:=rfl
theorem sg(s:ByteArray):(cS s).all one=true:=rfl
def jY(s:ByteArray)(k:Nat):UInt8:=s.data.toList.getD k 0
theorem xk(h:k<s.size):s[k]?=some (jY s k):=by
 have h':k<s.data.size:=h;rw[getElem?_pos s k h];congr 1;show s.data[k]=_;simp only[jY,getD_eq_getElem?_getD,Array.getElem?_toList,Array.getElem?_eq_getElem h',Option.getD_some]
theorem nx(s:ByteArray):s.data.toList.length=s.size:=by rw[Array.length_toList];rfl
theorem pn(s:ByteArray):s.toList=s.data.toList:=by rw[ByteArray.toList_eq]
theorem vy(h:k<s.data.toList.length):s.data.toList[k]=jY s k:=by simp only[jY,getD_eq_getElem?_getD,getElem?_eq_getElem h,Option.getD_some]
theorem BQ(h:(!(s.toList==(⟨#[]⟩:ByteArray).toList))=true):0<s.size:=by
 rcases Nat.eq_zero_or_pos s.size with h0|h0
 ·have:s.data.toList=[]:=eq_nil_of_length_eq_zero (by rw[nx,h0]);rw[pn,pn,this] at h;cases h
 exact h0
theorem dx:(s.toList==(⟨#[]⟩:ByteArray).toList)=decide (s.size=0):=by
 rw[Bool.eq_iff_iff,beq_iff_eq,decide_eq_true_eq,pn,pn,<-nx];exact⟨fun h=>by rw[h];rfl,fun h=>eq_nil_of_length_eq_zero h⟩
def cj(a b:ByteArray):Bool:=a.toList==b.toList
def kQ(p:α->Bool)(ls:List α):Int:=match ls.findIdx? p with|some i=>i|none=>-1
theorem po{p:α->Bool}{ls:List α}(hk:k<ls.length)(h0:∀x∈ls.take k,p x=false)(h1:p ls[k]=true):kQ p ls=k:=by
 have:ls.findIdx? p=some k:=by
  rw[findIdx?_eq_some_iff_getElem];refine⟨hk,h1,fun j hj=>?_⟩;have:=h0 ls[j] (mem_take_iff_getElem.2 ⟨j,by omega,rfl⟩);simp[this]
 simp[kQ,this]
theorem o8{p:α->Bool}{ls:List α}(hk:¬(k<ls.length))(h0:∀x∈ls.take k,p x=false):kQ p ls = -1:=by
 have:ls.findIdx? p=none:=by
  rw[findIdx?_eq_none_iff];intro x hx;rw[take_of_length_le w8] at h0;exact h0 x hx
 simp[kQ,this]
theorem v9{p:α->Bool}{ls:List α}:decide (kQ p ls>=0)=ls.any p:=by
 unfold kQ;cases h:ls.findIdx? p with
 | none =>
  have:=findIdx?_eq_none_iff.1 h;simp;exact this
 | some i =>
  obtain⟨h1,h2,_⟩:=findIdx?_eq_some_iff_getElem.1 h;simp only[ge_iff_le,Int.natCast_nonneg,decide_true];exact(any_eq_true.2 ⟨_,getElem_mem h1,h2⟩).symm
theorem wc{p:α->Prop}{ls:List α}(hk:k<ls.length)(h0:∀x∈ls.take k,p x)(h1:p ls[k]):∀x∈ls.take (k+1),p x:=by
 rw[take_succ_eq_append_getElem hk];intro x hx;rcases mem_append.1 hx with hx|hx
 ·exact h0 x hx
 simp only[mem_singleton] at hx;subst hx;exact h1
end V
namespace V
open List
open Go.RowKit
variable {P:Program} {C:cq} {G:List (Nat×List Value)} {Q:Exit->St->Prop} {x:St} {ops:Array Oper} {l:List Oper} {o:Oper} {S1 T:List Nat} {aZ i:Nat} {ld:Array Bool}
theorem iG.same{S:List ay}:∀{a:List D},iG S a a
 | []=>trivial
 | _::_=>⟨rD,iG.same⟩
variable {α:Type} {V:α->List D->List ay->Prop}
end V
end Go.Proofs.YtmapbfkhggjgeaaDoor
