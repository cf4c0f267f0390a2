/-
  GN: walks and plain facts, part 1.
-/
import Derived.WalkKit
import Derived.Deep.MidRow
import Derived.Deep.AppendLies
import Derived.OrdersHeld
import Derived.IntWalk
import Derived.Laws.Cover3
import Derived.ChangeKeysEq
import Derived.ProofKit
import Derived.OpenShut
import Derived.Lib.LaidTab
import Derived.Below
import Derived.Deep.Slices
import Derived.ArgAppend
import Derived.Lib.AppendStr
import Derived.MapKept
import Derived.RangeFuncLeaves
import Derived.RangeFuncOwn
import Derived.OrdersIn
import Derived.TacticsIn
import Derived.Shelf.Abstract
import Derived.RecoverIn
import Derived.WalkLawsBesides
import Derived.Lib.AppendZeros
import Derived.Laws.IdiomCopy
import Derived.Lib.Overlaps
import Derived.Lib.AppendZerosOnto
import Derived.Shelf.Strings.Builder1
import Derived.Shelf.Strings.Builder2
import Derived.Shelf.Small.Bits
import Derived.Shelf.Small.Strs
import Derived.Shelf.Small.Wraps
import Derived.Shelf.Strings.BuilderF
import Derived.Shelf.Strings.BuilderK
import Derived.Shelf.Utf8.RuneCount
import Derived.Shelf.Strings.Builder2Cap
import Derived.Shelf.Strconv.Atoi
import Derived.Shelf.Strconv.Itoa0
import Derived.Shelf.Strconv.Itoa1
import Derived.Shelf.LaysM
import Derived.Shelf.Strconv.Itoa2
import Derived.Shelf.Strconv.Itoa3
import Derived.Shelf.Strconv.AtoiErrFast
import Derived.Shelf.Strconv.ParseIntEmpty
import Derived.Shelf.Strconv.AtoiFail
import Derived.Shelf.Strconv.Clone
import Derived.Shelf.Strconv.SyntaxError
import Derived.Shelf.LaysC
import Derived.Shelf.Strconv.ToError
import Derived.Shelf.Strconv.AtoiErr
import Derived.Shelf.Strconv.ErrVar
import Derived.Shelf.Strconv.Lower
import Derived.Shelf.Strconv.ParseUint10
import Derived.Shelf.Strconv.ParseUint10Empty
import Derived.Shelf.Strconv.ParseUint10Any
import Derived.Shelf.Strconv.ParseInt10
import Derived.Shelf.Strconv.AtoiLong
import Derived.Shelf.Strconv.AtoiInnerAll
import Derived.Shelf.Strconv.RangeError
import Derived.Shelf.Strconv.ToErrorRange
import Derived.Shelf.Strconv.AtoiAll
import Derived.Shelf.Strconv.ErrVarAll
import Derived.Shelf.Strconv.ParseUintEmpty
import Derived.Shelf.Strconv.ParseUint10b64
import Derived.Shelf.Strconv.ParseUint10b32
import Derived.Shelf.Strconv.ParseUint10b16
import Derived.Shelf.Strconv.ParseUint10b8
import Derived.Shelf.Strconv.ParseUint10At
import Derived.Shelf.Strconv.ParseInt10At64
import Derived.Shelf.Strconv.ParseInt10At32
import Derived.Shelf.Strconv.ParseInt10At16
import Derived.Shelf.Strconv.ParseInt10At8
import Derived.Shelf.Strconv.ParseInt10All
import Derived.Shelf.Strings.Search1
import Derived.Shelf.Strings.Search2
import Derived.Shelf.Strings.Search3
import Derived.Shelf.Strings.Count
import Derived.Shelf.Strings.Shaped
import Derived.Shelf.Sort.Plain
import Derived.Shelf.Strings.Prefix
import Derived.Shelf.Strings.Split
import Derived.Shelf.Strings.Replace
import Derived.Shelf.Strings.SplitShaped
import Derived.Shelf.Unicode.Decode
import Derived.Shelf.Strings.RuneCount
import Derived.Shelf.Unicode.DecodeSlow
import Derived.Shelf.Unicode.DecodeAny
import Derived.Shelf.Strings.BuilderCap
import Derived.Shelf.Slices.Turned
import Derived.Shelf.Slices.Reverse
import Derived.Ground.Names2Prog
import Derived.Shelf.Slices.Clone
import Derived.Shelf.Slices.CompactI
import Derived.Shelf.Slices.SearchI
import Derived.Shelf.Slices.Delete
import Derived.Shelf.Slices.Cells
import Derived.Shelf.Slices.In.SortNone
import Derived.Shelf.Slices.Empties
import Derived.Shelf.Bytes.SlSearch0
import Derived.Ground.SlgnProg
import Derived.Shelf.SlicesE.Clone
import Derived.Shelf.Bytes.SlEqualAll
import Derived.Shelf.Bytes.Small
import Derived.SizedLaws
import Derived.Test.YtomnenkeecbglaaGreatDoorRows
import Derived.Test.YtomnenkeecbglaaGreatDoorProg
set_option linter.unusedVariables false
set_option linter.unusedSimpArgs false
set_option maxRecDepth 100000
set_option maxHeartbeats 4000000
namespace Go.Proofs.YtomnenkeecbglaaGreatDoor
section
open List
variable {p:Prop}
theorem w4(h:p:=by repeat (first|exact NP.body|exact NP.sI|exact NP.Dv|exact NP.qK|apply NP.tl|apply NP.sJ|apply NP.then|apply NP.cut|apply NP.inBlock|apply NP.round)):p:=h
theorem w5(h:p:=by simp only[flatten_cons,flatten_nil,length_append,length_cons,length_nil];omega):p:=h
theorem w6(h:p:=by first|rfl|assumption):p:=h
theorem w7(h:p:=by omega):p:=h
theorem w8(h:p:=by repeat (first|exact trivial|exact⟨mo,trivial⟩|exact⟨ve,trivial⟩|refine⟨mo,?_⟩|refine⟨ve,?_⟩)):p:=h
theorem w9(h:p:=by repeat (first|exact trivial|refine⟨(by (repeat (first|exact jQ|(apply kV;focus (first|rfl|(simp;done)|(congr 2;omega)|(apply fZ;rfl)|(apply fZ;rfl)|(apply fZ;simp;done)))|(apply jO;focus rfl)));done),?_⟩)):p:=h
theorem cX(h:p:=by first|assumption|omega):p:=h
theorem iX(h:p:=by simp only[length_append,length_map,length_cons,length_nil];omega):p:=h
theorem iY(h:p:=by simp only[maxLen,length_append,length_cons,length_nil] at *;omega):p:=h
theorem fy(h:p:=by show _<=1000;exact Nat.le_of_ble_eq_true rfl):p:=h
theorem oB(h:p:=by have eI:=fU;have q1:=yj Er i;(try have q2:=Er _ (getElem_mem aD));(try simp only[length_append,length_cons,length_nil]);omega):p:=h
theorem kF(h:p:=by simp only[maxLen,length_append,length_map,length_cons,length_nil];omega):p:=h
theorem rj(h:p:=by rw[uX nu,sn nu,show(ops.drop fr).take (mid-fr)=(ops.take mid).drop fr from(drop_take).symm,show mid-fr=((ops.take mid).drop fr).length from by rw[length_drop,length_take];omega];rfl):p:=h
theorem gx(h:p:=by repeat (first|exact trivial|refine⟨Es,?_⟩)):p:=h
theorem tq(h:p:=by repeat (first|exact trivial|refine⟨(by (repeat (first|exact jQ|(apply kV;focus (first|rfl|(simp;done)|(congr 2;omega)|(apply fZ;simp;done)))|(apply jO;focus rfl)));done),?_⟩)):p:=h
theorem vN(h:p:=by repeat (first|exact trivial|refine⟨(by (repeat (first|exact jQ|(apply kV;focus (first|rfl|(simp;done)|(congr 2;omega)|(apply fZ;rw[uI aD])|(apply fZ;rfl)|(apply fZ;simp;done)))|(apply jO;focus rfl)));done),?_⟩)):p:=h
theorem dD(h:p:=by intro h;cases h):p:=h
theorem c7(h:p:=by exact trivial):p:=h
theorem dw(h:p:=by rw[h1];rfl):p:=h
theorem rp(h:p:=by simp only[flatten_cons,flatten_nil,length_append,length_map,length_cons,length_nil];omega):p:=h
theorem vO(h:p:=by repeat (first|exact trivial|refine⟨(by (repeat (first|exact jQ|(apply kV;focus (first|rfl|(congr 2;omega)|(simp;done)))|(apply jO;focus rfl)));done),?_⟩)):p:=h
theorem rq(h:p:=by exact(cm (mk:=Op.load 3) rfl ot (lF (k:=1) ko rfl rfl rfl isAgg3 hi (by rw[hx];rfl)))):p:=h
theorem cc(h:p:=by decide):p:=h
theorem oC(h:p:=by first|exact sC (k:=0) rfl rfl isAgg9 rfl|exact vp isAgg9 rfl):p:=h
theorem tr(h:p:=by first|exact JG (off:=1) runUnderlying113 rfl sizeOf9 rfl|exact OO (off:=1) runUnderlying113 rfl sizeOf9 rfl):p:=h
theorem oD(h:p:=by first|exact .l (j:=i) rfl aD|exact .r (j:=i) rfl aD):p:=h
theorem ee(h:p:=by simp;omega):p:=h
theorem nG(h:p:=by have:=g.2.2.1;simp only[rk,wL] at *;omega):p:=h
theorem eG(h:p:=by assumption):p:=h
theorem vP(h:p:=by exact(cm (mk:=Op.load 34) rfl ot (gp (k:=1) ko rfl rfl rfl isAgg34 hi (by rw[hx];rfl)))):p:=h
theorem cq(h:p:=by simp):p:=h
theorem vQ(h:p:=by first|exact .l (j:=_) rfl (by simp at eS;omega)|exact .r (j:=_) rfl (by simp at eS;omega)):p:=h
theorem jy(h:p:=by simp only[rk];omega):p:=h
theorem zW(h:p:=by first|exact .l (j:=(bB H l[i])) rfl (by first|exact eA|exact fD)|exact .r (j:=(bB H l[i])) rfl (by first|exact eA|exact fD)):p:=h
theorem zX(h:p:=by have:=xM s.names s.names.length;(try rw[lS]);simp only[length_append,length_map,length_cons,length_nil];omega):p:=h
theorem Et(h:p:=by repeat (first|exact trivial|refine⟨(by (repeat (first|exact jQ|(apply kV;focus (first|rfl|(simp;done)|(congr 2;omega)|(apply fZ;rw[hT];rfl)|(apply fZ;rfl)|(apply fZ;simp;done)))|(apply jO;focus rfl)));done),?_⟩)):p:=h
theorem iy(h:p:=by simpa using iz):p:=h
theorem Eu(h:p:=by repeat (first|exact trivial|refine⟨(by (repeat (first|exact jQ|(apply kV;focus (first|rfl|(simp;done)|(congr 2;omega)|(apply fZ;exact qw aT aD)|(apply fZ;simp;done)))|(apply jO;focus rfl)));done),?_⟩)):p:=h
theorem Ev(h:p:=by repeat (first|exact trivial|refine⟨(by (repeat (first|exact jQ|(apply kV;focus (first|rfl|(simp;done)|(congr 2;omega)|(apply fZ;exact qw eD aD)|(apply fZ;simp;done)))|(apply jO;focus rfl)));done),?_⟩)):p:=h
theorem Ew(h:p:=by repeat (first|exact trivial|refine⟨(by (repeat (first|exact jQ|(apply kV;focus (first|rfl|(simp;done)|(congr 2;omega)|(apply fZ;exact qw fq aD)|(apply fZ;simp;done)))|(apply jO;focus rfl)));done),?_⟩)):p:=h
theorem zY(h:p:=by repeat (first|exact trivial|refine⟨(by (repeat (first|exact jQ|(apply kV;focus (first|rfl|(simp;done)|(congr 2;omega)|(apply fZ;first|exact xC aD w7 _|exact xw aD w7 _)|(apply fZ;simp[ff])|(apply fZ;simp;done)))|(apply jO;focus rfl)));done),?_⟩)):p:=h
theorem zZ(h:p:=by repeat (first|exact trivial|refine⟨(by (repeat (first|exact jQ|(apply kV;focus (first|rfl|(simp;done)|(congr 2;omega)|(apply fZ;first|exact xN aD w7|exact xD aD w7)|(apply fZ;rfl)|(apply fZ;simp;done)))|(apply jO;focus rfl)));done),?_⟩)):p:=h
theorem tu(h:p:=by exact uY (fun h=>by cases h) (fun h=>by cases h) runUnderlying68 sizeOf287 w7 w7):p:=h
theorem tv(h:p:=by exact IM rfl nu (fun h=>by cases h) runUnderlying68 sizeOf287 w7):p:=h
theorem tw(h:p:=by exact CB nu (fun h=>by cases h) runUnderlying68 sizeOf287 w7):p:=h
theorem mG(h:p:=by first|rfl|simp[St.put]):p:=h
theorem Ex(h:p:=by show 0+i*6+2+1<=(_++(([.list 1 (L[i].sc.flatMap cS) L[i].sc.length,ag L[i].at_,ag L[i].fW,bw L[i].op,bw false,ax]:List D)++_)).length;simp only[length_append,length_cons,length_nil,hp];omega):p:=h
theorem Ey(h:p:=by first|exact gp (k:=0) qA rfl rfl rfl isAgg41 z6 (by rw[z7];rfl)|exact gp (k:=1) qA rfl rfl rfl isAgg41 z6 (by rw[z7];rfl)|exact gp (k:=2) qA rfl rfl rfl isAgg41 z6 (by rw[z7];rfl)):p:=h
theorem z8(h:p:=by exact(cm (mk:=Op.load 4) rfl ot (lF (k:=1) ko rfl rfl rfl isAgg4 hi (by rw[hx];rfl)))):p:=h
theorem nH(h:p:=by first|assumption|decide):p:=h
theorem pS(h:p:=by first|exact ot|exact aN):p:=h
theorem vR(h:p:=by first|exact .l (j:=j) rfl aD|exact .r (j:=j) rfl aD):p:=h
theorem vS(h:p:=by exact sr (j:=p+1) runUnderlying99 sizeOf113 w7 fL):p:=h
theorem mH(h:p:=by first|rfl|simp):p:=h
theorem mI(h:p:=by exact fun _=>rfl):p:=h
theorem Ez(h:p:=by first|exact sr (j:=0) runUnderlying41 sizeOf40 rfl (by first|omega|decide)|exact Db (j:=0) runUnderlying41 sizeOf40 rfl (by first|omega|decide)):p:=h
theorem oE(h:p:=by rw[CC aQ.1];rfl):p:=h
theorem vT(h:p:=by exact lG dO isAgg3 (by simp at eS;omega) rfl):p:=h
theorem vU(h:p:=by exact sr (j:=p) runUnderlying99 sizeOf113 w7 fL):p:=h
theorem EA(h:p:=by rw[show((((ls.take j).flatten).length:Nat):Int)+(ls[j].length:Nat)=((((ls.take (j+1)).flatten).length:Nat):Int) by omega];exact wrap_i64 w7 w7):p:=h
theorem Aa(h:p:=by first|exact Dc (fun _=>rfl) (fun h=>by cases h) runUnderlying9 w7 w7):p:=h
theorem Ab(h:p:=by exact gp (k:=2) (i:=(bB H l[i])) jS rfl rfl rfl isAgg99 eA rfl):p:=h
theorem Ac(h:p:=by exact gp (k:=1) (i:=(bB H l[i])) jS rfl rfl rfl isAgg99 eA rfl):p:=h
theorem Ad(h:p:=by exact gp (k:=0) (i:=(bB H l[i])) jS rfl rfl rfl isAgg99 eA rfl):p:=h
theorem Ae(h:p:=by show IntKind.i64.wrap ((i:Int)+1)=(i:Int)+1;exact wrap_i64 w7 w7):p:=h
theorem Af(h:p:=by unfold my;rw[if_neg aX,if_neg bu,if_neg bQ,if_pos bE,ru]):p:=h
theorem oF(h:p:=by intro b hb;cases hb):p:=h
theorem mJ(h:p:=by simpa using aA):p:=h
theorem Ag(h:p:=by first|exact .l (j:=k-1) w7 w7|exact .r (j:=k-1) w7 w7):p:=h
theorem oG(h:p:=by simp at aA;omega):p:=h
theorem pT(h:p:=by show 2<=10;decide):p:=h
theorem EB(h:p:=by have eI:=fU;(try simp only[length_append,length_cons,length_nil,length_map,length_take]);omega):p:=h
theorem vV(h:p:=by exact ny (j:=2) dO isAgg3 fL rfl):p:=h
theorem EC(h:p:=by rw[<-ic,o8];have:=(takeWhile_prefix (l:=s.data.toList) dF).length_le;rw[ic] at this;omega):p:=h
theorem ry(h:p:=by simp at fu;exact fu):p:=h
theorem ED(h:p:=by exact(cm (mk:=Op.load 41) rfl ot (gp (k:=1) qA rfl rfl rfl isAgg41 M4 (by rw[hT];rfl)))):p:=h
theorem EE(h:p:=by first|(left;simp at *;omega)|(right;refine⟨by omega,fun e=>?_⟩;rw[qs] at e;simp[e] at *)):p:=h
theorem Ah(h:p:=by first|exact trivial|exact gM (k0:=0) rfl rfl):p:=h
theorem rz(h:p:=by show 1<=10;decide):p:=h
theorem pU(h:p:=by show j<2;omega):p:=h
theorem tC(h:p:=by rw[gy] at cR;exact cR):p:=h
theorem tD(h:p:=by simp at nB;exact nB):p:=h
theorem EF(h:p:=by exact(cm (mk:=Op.load 34) rfl ot (lG su isAgg34 aD (by rw[hS];rfl)))):p:=h
theorem rA(h:p:=by simp at aG;omega):p:=h
theorem tE(h:p:=by unfold zeroV;simp_all):p:=h
theorem vW(h:p:=by rw[<-gQ fL];exact fg):p:=h
theorem vX(h:p:=by first|exact eA|exact fD):p:=h
theorem EG(h:p:=by rw[o8];exact Ca (by rw[qL];exact hd0) (by rw[ic];exact h0)):p:=h
theorem pV(h:p:=by simpa using h):p:=h
theorem pW(h:p:=by rw[oH];rfl):p:=h
theorem vY(h:p:=by rw[eJ] at cR;exact cR):p:=h
theorem vZ(h:p:=by have:=hf.ok.2.2.1;omega):p:=h
theorem EH(h:p:=by first|exact Dc (fun h=>by cases h) (fun _=>rfl) runUnderlying9 w7 w7):p:=h
theorem v7(h:p:=by simp only[maxLen];omega):p:=h
theorem EI(h:p:=by simp only[length_append,length_cons,length_nil] at *;omega):p:=h
end
namespace V
open List
open Go.RowKit
section
variable {w w':World} {L X:Nat->Prop} {b i n off o' len cap sz j m h' tt bytes:Nat} {I:Array Field} {v u:Value} {e t:TypeId} {y fo:Operand} {a:Act} {k:IntKind} {M hi:Option Operand} {cur:Array Value} {ts:Array TypeId} {ad:Option Addr} {ps:Array (Nat×Operand)} {bL:Array Operand}
inductive D where
 | v (x:Value)
 | list (sz:Nat) (cs:List D) (len:Nat)
 | dG (cs:List D) (off:Nat)
 | agg (cs:List D)
 | dK (cs:List D)
 | dQ (f:Fn) (cs:List D)
 | iZ (l:Nat) (os:List (Nat×Obj))
 | cx
 deriving Inhabited
variable {d:D} {cs ds cs' args:List D} {l:List (Nat×D)}
inductive bP (w:World) (L:Nat->Prop):D->Value->Prop
 | v (x:Value):bP w L (.v x) x
 | jv (sz:Nat) (ad:Option Addr) (cap:Nat):bP w L (.list sz [] 0) (.slice ad 0 cap)
 | list (sz:Nat) (cs:List D) (len b o cap:Nat) (f:Nat->Value) (hl:cs.length=len*sz) (h1:len<=cap) (h2:cap<=maxLen) (hb:b<w.heap.size) (hL:¬L b)
   (hc:∀i,i<cs.length->w.cell? ⟨b,o+i,none⟩=some (f i)) (hr:∀i (h:i<cs.length),bP w L cs[i] (f i)):bP w L (.list sz cs len) (.slice (some ⟨b,o,none⟩) len cap)
 | dG (cs:List D) (off b o:Nat) (f:Nat->Value) (hb:b<w.heap.size) (hL:¬L b)
   (hc:∀i,i<cs.length->w.cell? ⟨b,o+i,none⟩=some (f i)) (hr:∀i (h:i<cs.length),bP w L cs[i] (f i)):bP w L (.dG cs off) (.pointer (some ⟨b,o+off,none⟩))
 | agg (cs:List D) (vs:List Value) (hl:vs.length=cs.length) (hr:∀i (h:i<cs.length) (h':i<vs.length),bP w L cs[i] vs[i]):bP w L (.agg cs) (.agg vs.toArray)
 | dK (cs:List D) (vs:List Value) (hl:vs.length=cs.length) (hr:∀i (h:i<cs.length) (h':i<vs.length),bP w L cs[i] vs[i]):bP w L (.dK cs) (.tuple vs.toArray)
 | dQ (fn:Fn) (cs:List D) (vs:List Value) (hl:vs.length=cs.length) (hr:∀i (h:i<cs.length) (h':i<vs.length),bP w L cs[i] vs[i]):bP w L (.dQ fn cs) (.func fn #[] vs.toArray)
 | iZ (l:Nat) (os:List (Nat×Obj)) (h:∀z∈os,z.1<w.heap.size/\¬L z.1/\w.heap[z.1]?=some z.2):bP w L (.iZ l os) (.func (.yield l) #[] #[])
 | cx (x:Value):bP w L .cx x
theorem bP.nil(sz:Nat):bP w L (.list sz [] 0) (.slice none 0 0):=.jv sz none 0
theorem kS(hb:b<w.heap.size)(h:w'.heap[b]?=w.heap[b]?):b<w'.heap.size:=by
 rcases Nat.lt_or_ge b w'.heap.size with h'|h'
 ·exact h'
 rw[Array.getElem?_eq_none h',Array.getElem?_eq_getElem hb] at h;cases h
theorem bP.mono{I:Nat->Prop}(h:bP w L d v)(H:∀b,b<w.heap.size->¬L b->w'.heap[b]?=w.heap[b]?/\¬I b):bP w' I d v:=by
 induction h with
 | v x=>exact .v x
 | jv sz ad cap=>exact .jv sz ad cap
 | list sz cs len b o cap f hl h1 h2 hb hL hc hr ih =>
  have E:=H b hb hL;exact .list sz cs len b o cap f hl h1 h2 (kS hb E.1) E.2 (fun i hi=>(World.cell?_of_block (w:=w) (a:=⟨b,o+i,none⟩) E.1).trans (hc i hi)) ih
 | dG cs off b o f hb hL hc hr ih =>
  have E:=H b hb hL;exact .dG cs off b o f (kS hb E.1) E.2 (fun i hi=>(World.cell?_of_block (w:=w) (a:=⟨b,o+i,none⟩) E.1).trans (hc i hi)) ih
 | agg cs vs hl hr ih=>exact .agg cs vs hl ih
 | dK cs vs hl hr ih=>exact .dK cs vs hl ih
 | dQ fn cs vs hl hr ih=>exact .dQ fn cs vs hl ih
 | iZ l os h =>
  refine .iZ l os fun z hz=>?_;obtain⟨h1,h2,h3⟩:=h z hz;have E:=H z.1 h1 h2;exact⟨kS h1 E.1,E.2,E.1.trans h3⟩
 | cx x=>exact .cx x
structure ak where
 b:Nat
 e:TypeId
 size:Nat
 cs:List D
 deriving Inhabited
variable {S S' Sf R:List ak} {B:ak} {post:D->List ak->Prop}
def JH:TypeId:=1000003
def CE:TypeId:=1000004
def isMap(e:TypeId):Bool:=Nat.beq e JH||Nat.beq e CE
def KF(cur:Array Value):Obj:=.map (cur.mapIdx fun i k=>⟨k,.agg #[],i⟩) cur.size
def De:Value->Nat
 | .int _ n=>n.toNat
 | _=>0
def DN:List Value->List MapEntry
 | k::v::b::r=>⟨k,v,De b⟩::DN r
 | _=>[]
def JI(cur:Array Value):Obj:=match cur.toList with
 | c::r=>.map (DN r).toArray (De c)
 | []=>.map #[] 0
def ob(e:TypeId)(cur:Array Value):Obj:=bif isMap e then (bif Nat.beq e CE then JI cur else KF cur) else .cells cur e (0,0)
theorem jl(he:isMap e=false)(cur:Array Value):ob e cur = .cells cur e (0,0):=by rw[ob,he];rfl
def Dw(w:World)(L:Nat->Prop)(B:ak):Prop :=
 B.b<w.heap.size/\∃cur:Array Value,w.heap[B.b]?=some (ob B.e cur)/\cur.size=B.size/\B.cs.length<=B.size/\∀i (h:i<B.cs.length),∃u,cur[i]?=some u/\bP w L B.cs[i] u
def ku:Value->Bool
 | .tuple _=>false
 | _=>true
def iR(w:World)(b i:Nat):Value->Prop
 | .tuple vs=>∃t fz,w.heap[b]?=some (.cells vs t fz)
 | v=>w.cell? ⟨b,i,none⟩=some v
theorem iR.cell(h:iR w b i v)(E:ku v=true):w.cell? ⟨b,i,none⟩=some v:=by
 cases v<;>first|exact h|cases E
theorem iR.of(h:w.cell? ⟨b,i,none⟩=some v)(E:ku v=true):iR w b i v:=by
 cases v<;>first|exact h|cases E
theorem iR.on(hb:w'.heap[b]?=w.heap[b]?)(h:iR w b i v):iR w' b i v:=by
 by_cases E:ku v=true
 ·exact .of ((World.cell?_of_block (w:=w) (a:=⟨b,i,none⟩) hb).trans (h.cell E)) E
 cases v<;>first|exact absurd rfl E|(obtain⟨t,fz,h⟩:=h;exact⟨t,fz,hb.trans h⟩)
theorem iR.lt(h:iR w b i v):b<w.heap.size:=by
 by_cases E:ku v=true
 ·exact World.block_lt_of_cell? w _ (h.cell E)
 cases v<;>first|exact absurd rfl E|(obtain⟨t,fz,h⟩:=h;exact(Array.getElem?_eq_some_iff.1 h).1)
theorem xO{vs:List Value}(h:vs.all ku=true)(hi:vs[i]?=some v):ku v=true:=all_eq_true.1 h v (mem_of_getElem? hi)
structure cj where
 X:Nat->Prop
 w0:World
 S0:List Nat
 G:List (Nat×List Value)
 df:List Deferred
 mK:Act->World->Prop
variable {C:cj}
structure St where
 n:Nat
 env:List (Nat×D)
 S:List ak
def look(t:Nat):List (Nat×D)->D
 | []=>.cx
 | (i,d)::r=>bif Nat.beq i t then d else look t r
theorem ey(t i:Nat)(d:D)(l:List (Nat×D)):look t ((i,d)::l)=if i=t then d else look t l:=by
 rw[look];by_cases e:i=t
 ·subst e;simp
 have:Nat.beq i t=false:=by
  cases h:Nat.beq i t with
  | false=>rfl
  | true=>exact absurd (Nat.eq_of_beq_eq_true h) e
 rw[this,if_neg e];rfl
def aq(S:List ak):List Nat:=S.map (·.b)
def live(X:Nat->Prop)(S:List ak)(b:Nat):Prop:=X b\/b∈aq S
structure Fr (w:World) (S:List Nat) (w':World) (S':List Nat):Prop where
 os:w'.os=w.os
 tape:w'.tape=w.tape
 output:w'.output=w.output
 size:w.heap.size<=w'.heap.size
 block:∀b,b<w.heap.size->b∉S->w'.heap[b]?=w.heap[b]?/\b∉S'
theorem Fr.refl(w:World)(S:List Nat):Fr w S w S:=⟨rfl,rfl,rfl,Nat.le_refl _,fun _ _ h=>⟨rfl,h⟩⟩
theorem Fr.trans{E I M:World}{S1 S2 O:List Nat}(h:Fr E S1 I S2)(k:Fr I S2 M O):Fr E S1 M O :=
 ⟨k.os.trans h.os,k.tape.trans h.tape,k.output.trans h.output,Nat.le_trans h.size k.size,fun b hb hn =>
  have h1:=h.block b hb hn;have h2:=k.block b (Nat.lt_of_lt_of_le hb h.size) h1.2
  ⟨h2.1.trans h1.1,h2.2⟩⟩
structure Own (w:World) (L:Nat->Prop) (S:List ak):Prop where
 at_:∀B∈S,Dw w L B
 apart:(aq S).Nodup
structure bp (C:cj) (x:St) (a:Act) (w:World):Prop where
 defers:a.defers=C.df
 size:a.tmps.size=x.n
 env:∀t,t<x.n->bP w (live C.X x.S) (look t x.env) (a.tmps.getD t undef)
 own:Own w (live C.X x.S) x.S
 fr:Fr C.w0 C.S0 w (aq x.S)
 ex:∀b,C.X b->b<C.w0.heap.size/\b∉C.S0
 dx:∀g∈C.G,(g.1<C.w0.heap.size/\g.1∉C.S0/\¬C.X g.1)/\∀i v,g.2[i]?=some v->iR C.w0 g.1 i v
def St.put(x:St)(t:Nat)(d:D):St:=⟨x.n,(t,d)::x.env,x.S⟩
theorem bp.put{C:cj}{x:St}{a:Act}{w:World}(h:bp C x a w){t:Nat}{d:D}{v:Value}(hd:bP w (live C.X x.S) d v):bp C (x.put t d) (a.put (some t) v) w:=by
 refine⟨h.defers,by simp[Act.put,St.put,h.size],fun i hi=>?_,h.own,h.fr,h.ex,h.dx⟩;have hs:=h.size;simp only[St.put,ey,Act.put] at hi |-;by_cases e:t=i
 ·subst e;rw[if_pos rfl];have:(a.tmps.setIfInBounds t v).getD t undef=v:=by
   simp[Array.getElem?_setIfInBounds,hs,hi]
  rw[this];exact hd
 rw[if_neg e];have:(a.tmps.setIfInBounds t v).getD i undef=a.tmps.getD i undef:=by
  simp[Array.getElem?_setIfInBounds_ne e]
 rw[this];exact h.env i hi
def Wk(x y:St):Prop:=∀C a w,bp C x a w->bp C y a w
theorem Wk.refl(x:St):Wk x x:=fun _ _ _ h=>h
theorem Wk.trans{x y z:St}(h:Wk x y)(k:Wk y z):Wk x z:=fun C a w s=>k C a w (h C a w s)
theorem Own.sub(h:Own w (live X S) S)(hs:S'.Sublist S):Own w (live X S') S' :=
 have E:(aq S').Sublist (aq S):=Sublist.map _ hs
 ⟨fun B I=>by
  obtain⟨h0,cur,h1,h2,h3,h4⟩:=h.at_ B (hs.subset I);refine⟨h0,cur,h1,h2,h3,fun i hi=>?_⟩;obtain⟨u,hu,hr⟩:=h4 i hi;exact⟨u,hu,hr.mono fun b _ hn=>⟨rfl,fun hl=>hn (hl.imp id fun q=>E.subset q)⟩⟩,h.apart.sublist E⟩
theorem Wk.drop(n:Nat)(l:List (Nat×D))(S S':List ak)(hs:S'.Sublist S):Wk ⟨n,l,S⟩ ⟨n,l,S'⟩:=fun C a w h =>
 have E:(aq S').Sublist (aq S):=Sublist.map _ hs
 ⟨h.defers,h.size,fun t ht=>(h.env t ht).mono fun b _ hn=>⟨rfl,fun hl=>hn (hl.imp id fun q=>E.subset q)⟩,h.own.sub hs,
  ⟨h.fr.os,h.fr.tape,h.fr.output,h.fr.size,fun b hb hn=>⟨(h.fr.block b hb hn).1,fun q=>(h.fr.block b hb hn).2 (E.subset q)⟩⟩,h.ex,h.dx⟩
theorem bP.gu{x y:Value}(h:bP w L (.v x) y):y=x:=by cases h;rfl
def aO(x:St):Operand->D
 | .tmp t=>bif Nat.blt t x.n then look t x.env else .cx
 | .const v=>.v v
 | .global g=>.v (.pointer (some ⟨g,0,none⟩))
 | .func f=>.dQ (.func f) []
theorem bp.eval{C:cj}{x:St}{a:Act}{w:World}(h:bp C x a w)(o:Operand):bP w (live C.X x.S) (aO x o) (a.eval o):=by
 cases o with
 | tmp t =>
  simp only[aO,Act.eval];cases ht:Nat.blt t x.n with
  | true=>exact h.env t (Nat.le_of_ble_eq_true ht)
  | false=>exact .cx _
 | const v=>exact .v _
 | global g=>exact .v _
 | func f=>exact .dQ (.func f) [] [] rfl (fun i h=>by simp at h)
theorem bp.flat{x:St}(h:bp C x a w){o:Operand}(ho:aO x o = .v u):a.eval o=u:=by
 have:=h.eval o;rw[ho] at this;exact this.gu
theorem bp.eK{x:St}(h:bp C x a w){k:Nat}(hk:x.S[k]?=some B):Dw w (live C.X x.S) B:=h.own.at_ B (mem_of_getElem? hk)
theorem HP{k:Nat}(hk:S[k]?=some B):live X S B.b:=.inr (mem_map.2 ⟨B,mem_of_getElem? hk,rfl⟩)
theorem bp.oo{x:St}(h:bp C x a w){g:Nat×List Value}(hg:g∈C.G)(hi:g.2[i]?=some v):iR w g.1 i v:=by
 obtain⟨⟨h1,h2,h3⟩,h4⟩:=h.dx g hg;exact(h4 i v hi).on (h.fr.block g.1 h1 h2).1
inductive Rd where
 | none
 | eK (k:Nat)
 | fA
def Same(C:cj)(x:St)(w w':World):Rd->Prop
 | .none=>True
 | .eK k=>∀B,x.S[k]?=some B->w'.heap[B.b]?=w.heap[B.b]?
 | .fA=>∀b,b<w.heap.size->¬live C.X x.S b->w'.heap[b]?=w.heap[b]?
theorem Same.self(C:cj)(x:St)(w:World):∀k,Same C x w w k
 | .none=>trivial
 | .eK _=>fun _ _=>rfl
 | .fA=>fun _ _ _=>rfl
def bH(P:Program)(G:List (Nat×List Value))(x:St)(o:Oper)(k:Rd)(d:D):Prop :=
 ∀C a w,C.G=G->bp C x a w->∃v,bP w (live C.X x.S) d v/\∀w',Same C x w w' k->(execOp a.eval o).run P w' = .ok (.value v) w'
variable {P:Program} {G:List (Nat×List Value)} {x:St} {o:Oper}
theorem GY(ho:o.op = .move y):bH P G x o .none (aO x y):=fun C a w _ h =>
 ⟨a.eval y,h.eval y,fun w' _=>by unfold execOp;simp[ho]⟩
theorem Gp(ho:o.op = .assign y):bH P G x o .none (aO x y):=fun C a w _ h =>
 ⟨a.eval y,h.eval y,fun w' _=>by unfold execOp;simp[ho]⟩
theorem BF{c z:Operand}{t:Bool}(ho:o.op = .pick c y z)(hc:aO x c = .v (.bool t)):bH P G x o .none (if t then aO x y else aO x z):=fun C a w _ h=>by
 refine⟨if t then a.eval y else a.eval z,by cases t<;>simp[h.eval],fun w' _=>?_⟩;unfold execOp;simp only[ho,h.flat hc,asBool];cases t<;>simp
def ij(P:Program)(op:BinOp)(t:TypeId)(u u' r:Value):Prop:=∀(y z:Operand) w,(do eqGuard op t y z u u';Go.binOp op t u u':Sem Value).run P w = .ok r w
theorem eX{op:BinOp}{t':TypeId}{z:Operand}{u' r:Value}(ho:o.op = .binOp op t y z t')(hy:aO x y = .v u)(hz:aO x z = .v u')(hb:ij P op t u u' r):bH P G x o .none (.v r):=fun C a w _ h =>
 ⟨r,.v _,fun w' _=>by
  unfold execOp;have:=hb y z w';simp only[Sem.run_bind] at this;simp only[ho,h.flat hy,h.flat hz,Sem.run_bind,this,Result.andThen_ok,Sem.run_pure]⟩
theorem xP{op:UnOp}{r:Value}(ho:o.op = .unOp op t y)(hy:aO x y = .v u)(hb:∀w,(Op.unary op u).run P w = .ok r w):bH P G x o .none (.v r):=fun C a w _ h =>
 ⟨r,.v _,fun w' _=>by
  unfold execOp;simp only[ho,h.flat hy,Sem.run_bind,hb w',Result.andThen_ok,Sem.run_pure]⟩
theorem Bq{s:TypeId}{f:Field}(M:∀w,(underlying s).run P w = .ok (.struct I) w)(hf:I[i]?=some f)(hn:∀w,(sizeOf f.type).run P w = .ok (n+1) w)(E:f.offset=off) :
  (Instr.fieldAt s (.pointer (some ⟨b,o',none⟩)) i).run P w = .ok (.pointer (some ⟨b,o'+off,none⟩)) w:=by
 subst E;simp[Instr.fieldAt,M,hf,Instr.sureAddr,fieldPlace,hn,Addr.add_mid]
theorem By {s:TypeId} {f:Field} (ho:o.op = .fieldAddr s y i) (hy:aO x y = .v (.pointer (some ⟨b,o',none⟩)))
  (M:∀w,(underlying s).run P w = .ok (.struct I) w) (hf:I[i]?=some f) (hn:∀w,(sizeOf f.type).run P w = .ok (n+1) w) (E:f.offset=off):bH P G x o .none (.v (.pointer (some ⟨b,o'+off,none⟩))):=fun C a w _ h =>
 ⟨_,.v _,fun w' _=>by
  unfold execOp;simp only[ho,h.flat hy,Sem.run_bind,Bq M hf hn E,Result.andThen_ok,Sem.run_pure]⟩
theorem Gq {s:TypeId} {f:Field} {M:Array Field} (ho:o.op = .fieldAddr s y i) (hy:aO x y = .dG cs o')
  (O:∀w,(underlying s).run P w = .ok (.struct M) w) (hf:M[i]?=some f) (hn:∀w,(sizeOf f.type).run P w = .ok (n+1) w) (E:f.offset=off):bH P G x o .none (.dG cs (o'+off)):=fun C a w _ h=>by
 have hr:=h.eval y;rw[hy] at hr;generalize hg:a.eval y=u at hr;cases hr with
 | dG _ _ b I g hb hL hc hr =>
  refine⟨_,.dG cs (o'+off) b I g hb hL hc hr,fun w' _=>?_⟩;unfold execOp;simp only[ho,hg,Sem.run_bind,Bq O hf hn E,Result.andThen_ok,Sem.run_pure,Nat.add_assoc]
theorem Gb(ho:o.op = .extract y i)(hy:aO x y = .dK cs)(hd:cs[i]?=some d):bH P G x o .none d:=fun C a w _ h=>by
 have hr:=h.eval y;rw[hy] at hr;generalize hg:a.eval y=u at hr;cases hr with
 | dK _ vs hl hr =>
  obtain⟨aD,he⟩:=List.getElem?_eq_some_iff.1 hd;refine⟨vs[i]'w7,?_,fun w' _=>?_⟩
  ·rw[<-he];exact hr _ aD w7
  unfold execOp;simp[ho,hg,Instr.extract,getElem?_eq_getElem (show i<vs.length by omega)]
theorem uJ(ha:∀w,(isAgg t).run P w = .ok false w)(hc:w.cell? ⟨b,o',none⟩=some v) :
  (Instr.loadAt t (.pointer (some ⟨b,o',none⟩))).run P w = .ok v w:=by
 simp[Instr.loadAt,Instr.sureAddr,loadVar,ha,hc]
theorem uK {vs:List Value} (ha:∀w,(isAgg t).run P w = .ok true w) (hn:∀w,(sizeOf t).run P w = .ok n w) (hl:vs.length=n)
  (hc:∀j (h:j<vs.length),w.cell? ⟨b,o'+j,none⟩=some vs[j]) :
  (Instr.loadAt t (.pointer (some ⟨b,o',none⟩))).run P w = .ok (.agg vs.toArray) w:=by
 have:=run_loadCells_list (P:=P) w ⟨b,o',none⟩ vs (fun j v E=>by
  obtain⟨h1,h2⟩:=List.getElem?_eq_some_iff.1 E;rw[Addr.add_mid,hc j h1,h2])
 rw[hl] at this;simp[Instr.loadAt,Instr.sureAddr,loadVar,ha,hn,this]
theorem ng(E:w.heap[b]?=some (.cells cur e (0,0)))(I:cur[i]?=some u):w.cell? ⟨b,i,none⟩=some u:=by
 unfold World.cell?;simp[E,I]
theorem uE {k:Nat} (ho:o.op = .load t y) (hy:aO x y = .v (.pointer (some ⟨b,o',none⟩)))
  (hk:x.S[k]?=some B) (hb:B.b=b) (ha:∀w,(isAgg t).run P w = .ok false w) (hd:B.cs[o']?=some d) (hne:isMap B.e=false:=by rfl):bH P G x o (.eK k) d:=fun C a w _ h=>by
 obtain⟨_,cur,h1,h2,h3,h4⟩:=h.eK hk;rw[jl hne] at h1;obtain⟨aD,he⟩:=List.getElem?_eq_some_iff.1 hd;obtain⟨u,hu,hr⟩:=h4 o' aD;refine⟨u,by rw[<-he];exact hr,fun w' hw=>?_⟩;have E:w'.heap[B.b]?=_:=(hw B hk).trans h1;unfold execOp;subst hb;simp only[ho,h.flat hy,Sem.run_bind,uJ ha (ng E hu),Result.andThen_ok,Sem.run_pure]
theorem uA {k:Nat} (ho:o.op = .load t y) (hy:aO x y = .v (.pointer (some ⟨b,o',none⟩)))
  (hk:x.S[k]?=some B) (hb:B.b=b) (ha:∀w,(isAgg t).run P w = .ok true w) (hn:∀w,(sizeOf t).run P w = .ok n w) (hl:ds.length=n) (hd:(B.cs.drop o').take n=ds) (hne:isMap B.e=false:=by rfl):bH P G x o (.eK k) (.agg ds):=fun C a w _ h=>by
 obtain⟨_,cur,h1,h2,h3,h4⟩:=h.eK hk;rw[jl hne] at h1;have I:o'+n<=B.cs.length\/n=0:=by
  have:=congrArg length hd;simp only[length_take,length_drop] at this;omega
 have E:∀j,j<n->∃u,cur[o'+j]?=some u/\∀(h:j<ds.length),bP w (live C.X x.S) ds[j] u:=fun j hj=>by
  obtain⟨u,hu,hr⟩:=h4 (o'+j) w7;refine⟨u,hu,fun h=>?_⟩;subst hd;simpa using hr
 refine⟨.agg ((range n).map fun j=>cur.getD (o'+j) undef).toArray,.agg _ _ (by simp[hl]) (fun i q1 q2=>?_),fun w' hw=>?_⟩
 ·obtain⟨u,hu,hr⟩:=E i w7;simp only[getElem_map,getElem_range,Array.getD_eq_getD_getElem?,hu,Option.getD_some];exact hr q1
 have M:w'.heap[B.b]?=_:=(hw B hk).trans h1;unfold execOp;subst hb;have:=uK (P:=P) (w:=w') (b:=B.b) (o':=o') (vs:=(range n).map fun j=>cur.getD (o'+j) undef) ha hn cq (fun j hj=>by
  simp only[length_map,length_range] at hj;obtain⟨u,hu,_⟩:=E j hj;simp only[getElem_map,getElem_range,Array.getD_eq_getD_getElem?,hu,Option.getD_some];exact ng M hu)
 simp only[ho,h.flat hy,Sem.run_bind,this,Result.andThen_ok,Sem.run_pure]
theorem uB (ho:o.op = .load t y) (hy:aO x y = .dG cs o')
  (ha:∀w,(isAgg t).run P w = .ok false w) (hd:cs[o']?=some d):bH P G x o .fA d:=fun C a w _ h=>by
 have hr:=h.eval y;rw[hy] at hr;generalize hg:a.eval y=u at hr;cases hr with
 | dG _ _ b E g hb hL hc hr =>
  obtain⟨aD,he⟩:=List.getElem?_eq_some_iff.1 hd;refine⟨g o',by rw[<-he];exact hr o' aD,fun w' hw=>?_⟩;have I:=World.cell?_of_block (w:=w) (a:=⟨b,E+o',none⟩) (hw b hb hL);unfold execOp;simp only[ho,hg,Sem.run_bind,uJ ha (I.trans (hc o' aD)),Result.andThen_ok,Sem.run_pure]
theorem rX (ho:o.op = .load t y) (hy:aO x y = .dG cs o')
  (ha:∀w,(isAgg t).run P w = .ok true w) (hn:∀w,(sizeOf t).run P w = .ok n w) (hl:ds.length=n) (hd:(cs.drop o').take n=ds):bH P G x o .fA (.agg ds):=fun C a w _ h=>by
 have hr:=h.eval y;rw[hy] at hr;generalize hg:a.eval y=u at hr;cases hr with
 | dG _ _ b E g hb hL hc hr =>
  have I:o'+n<=cs.length\/n=0:=by
   have:=congrArg length hd;simp only[length_take,length_drop] at this;omega
  refine⟨.agg ((range n).map fun j=>g (o'+j)).toArray,.agg _ _ (by simp[hl]) (fun i q1 q2=>?_),fun w' hw=>?_⟩
  ·simp only[getElem_map,getElem_range];have:=hr (o'+i) w7;subst hd;simpa using this
  have:=uK (P:=P) (w:=w') (b:=b) (o':=E+o') (vs:=(range n).map fun j=>g (o'+j)) ha hn cq (fun j hj=>by
   simp only[length_map,length_range] at hj;simp only[getElem_map,getElem_range];have M:=World.cell?_of_block (w:=w) (a:=⟨b,E+o'+j,none⟩) (hw b hb hL);rw[M,Nat.add_assoc];exact hc _ w7)
  unfold execOp;simp only[ho,hg,Sem.run_bind,this,Result.andThen_ok,Sem.run_pure]
theorem GL {vs:List Value} (ho:o.op = .load t y) (hy:aO x y = .v (.pointer (some ⟨b,o',none⟩)))
  (hg:(b,vs)∈G) (ha:∀w,(isAgg t).run P w = .ok false w) (hd:vs[o']?=some v) (gV:ku v=true:=by rfl):bH P G x o .fA (.v v):=fun C a w hG h=>by
 subst hG;refine⟨v,.v _,fun w' hw=>?_⟩;have h1:=(h.oo hg hd).cell gV;obtain⟨⟨q1,q2,E⟩,_⟩:=h.dx _ hg;have hb:b<w.heap.size:=Nat.lt_of_lt_of_le q1 h.fr.size;have hn:¬live C.X x.S b:=fun hl=>hl.elim E (h.fr.block b q1 q2).2;have I:=World.cell?_of_block (w:=w) (a:=⟨b,o',none⟩) (hw b hb hn);unfold execOp;simp only[ho,h.flat hy,Sem.run_bind,uJ ha (I.trans h1),Result.andThen_ok,Sem.run_pure]
theorem CF{i:Int}(E:∀w,(underlying t).run P w = .ok (.slice e) w)(hs:∀w,(sizeOf e).run P w = .ok sz w)(hi:i=j)(hj:j<len) :
  (Instr.indexAt t (.slice (some ⟨b,o',none⟩) len cap) (.int k i)).run P w = .ok (.pointer (some ⟨b,o'+j*sz,none⟩)) w:=by
 subst hi;simp[Instr.indexAt,asIntOf,E,hs,hj,Addr.add_mid]
theorem BV {i:Int} {z:Operand} (ho:o.op = .indexAddr t y z) (hy:aO x y = .list sz cs len) (hz:aO x z = .v (.int k i))
  (I:∀w,(underlying t).run P w = .ok (.slice e) w) (hs:∀w,(sizeOf e).run P w = .ok sz w) (hi:i=j) (hj:j<len):bH P G x o .none (.dG cs (j*sz)):=fun C a w _ h=>by
 have hr:=h.eval y;rw[hy] at hr;generalize hg:a.eval y=u at hr;cases hr with
 | jv=>omega
 | list _ _ _ b E cap g hl h1 h2 hb hL hc hr =>
  refine⟨_,.dG cs (j*sz) b E g hb hL hc hr,fun w' _=>?_⟩;unfold execOp;simp only[ho,hg,h.flat hz,Sem.run_bind,CF I hs hi hj,Result.andThen_ok,Sem.run_pure]
theorem BG {i:Int} {z:Operand} (ho:o.op = .indexAddr t y z) (hy:aO x y = .v (.slice (some ⟨b,o',none⟩) len cap)) (hz:aO x z = .v (.int k i))
  (E:∀w,(underlying t).run P w = .ok (.slice e) w) (hs:∀w,(sizeOf e).run P w = .ok sz w) (hi:i=j) (hj:j<len):bH P G x o .none (.v (.pointer (some ⟨b,o'+j*sz,none⟩))):=fun C a w _ h =>
 ⟨_,.v _,fun w' _=>by
  unfold execOp;simp only[ho,h.flat hy,h.flat hz,Sem.run_bind,CF E hs hi hj,Result.andThen_ok,Sem.run_pure]⟩
theorem HQ{i:Int}(E:∀w,(underlying t).run P w = .ok (.array len e) w)(hs:∀w,(sizeOf e).run P w = .ok sz w)(hi:i=j)(hj:j<len) :
  (Instr.indexAt t (.pointer (some ⟨b,o',none⟩)) (.int k i)).run P w = .ok (.pointer (some ⟨b,o'+j*sz,none⟩)) w:=by
 subst hi;simp[Instr.indexAt,asIntOf,E,hs,hj,Addr.add_mid,Instr.sureAddr]
theorem GZ {i:Int} {z:Operand} (ho:o.op = .indexAddr t y z) (hy:aO x y = .v (.pointer (some ⟨b,o',none⟩))) (hz:aO x z = .v (.int k i))
  (E:∀w,(underlying t).run P w = .ok (.array len e) w) (hs:∀w,(sizeOf e).run P w = .ok sz w) (hi:i=j) (hj:j<len):bH P G x o .none (.v (.pointer (some ⟨b,o'+j*sz,none⟩))):=fun C a w _ h =>
 ⟨_,.v _,fun w' _=>by
  unfold execOp;simp only[ho,h.flat hy,h.flat hz,Sem.run_bind,HQ E hs hi hj,Result.andThen_ok,Sem.run_pure]⟩
theorem mg {s:ByteArray} {c:UInt8} {i:Int} {z:Operand} (ho:o.op = .index t y z) (hy:aO x y = .v (.string s)) (hz:aO x z = .v (.int k i))
  (E:∀w,(underlying t).run P w = .ok .string w) (hi:i=j) (hj:s[j]?=some c):bH P G x o .none (.v (.int .u8 c.toNat)):=fun C a w _ h =>
 ⟨_,.v _,fun w' _=>by
  subst hi;unfold execOp;simp[ho,h.flat hy,h.flat hz,Instr.index,asIntOf,E,hj]⟩
theorem xx {i:Int} {z:Operand} (ho:o.op = .index t y z) (hy:aO x y = .agg cs) (hz:aO x z = .v (.int k i))
  (E:∀w,(underlying t).run P w = .ok (.array len e) w) (hs:∀w,(sizeOf e).run P w = .ok sz w) (ha:∀w,(isAgg e).run P w = .ok false w) (hi:i=j) (hj:j<len) (hd:cs[j*sz]?=some d):bH P G x o .none d:=fun C a w _ h=>by
 have hr:=h.eval y;rw[hy] at hr;generalize hg:a.eval y=u at hr;subst hi;cases hr with
 | agg _ vs hl hr =>
  obtain⟨aD,he⟩:=List.getElem?_eq_some_iff.1 hd;refine⟨vs[j*sz]'w7,?_,fun w' _=>?_⟩
  ·rw[<-he];exact hr _ aD w7
  unfold execOp;simp[ho,hg,h.flat hz,Instr.index,asIntOf,E,hj,part,ha,hs,getElem?_eq_getElem (show j*sz<vs.length by omega)]
def jV(x:St)(y:Option Operand)(n:Nat)(Lj:Nat):Prop :=
 match y with
 | some y=>∃(k:IntKind) (i:Int),aO x y = .v (.int k i)/\i=n
 | none=>n=Lj
theorem n8(h:bp C x a w){y:Option Operand}{E:Nat}(hb:jV x y n E):(∃k,y.map a.eval=some (.int k n))\/(y.map a.eval=none/\n=E):=by
 cases y with
 | none=>exact .inr ⟨rfl,hb⟩
 | some y =>
  obtain⟨k,i,h1,h2⟩:=hb;exact .inl ⟨k,by rw[Option.map_some,h.flat h1,h2]⟩
theorem xy{code:BoundsCode}(h:n<=m):(Instr.sliceBound (.int k n) m code).run P w = .ok n w:=by
 unfold Instr.sliceBound;simp[asIntOf,h]
theorem qp{il:Bool}{l h:Nat}{E hi:Option Value}(I:(∃k,E=some (.int k l))\/(E=none/\l=0))(M:(∃k,hi=some (.int k h))\/(hi=none/\h=len))(h1:l<=h)(h2:h<=cap) :
  (Instr.sliceBounds il len cap E hi none).run P w = .ok (l,h,cap) w:=by
 unfold Instr.sliceBounds;rcases I with ⟨k,rfl⟩|⟨rfl,rfl⟩<;>rcases M with ⟨O,rfl⟩|⟨rfl,rfl⟩<;>simp[xy,h1,h2]
theorem xo {l:Nat} {lo:Option Operand} (ho:o.op = .slice t y lo hi none) (hy:aO x y = .list sz cs len) (U:jV x lo l 0) (Y:jV x hi h' len)
  (Z:∀w,(underlying t).run P w = .ok (.slice e) w) (hs:∀w,(sizeOf e).run P w = .ok sz w) (h1:l<=h') (h2:h'<=len):bH P G x o .none (.list sz ((cs.drop (l*sz)).take ((h'-l)*sz)) (h'-l)):=fun C a w _ h=>by
 have hr:=h.eval y;rw[hy] at hr;generalize hg:a.eval y=u at hr;have b1:=n8 h U;have b2:=n8 h Y;cases hr with
 | jv _ ad cap =>
  have e1:l=0:=(by omega)
  have e2:h'=0:=(by omega)
  subst e1 e2;refine⟨.slice (if cap=0 then ad else ad.map (·.add (0*sz))) 0 cap,by simpa using bP.jv sz _ _,fun w' _=>?_⟩;unfold execOp;simp[ho,hg,Instr.sliceAt,Instr.slice,Z,qp b1 b2 (Nat.le_refl _) (Nat.zero_le _),hs]
 | list _ _ _ b I cap g hl q1 q2 hb hL hc hr =>
  have E:((cs.drop (l*sz)).take ((h'-l)*sz)).length=(h'-l)*sz:=by
   rw[length_take,length_drop,hl,<-Nat.sub_mul];exact Nat.min_eq_left (Nat.mul_le_mul_right _ w7)
  have O:∀i,i<(h'-l)*sz->l*sz+i<cs.length:=fun i hi=>by
   rw[hl];have:l*sz+(h'-l)*sz<=len*sz:=(by rw[<-Nat.add_mul];exact Nat.mul_le_mul_right _ w7)
   omega
  by_cases M:cap=l
  ·have e2:h'=l:=(by omega)
   refine⟨.slice (some ⟨b,I,none⟩) (h'-l) (cap-l),?_,fun w' _=>?_⟩
   ·refine .list sz _ _ b I _ g E w7 w7 hb hL (fun i hi=>?_) (fun i hi=>?_)<;>(rw[E,e2] at hi;simp at hi)
   have b3:=fun w=>qp (P:=P) (il:=true) (w:=w) b1 b2 h1 (Nat.le_trans h2 q1);unfold execOp;simp only[ho,hg,Instr.sliceAt,Instr.slice,Z,Sem.run_bind,Result.andThen_ok,Option.map_none,b3,hs,Sem.run_pure,if_pos M]
  refine⟨.slice (some ⟨b,I+l*sz,none⟩) (h'-l) (cap-l),?_,fun w' _=>?_⟩
  ·refine .list sz _ _ b (I+l*sz) _ (fun i=>g (l*sz+i)) E w7 w7 hb hL (fun i hi=>?_) (fun i hi=>?_)
   ·rw[Nat.add_assoc];exact hc _ (O i (by rw[E] at hi;exact hi))
   simp only[getElem_take,getElem_drop];exact hr _ _
  have b3:=fun w=>qp (P:=P) (il:=true) (w:=w) b1 b2 h1 (Nat.le_trans h2 q1);unfold execOp;simp only[ho,hg,Instr.sliceAt,Instr.slice,Z,Sem.run_bind,Result.andThen_ok,Option.map_none,b3,hs,Sem.run_pure,if_neg M,Option.map_some,Addr.add_mid]
theorem Gs (ho:o.op = .slice t y M hi none) (hy:aO x y = .v (.slice (some ⟨b,o',none⟩) len cap)) (E:jV x M 0 0) (I:jV x hi h' len)
  (O:∀w,(underlying t).run P w = .ok (.slice e) w) (hs:∀w,(sizeOf e).run P w = .ok sz w) (h2:h'<=cap):bH P G x o .none (.v (.slice (some ⟨b,o',none⟩) h' cap)):=fun C a w _ h =>
 ⟨_,.v _,fun w' _=>by
  have U:=n8 h E;have Y:=n8 h I;unfold execOp;simp[ho,h.flat hy,Instr.sliceAt,Instr.slice,O,qp U Y (Nat.zero_le _) h2,hs,Addr.add_mid]⟩
theorem Gt {s:ByteArray} {l:Nat} (ho:o.op = .slice t y M hi none) (hy:aO x y = .v (.string s)) (E:jV x M l 0) (I:jV x hi h' s.size)
  (O:∀w,(underlying t).run P w = .ok .string w) (h1:l<=h') (h2:h'<=s.size):bH P G x o .none (.v (.string (s.extract l h'))):=fun C a w _ h =>
 ⟨_,.v _,fun w' _=>by
  have U:=n8 h E;have Y:=n8 h I;unfold execOp;simp[ho,h.flat hy,Instr.sliceAt,Instr.slice,O,qp U Y h1 h2]⟩
theorem Ho(ho:o.op = .call {callee:=.builtin .len,args:=#[y],argTypes:=ts})(ht:ts = #[t])(hy:aO x y = .list sz cs len)(E:∀w,(underlying t).run P w = .ok (.slice e) w):bH P G x o .none (.v (.int .i64 len)):=fun C a w _ h=>by
 have hr:=h.eval y;rw[hy] at hr;generalize hg:a.eval y=u at hr;subst ht;refine⟨_,.v _,fun w' _=>?_⟩;cases hr<;>(unfold execOp;simp[ho,hg,resolve,invoke,builtin,Builtin.len_,E,goInt])
theorem BH(ho:o.op = .call {callee:=.builtin .len,args:=#[y],argTypes:=ts})(ht:ts = #[t])(hy:aO x y = .v (.slice ad len cap))(E:∀w,(underlying t).run P w = .ok (.slice e) w):bH P G x o .none (.v (.int .i64 len)):=fun C a w _ h=>by
 subst ht;refine⟨_,.v _,fun w' _=>?_⟩;unfold execOp;simp[ho,h.flat hy,resolve,invoke,builtin,Builtin.len_,E,goInt]
theorem kg {s:ByteArray} (ho:o.op = .call {callee:=.builtin .len,args:=#[y],argTypes:=ts}) (ht:ts = #[t]) (hy:aO x y = .v (.string s))
  (E:∀w,(underlying t).run P w = .ok .string w):bH P G x o .none (.v (.int .i64 s.size)):=fun C a w _ h=>by
 subst ht;refine⟨_,.v _,fun w' _=>?_⟩;unfold execOp;simp[ho,h.flat hy,resolve,invoke,builtin,Builtin.len_,E,goInt]
theorem G0{fn:Fn}{cQ:Array Operand}(ho:o.op = .makeFunc fn #[] cQ)(hd:cQ.toList.map (aO x)=ds):bH P G x o .none (.dQ fn ds):=fun C a w _ h=>by
 subst hd;refine⟨.func fn #[] (cQ.toList.map a.eval).toArray,.dQ _ _ _ cq (fun i q1 q2=>?_),fun w' _=>?_⟩
 ·simp only[getElem_map];exact h.eval _
 unfold execOp;simp[ho,Instr.makeFunc];rw[<-Array.toList_map,Array.toArray_toList]
def jz(W:List Nat)(w w':World):Prop:=w.heap.size<=w'.heap.size/\∀b,b<w.heap.size->b∉W->w'.heap[b]?=w.heap[b]?
def e8(P:Program)(G:List (Nat×List Value))(x:St)(o:Oper)(W:List Nat)(post:St->Prop):Prop :=
 ∀(C:cj) (a:Act) (w:World) (K:Act->World->Prop) (Q:Exit->Act->World->Prop),C.G=G->bp C x a w->(∀y a' w',post y->bp C y a' w'->jz W w w'->Fr w (aq x.S) w' (aq y.S)->K a' w')->o.wp P a w K Q
theorem jz.refl(W:List Nat)(w:World):jz W w w:=⟨Nat.le_refl _,fun _ _ _=>rfl⟩
theorem bH.fh{k:Rd}{t:Nat}(h:bH P G x o k d)(hd:o.dst=some t):e8 P G x o [] (fun y=>y=x.put t d):=fun C a w K Q hG hs E=>by
 obtain⟨v,hr,mz⟩:=h C a w hG hs;unfold Oper.wp;rw[mz w (Same.self C x w k),Oper.upon_value,hd];exact E _ _ _ rfl (hs.put hr) (jz.refl _ _) (Fr.refl _ _)
def cellsOf:D->List D
 | .agg cs=>cs
 | .v (.agg cs)=>cs.toList.map .v
 | d=>[d]
def bX(w:World)(L:Nat->Prop)(ds:List D)(vs:List Value):Prop:=vs.length=ds.length/\∀i (h:i<ds.length) (h':i<vs.length),bP w L ds[i] vs[i]
theorem bX.mono{w w':World}{L E:Nat->Prop}{ds:List D}{vs:List Value}(h:bX w L ds vs)(H:∀b,b<w.heap.size->¬L b->w'.heap[b]?=w.heap[b]?/\¬E b):bX w' E ds vs :=
 ⟨h.1,fun i h1 h2=>(h.2 i h1 h2).mono H⟩
def one:D->Bool
 | .v x=>x.oneCell'
 | .list ..|.dG ..|.dQ ..=>true
 | _=>false
theorem bP.one_cell(h:bP w L d v)(hd:one d=true):v.oneCell'=true:=by
 cases h<;>first|exact hd|rfl|exact absurd hd (by simp[one])
theorem bP.cells{w:World}{L:Nat->Prop}{d:D}{v:Value}(h:bP w L d v)(hd:d≠.cx):bX w L (cellsOf d) v.cells.toList:=by
 have E:∀(d:D) (v:Value),v.cells = #[v]->cellsOf d=[d]->bP w L d v->bX w L (cellsOf d) v.cells.toList:=fun d v h1 h2 I=>by
  rw[h1,h2];refine⟨rfl,fun i q1 q2=>?_⟩;have:i=0:=(by simpa using q1)
  subst this;exact I
 cases h with
 | v =>
  cases v with
  | agg cs =>
   refine⟨by simp[cellsOf,Value.cells],fun i q1 q2=>?_⟩;simp only[cellsOf,getElem_map,Value.cells];exact .v _
  | _=>exact E _ _ rfl rfl (.v _)
 | jv sz ad cap=>exact E _ _ rfl rfl (.jv sz ad cap)
 | list sz cs len b o cap f hl h1 h2 hb hL hc hr=>exact E _ _ rfl rfl (.list sz cs len b o cap f hl h1 h2 hb hL hc hr)
 | dG cs off b o f hb hL hc hr=>exact E _ _ rfl rfl (.dG cs off b o f hb hL hc hr)
 | agg cs vs hl hr=>exact⟨by simp[cellsOf,Value.cells,hl],fun i q1 q2=>hr i q1 q2⟩
 | dK cs vs hl hr=>exact E _ _ rfl rfl (.dK cs vs hl hr)
 | dQ fn cs vs hl hr=>exact E _ _ rfl rfl (.dQ fn cs vs hl hr)
 | iZ l os h=>exact E _ _ rfl rfl (.iZ l os h)
 | cx=>exact absurd rfl hd
theorem getElem?_push_lt{ob:Obj}(h:b<w.heap.size):(w.alloc ob).heap[b]?=w.heap[b]?:=Below.heap_alloc w ob b h
theorem bp.KG (h:bp C x a w) {t:Nat} {cells:Array Value} {size:Nat} (hr:bX w (live C.X x.S) ds cells.toList) (M:cells.size=size)
  (hd:∀L,bP (w.alloc (ob e cells)) L d v) :
  bp C ⟨x.n,(t,d)::x.env,⟨w.heap.size,e,size,ds⟩::x.S⟩ (a.put (some t) v) (w.alloc (ob e cells)):=by
 have aD:∀b,live C.X x.S b->b<w.heap.size:=fun b hb=>by
  rcases hb with hb|hb
  ·exact Nat.lt_of_lt_of_le (h.ex b hb).1 h.fr.size
  obtain⟨B,I,rfl⟩:=mem_map.1 hb;exact(h.own.at_ B I).1
 have H:∀b,b<w.heap.size->¬live C.X x.S b->(w.alloc (ob e cells)).heap[b]?=w.heap[b]?/\¬live C.X (⟨w.heap.size,e,size,ds⟩::x.S) b:=fun b hb hn =>
  ⟨getElem?_push_lt hb,fun hl=>by
   rcases hl with hl|hl
   ·exact hn (.inl hl)
   simp only[aq,map_cons,mem_cons] at hl;rcases hl with hl|hl
   ·omega
   exact hn (.inr hl)⟩
 have base:bp C ⟨x.n,x.env,⟨w.heap.size,e,size,ds⟩::x.S⟩ a (w.alloc (ob e cells)):=by
  refine⟨h.defers,h.size,fun t ht=>(h.env t ht).mono H,⟨fun B I=>?_,?_⟩,?_,h.ex,h.dx⟩
  ·rcases mem_cons.1 I with rfl|I
   ·refine⟨by simp,cells,heap_alloc_new w _,M,?_,fun i hi=>?_⟩
    ·have:=hr.1;simp at this;simp only;omega
    have E:i<cells.toList.length:=(by rw[hr.1];exact hi)
    refine⟨cells.toList[i],?_,(hr.2 i hi E).mono H⟩;simp at E;simp[E]
   obtain⟨h0,cur,h1,h2,h3,h4⟩:=h.own.at_ B I;refine⟨by simp;omega,cur,(getElem?_push_lt h0).trans h1,h2,h3,fun i hi=>?_⟩;obtain⟨u,hu,hq⟩:=h4 i hi;exact⟨u,hu,hq.mono H⟩
  ·show(w.heap.size::aq x.S).Nodup;exact nodup_cons.2 ⟨fun hm=>Nat.lt_irrefl _ (aD _ (.inr hm)),h.own.apart⟩
  refine⟨h.fr.os,h.fr.tape,h.fr.output,by simp;have:=h.fr.size;omega,fun b hb hn=>?_⟩;obtain⟨q1,q2⟩:=h.fr.block b hb hn;have O:=Nat.lt_of_lt_of_le hb h.fr.size;refine⟨(getElem?_push_lt O).trans q1,fun hm=>?_⟩;simp only[aq,map_cons,mem_cons] at hm;rcases hm with hm|hm
  ·omega
  exact q2 hm
 exact base.put (hd _)
theorem bp.new (h:bp C x a w) {t:Nat} {cells:Array Value} {size:Nat} (hr:bX w (live C.X x.S) ds cells.toList) (E:cells.size=size)
  (hd:∀L,bP (w.alloc (.cells cells e)) L d v) (hne:isMap e=false:=by rfl) :
  bp C ⟨x.n,(t,d)::x.env,⟨w.heap.size,e,size,ds⟩::x.S⟩ (a.put (some t) v) (w.alloc (.cells cells e)):=by
 have:=bp.KG h (e:=e) hr E (t:=t) (d:=d) (v:=v) (fun L=>by rw[jl hne];exact hd L);rw[jl hne] at this;exact this
theorem jz.alloc(w:World)(ob:Obj):jz [] w (w.alloc ob):=⟨by simp,fun b hb _=>getElem?_push_lt hb⟩
theorem Fr.alloc(w:World)(ob:Obj)(S:List Nat):Fr w S (w.alloc ob) (w.heap.size::S) :=
 ⟨rfl,rfl,rfl,by simp,fun b hb hn=>⟨getElem?_push_lt hb,fun hm=>by
  rcases mem_cons.1 hm with hm|hm
  ·omega
  exact hn hm⟩⟩
def yy(x:St)(t:Nat)(e:TypeId)(ds:List D)(y:St):Prop:=∃b,y=⟨x.n,(t,.v (.pointer (some ⟨b,0,none⟩)))::x.env,⟨b,e,ds.length,ds⟩::x.S⟩
theorem xE{z:Value}{t:Nat}(ho:o.op = .alloc e)(hd:o.dst=some t)(hz:∀w,(zeroValue e).run P w = .ok z w)(ja:z.cells.toList.map .v=ds)(hne:isMap e=false:=by rfl):e8 P G x o [] (yy x t e ds):=fun C a w K Q hG h E=>by
 subst ja;unfold Oper.wp;have:(execOp a.eval o).run P w = .ok (.value (.pointer (some ⟨w.heap.size,0,none⟩))) (w.alloc (.cells z.cells e)):=by
  unfold execOp;simp[ho,Instr.alloc,hz,newVar,newRow]
 rw[this,Oper.upon_value,hd];refine E _ _ _ ⟨w.heap.size,rfl⟩ (h.new (ds:=z.cells.toList.map .v) ⟨by simp,fun i q1 q2=>?_⟩ cq (fun L=>.v _) hne) (jz.alloc _ _) (Fr.alloc _ _ _);simp only[getElem_map];exact .v _
theorem IN{t:Nat}(ho:o.op = .box e y)(hd:o.dst=some t)(hy:aO x y=d)(hj:d≠.cx)(ja:cellsOf d=ds)(hne:isMap e=false:=by rfl):e8 P G x o [] (yy x t e ds):=fun C a w K Q hG h E=>by
 subst ja;unfold Oper.wp;have:(execOp a.eval o).run P w = .ok (.value (.pointer (some ⟨w.heap.size,0,none⟩))) (w.alloc (.cells (a.eval y).cells e)):=by
  unfold execOp;simp[ho,Instr.box,newVar,newRow]
 rw[this,Oper.upon_value,hd];have hr:=h.eval y;rw[hy] at hr;have hc:=hr.cells hj;refine E _ _ _ ⟨w.heap.size,rfl⟩ (h.new (ds:=cellsOf d) hc (by have:=hc.1;simpa using this) (fun L=>.v _) hne) (jz.alloc _ _) (Fr.alloc _ _ _)
def eR(cs:List D)(off:Nat):List D->List D
 | []=>cs
 | d::r=>eR (cs.set off d) (off+1) r
def gR(place:Nat->Option (Nat×Nat))(cells:List D):List (Nat×D)->Option (List D)
 | []=>some cells
 | (i,d)::rest =>
  match place i with
  | none=>none
  | some (off,size)=>if (cellsOf d).length≠size||off+(cellsOf d).length>cells.length then none else gR place (eR cells off (cellsOf d)) rest
theorem bX.set{w:World}{L:Nat->Prop}{ds:List D}{vs:List Value}(h:bX w L ds vs)(i:Nat){d:D}{v:Value}(hd:bP w L d v):bX w L (ds.set i d) (vs.set i v) :=
 ⟨by simp[h.1],fun j h1 h2=>by
  rw[getElem_set,getElem_set];split
  ·exact hd
  exact h.2 j _ _⟩
theorem bX.tail{vs:List Value}(h:bX w L (d::ds) (v::vs)):bP w L d v/\bX w L ds vs :=
 ⟨h.2 0 cq cq,by simpa using h.1,fun i h1 h2=>h.2 (i+1) (by simpa using h1) (by simpa using h2)⟩
theorem xF{β:Type}(f:β->Value->Nat->β):∀(r:List Value) (k:Nat) (z:β),(r.zipIdx (k+1)).foldl (fun c (x:Value×Nat)=>f c x.1 x.2) z=(r.zipIdx k).foldl (fun c (x:Value×Nat)=>f c x.1 (x.2+1)) z
 | [],_,_=>rfl
 | v::r,k,z=>by
  simp only[zipIdx_cons,foldl_cons];exact xF f r (k+1) _
theorem bX.eR{w:World}{L:Nat->Prop}:∀(ds:List D) (vs:List Value) (cs:List D) (cells:List Value) (off:Nat),bX w L ds vs->bX w L cs cells->bX w L (eR cs off ds) (vs.zipIdx.foldl (fun cs (c,j)=>cs.set (off+j) c) cells)
 | [],[],cs,cells,off,_,h=>h
 | [],_::_,_,_,_,h,_=>by simp[bX] at h
 | _::_,[],_,_,_,h,_=>by simp[bX] at h
 | d::ds,v::vs,cs,cells,off,h,hc=>by
  obtain⟨h0,h1⟩:=h.tail;have E:=bX.eR ds vs (cs.set off d) (cells.set off v) (off+1) h1 (hc.set off h0);have e:(v::vs).zipIdx.foldl (fun cs (x:Value×Nat)=>cs.set (off+x.2) x.1) cells=vs.zipIdx.foldl (fun cs (x:Value×Nat)=>cs.set (off+1+x.2) x.1) (cells.set off v):=by
   rw[zipIdx_cons,foldl_cons,Nat.add_zero,xF (fun (c:List Value) v n=>c.set (off+n) v)];congr 1;funext a b;rw[Nat.add_assoc,Nat.add_comm 1]
  rw[e];exact E
theorem uL:∀(l:List (Value×Nat)) (cells:Array Value) (off:Nat),(l.foldl (fun cs (x:Value×Nat)=>cs.setIfInBounds (off+x.2) x.1) cells).toList=l.foldl (fun cs (x:Value×Nat)=>cs.set (off+x.2) x.1) cells.toList
 | [],_,_=>rfl
 | (v,j)::l,cells,off=>by
  simp only[foldl_cons];rw[uL l];simp
theorem uO{w:World}{L:Nat->Prop}(I:Nat->Option (Nat×Nat)):∀(E:List (Nat×D)) (mA:List (Nat×Value)) (cs:List D) (cells:Array Value) (ds:List D),
  E.length=mA.length->(∀i (h:i<E.length) (h':i<mA.length),E[i].1=mA[i].1/\E[i].2≠.cx/\bP w L E[i].2 mA[i].2)->bX w L cs cells.toList->gR I cs E=some ds ->
  ∃M,Instr.fill I cells mA=some M/\bX w L ds M.toList
 | [],[],cs,cells,ds,_,_,hc,hf=>by
  simp only[gR,Option.some.injEq] at hf;subst hf;exact⟨cells,rfl,hc⟩
 | [],_::_,_,_,_,h,_,_,_=>by simp at h
 | _::_,[],_,_,_,h,_,_,_=>by simp at h
 | (i,d)::E,(j,v)::mA,cs,cells,ds,hl,hp,hc,hf=>by
  obtain⟨h1,h2,h3⟩:=hp 0 cq cq;simp only[getElem_cons_zero] at h1 h2 h3;subst h1;have O:=h3.cells h2;have Y:v.cells.size=(cellsOf d).length:=(by have:=O.1;simpa using this)
  have Z:cells.size=cs.length:=(by have:=hc.1;simpa using this)
  unfold gR at hf;unfold Instr.fill;cases U:I i with
  | none=>rw[U] at hf;simp at hf
  | some os =>
   obtain⟨off,size⟩:=os;simp only[U] at hf |-;rw[Y,Z];split at hf
   ·cases hf
   rename_i hn;rw[if_neg hn];refine uO I E mA _ _ ds (by simpa using hl) (fun i h h'=>hp (i+1) pV (by simpa using h')) ?_ hf;have:=bX.eR (w:=w) (L:=L) (cellsOf d) v.cells.toList cs cells.toList off O hc;rw[<-uL] at this;have e:v.cells.zipIdx.foldl (fun cs (x:Value×Nat)=>cs.setIfInBounds (off+x.2) x.1) cells=v.cells.toList.zipIdx.foldl (fun cs (x:Value×Nat)=>cs.setIfInBounds (off+x.2) x.1) cells:=by
    rw[<-Array.foldl_toList,Array.toList_zipIdx]
   rw[e];exact this
theorem bX.mA(w:World)(L:Nat->Prop)(vs:List Value):bX w L (vs.map .v) vs:=⟨by simp,fun i h1 h2=>by simp only[getElem_map];exact .v _⟩
def gF(x:St)(ps:Array (Nat×Operand)):List (Nat×D):=ps.toList.map fun p=>(p.1,aO x p.2)
theorem xG(h:bp C x a w)(ps:Array (Nat×Operand))(hj:∀p∈gF x ps,p.2≠.cx):(gF x ps).length=((ps.map fun p=>(p.1,a.eval p.2)).toList).length /\
  ∀i (h1:i<(gF x ps).length) (h2:i<((ps.map fun p=>(p.1,a.eval p.2)).toList).length),(gF x ps)[i].1=((ps.map fun p=>(p.1,a.eval p.2)).toList)[i].1/\(gF x ps)[i].2≠.cx/\bP w (live C.X x.S) (gF x ps)[i].2 ((ps.map fun p=>(p.1,a.eval p.2)).toList)[i].2:=by
 refine⟨by simp[gF],fun i h1 h2=>⟨?_,hj _ (getElem_mem h1),?_⟩⟩
 ·simp[gF]
 simp only[gF,getElem_map,Array.toList_map];exact h.eval _
theorem GM {E:Array Field} {places:Array (Nat×Nat)} {z:Value} (ho:o.op = .build t ps) (hz:∀w,(zeroValue t).run P w = .ok z w)
  (I:∀w,(underlying t).run P w = .ok (.struct E) w) (hp:∀w,(E.mapM fun f=>do pure (f.offset,<-sizeOf f.type):Sem (Array (Nat×Nat))).run P w = .ok places w)
  (hj:∀p∈gF x ps,p.2≠.cx) (hd:gR (places[·]?) (z.cells.toList.map .v) (gF x ps)=some ds):bH P G x o .none (.agg ds):=fun C a w _ h=>by
 obtain⟨q1,q2⟩:=xG h ps hj;obtain⟨sD,h1,h2⟩:=uO (w:=w) (L:=live C.X x.S) (places[·]?) (gF x ps) ((ps.map fun p=>(p.1,a.eval p.2)).toList) _ z.cells ds q1 q2 (bX.mA _ _ _) hd;refine⟨.agg sD.toList.toArray,.agg _ _ h2.1 h2.2,fun w' _=>?_⟩;unfold execOp;simp only[ho,Instr.build,hz,I,hp,Sem.run_bind,Result.andThen_ok,h1,Sem.run_pure,Array.toArray_toList]
theorem Gu {z:Value} (ho:o.op = .build t ps) (hz:∀w,(zeroValue t).run P w = .ok z w)
  (E:∀w,(underlying t).run P w = .ok (.array n e) w) (hs:∀w,(sizeOf e).run P w = .ok sz w)
  (hj:∀p∈gF x ps,p.2≠.cx) (hd:gR (fun i=>some (i*sz,sz)) (z.cells.toList.map .v) (gF x ps)=some ds):bH P G x o .none (.agg ds):=fun C a w _ h=>by
 obtain⟨q1,q2⟩:=xG h ps hj;obtain⟨sD,h1,h2⟩:=uO (w:=w) (L:=live C.X x.S) (fun i=>some (i*sz,sz)) (gF x ps) ((ps.map fun p=>(p.1,a.eval p.2)).toList) _ z.cells ds q1 q2 (bX.mA _ _ _) hd;refine⟨.agg sD.toList.toArray,.agg _ _ h2.1 h2.2,fun w' _=>?_⟩;unfold execOp;simp only[ho,Instr.build,hz,E,hs,Sem.run_bind,Result.andThen_ok,h1,Sem.run_pure,Array.toArray_toList]
def IP(x:St)(t:Nat)(e:TypeId)(len:Nat)(ds:List D)(y:St):Prop:=∃b,y=⟨x.n,(t,.v (.slice (some ⟨b,0,none⟩) len len))::x.env,⟨b,e,ds.length,ds⟩::x.S⟩
theorem Bo {z:Value} {zs:List D} (ho:o.op = .buildSlice t len ps) (gw:o.dst=some tt) (hz:∀w,(zeroValue e).run P w = .ok z w)
  (I:∀w,(underlying t).run P w = .ok (.slice e) w) (hs:∀w,(sizeOf e).run P w = .ok sz w) (hl:0<len*sz) (gz:len*sz<=2 ^ 24) (dy:(Array.range (len*sz)).map (fun i=>z.cells[i % z.cells.size]!)=(zs.map (fun d=>match d with|.v u=>u|_=>undef)).toArray) (M:∀d∈zs,∃u,d = .v u)
  (hj:∀p∈gF x ps,p.2≠.cx) (hd:gR (fun i=>some (i*sz,sz)) zs (gF x ps)=some ds) (hne:isMap e=false:=by rfl):e8 P G x o [] (IP x tt e len ds):=fun C a w K Q hG h Y=>by
 obtain⟨q1,q2⟩:=xG h ps hj;have O:bX w (live C.X x.S) zs ((zs.map (fun d=>match d with|.v u=>u|_=>undef)).toArray).toList:=by
  refine⟨by simp,fun i h1 h2=>?_⟩;obtain⟨u,I⟩:=M _ (getElem_mem h1);simp only[getElem_map,I];exact .v _
 obtain⟨sD,h1,h2⟩:=uO (w:=w) (L:=live C.X x.S) (fun i=>some (i*sz,sz)) (gF x ps) ((ps.map fun p=>(p.1,a.eval p.2)).toList) _ _ ds q1 q2 O hd;unfold Oper.wp;have:(execOp a.eval o).run P w = .ok (.value (.slice (some ⟨w.heap.size,0,none⟩) len len)) (w.alloc (.cells sD e)):=by
  unfold execOp;have E:¬len*sz=0:=(by omega)
  have U:¬len*sz>2 ^ 24:=(by omega)
  simp only[ho,Instr.buildSlice,hz,I,hs,Sem.run_bind,Result.andThen_ok,Sem.run_pure,if_neg E,if_neg U,dy,h1];simp[newRow]
 rw[this,Oper.upon_value,gw];exact Y _ _ _ ⟨w.heap.size,rfl⟩ (h.new (ds:=ds) h2 (by have:=h2.1;simpa using this) (fun L=>.v _) hne) (jz.alloc _ _) (Fr.alloc _ _ _)
theorem Br(b:Nat):∀(vs:List Value) (o':Nat) (w:World) (cur:Array Value) (e:TypeId),w.heap[b]?=some (.cells cur e (0,0))->o'+vs.length<=cur.size ->
  (w.setCells b o' vs).heap[b]?=some (.cells (vs.zipIdx.foldl (fun cs (x:Value×Nat)=>cs.setIfInBounds (o'+x.2) x.1) cur) e (0,0))/\(∀k,k≠b->(w.setCells b o' vs).heap[k]?=w.heap[k]?)/\(w.setCells b o' vs).heap.size=w.heap.size /\
  (w.setCells b o' vs).os=w.os/\(w.setCells b o' vs).tape=w.tape/\(w.setCells b o' vs).output=w.output
 | [],o',w,cur,e,h,_=>⟨h,fun _ _=>rfl,rfl,rfl,rfl,rfl⟩
 | v::r,o',w,cur,e,h,hl=>by
  have h0:(w.setCell ⟨b,o',none⟩ v).heap[b]?=some (.cells (cur.setIfInBounds o' v) e (0,0)):=by
   simp[World.setCell,Array.getElem?_modify,h]
  obtain⟨i1,i2,i3,i4,i5,i6⟩:=Br b r (o'+1) (w.setCell ⟨b,o',none⟩ v) (cur.setIfInBounds o' v) e h0 (by simp at hl |-;omega);refine⟨?_,fun k hk=>?_,?_,i4,i5,i6⟩
  ·rw[World.setCells,i1,zipIdx_cons,foldl_cons,Nat.add_zero,xF (fun (c:Array Value) v n=>c.setIfInBounds (o'+n) v)];congr 3;funext a b;rw[Nat.add_assoc,Nat.add_comm 1]
  ·rw[World.setCells,i2 k hk,Below.heap_setCell _ _ _ _ hk]
  rw[World.setCells,i3];simp
theorem Bs:∀(ds cs:List D) (off:Nat),(eR cs off ds).length=cs.length
 | [],cs,off=>rfl
 | d::ds,cs,off=>by rw[eR,Bs ds];simp
theorem bp.store(h:bp C x a w){k:Nat}{vs:List Value}(hk:x.S[k]?=some B)(hr:bX w (live C.X x.S) ds vs)(hl:o'+ds.length<=B.cs.length)(hne:isMap B.e=false:=by rfl) :
  bp C ⟨x.n,x.env,x.S.set k {B with cs:=eR B.cs o' ds}⟩ a (w.setCells B.b o' vs)/\jz [B.b] w (w.setCells B.b o' vs)/\Fr w (aq x.S) (w.setCells B.b o' vs) (aq (x.S.set k {B with cs:=eR B.cs o' ds})):=by
 obtain⟨h0,cur,h1,h2,h3,h4⟩:=h.eK hk;rw[jl hne] at h1;have kG:vs.length=ds.length:=hr.1;obtain⟨i1,i2,i3,i4,i5,i6⟩:=Br B.b vs o' w cur B.e h1 w7;have Z:k<x.S.length:=(List.getElem?_eq_some_iff.1 hk).1;have EJ:x.S[k]=B:=(List.getElem?_eq_some_iff.1 hk).2;have E:aq (x.S.set k {B with cs:=eR B.cs o' ds})=aq x.S:=by
  unfold aq;rw[map_set];apply ext_getElem cq;intro i q1 q2;rw[getElem_set];split
  ·rename_i e;subst e;simp[EJ]
  rfl
 have I:live C.X (x.S.set k {B with cs:=eR B.cs o' ds})=live C.X x.S:=(by funext b;simp only[live,E])
 have hB:live C.X x.S B.b:=HP hk;have H:∀b,b<w.heap.size->¬live C.X x.S b->(w.setCells B.b o' vs).heap[b]?=w.heap[b]?/\¬live C.X x.S b:=fun b _ hn=>⟨i2 b (fun e=>hn (e ▸ hB)),hn⟩
 refine⟨⟨h.defers,h.size,fun t ht=>?_,⟨fun B' M5=>?_,?_⟩,?_,h.ex,h.dx⟩,⟨by rw[i3];exact Nat.le_refl _,fun b _ hn=>i2 b (by simpa using hn)⟩,?_⟩
 ·simp only[I];exact(h.env t ht).mono H
 ·simp only[I];obtain⟨j,hj,M⟩:=mem_iff_getElem.1 M5;rw[length_set] at hj;rw[getElem_set] at M;by_cases e:k=j
  ·rw[if_pos e] at M;subst M;refine⟨by rw[i3];exact h0,_,i1.trans (by rw[jl hne]),?_,by simp only[Bs];exact h3,fun i hi=>?_⟩
   ·have:=uL vs.zipIdx cur o';have O:=congrArg length this;have Ll:∀(l:List (Value×Nat)) (c:List Value),(l.foldl (fun cs (x:Value×Nat)=>cs.set (o'+x.2) x.1) c).length=c.length:=by
     intro l;induction l with
     | nil=>intro c;rfl
     | cons p l ih=>intro c;rw[foldl_cons,ih];simp
    rw[Ll] at O;simp only[Array.length_toList] at O;rw[O,h2]
   have cL:bX w (live C.X x.S) B.cs (cur.toList.take B.cs.length):=by
    refine⟨by simp;omega,fun i q1 q2=>?_⟩;obtain⟨u,hu,hq⟩:=h4 i q1;have:(cur.toList.take B.cs.length)[i]=u:=by
     rw[getElem_take];rw[<-Array.getElem?_toList,List.getElem?_eq_some_iff] at hu;exact hu.2
    rw[this];exact hq
   have U:=bX.eR ds vs B.cs (cur.toList.take B.cs.length) o' hr cL;have KH:∀(l:List (Value×Nat)) (c:List Value),(∀p∈l,o'+p.2<B.cs.length)->l.foldl (fun cs (x:Value×Nat)=>cs.set (o'+x.2) x.1) (c.take B.cs.length)=(l.foldl (fun cs (x:Value×Nat)=>cs.set (o'+x.2) x.1) c).take B.cs.length:=by
    intro l;induction l with
    | nil=>intro c _;rfl
    | cons p l ih =>
     intro c hp;rw[foldl_cons,foldl_cons,<-ih _ (fun q hq=>hp q (mem_cons_of_mem _ hq)),take_set]
   rw[KH vs.zipIdx cur.toList (fun p hp=>by have:=mem_zipIdx hp;omega),<-uL] at U;simp only at hi;have v8:=hi;rw[<-U.1] at v8;have hq:=U.2 i hi v8;rw[getElem_take] at hq;refine⟨_,?_,hq.mono H⟩;rw[<-Array.getElem?_toList,getElem?_eq_getElem]
  rw[if_neg e] at M;subst M;have hne:x.S[j].b≠B.b:=fun he=>by
   have hn:=h.own.apart;have EK:(aq x.S)[j]'(by simpa[aq] using hj)=(aq x.S)[k]'(by simpa[aq] using Z):=(by simp[aq,he,EJ])
   have hp:=pairwise_iff_getElem.1 hn;rcases Nat.lt_trichotomy j k with Y|Y|Y
   ·exact hp j k (by simpa[aq] using hj) (by simpa[aq] using Z) Y EK
   ·exact e Y.symm
   exact hp k j (by simpa[aq] using Z) (by simpa[aq] using hj) Y EK.symm
  obtain⟨r0,pG,r1,r2,r3,r4⟩:=h.own.at_ x.S[j] (getElem_mem hj);refine⟨by rw[i3];exact r0,pG,(i2 _ hne).trans r1,r2,r3,fun i hi=>?_⟩;obtain⟨u,hu,hq⟩:=r4 i hi;exact⟨u,hu,hq.mono H⟩
 ·simp only[E];exact h.own.apart
 ·refine⟨i4.trans h.fr.os,i5.trans h.fr.tape,i6.trans h.fr.output,by rw[i3];exact h.fr.size,fun b hb hn=>?_⟩;obtain⟨q1,q2⟩:=h.fr.block b hb hn;refine⟨(i2 b (fun e=>q2 (e ▸ mem_map.2 ⟨B,mem_of_getElem? hk,rfl⟩))).trans q1,?_⟩;simp only[E];exact q2
 rw[E];exact⟨i4,i5,i6,by rw[i3];exact Nat.le_refl _,fun b hb hn=>⟨i2 b (fun e=>hn (e ▸ mem_map.2 ⟨B,mem_of_getElem? hk,rfl⟩)),hn⟩⟩
theorem xH {k:Nat} {z:Operand} (ho:o.op = .store t y z) (gw:o.dst=none) (hy:aO x y = .v (.pointer (some ⟨b,o',none⟩)))
  (hk:x.S[k]?=some B) (hb:B.b=b) (hz:aO x z=d) (hj:d≠.cx) (h1:(cellsOf d).all one=true) (hn:∀w,(sizeOf t).run P w = .ok n w) (lT:(cellsOf d).length=n) (hl:o'+n<=B.cs.length) (cL:eR B.cs o' (cellsOf d)=cs') (hne:isMap B.e=false:=by rfl) :
  e8 P G x o [b] (fun y=>y=⟨x.n,x.env,x.S.set k {B with cs:=cs'}⟩):=fun C a w K Q hG h Y=>by
 subst cL hb;have hr:=h.eval z;rw[hz] at hr;have hc:=hr.cells hj;obtain⟨s1,s2,Z⟩:=h.store hk hc (o':=o') w7 hne;obtain⟨h0,cur,q1,q2,q3,q4⟩:=h.eK hk;rw[jl hne] at q1;have O:(a.eval z).cells.toList.length=n:=(by rw[hc.1,lT])
 have E:=run_storeCells_cells (P:=P) B.b o' (a.eval z).cells.toList 0 w (fun j hj=>by
   have:(o'+0+j)<cur.size:=(by omega)
   rw[ng q1 (u:=cur[o'+0+j]) (by simp[this])];rfl)
  (fun j hj=>by unfold World.frozen?;simp[q1]) (fun v hv=>by
   obtain⟨j,hj,rfl⟩:=mem_iff_getElem.1 hv;have M:j<(cellsOf d).length:=(by rw[<-hc.1];exact hj)
   exact(hc.2 j M hj).one_cell (all_eq_true.1 h1 _ (getElem_mem M)))
 have I:(execOp a.eval o).run P w = .ok .skip (w.setCells B.b o' (a.eval z).cells.toList):=by
  unfold execOp;have U:(a.eval z).cells.size=n:=(by simpa using O)
  simp only[Nat.add_zero] at E;simp[ho,h.flat hy,Instr.storeAt,Instr.sureAddr,storeVar,hn,U,E]
 unfold Oper.wp;rw[I,Oper.upon_skip,gw];exact Y _ _ _ rfl s1 s2 Z
structure mL (G:List (Nat×List Value)) (X:Nat->Prop) (w:World) (S:List ak) (args:List D) (vs:List Value):Prop where
 ex:∀b,X b->b<w.heap.size/\b∉aq S
 dx:∀g∈G,(g.1<w.heap.size/\g.1∉aq S/\¬X g.1)/\∀i v,g.2[i]?=some v->iR w g.1 i v
 own:Own w (live X S) S
 args:bX w (live X S) args vs
def VC(P:Program)(G:List (Nat×List Value))(f:FuncId)(args:List D)(S:List ak)(post:D->List ak->Prop):Prop :=
 ∀(X:Nat->Prop) (w:World) (vs:List Value),mL G X w S args vs->Calls P f vs.toArray w fun e w'=>∃v r S',e = .returned v/\post r S'/\Own w' (live X S') S'/\bP w' (live X S') r v/\Fr w (aq S) w' (aq S')
abbrev VP(P:Program)(G:List (Nat×List Value))(f:FuncId)(args:List D)(r:D):Prop:=VC P G f args [] fun r' S'=>r'=r/\S'=[]
theorem oc(hp:S.Perm (Sf++R)):live X S=live (fun b=>X b\/b∈aq R) Sf:=by
 funext b;have:(aq S).Perm (aq Sf++aq R):=(by have:=hp.map ak.b;simpa[aq] using this)
 have:=this.mem_iff (a:=b);simp only[live,mem_append] at *;rw[this];exact propext ⟨fun h=>by rcases h with h|h|h<;>simp[h],fun h=>by rcases h with (h|h)|h<;>simp[h]⟩
theorem bp.call(h:bp C x a w)(hG:C.G=G){f:FuncId}{vs:List Value}(hc:VC P G f args Sf post)(hp:x.S.Perm (Sf++R))(hr:bX w (live C.X x.S) args vs) :
  Calls P f vs.toArray w fun e w'=>∃v r S',e = .returned v/\post r S'/\bP w' (live C.X (S'++R)) r v/\bp C ⟨x.n,x.env,S'++R⟩ a w'/\jz (aq Sf) w w'/\Fr w (aq x.S) w' (aq (S'++R)):=by
 have hb:(aq x.S).Perm (aq Sf++aq R):=(by have:=hp.map ak.b;simpa[aq] using this)
 have hL:=oc (X:=C.X) hp;have hnd:(aq Sf++aq R).Nodup:=hb.nodup_iff.1 h.own.apart;obtain⟨n1,n2,n3⟩:=nodup_append.1 hnd;have U:∀b,b∈aq R->b<w.heap.size:=fun b tF=>by
  obtain⟨B,O,rfl⟩:=mem_map.1 tF;exact(h.own.at_ B (hp.symm.subset (mem_append_right _ O))).1
 have Z:mL G (fun b=>C.X b\/b∈aq R) w Sf args vs:=by
  refine⟨fun b hx=>?_,fun g hg=>?_,⟨fun B O=>?_,n1⟩,?_⟩
  ·rcases hx with hx|hx
   ·obtain⟨q1,q2⟩:=h.ex b hx;exact⟨Nat.lt_of_lt_of_le q1 h.fr.size,fun hm=>(h.fr.block b q1 q2).2 (hb.symm.subset (mem_append_left _ hm))⟩
   exact⟨U b hx,fun hm=>n3 b hm b hx rfl⟩
  ·rw[<-hG] at hg;obtain⟨⟨q1,q2,q3⟩,q4⟩:=h.dx g hg;have q5:=(h.fr.block g.1 q1 q2).2;refine⟨⟨Nat.lt_of_lt_of_le q1 h.fr.size,fun hm=>q5 (hb.symm.subset (mem_append_left _ hm)),fun hx=>?_⟩,fun i v hi=>h.oo hg hi⟩;rcases hx with hx|hx
   ·exact q3 hx
   exact q5 (hb.symm.subset (mem_append_right _ hx))
  ·rw[<-hL];exact h.own.at_ B (hp.symm.subset (mem_append_left _ O))
  rw[<-hL];exact hr
 refine(hc _ w vs Z).mono fun e w' ⟨v,r,S',h1,h2,h3,h4,I⟩=>⟨v,r,S',h1,h2,?_,?_,⟨I.size,fun b M hn=>(I.block b M hn).1⟩,?_⟩
 ·have:live C.X (S'++R)=live (fun b=>C.X b\/b∈aq R) S':=oc (Perm.refl _);rw[this];exact h4
 ·have EL:live C.X (S'++R)=live (fun b=>C.X b\/b∈aq R) S':=oc (Perm.refl _);have H:∀b,b<w.heap.size->¬live C.X x.S b->w'.heap[b]?=w.heap[b]?/\¬live C.X (S'++R) b:=fun b aD hn=>by
   rw[hL] at hn;have E:b∉aq Sf:=fun hm=>hn (.inr hm);obtain⟨q1,q2⟩:=I.block b aD E;refine⟨q1,fun hl=>?_⟩;rw[EL] at hl;rcases hl with hl|hl
   ·exact hn (.inl hl)
   exact q2 hl
  refine⟨h.defers,h.size,fun t ht=>(h.env t ht).mono H,⟨fun B O=>?_,?_⟩,?_,h.ex,h.dx⟩
  ·rcases mem_append.1 O with O|O
   ·have:=h3.at_ B O;rw[<-EL] at this;exact this
   obtain⟨r0,cur,r1,r2,r3,r4⟩:=h.own.at_ B (hp.symm.subset (mem_append_right _ O));have tG:B.b∈aq R:=mem_map.2 ⟨B,O,rfl⟩;have E:B.b∉aq Sf:=fun hm=>n3 B.b hm B.b tG rfl;have hh:=(I.block B.b r0 E).1;refine⟨kS r0 hh,cur,hh.trans r1,r2,r3,fun i hi=>?_⟩;obtain⟨u,hu,hq⟩:=r4 i hi;exact⟨u,hu,hq.mono H⟩
  ·show(aq (S'++R)).Nodup;have:aq (S'++R)=aq S'++aq R:=(by simp[aq])
   rw[this];refine nodup_append.2 ⟨h3.apart,n2,fun b iP c aG he=>?_⟩;subst he;have E:b∉aq Sf:=fun hm=>n3 b hm b aG rfl;exact(I.block b (U b aG) E).2 iP
  refine⟨I.os.trans h.fr.os,I.tape.trans h.fr.tape,I.output.trans h.fr.output,Nat.le_trans h.fr.size I.size,fun b M hn=>?_⟩;obtain⟨q1,q2⟩:=h.fr.block b M hn;have fD:b∉aq Sf:=fun hm=>q2 (hb.symm.subset (mem_append_left _ hm));have Y:b∉aq R:=fun hm=>q2 (hb.symm.subset (mem_append_right _ hm));obtain⟨q3,q4⟩:=I.block b (Nat.lt_of_lt_of_le M h.fr.size) fD;refine⟨q3.trans q1,fun hm=>?_⟩;have:aq (S'++R)=aq S'++aq R:=(by simp[aq])
  rw[this] at hm;rcases mem_append.1 hm with hm|hm
  ·exact q4 hm
  exact Y hm
 refine⟨I.os,I.tape,I.output,I.size,fun b M hn=>?_⟩;have fD:b∉aq Sf:=fun hm=>hn (hb.symm.subset (mem_append_left _ hm));have Y:b∉aq R:=fun hm=>hn (hb.symm.subset (mem_append_right _ hm));obtain⟨q3,q4⟩:=I.block b M fD;refine⟨q3,fun hm=>?_⟩;have:aq (S'++R)=aq S'++aq R:=(by simp[aq])
 rw[this] at hm;rcases mem_append.1 hm with hm|hm
 ·exact q4 hm
 exact Y hm
theorem bX.vq(h:bp C x a w)(bL:List Operand):bX w (live C.X x.S) (bL.map (aO x)) (bL.map a.eval) :=
 ⟨by simp,fun i h1 h2=>by simp only[getElem_map];exact h.eval _⟩
theorem bX.append{E:List D}{vs I:List Value}(h:bX w L ds vs)(h':bX w L E I):bX w L (ds++E) (vs++I) :=
 ⟨by simp[h.1,h'.1],fun i h1 h2=>by
  by_cases hi:i<ds.length
  ·rw[getElem_append_left hi,getElem_append_left (by rw[h.1];exact hi)];exact h.2 i _ _
  rw[getElem_append_right w7,getElem_append_right (by rw[h.1];omega)];have:=h.1;simp only[this];exact h'.2 _ _ _⟩
def called(x:St)(t:Nat)(R:List ak)(post:D->List ak->Prop)(y:St):Prop:=∃r S',post r S'/\y=⟨x.n,(t,r)::x.env,S'++R⟩
theorem uP {f t:Nat} (ho:o.op = .call {callee:=.value fo,args:=bL,argTypes:=ts}) (hd:o.dst=some t)
  (hf:fo = .func f) (dz:∀args w,(callFunc f args).run P w = .ok (.enter f args) w) (ha:bL.toList.map (aO x)=args) (hp:x.S.Perm (Sf++R)) (hc:VC P G f args Sf post) :
  e8 P G x o (aq Sf) (called x t R post):=fun C a w K Q hG h I=>by
 subst hf ha;have hr:=bX.vq h bL.toList;have E:(execOp a.eval o).run P w = .ok (.enter f (bL.toList.map a.eval).toArray) w:=by
  unfold execOp;have e:bL.map a.eval=(bL.toList.map a.eval).toArray:=by
   rw[<-Array.toList_map,Array.toArray_toList]
  simp only[ho,resolve,Act.eval,Deferred.ofValue,Sem.run_bind,Sem.run_pure,Result.andThen_ok,invoke,e];simp[dz]
 unfold Oper.wp;rw[E,Oper.upon_enter,hd];refine(h.call hG hc hp hr).mono fun e w' ⟨v,r,S',h1,h2,M,O,U,Y⟩=>?_;subst h1;exact I _ _ _ ⟨r,S',h2,rfl⟩ (O.put M) U Y
theorem Hp {f t:Nat} {cQ:List D} (ho:o.op = .call {callee:=.value fo,args:=bL,argTypes:=ts}) (hd:o.dst=some t)
  (hf:aO x fo = .dQ (.func f) cQ) (dz:∀args w,(callFunc f args).run P w = .ok (.enter f args) w) (ha:bL.toList.map (aO x)++cQ=args) (hp:x.S.Perm (Sf++R)) (hc:VC P G f args Sf post) :
  e8 P G x o (aq Sf) (called x t R post):=fun C a w K Q hG h O=>by
 subst ha;have hr:=bX.vq h bL.toList;have E:=h.eval fo;rw[hf] at E;generalize hg:a.eval fo=u at E;cases E with
 | dQ _ _ vs hl M =>
  have I:(execOp a.eval o).run P w = .ok (.enter f (bL.toList.map a.eval++vs).toArray) w:=by
   unfold execOp;have e:bL.map a.eval++vs.toArray=(bL.toList.map a.eval++vs).toArray:=by
    rw[<-append_toArray,<-Array.toList_map,Array.toArray_toList]
   simp only[ho,resolve,hg,Deferred.ofValue,Sem.run_bind,Sem.run_pure,Result.andThen_ok,invoke];simp[dz]
  unfold Oper.wp;rw[I,Oper.upon_enter,hd];refine(h.call hG hc hp (hr.append ⟨hl,M⟩)).mono fun e w' ⟨v,r,S',h1,h2,U,Y,Z,h6⟩=>?_;subst h1;exact O _ _ _ ⟨r,S',h2,rfl⟩ (Y.put U) Z h6
theorem r8{k:Nat}(hk:S[k]?=some B):S.Perm (B::S.eraseIdx k):=by
 obtain⟨h1,h2⟩:=List.getElem?_eq_some_iff.1 hk;subst h2;clear hk;induction S generalizing k with
 | nil=>simp at h1
 | cons A S ih =>
  cases k with
  | zero=>exact Perm.refl _
  | succ k =>
   have E:k<S.length:=(by simpa using h1)
   rw[eraseIdx_cons_succ];exact((ih E).cons A).trans (Perm.swap _ _ _)
theorem jP(S:List ak):S.Perm ([]++S):=Perm.refl _
theorem HR{k:Nat}(hk:S[k]?=some B):S.Perm ([B]++S.eraseIdx k):=r8 hk
theorem bP.sK{k:Nat}(h:Own w (live X S) S)(M:∀b,X b->b∉aq S)(hk:S[k]?=some B)(hl:B.cs.length=n*sz)(h1:n<=cap)(h2:cap<=maxLen)(hne:isMap B.e=false:=by rfl) :
  bP w (live X (S.eraseIdx k)) (.list sz B.cs n) (.slice (some ⟨B.b,0,none⟩) n cap):=by
 have hm:=mem_of_getElem? hk;obtain⟨r0,cur,r1,r2,O,I⟩:=h.at_ B hm;rw[jl hne] at r1;have E:(aq (S.eraseIdx k)).Sublist (aq S):=Sublist.map _ (eraseIdx_sublist S k);have hL:¬live X (S.eraseIdx k) B.b:=fun hl=>by
  rcases hl with hl|hl
  ·exact M _ hl (mem_map.2 ⟨B,hm,rfl⟩)
  have hp:(aq S).Perm (B.b::aq (S.eraseIdx k)):=(by have:=(r8 hk).map ak.b;simpa[aq] using this)
  have hnd:=hp.nodup_iff.1 h.apart;exact(nodup_cons.1 hnd).1 hl
 refine .list sz B.cs n B.b 0 cap (fun i=>cur.getD i undef) hl h1 h2 r0 hL (fun i hi=>?_) (fun i hi=>?_)
 ·obtain⟨u,hu,_⟩:=I i hi;rw[Nat.zero_add,ng r1 hu];simp[hu]
 obtain⟨u,hu,hq⟩:=I i hi;simp only[Array.getD_eq_getD_getElem?,hu,Option.getD_some];exact hq.mono fun b _ hn=>⟨rfl,fun hl=>hn (hl.imp id fun q=>E.subset q)⟩
theorem bp.rB(h:bp C x a w):∀b,C.X b->b∉aq x.S:=fun b hb=>(h.fr.block b (h.ex b hb).1 (h.ex b hb).2).2
theorem Wk.vr{k t:Nat}(hk:S[k]?=some B)(ht:look t l = .v (.slice (some ⟨B.b,0,none⟩) m cap))(cL:B.cs=cs)(hl:cs.length=m*sz)(h1:m<=cap)(h2:cap<=maxLen)(hne:isMap B.e=false:=by rfl) :
  Wk ⟨n,l,S⟩ ⟨n,(t,.list sz cs m)::l,S.eraseIdx k⟩:=fun C a w h=>by
 subst cL;have hd:=Wk.drop n l S (S.eraseIdx k) (eraseIdx_sublist S k) C a w h;refine⟨hd.defers,hd.size,fun i hi=>?_,hd.own,hd.fr,hd.ex,hd.dx⟩;simp only[ey];by_cases e:t=i
 ·subst e;rw[if_pos rfl];have E:=h.env t hi;simp only[ht] at E;rw[E.gu];exact bP.sK h.own h.rB hk hl h1 h2 hne
 rw[if_neg e];exact hd.env i hi
theorem Wk.qB{t:Nat}(ht:look t l = .v (.slice none 0 0)):Wk ⟨n,l,S⟩ ⟨n,(t,.list sz [] 0)::l,S⟩:=fun C a w h=>by
 refine⟨h.defers,h.size,fun i hi=>?_,h.own,h.fr,h.ex,h.dx⟩;simp only[ey];by_cases e:t=i
 ·subst e;rw[if_pos rfl];have E:=h.env t hi;simp only[ht] at E;rw[E.gu];exact .nil sz
 rw[if_neg e];exact h.env i hi
theorem Wk.JJ {k:Nat} {A:ak} (hk:S[k]?=some B) (hj:(S.eraseIdx k)[j]?=some A) (hi:A.cs[i]?=some (.v (.slice (some ⟨B.b,0,none⟩) m cap))) (cL:B.cs=cs) (hl:cs.length=m*sz) (h1:m<=cap) (h2:cap<=maxLen)
  (O:A.cs.set i (.list sz cs m)=cs') (hS:(S.eraseIdx k).set j {A with cs:=cs'}=S') (hne:isMap B.e=false:=by rfl):Wk ⟨n,l,S⟩ ⟨n,l,S'⟩:=fun C a w h=>by
 subst cL O hS;have hd:=Wk.drop n l S (S.eraseIdx k) (eraseIdx_sublist S k) C a w h;have U:=bP.sK h.own h.rB hk hl h1 h2 hne;have tH:=(List.getElem?_eq_some_iff.1 hj).1;have Y:=(List.getElem?_eq_some_iff.1 hj).2;have E:aq ((S.eraseIdx k).set j {A with cs:=A.cs.set i (.list sz B.cs m)})=aq (S.eraseIdx k):=by
  unfold aq;rw[map_set];apply ext_getElem cq;intro i q1 q2;rw[getElem_set];split
  ·rename_i e;subst e;simp[Y]
  rfl
 have I:live C.X ((S.eraseIdx k).set j {A with cs:=A.cs.set i (.list sz B.cs m)})=live C.X (S.eraseIdx k):=(by funext b;simp only[live,E])
 refine⟨hd.defers,hd.size,fun t ht=>?_,⟨fun B' Z=>?_,?_⟩,?_,hd.ex,hd.dx⟩
 ·simp only[I];exact hd.env t ht
 ·simp only[I];obtain⟨p,hp,j4⟩:=mem_iff_getElem.1 Z;rw[length_set] at hp;rw[getElem_set] at j4;by_cases e:j=p
  ·rw[if_pos e] at j4;subst j4;obtain⟨r0,cur,r1,r2,r3,r4⟩:=hd.own.at_ A (mem_of_getElem? hj);refine⟨r0,cur,r1,r2,by simpa using r3,fun q hq=>?_⟩;simp only[length_set] at hq;obtain⟨u,hu,M⟩:=r4 q hq;refine⟨u,hu,?_⟩;rw[getElem_set];split
   ·rename_i he;subst he;have:=(List.getElem?_eq_some_iff.1 hi).2;rw[this] at M;rw[M.gu];exact U
   exact M
  rw[if_neg e] at j4;subst j4;exact hd.own.at_ _ (getElem_mem hp)
 ·simp only[E];exact hd.own.apart
 simp only[E];exact hd.fr
def CG(x:St)(t:Nat)(e:TypeId)(sz len:Nat)(cs:List D)(S:List ak)(y:St):Prop :=
 ∃b cap,len<=cap/\cap<=maxLen/\y=⟨x.n,(t,.v (.slice (some ⟨b,0,none⟩) len cap))::x.env,⟨b,e,cap*sz,cs⟩::S⟩
theorem bp.grown (h:bp C x a w) {t g e:Nat} {row:Option Nat}
  (hS:S.Sublist x.S) (I:∀k,row=some k->k∈aq x.S/\k∉aq S) (E:w.grownBy w' row) (hg:row=some g\/g=w.heap.size) (aD:g<w'.heap.size)
  (Z:w'.heap[g]?=some (.cells cur e (0,0))) (jb:cur.size=cap*sz) (hl:cs.length<=cap*sz) (hr:∀i (h:i<cs.length),∃u,cur[i]?=some u/\bP w (live C.X x.S) cs[i] u) (hne:isMap e=false:=by rfl) :
  bp C ⟨x.n,(t,.v (.slice (some ⟨g,0,none⟩) m cap))::x.env,⟨g,e,cap*sz,cs⟩::S⟩ (a.put (some t) (.slice (some ⟨g,0,none⟩) m cap)) w'/\jz row.toList w w'/\Fr w (aq x.S) w' (aq (⟨g,e,cap*sz,cs⟩::S)):=by
 have M:(aq S).Sublist (aq x.S):=Sublist.map _ hS;have U:∀b,live C.X x.S b->b<w.heap.size:=fun b hb=>by
  rcases hb with hb|hb
  ·exact Nat.lt_of_lt_of_le (h.ex b hb).1 h.fr.size
  obtain⟨B,Y,rfl⟩:=mem_map.1 hb;exact(h.own.at_ B Y).1
 have M6:g∉aq S:=by
  rcases hg with hg|hg
  ·exact(I g hg).2
  intro hm;have:=U g (.inr (M.subset hm));omega
 have Qa:¬C.X g:=fun hx=>by
  rcases hg with hg|hg
  ·exact h.rB g hx (I g hg).1
  have:=U g (.inl hx);omega
 have O:g<w.heap.size->g∈aq x.S:=fun aD=>by
  rcases hg with hg|hg
  ·exact(I g hg).1
  omega
 have H:∀b,b<w.heap.size->¬live C.X x.S b->w'.heap[b]?=w.heap[b]?/\¬live C.X (⟨g,e,cap*sz,cs⟩::S) b:=fun b hb hn=>by
  refine⟨E.block b hb (fun hm=>hn (.inr (I b hm.symm).1)),fun hl=>?_⟩;rcases hl with hl|hl
  ·exact hn (.inl hl)
  simp only[aq,map_cons,mem_cons] at hl;rcases hl with hl|hl
  ·subst hl;exact hn (.inr (O hb))
  exact hn (.inr (M.subset hl))
 have base:bp C ⟨x.n,x.env,⟨g,e,cap*sz,cs⟩::S⟩ a w':=by
  refine⟨h.defers,h.size,fun t ht=>(h.env t ht).mono H,⟨fun B Y=>?_,?_⟩,?_,h.ex,h.dx⟩
  ·rcases mem_cons.1 Y with rfl|Y
   ·refine⟨aD,cur,Z.trans (by rw[jl hne]),jb,hl,fun i hi=>?_⟩;obtain⟨u,hu,hq⟩:=hr i hi;exact⟨u,hu,hq.mono H⟩
   obtain⟨r0,pG,r1,r2,r3,r4⟩:=h.own.at_ B (hS.subset Y);have tG:B.b∈aq S:=mem_map.2 ⟨B,Y,rfl⟩;have hh:=E.block B.b r0 (fun hm=>(I B.b hm.symm).2 tG);refine⟨kS r0 hh,pG,hh.trans r1,r2,r3,fun i hi=>?_⟩;obtain⟨u,hu,hq⟩:=r4 i hi;exact⟨u,hu,hq.mono H⟩
  ·show(g::aq S).Nodup;exact nodup_cons.2 ⟨M6,h.own.apart.sublist M⟩
  refine⟨E.os.trans h.fr.os,E.tape.trans h.fr.tape,E.output.trans h.fr.output,Nat.le_trans h.fr.size E.size,fun b hb hn=>?_⟩;obtain⟨q1,q2⟩:=h.fr.block b hb hn;have jd:=Nat.lt_of_lt_of_le hb h.fr.size;refine⟨(E.block b jd (fun hm=>q2 (I b hm.symm).1)).trans q1,fun hm=>?_⟩;simp only[aq,map_cons,mem_cons] at hm;rcases hm with hm|hm
  ·subst hm;exact q2 (O jd)
  exact q2 (M.subset hm)
 refine⟨base.put (.v _),⟨E.size,fun b hb hn=>E.block b hb (fun hm=>hn (by rw[<-hm];simp))⟩,⟨E.os,E.tape,E.output,E.size,fun b hb hn=>?_⟩⟩;refine⟨E.block b hb (fun hm=>hn (I b hm.symm).1),fun hm=>?_⟩;simp only[aq,map_cons,mem_cons] at hm;rcases hm with hm|hm
 ·subst hm;exact hn (O hb)
 exact hn (M.subset hm)
theorem uF {s:Operand} {t:Nat} {I:Value} (ho:o.op = .call {callee:=.builtin .append,args:=#[s,y],argTypes:=#[t,t]}) (hs:a.eval s=v) (hy:a.eval y=u)
  (E:(Builtin.append_ #[t,t] o.type #[v,u]).run P w = .ok I w'):(execOp a.eval o).run P w = .ok (.value I) w':=by
 unfold execOp;simp[ho,resolve,invoke,builtin,hs,hy,E]
theorem sw{e:Nat}{z:Value}(hi:(P.info? e).map (fun i=>(i.zero,i.size,i.bytes))=some (some z,sz,bytes)):∃i,P.info? e=some i/\i.zero=some z/\i.size=sz/\i.bytes=bytes:=by
 cases h:P.info? e with
 | none=>simp[h] at hi
 | some i=>simp[h] at hi;exact⟨i,rfl,hi⟩
theorem BI {s:Operand} {t e k:Nat} {z:Value} (ho:o.op = .call {callee:=.builtin .append,args:=#[s,y],argTypes:=#[t,t]}) (hd:o.dst=some tt)
  (ht:P.underlying t=some (.slice e)) (hi:(P.info? e).map (fun i=>(i.zero,i.size,i.bytes))=some (some z,sz,bytes)) (dy:z.cells.size=sz) (jb:0<sz)
  (hs:aO x s = .v (.slice (some ⟨b,0,none⟩) n cap)) (hk:x.S[k]?=some B) (hb:B.b=b) (he:B.e=e) (Pe:B.size=cap*sz) (hl:B.cs.length=n*sz) (hn:n<=cap) (O:cap<=maxLen)
  (hy:aO x y = .list sz cs m) (U:∀d∈cs,one d=true) (hm:0<m) (kH:n+m<=maxLen) (I:(n+m)*bytes<=140737488355328) (hne:isMap B.e=false:=by rfl) :
  e8 P G x o [b] (CG x tt e sz (n+m) (B.cs++cs) (x.S.eraseIdx k)):=fun C a w K Q hG h hK=>by
 subst hb he;obtain⟨i,lU,nI,rC,nJ⟩:=sw hi;obtain⟨r0,cur,r1,r2,r3,r4⟩:=h.eK hk;rw[jl hne] at r1;have hr:=h.eval y;rw[hy] at hr;generalize hg:a.eval y=u at hr;cases hr with
 | jv=>omega
 | list _ _ _ b' o' E f j5 q1 q2 jd hL hc Y =>
  have Z:w.ownsRow 0 B.e sz (.slice (some ⟨B.b,0,none⟩) n cap) n (cur.toList.take (n*sz)) :=
   ⟨by simp;omega,.inr ⟨B.b,cap,cur,rfl,Nat.zero_le _,r1,hn,O,by omega,rfl⟩⟩
  obtain⟨v',w',mz,h2,h3,_,h5⟩:=run_append_own_at (P:=P) w 0 t o.type B.e i z sz bytes ht lU nI rC nJ dy jb _ n _ Z ⟨b',o',none⟩ m E ((range cs.length).map f) (by simp[j5]) (fun j u hu=>by
    rw[Addr.add_mid];obtain⟨hj,he⟩:=List.getElem?_eq_some_iff.1 hu;simp only[length_map,length_range] at hj;rw[hc j hj,<-he];simp) (fun u hu=>by
    obtain⟨j,hj,rfl⟩:=mem_map.1 hu;have pX:=mem_range.1 hj;exact(Y j pX).one_cell (U _ (getElem_mem pX))) kH I (Nat.zero_le _)
  obtain⟨g,nC,rfl,_,aD⟩:=h2.form w7;have h6:(Value.slice (some ⟨B.b,0,none⟩) n cap).ownBlock=some g\/g=w.heap.size:=by
   rcases h5 with h5|h5
   ·exact .inl (by rw[<-h5];rfl)
   right;simpa[Value.ownBlock] using h5
  obtain⟨_,h2⟩:=h2;rcases h2 with ⟨h2,_⟩|⟨g',E,pG,e1,_,e2,e3,e4,e5,e6⟩
  ·cases h2
  have Ai:g=g'/\nC=E:=(by simpa using e1)
  obtain⟨rfl,rfl⟩:=Ai;have hlen:(B.cs++cs).length=(n+m)*sz:=(by rw[length_append,hl,j5,Nat.add_mul])
  have M7:(n+m)*sz<=nC*sz:=Nat.mul_le_mul_right _ e3;have Lm:∀i,i<(n+m)*sz->pG[i]?=(cur.toList.take (n*sz)++(range cs.length).map f)[i]?:=fun i hi=>by
   rw[<-e6,getElem?_take_of_lt hi,Array.getElem?_toList]
  obtain⟨s1,s2,s3⟩:=h.grown (t:=tt) (m:=n+m) (e:=B.e) (sz:=sz) (S:=x.S.eraseIdx k) (cs:=B.cs++cs) (row:=some B.b) (g:=g) (cap:=nC) (eraseIdx_sublist _ _) (fun k' rD=>by
    have:B.b=k':=(by simpa using rD)
    subst this;refine⟨mem_map.2 ⟨B,mem_of_getElem? hk,rfl⟩,fun hm=>?_⟩;have hp:(aq x.S).Perm (B.b::aq (x.S.eraseIdx k)):=(by have:=(r8 hk).map ak.b;simpa[aq] using this)
    exact(nodup_cons.1 (hp.nodup_iff.1 h.own.apart)).1 hm) h3 h6 aD e2 e5 w7 (fun i hi=>by
    rw[hlen] at hi;rw[Lm i hi];by_cases Aj:i<n*sz
    ·obtain⟨u,hu,hq⟩:=r4 i w7;refine⟨u,?_,?_⟩
     ·rw[getElem?_append_left ee,getElem?_take_of_lt Aj,Array.getElem?_toList,hu]
     rw[getElem_append_left w7];exact hq
    have M:i-n*sz<cs.length:=(by rw[j5];rw[Nat.add_mul] at hi;omega)
    refine⟨f (i-n*sz),?_,?_⟩
    ·rw[getElem?_append_right ee];have:(cur.toList.take (n*sz)).length=n*sz:=(by simp;omega)
     rw[this];simp[M]
    rw[getElem_append_right w7];have:=Y (i-n*sz) M;simp only[hl];exact this) hne
  unfold Oper.wp;rw[uF (P:=P) ho (h.flat hs) hg mz,Oper.upon_value,hd];exact hK _ _ _ ⟨g,nC,e3,e4,rfl⟩ s1 s2 s3
theorem Bt {s:Operand} {t e:Nat} {z:Value} (ho:o.op = .call {callee:=.builtin .append,args:=#[s,y],argTypes:=#[t,t]}) (hd:o.dst=some tt)
  (ht:P.underlying t=some (.slice e)) (hi:(P.info? e).map (fun i=>(i.zero,i.size,i.bytes))=some (some z,sz,bytes)) (dy:z.cells.size=sz) (jb:0<sz)
  (hs:aO x s = .v (.slice none 0 0)) (hy:aO x y = .list sz cs m) (M:∀d∈cs,one d=true) (hm:0<m) (kH:m<=maxLen) (I:m*bytes<=140737488355328) (hne:isMap e=false:=by rfl) :
  e8 P G x o [] (CG x tt e sz m cs x.S):=fun C a w K Q hG h hK=>by
 obtain⟨i,lU,nI,rC,nJ⟩:=sw hi;have hr:=h.eval y;rw[hy] at hr;generalize hg:a.eval y=u at hr;cases hr with
 | jv=>omega
 | list _ _ _ b' o' E f j5 q1 q2 jd hL hc O =>
  have U:w.ownsRow 0 e sz (.slice none 0 0) 0 []:=⟨by simp,.inl ⟨rfl,rfl⟩⟩
  obtain⟨v',w',mz,h2,h3,_,Y⟩:=run_append_own_at (P:=P) w 0 t o.type e i z sz bytes ht lU nI rC nJ dy jb _ 0 _ U ⟨b',o',none⟩ m E ((range cs.length).map f) (by simp[j5]) (fun j u hu=>by
    rw[Addr.add_mid];obtain⟨hj,he⟩:=List.getElem?_eq_some_iff.1 hu;simp only[length_map,length_range] at hj;rw[hc j hj,<-he];simp) (fun u hu=>by
    obtain⟨j,hj,rfl⟩:=mem_map.1 hu;have Z:=mem_range.1 hj;exact(O j Z).one_cell (M _ (getElem_mem Z))) (by rw[Nat.zero_add];exact kH) (by rw[Nat.zero_add];exact I) (Nat.zero_le _)
  simp only[Nat.zero_add,nil_append] at h2;obtain⟨g,nC,rfl,_,aD⟩:=h2.form w7;have h6:(none:Option Nat)=some g\/g=w.heap.size:=by
   rcases Y with Y|Y
   ·simp[Value.ownBlock] at Y
   right;simpa[Value.ownBlock] using Y
  obtain⟨_,h2⟩:=h2;rcases h2 with ⟨h2,_⟩|⟨g',E,pG,e1,_,e2,e3,e4,e5,e6⟩
  ·cases h2
  have Ai:g=g'/\nC=E:=(by simpa using e1)
  obtain⟨rfl,rfl⟩:=Ai;have M7:m*sz<=nC*sz:=Nat.mul_le_mul_right _ e3;obtain⟨s1,s2,s3⟩:=h.grown (t:=tt) (m:=m) (e:=e) (sz:=sz) (S:=x.S) (cs:=cs) (row:=none) (g:=g) (cap:=nC) (Sublist.refl _) (fun k' rD=>by cases rD) h3 h6 aD e2 e5 w7 (fun i hi=>by
    refine⟨f i,?_,O i hi⟩;have:pG[i]?=((range cs.length).map f)[i]?:=(by rw[<-e6,getElem?_take_of_lt w7,Array.getElem?_toList])
    rw[this];simp[hi]) hne
  unfold Oper.wp;rw[uF (P:=P) ho (h.flat hs) hg mz,Oper.upon_value,hd];exact hK _ _ _ ⟨g,nC,e3,e4,rfl⟩ s1 s2 s3
theorem Bu {s:Operand} {t e:Nat} (ho:o.op = .call {callee:=.builtin .append,args:=#[s,y],argTypes:=#[t,t]})
  (M:∀w,(underlying t).run P w = .ok (.slice e) w) (E:∀w,(sizeOf e).run P w = .ok sz w) (hs:aO x s = .v (.slice ad n cap)) (hn:n<=cap) (hy:aO x y = .list sz cs 0):bH P G x o .none (.v (.slice ad n cap)):=fun C a w _ h=>by
 refine⟨_,.v _,fun w' _=>?_⟩;have hr:=h.eval y;rw[hy] at hr;generalize hg:a.eval y=u at hr;refine uF (P:=P) ho (h.flat hs) hg ?_;have O:n+0<=cap:=hn;cases hr with
 | jv _ I Ln=>cases I<;>cases ad<;>simp[Builtin.append_,M,E,Builtin.lenOf,Builtin.firstCells,storeCells,loadCells,loadCellsFrom,hn,Nat.not_lt.2 hn]
 | list _ _ _ b' o' Ln f j5 q1 q2 jd hL hc U=>cases ad<;>simp[Builtin.append_,M,E,Builtin.lenOf,Builtin.firstCells,storeCells,loadCells,loadCellsFrom,hn,Nat.not_lt.2 hn]
end
section
variable {g t n id:Nat} {E b:Bool} {d:D} {r l':List (Nat×D)} {S':List ak} {c e:Code} {ds:List D} {fn:Func} {L:Nat->Prop} {r1:ResultVar}
def LQ(C:cj)(Q:Exit->St->Prop):Exit->Act->World->Prop:=fun e a w=>(∃y,bp C y a w/\Q e y)\/(e = .ret/\C.mK a w)
def CD(P:Program)(C:cj)(c:Code)(x:St)(Q:Exit->St->Prop):Prop:=∀a w,bp C x a w->c.wp P (LQ C Q) a w
def OD(P:Program)(C:cj)(ops:Array Oper)(l:List Oper)(x:St)(Q:Exit->St->Prop):Prop:=∀a w,bp C x a w->wpList P ops (LQ C Q) l a w
variable {P:Program} {C:cj} {Q:Exit->St->Prop} {x y:St} {ops:Array Oper} {l:List Oper} {o:Oper}
def bS(ops:Array Oper)(x:St)(o:Oper)(b:Bool):Prop:=∀C a w,bp C x a w->Region.wanted o (yielded ops a.tmps)=b
theorem mc(h:o.guard=none):bS ops x o true:=fun C a w _=>by simp[Region.wanted,h]
theorem Cb(h:o.guard=some (g,E))(hg:(ops[g]?).bind (·.dst)=some t)(ht:t<x.n)(hb:look t x.env = .v (.bool b)):bS ops x o (b==E):=fun C a w hs=>by
 have I:=hs.env t ht;rw[hb] at I;have I:=I.gu;have M:=hs.size;have:a.tmps[t]?=some (.bool b):=by
  rw[Array.getD_eq_getD_getElem?,Array.getElem?_eq_getElem w7] at I;rw[Array.getElem?_eq_getElem w7];simpa using I
 simp only[Region.wanted,h,yielded,hg,Option.bind_some,this];cases b<;>cases E<;>rfl
theorem jQ:look t ((t,d)::r)=d:=by rw[ey,if_pos rfl]
theorem kV{d':D}(h:d=d'):look t ((t,d)::r)=d':=by rw[ey,if_pos rfl,h]
theorem jO{i:Nat}{d':D}(h:Nat.beq i t=false)(k:look t r=d'):look t ((i,d)::r)=d':=by rw[look,h];exact k
theorem aN{v:Value}{x:St}:aO x (.const v) = .v v:=rfl
theorem nh{f:FuncId}{x:St}:aO x (.func f) = .dQ (.func f) []:=rfl
theorem mh{x:St}:aO x (.global g) = .v (.pointer (some ⟨g,0,none⟩)):=rfl
theorem po{x:St}(h:Nat.blt t x.n=true)(k:look t x.env=d):aO x (.tmp t)=d:=by simp only[aO,h,k];rfl
theorem lk{l:List (Nat×D)}(h:look t l=d:=by (repeat (first|exact jQ|(apply jO;focus rfl)|exact look_nil));first|done|fail):look t l=d:=h
theorem ot{x:St}(h:Nat.blt t x.n=true:=by exact rfl)(k:look t x.env=d:=by (repeat (first|exact jQ|(apply jO;focus rfl)|exact look_nil));first|done|fail):aO x (.tmp t)=d:=po h k
def gG(l:List (Nat×D)):List (Nat×D)->Prop
 | []=>True
 | (i,d)::r=>look i l=d/\gG l r
theorem gG.look{l:List (Nat×D)}:∀{l':List (Nat×D)},gG l l'->∀t,V.look t l'=V.look t l\/V.look t l' = .cx
 | [],_,t=>.inr rfl
 | (i,d)::r,h,t=>by
  rw[ey];by_cases e:i=t
  ·subst e;rw[if_pos rfl];exact .inl h.1.symm
  rw[if_neg e];exact h.2.look t
theorem Wk.gH{l:List (Nat×D)}{S:List ak}(h:gG l l'):Wk ⟨n,l,S⟩ ⟨n,l',S⟩:=fun C a w hs =>
 ⟨hs.defers,hs.size,fun t ht=>by
  rcases h.look t with e|e
  ·simp only[e];exact hs.env t ht
  simp only[e];exact .cx _,hs.own,hs.fr,hs.ex,hs.dx⟩
theorem Wk.aR{x:St}(hn:x.n=n)(hS:x.S=S')(h:gG x.env l'):Wk x ⟨n,l',S'⟩:=by
 obtain⟨n0,l0,S0⟩:=x;simp only at hn hS h;subst hn hS;exact Wk.gH h
theorem Wk.bI{x:St}(hn:x.n=n)(hS:S'.Sublist x.S)(h:gG x.env l'):Wk x ⟨n,l',S'⟩:=by
 obtain⟨n0,l0,S0⟩:=x;simp only at hn hS h;subst hn;exact(Wk.drop n0 l0 S0 S' hS).trans (Wk.gH h)
theorem pp{ops:Array Oper}{x:St}{o:Oper}(h:o.guard=some (g,E))(hg:(ops[g]?).bind (·.dst)=some t)(ht:Nat.blt t x.n=true)(hb:look t x.env = .v (.bool b))(hw:b=E):bS ops x o true:=by
 have:=Cb h hg (Nat.le_of_ble_eq_true ht) hb;rw[hw] at this;simpa using this
theorem cz{ops:Array Oper}{x:St}{o:Oper}(h:o.guard=some (g,E))(hg:(ops[g]?).bind (·.dst)=some t)(ht:Nat.blt t x.n=true)(hb:look t x.env = .v (.bool b))(hw:b = !E):bS ops x o false:=by
 have:=Cb h hg (Nat.le_of_ble_eq_true ht) hb;rw[hw] at this;cases E<;>simpa using this
theorem yl{ops:Array Oper}{x:St}{o:Oper}{b:Bool}(h:o.guard=some (g,E))(hg:(ops[g]?).bind (·.dst)=some t)(ht:Nat.blt t x.n=true)(hb:look t x.env = .v (.tuple #[])):bS ops x o false:=fun C a w hs=>by
 have I:=hs.env t (Nat.le_of_ble_eq_true ht);rw[hb] at I;have I:=I.gu;have M:=hs.size;have O:t<x.n:=Nat.le_of_ble_eq_true ht;have:a.tmps[t]?=some (.tuple #[]):=by
  rw[Array.getD_eq_getD_getElem?,Array.getElem?_eq_getElem w7] at I;rw[Array.getElem?_eq_getElem w7];simpa using I
 simp only[Region.wanted,h,yielded,hg,Option.bind_some,this];cases E<;>rfl
theorem bi(h:Q .normal x):OD P C ops [] x Q:=fun a w hs=>.inl ⟨x,hs,h⟩
theorem OD.fh{W:List Nat}{post:St->Prop}(hw:bS ops x o true)(h:e8 P C.G x o W post)(k:∀y,post y->OD P C ops l y Q):OD P C ops (o::l) x Q:=fun a w hs=>by
 unfold wpList;rw[if_pos (hw C a w hs)];exact .inl (h C a w _ _ rfl hs fun y I w' hp E _ _=>k y hp I w' E)
theorem gE{kd:Rd}(hw:bS ops x o true)(hd:o.dst=some t)(h:bH P C.G x o kd d)(k:OD P C ops l (x.put t d) Q):OD P C ops (o::l) x Q :=
 OD.fh hw (h.fh hd) fun y hy=>by subst hy;exact k
theorem ym(hw:bS ops x o false)(hd:o.dst=some t)(k:OD P C ops l (x.put t (.v (.tuple #[]))) Q):OD P C ops (o::l) x Q:=fun a w hs=>by
 unfold wpList;rw[if_neg (by rw[hw C a w hs];simp),hd];exact k _ _ (hs.put (.v _))
theorem bc(h:Wk x y)(k:OD P C ops l y Q):OD P C ops l x Q:=fun a w hs=>k a w (h C a w hs)
theorem gS(h:Wk x y)(k:CD P C c y Q):CD P C c x Q:=fun a w hs=>k a w (h C a w hs)
theorem CD.mono{E:Exit->St->Prop}(h:CD P C c x Q)(k:∀e y,Q e y->E e y):CD P C c x E:=fun a w hs =>
 wp_mono (h a w hs) fun e I w' h=>h.imp (fun ⟨y,h1,h2⟩=>⟨y,h1,k e y h2⟩) id
theorem aS(h:Q .normal x):CD P C .skip x Q:=fun a w hs=>wp_skip (.inl ⟨x,hs,h⟩)
theorem aI(h:Q .ret x):CD P C .ret x Q:=fun a w hs=>wp_ret (.inl ⟨x,hs,h⟩)
theorem ep(h:Q (.exit id) x):CD P C (.exit id) x Q:=fun a w hs=>wp_exit (.inl ⟨x,hs,h⟩)
def sV(P:Program)(C:cj)(c:Code)(Q:Exit->St->Prop):Exit->St->Prop
 | .normal,y=>CD P C c y Q
 | e,y=>Q e y
theorem aC{d:Code}(h:CD P C c x (sV P C d Q)):CD P C (.seq c d) x Q:=fun a w hs =>
 wp_seq (wp_mono (h a w hs) fun e E w' h=>by
  rcases h with ⟨y,h1,h2⟩|⟨rfl,h⟩
  ·cases e<;>first|exact h2 E w' h1|exact .inl ⟨y,h1,h2⟩
  exact .inr ⟨rfl,h⟩)
theorem aV{l:List Oper}(h:OD P C l.toArray l x Q):CD P C (.region id l.toArray false) x Q:=fun a w hs=>wp_region_lit (h a w hs)
theorem aM{c:Operand}{d:Code}(hc:aO x c = .v (.bool b))(ht:b=true->CD P C d x Q)(hf:b=false->CD P C e x Q):CD P C (.cond c d e) x Q:=fun a w hs =>
 wp_cond_split (hs.flat hc) (fun h=>ht h a w hs) (fun h=>hf h a w hs)
theorem fe{c:Operand}{d:Code}(hc:aO x c = .v (.bool b))(hb:b=true)(ht:CD P C d x Q):CD P C (.cond c d e) x Q:=fun a w hs =>
 wp_cond_true (by rw[hs.flat hc,hb]) (ht a w hs)
theorem iG{c:Operand}{d:Code}(hc:aO x c = .v (.bool b))(hb:b=false)(hf:CD P C e x Q):CD P C (.cond c d e) x Q:=fun a w hs =>
 wp_cond_false (by rw[hs.flat hc,hb]) (hf a w hs)
def M8(Inv:St->Prop)(Q:Exit->St->Prop):Exit->St->Prop
 | .normal,y=>∃z,Wk y z/\Inv z
 | e,y=>Q e y
theorem nv{d:Code}(E:St->Prop)(h1:CD P C c x (M8 E Q))(h2:∀z,E z->CD P C d z Q):CD P C (.seq c d) x Q :=
 aC (CD.mono h1 fun e y h=>by cases e<;>first|(obtain⟨z,hw,hz⟩:=h;exact gS hw (h2 z hz))|exact h)
def CH(id:Nat)(Q:Exit->St->Prop):Exit->St->Prop
 | .exit rE,y=>bif Nat.beq rE id then Q .normal y else Q (.exit rE) y
 | e,y=>Q e y
theorem bZ(h:CD P C c x (CH id Q)):CD P C (.block id c) x Q:=fun a w hs =>
 wp_block (wp_mono (h a w hs) fun e E w' h=>by
  rcases h with ⟨y,h1,h2⟩|⟨rfl,h⟩
  case inr=>exact .inr ⟨rfl,h⟩
  cases e with
  | exit rE =>
   simp only[CH] at h2;simp only[Exit.inBlock];by_cases he:rE=id
   ·subst he;rw[if_pos rfl];simp at h2;exact .inl ⟨y,h1,h2⟩
   rw[if_neg he];have:Nat.beq rE id=false:=by
    cases h:Nat.beq rE id with
    | false=>rfl
    | true=>exact absurd (Nat.eq_of_beq_eq_true h) he
   rw[this] at h2;exact .inl ⟨y,h1,h2⟩
  | _=>exact .inl ⟨y,h1,h2⟩)
theorem least(p:Nat->Prop)(h:∃n,p n):∃n,p n/\∀m,p m->n<=m:=by
 obtain⟨n,hn⟩:=h;induction n using Nat.strongRecOn with
 | _ n ih =>
  by_cases hq:∃m,m<n/\p m
  ·obtain⟨m,hm,hp⟩:=hq;exact ih m hm hp
  exact⟨n,hn,fun m hm=>Nat.le_of_not_lt fun aD=>hq ⟨m,aD,hm⟩⟩
def vl{ι:Type}(I:ι->St->Prop)(μ:ι->Nat)(i:ι)(Q:Exit->St->Prop):Exit->St->Prop
 | .normal,y=>∃j z,μ j < μ i/\Wk y z/\I j z
 | e,y=>Q e y
open Classical in
theorem CJ{ι:Type}(I:ι->St->Prop)(μ:ι->Nat)(i:ι)(h0:I i x)(round:∀i y,I i y->CD P C c y (vl I μ i Q)):CD P C (.loop c) x Q:=fun a w hs=>by
 let p:Act->World->Nat->Prop:=fun a w n=>∃i y,μ i=n/\I i y/\bp C y a w
 let m:Act->World->Nat:=fun a w=>if h:∃n,p a w n then Classical.choose (least _ h) else 0
 refine wp_loop (fun a w=>∃n,p a w n) m ⟨_,i,x,rfl,h0,hs⟩ fun a w O=>?_;have hm:m a w=Classical.choose (least _ O):=dif_pos O;obtain⟨⟨i,y,h1,h2,h3⟩,_⟩:=Classical.choose_spec (least _ O);rw[<-hm] at h1;refine wp_mono (round i y h2 a w h3) fun e M w' h=>?_;rcases h with ⟨z,q1,q2⟩|⟨rfl,h⟩
 case inr=>exact .inr ⟨rfl,h⟩
 cases e with
 | normal =>
  obtain⟨j,z',r1,r2,Y⟩:=q2;have hp:p M w' (μ j):=⟨j,z',rfl,Y,r2 C M w' q1⟩
  have E:∃n,p M w' n:=⟨_,hp⟩
  have U:m M w'=Classical.choose (least _ E):=dif_pos E;refine⟨E,?_⟩;have:=(Classical.choose_spec (least _ E)).2 _ hp;rw[U];omega
 | _=>exact .inl ⟨z,q1,q2⟩
def vt(tmps:Array Value):ResultVar->Sem Value
 | .tmp t=>pure (tmps.getD t undef)
 | .cell a t=>do loadVar t (<-asAddr (tmps.getD a undef))
theorem xz(fn:Func)(tmps:Array Value):results fn tmps=(do let vs <-fn.results.mapM (vt tmps);pure (if h:vs.size=1 then vs[0] else .tuple vs)):=rfl
def lV(P:Program)(y:St)(rv:ResultVar)(d:D):Prop :=
 ∀C a w,bp C y a w->∃v,bP w (live C.X y.S) d v/\(vt a.tmps rv).run P w = .ok v w
theorem cw(ht:t<y.n)(hd:look t y.env=d):lV P y (.tmp t) d:=fun C a w h=>⟨_,hd ▸ h.env t ht,rfl⟩
theorem hU{c k b:Nat}{B:ak}(hc:c<y.n)(hd:look c y.env = .v (.pointer (some ⟨b,0,none⟩)))(hk:y.S[k]?=some B)(hb:B.b=b)(ha:∀w,(isAgg t).run P w = .ok false w)(cL:B.cs=[d])(hne:isMap B.e=false:=by rfl):lV P y (.cell c t) d:=fun C a w h=>by
 subst hb;have he:=h.env c hc;rw[hd] at he;obtain⟨_,cur,h1,h2,h3,h4⟩:=h.eK hk;rw[jl hne] at h1;obtain⟨u,hu,hr⟩:=h4 0 (by simp[cL]);refine⟨u,by simpa[cL] using hr,?_⟩;simp only[vt,he.gu,asAddr,Sem.run_bind,Sem.run_pure,Result.andThen_ok];have:=uJ (P:=P) (t:=t) (w:=w) ha (ng h1 hu);simpa[Instr.loadAt,Instr.sureAddr] using this
theorem di{c k b:Nat}{B:ak}(hc:c<y.n)(hd:look c y.env = .v (.pointer (some ⟨b,0,none⟩)))(hk:y.S[k]?=some B)(hb:B.b=b)(ha:∀w,(isAgg t).run P w = .ok true w)(hn:∀w,(sizeOf t).run P w = .ok n w)(cL:B.cs=ds)(hl:ds.length=n)(hne:isMap B.e=false:=by rfl):lV P y (.cell c t) (.agg ds):=fun C a w h=>by
 subst hb cL;have he:=h.env c hc;rw[hd] at he;obtain⟨_,cur,h1,h2,h3,h4⟩:=h.eK hk;rw[jl hne] at h1;refine⟨.agg ((range n).map fun j=>cur.getD j undef).toArray,.agg _ _ (by simp[hl]) (fun i q1 q2=>?_),?_⟩
 ·obtain⟨u,hu,hr⟩:=h4 i q1;simp only[getElem_map,getElem_range,Array.getD_eq_getD_getElem?,hu,Option.getD_some];exact hr
 simp only[vt,he.gu,asAddr,Sem.run_bind,Sem.run_pure,Result.andThen_ok];have:=uK (P:=P) (t:=t) (w:=w) (b:=B.b) (o':=0) (vs:=(range n).map fun j=>cur.getD j undef) ha hn cq (fun j hj=>by
  simp only[length_map,length_range] at hj;obtain⟨u,hu,_⟩:=h4 j w7;simp only[getElem_map,getElem_range,Array.getD_eq_getD_getElem?,hu,Option.getD_some,Nat.zero_add];exact ng h1 hu)
 simpa[Instr.loadAt,Instr.sureAddr] using this
def iA(P:Program)(fn:Func)(y:St)(r:D):Prop:=∀C a w,bp C y a w->∃v,bP w (live C.X y.S) r v/\(results fn a.tmps).run P w = .ok v w
theorem eM(hr:fn.results = #[]):iA P fn y (.dK []):=fun C a w h =>
 ⟨.tuple #[],.dK [] [] rfl (fun i h1 _=>by simp at h1),by unfold results;simp[hr]⟩
theorem eC{rv:ResultVar}(hr:fn.results = #[rv])(h:lV P y rv d):iA P fn y d:=fun C a w hs=>by
 obtain⟨v,h1,h2⟩:=h C a w hs;refine⟨v,h1,?_⟩;rw[xz,hr];simp[h2]
theorem CK{w:World}{vs:List Value}(h:bX w L ds vs):bP w L (.dK ds) (.tuple vs.toArray):=.dK ds vs h.1 h.2
theorem bX.cons{w:World}{v:Value}{vs:List Value}(h:bP w L d v)(hs:bX w L ds vs):bX w L (d::ds) (v::vs) :=
 ⟨by simp[hs.1],fun i h1 h2=>by
  cases i with
  | zero=>exact h
  | succ i=>exact hs.2 i _ _⟩
theorem bX.nil(w:World)(L:Nat->Prop):bX w L [] []:=⟨rfl,fun i h=>by simp at h⟩
theorem kp{E:ResultVar}{d1 d2:D}(hr:fn.results = #[r1,E])(h1:lV P y r1 d1)(h2:lV P y E d2):iA P fn y (.dK [d1,d2]):=fun C a w hs=>by
 obtain⟨v1,a1,b1⟩:=h1 C a w hs;obtain⟨v2,a2,b2⟩:=h2 C a w hs;refine⟨_,CK (.cons a1 (.cons a2 (.nil _ _))),?_⟩;rw[xz,hr];simp[b1,b2]
theorem gm{E I:ResultVar}{d1 d2 M:D}(hr:fn.results = #[r1,E,I])(h1:lV P y r1 d1)(h2:lV P y E d2)(O:lV P y I M):iA P fn y (.dK [d1,d2,M]):=fun C a w hs=>by
 obtain⟨v1,a1,b1⟩:=h1 C a w hs;obtain⟨v2,a2,b2⟩:=h2 C a w hs;obtain⟨v3,a3,b3⟩:=O C a w hs;refine⟨_,CK (.cons a1 (.cons a2 (.cons a3 (.nil _ _)))),?_⟩;rw[xz,hr];simp[b1,b2,b3]
def Body(P:Program)(fn:Func)(post:D->List ak->Prop)(e:Exit)(y:St):Prop :=
 (e = .normal\/e = .ret)/\∃r S',S'.Sublist y.S/\iA P fn y r/\post r S'
def iL:Nat->List D->List (Nat×D)
 | _,[]=>[]
 | i,d::r=>(i,d)::iL (i+1) r
theorem oY:∀(ds:List D) (i t:Nat),look t (iL i ds)=if i<=t then ds.getD (t-i) .cx else .cx
 | [],i,t=>by simp[iL,look]
 | d::r,i,t=>by
  rw[iL,ey,oY r (i+1) t];by_cases h:i=t
  ·subst h;simp
  rw[if_neg h];by_cases h2:i<=t
  ·rw[if_pos h2,if_pos w7,show t-i=(t-(i+1))+1 from by omega];simp
  rw[if_neg h2,if_neg w7]
theorem cf {G:List (Nat×List Value)} {f:FuncId} {args:List D} {S:List ak} {post:D->List ak->Prop} (hf:P.funcs[f]?=some fn) (hb:fn.body=some c) (hn:fn.ntmps=n) (hl:args.length<=n)
  (h:∀X w0 S0,CD P ⟨X,w0,S0,G,[],fun _ _=>False⟩ c ⟨n,iL 0 args,S⟩ (Body P fn post)):VC P G f args S post:=fun X w vs hp=>by
 have kG:vs.length=args.length:=hp.args.1;let C:cj:=⟨X,w,aq S,G,[],fun _ _=>False⟩
 have I:bp C ⟨n,iL 0 args,S⟩ {tmps:=vs.toArray++Array.replicate (fn.ntmps-vs.toArray.size) undef,defers:=[]} w:=by
  refine⟨rfl,by simp[hn];omega,fun t ht=>?_,hp.own,Fr.refl _ _,hp.ex,hp.dx⟩;simp only[oY,Nat.zero_le,if_true,Nat.sub_zero];by_cases aD:t<args.length
  ·have O:args.getD t .cx=args[t]:=(by simp[getD,aD])
   have e2:(vs.toArray++Array.replicate (fn.ntmps-vs.toArray.size) undef).getD t undef=vs[t]'w7:=by
    rw[Array.getD_eq_getD_getElem?,Array.getElem?_append_left ee];simp[show t<vs.length by omega]
   rw[O,e2];exact hp.args.2 t aD w7
  have O:args.getD t .cx = .cx:=(by simp[getD,getElem?_eq_none (show args.length<=t by omega)])
  rw[O];exact .cx _
 refine calls_of_wp hf hb (wp_mono (h _ _ _ _ _ I) fun e a w' h=>?_);rcases h with ⟨y,h1,h2,r,S',Y,h4,h5⟩|⟨_,h⟩
 case inr=>exact h.elim
 obtain⟨v,q1,q2⟩:=h4 C a w' h1;have E:(aq S').Sublist (aq y.S):=Sublist.map _ Y;have U:a.defers=[]/\∃v,(results fn a.tmps).run P w' = .ok v w'/\∃Z r S',Ending.returned v = .returned Z/\post r S'/\Own w' (live X S') S'/\bP w' (live X S') r Z/\Fr w (aq S) w' (aq S') :=
  ⟨h1.defers,v,q2,v,r,S',rfl,h5,h1.own.sub Y,q1.mono fun b _ hn=>⟨rfl,fun hl=>hn (hl.imp id fun q=>E.subset q)⟩,
   ⟨h1.fr.os,h1.fr.tape,h1.fr.output,h1.fr.size,fun b M hn=>⟨(h1.fr.block b M hn).1,fun q=>(h1.fr.block b M hn).2 (E.subset q)⟩⟩⟩
 rcases h2 with rfl|rfl<;>exact U
end
section
variable {aP i t:Nat} {ld:Array Bool}
def gJ(w1:World)(S1 T:List Nat)(w:World):Prop:=(∀b,b<w1.heap.size->b∉S1->w.heap[b]?=w1.heap[b]?)/\∀b∈T,w.heap[b]?=w1.heap[b]?
def AD(P:Program)(C:cj)(ops:Array Oper)(S1 T:List Nat)(aP:Nat)(ld:Array Bool)(x:St)(Q:Exit->St->Prop):Prop :=
 ∀w1 a w,bp C x a w->(∀b∈T,b∈S1)->(∀b∈S1,b<w1.heap.size)->Fr w1 S1 w (aq x.S)->gJ w1 S1 T w->wpAnyH P .any ops (LQ C Q) (gJ w1 S1 T) aP ld a w
def bt(P:Program)(C:cj)(ops:Array Oper)(S1 T:List Nat)(aP:Nat)(ld:Array Bool)(x:St)(Q:Exit->St->Prop):Prop :=
 ∀a w,bp C x a w->aq x.S=S1->(∀b∈T,b∈S1)->wpAnyH P .any ops (LQ C Q) (gJ w S1 T) aP ld a w
def NP(Q:Exit->St->Prop):Prop:=∀c y t,Q (.panic c) y->Q (.panic c) (y.put t .cx)
variable {P:Program} {C:cj} {Q:Exit->St->Prop} {x y:St} {ops:Array Oper} {l:List Oper} {o:Oper} {S1 T:List Nat}
theorem NP.body{fn:Func}{post:D->List ak->Prop}:NP (Body P fn post):=fun E y t hq=>by rcases hq.1 with h|h<;>cases h
def Tl(P:Program)(C:cj)(ops:Array Oper)(l:List Oper)(Q:Exit->St->Prop):Exit->St->Prop
 | .normal,y=>OD P C ops l y Q
 | e,y=>Q e y
theorem gJ.refl(E:World)(S1 T:List Nat):gJ E S1 T E:=⟨fun _ _ _=>rfl,fun _ _=>rfl⟩
theorem bt.later(hS:aq x.S=S1)(h:AD P C ops S1 T aP ld x Q):bt P C ops S1 T aP ld x Q:=fun a w hs _ hT =>
 h w a w hs hT (fun b hb=>by
  rw[<-hS] at hb;obtain⟨B,hB,rfl⟩:=mem_map.1 hb;exact(hs.own.at_ B hB).1) (hS ▸ Fr.refl _ _) (gJ.refl _ _ _)
def Safe(x:St)(T:List Nat):Rd->Prop
 | .none=>True
 | .fA=>True
 | .eK k=>∃B,x.S[k]?=some B/\B.b∈T
theorem sL(h:NP Q)(d:Option Nat)(v:Value):∀c a w,LQ C Q (.panic c) (a.put d v) w->LQ C Q (.panic c) a w:=fun c a w hq=>by
 rcases hq with ⟨y,h1,h2⟩|⟨h2,_⟩
 ·cases d with
  | none=>exact .inl ⟨y,h1,h2⟩
  | some t =>
   refine .inl ⟨y.put t .cx,⟨h1.defers,by have E:=h1.size;simp only[Act.put,Array.size_setIfInBounds] at E;exact E,fun q hq=>?_,h1.own,h1.fr,h1.ex,h1.dx⟩,h c y t h2⟩;have I:=h1.env q hq;simp only[St.put,ey];by_cases e:t=q
   ·rw[if_pos e];exact .cx _
   rw[if_neg e];have:(a.put (some t) v).tmps.getD q undef=a.tmps.getD q undef:=(by simp[Act.put,Array.getD_eq_getD_getElem?,Array.getElem?_setIfInBounds,e])
   rw[this] at I;exact I
 cases h2
theorem bt.take {k:Rd} {d:D} (hi:ops[i]?=some o) (hs:Region.noSelect ops=true) (hf:Region.free .any ops ld i=true) (hr:(Region.ready .any ops ld).contains i=true) (hp:NP Q)
  (hw:bS ops x o true) (hd:o.dst=some t) (h:bH P C.G x o k d) (hk:Safe x T k) (K:bt P C ops S1 T aP (ld.setIfInBounds i true) (x.put t d) Q):bt P C ops S1 T (aP+1) ld x Q:=fun a w E hS hT=>by
 obtain⟨v,h1,h2⟩:=h C a w rfl E;refine wpAnyH_take hi hs hf hr (sL hp _ v) (.inl ⟨hw C a w E,fun w' I=>h2 w' ?_⟩) (gJ.refl _ _ _) ?_
 ·cases k with
  | none=>trivial
  | fA=>exact fun b hb hn=>I.1 b hb (fun hm=>hn (.inr (hS ▸ hm)))
  | eK k =>
   obtain⟨B,hB,hm⟩:=hk;intro O M;rw[hB] at M;obtain rfl:=Option.some.inj M;exact I.2 _ hm
 rw[hd];exact K _ _ (E.put h1) hS hT
theorem bt.ki (hi:ops[i]?=some o) (hs:Region.noSelect ops=true) (hf:Region.free .any ops ld i=true) (hr:(Region.ready .any ops ld).contains i=true) (hp:NP Q)
  (hw:bS ops x o false) (hd:o.dst=some t) (K:bt P C ops S1 T aP (ld.setIfInBounds i true) (x.put t (.v (.tuple #[]))) Q):bt P C ops S1 T (aP+1) ld x Q:=fun a w E hS hT=>by
 refine wpAnyH_take (v:=undef) hi hs hf hr (sL hp _ _) (.inr ⟨hw C a w E,rfl⟩) (gJ.refl _ _ _) ?_;rw[hd];exact K _ _ (E.put (.v _)) hS hT
theorem AD.take {k:Rd} {d:D} (hi:ops[i]?=some o) (hs:Region.noSelect ops=true) (hf:Region.free .any ops ld i=true) (hr:(Region.ready .any ops ld).contains i=true) (hp:NP Q)
  (hw:bS ops x o true) (hd:o.dst=some t) (h:bH P C.G x o k d) (hk:Safe x T k) (Ak:k≠.fA) (K:AD P C ops S1 T aP (ld.setIfInBounds i true) (x.put t d) Q):AD P C ops S1 T (aP+1) ld x Q:=fun Y a w E hT aD O I=>by
 obtain⟨v,h1,h2⟩:=h C a w rfl E;refine wpAnyH_take hi hs hf hr (sL hp _ v) (.inl ⟨hw C a w E,fun w' U=>h2 w' ?_⟩) I ?_
 ·cases k with
  | none=>trivial
  | fA=>exact absurd rfl Ak
  | eK k =>
   obtain⟨B,hB,hm⟩:=hk;intro Z M;rw[hB] at M;obtain rfl:=Option.some.inj M;exact(U.2 _ hm).trans (I.2 _ hm).symm
 rw[hd];exact K _ _ _ (E.put h1) hT aD O I
theorem fO (hi:ops[i]?=some o) (hs:Region.noSelect ops=true) (hf:Region.free .any ops ld i=true) (hr:(Region.ready .any ops ld).contains i=true) (hp:NP Q)
  (hw:bS ops x o false) (hd:o.dst=some t) (K:AD P C ops S1 T aP (ld.setIfInBounds i true) (x.put t (.v (.tuple #[]))) Q):AD P C ops S1 T (aP+1) ld x Q:=fun O a w E hT aD M I=>by
 refine wpAnyH_take (v:=undef) hi hs hf hr (sL hp _ _) (.inr ⟨hw C a w E,rfl⟩) I ?_;rw[hd];exact K _ _ _ (E.put (.v _)) hT aD M I
def ea(P:Program)(C:cj)(ops:Array Oper)(S1 T:List Nat)(aP:Nat)(ld:Array Bool)(x:St)(Q:Exit->St->Prop)(i:Nat):Prop :=
 ∀w1 a w,bp C x a w->(∀b∈T,b∈S1)->(∀b∈S1,b<w1.heap.size)->Fr w1 S1 w (aq x.S)->gJ w1 S1 T w ->
  wpOp P ops (LQ C Q) i (fun a' w'=>gJ w1 S1 T w'/\wpAnyH P .any ops (LQ C Q) (gJ w1 S1 T) aP (ld.setIfInBounds i true) a' w') a w
theorem AD.all{I:List Nat}(hr:Region.ready .any ops ld=I)(hne:I≠[])(h:∀i∈I,ea P C ops S1 T aP ld x Q i):AD P C ops S1 T (aP+1) ld x Q:=fun U a w E hT aD M O =>
 wpAnyH_all hr hne fun i hi=>h i hi U a w E hT aD M O
theorem aL(hr:Region.ready .any ops ld=[i])(h:ea P C ops S1 T aP ld x Q i):AD P C ops S1 T (aP+1) ld x Q :=
 AD.all hr cq fun j hj=>by
  have:j=i:=(by simpa using hj)
  subst this;exact h
theorem dY{j:Nat}(hr:Region.ready .any ops ld=[i,j])(h:ea P C ops S1 T aP ld x Q i)(h':ea P C ops S1 T aP ld x Q j):AD P C ops S1 T (aP+1) ld x Q :=
 AD.all hr cq fun k hk=>by
  simp only[mem_cons,not_mem_nil,or_false] at hk;rcases hk with rfl|rfl
  ·exact h
  exact h'
theorem xQ{j k:Nat}(hr:Region.ready .any ops ld=[i,j,k])(h:ea P C ops S1 T aP ld x Q i)(h':ea P C ops S1 T aP ld x Q j)(E:ea P C ops S1 T aP ld x Q k):AD P C ops S1 T (aP+1) ld x Q :=
 AD.all hr cq fun m hm=>by
  simp only[mem_cons,not_mem_nil,or_false] at hm;rcases hm with rfl|rfl|rfl
  ·exact h
  ·exact h'
  exact E
theorem bO(hr:Region.ready .any ops ld=[])(h:Q .normal x):AD P C ops S1 T aP ld x Q:=fun O a w E hT aD I M=>wpAnyH_done hr (.inl ⟨x,E,h⟩) _
theorem ea.fh {W:List Nat} {post:St->Prop} (hi:ops[i]?=some o) (hw:bS ops x o true) (h:e8 P C.G x o W post) (hW:∀C a w,bp C x a w->∀b∈T,b∉W) (Qb:∀b∈W,b∈aq x.S)
  (k:∀y,post y->AD P C ops S1 T aP (ld.setIfInBounds i true) y Q):ea P C ops S1 T aP ld x Q i:=fun U a w I hT aD E Y=>by
 unfold wpOp;simp only[hi,hw C a w I,if_true];refine .inl (h C a w _ _ rfl I fun y a' w' hp Z hc hf=>?_);have M:Fr U S1 w' (aq y.S):=⟨hf.os.trans E.os,hf.tape.trans E.tape,hf.output.trans E.output,Nat.le_trans E.size hf.size,fun b hb hn=>by
  obtain⟨q1,q2⟩:=E.block b hb hn;obtain⟨q3,q4⟩:=hf.block b (Nat.lt_of_lt_of_le hb E.size) q2;exact⟨q3.trans q1,q4⟩⟩
 have O:gJ U S1 T w':=⟨fun b hb hn=>(M.block b hb hn).1,fun b hb=>by
  have iP:=Nat.lt_of_lt_of_le (aD b (hT b hb)) E.size;exact(hc.2 b iP (hW C a w I b hb)).trans (Y.2 b hb)⟩
 exact⟨O,k y hp U a' w' Z hT aD M O⟩
theorem oW{kd:Rd}{d:D}(hi:ops[i]?=some o)(hw:bS ops x o true)(hd:o.dst=some t)(h:bH P C.G x o kd d)(k:AD P C ops S1 T aP (ld.setIfInBounds i true) (x.put t d) Q):ea P C ops S1 T aP ld x Q i :=
 ea.fh hi hw (h.fh hd) (fun _ _ _ _ b _ hb=>by simp at hb) (fun b hb=>by simp at hb) fun y hy=>by subst hy;exact k
theorem fm(hi:ops[i]?=some o)(hw:bS ops x o false)(hd:o.dst=some t)(k:AD P C ops S1 T aP (ld.setIfInBounds i true) (x.put t (.v (.tuple #[]))) Q):ea P C ops S1 T aP ld x Q i:=fun O a w E hT aD M I=>by
 unfold wpOp;simp only[hi,hw C a w E,hd];exact⟨I,k O _ w (E.put (.v _)) hT aD M I⟩
theorem jr(h:Wk x y)(hb:aq y.S=aq x.S)(k:AD P C ops S1 T aP ld y Q):AD P C ops S1 T aP ld x Q:=fun O a w E hT aD I M=>k O a w (h C a w E) hT aD (hb ▸ I) M
theorem sg(h:Wk x y)(hb:∀b∈aq y.S,b∈aq x.S)(k:AD P C ops S1 T aP ld y Q):AD P C ops S1 T aP ld x Q:=fun O a w I hT aD E M =>
 k O a w (h C a w I) hT aD ⟨E.os,E.tape,E.output,E.size,fun b h1 h2=>⟨(E.block b h1 h2).1,fun U=>(E.block b h1 h2).2 (hb b U)⟩⟩ M
theorem ez{id:Nat}{l:List Oper}(T:List Nat)(hm:P.follows .mixedOrders=true)(hT:∀b∈T,b∈aq x.S)(h:bt P C l.toArray (aq x.S) T l.toArray.size (Array.replicate l.toArray.size false) x Q):CD P C (.region id l.toArray true) x Q:=fun a w hs =>
 wp_region_held (S:=gJ {w with drawn:=w.drawn+1} (aq x.S) T) hm (h a _ ⟨hs.defers,hs.size,fun t ht=>(hs.env t ht).mono fun b _ hn=>⟨rfl,hn⟩,⟨fun B E=>by
  obtain⟨r0,cur,r1,r2,I,M⟩:=hs.own.at_ B E;exact⟨r0,cur,r1,r2,I,fun i hi=>by
   obtain⟨u,hu,hq⟩:=M i hi;exact⟨u,hu,hq.mono fun b _ hn=>⟨rfl,hn⟩⟩⟩,hs.own.apart⟩,⟨hs.fr.os,hs.fr.tape,hs.fr.output,hs.fr.size,hs.fr.block⟩,hs.ex,hs.dx⟩ rfl hT)
end
section
variable {P:Program}
variable {t:TypeId} {k:IntKind} {a b r:Int} {us:List Value}
theorem yn{op:BinOp}(h:(op = .add/\k.wrap (a+b)=r)\/(op = .sub/\k.wrap (a-b)=r)\/(op = .mul/\k.wrap (a*b)=r)):ij P op t (.int k a) (.int k b) (.int k r):=fun y z w=>by
 rcases h with ⟨rfl,h⟩|⟨rfl,h⟩|⟨rfl,h⟩<;>simp[eqGuard,binOp,Op.intArith,h]
theorem lD(h:k.wrap (a+b)=r):ij P .add t (.int k a) (.int k b) (.int k r):=yn (.inl ⟨rfl,h⟩)
theorem qC(h:k.wrap (a-b)=r):ij P .sub t (.int k a) (.int k b) (.int k r):=yn (.inr (.inl ⟨rfl,h⟩))
theorem qD(h:k.wrap (a*b)=r):ij P .mul t (.int k a) (.int k b) (.int k r):=yn (.inr (.inr ⟨rfl,h⟩))
theorem CL:ij P .lss t (.int k a) (.int k b) (.bool (decide (a<b))):=fun y z w=>by simp[eqGuard,binOp,Op.intCmp]
theorem CM:ij P .leq t (.int k a) (.int k b) (.bool (decide (a<=b))):=fun y z w=>by simp[eqGuard,binOp,Op.intCmp]
theorem CN:ij P .gtr t (.int k a) (.int k b) (.bool (decide (a>b))):=fun y z w=>by simp[eqGuard,binOp,Op.intCmp]
theorem CO:ij P .geq t (.int k a) (.int k b) (.bool (decide (a>=b))):=fun y z w=>by simp[eqGuard,binOp,Op.intCmp]
theorem sx:ij P .eql t (.int k a) (.int k b) (.bool (a==b)):=fun y z w=>by simp[eqGuard,binOp,Op.intCmp]
theorem CP:ij P .neq t (.int k a) (.int k b) (.bool (a != b)):=fun y z w=>by simp[eqGuard,binOp,Op.intCmp]
theorem CQ(hb:b≠0):ij P .rem t (.int k a) (.int k b) (.int k (a.tmod b)):=fun y z w=>by simp[eqGuard,binOp,Op.intDiv,hb]
theorem Cc{a b:ByteArray}:ij P .eql t (.string a) (.string b) (.bool (a.toList==b.toList)):=fun y z w=>by simp[eqGuard,binOp,Op.stringOp]
theorem xR{a b:ByteArray}:ij P .neq t (.string a) (.string b) (.bool (!(a.toList==b.toList))):=fun y z w=>by simp[eqGuard,binOp,Op.stringOp]
theorem xS{a b:Bool}(E:P.underlying t=some .bool):ij P .eql t (.bool a) (.bool b) (.bool (a==b)):=fun y z w=>by
 have:binOp .eql t (.bool a) (.bool b)=(do pure (.bool (<-Op.equal t (.bool a) (.bool b)))):=rfl;simp only[eqGuard,this,Sem.run_bind];simp[run_equal_bool w t a b E]
theorem bP.Dx{w:World}{L:Nat->Prop}{v:Value}(h:bP w L (.agg (us.map .v)) v):v = .agg us.toArray:=by
 cases h with
 | agg _ vs hl hr =>
  congr 1;congr 1;refine ext_getElem (by simpa using hl) fun i h1 h2=>?_;have:=hr i (by simpa using h2) h1;simp only[getElem_map] at this;exact this.gu
section
variable {G:List (Nat×List Value)} {x:St} {o:Oper}
theorem Hq {t':TypeId} {y z:Operand} {Al:List Value} {r:Bool} (ho:o.op = .binOp .neq t y z t') (hy:aO x y = .agg (us.map .v)) (hz:aO x z = .agg (Al.map .v)) (hg:P.eqGuardType P.depth t=false)
  (E:∀w,(Op.equalIn 10000 t (.agg us.toArray) (.agg Al.toArray)).run P w = .ok r w):bH P G x o .none (.v (.bool !r)):=fun C a w _ h=>by
 have h1:=h.eval y;have h2:=h.eval z;rw[hy] at h1;rw[hz] at h2;refine⟨_,.v _,fun w' _=>?_⟩;unfold execOp;simp only[ho,h1.Dx,h2.Dx,Sem.run_bind,run_eqGuard_agg _ _ _ _ _ _ _ hg,Result.andThen_ok,run_neq_struct,E,Sem.run_pure]
def sM(b:UInt8):D:=.v (.int .u8 (b.toNat:Int))
theorem xk{s e:TypeId}{y:Operand}{I:List UInt8}{n:Nat}(ho:o.op = .convert s t y)(hy:aO x y = .list 1 (I.map sM) n)(hs:P.underlying s=some (.slice e))(he:P.underlying e=some (.int .u8))(ht:P.underlying t=some .string) :
  bH P G x o .fA (.v (.string ⟨I.toArray⟩)):=fun C a w _ h=>by
 have hr:=h.eval y;rw[hy] at hr;generalize hg:a.eval y=u at hr;generalize cL:I.map sM=cs at hr;cases hr with
 | jv _ ad cap =>
  have:I=[]:=(by simpa using cL)
  subst this;refine⟨_,.v _,fun w' _=>?_⟩;unfold execOp;simp only[ho,hg,Sem.run_bind,run_convert_bytes_string w' s t e ad 0 cap hs he ht];cases ad<;>simp[Conv.bytesToString,loadCells,loadCellsFrom]<;>rfl
 | list _ _ _ b M cap g hl q1 q2 hb hL hc O =>
  subst cL;simp only[length_map,Nat.mul_one] at hl hc;refine⟨_,.v _,fun w' hw=>?_⟩;unfold execOp;have E:=run_convert_bytes_back (P:=P) w' s t e ⟨b,M,none⟩ cap I hs he ht (fun j hj=>by
   rw[Addr.add_mid];have U:=World.cell?_of_block (w:=w) (a:=⟨b,M+j,none⟩) (hw b hb hL);rw[U,hc j hj];have:=O j (by simpa using hj);simp only[getElem_map,sM] at this;rw[this.gu])
  rw[hl] at E;simp only[ho,hg,Sem.run_bind,E,Result.andThen_ok,Sem.run_pure]
end
theorem JK{b:Bool}:∀w,(Op.unary .not (.bool b)).run P w = .ok (.bool !b) w:=fun w=>rfl
theorem Df(h:k.wrap (0-a)=r):∀w,(Op.unary .neg (.int k a)).run P w = .ok (.int k r) w:=fun w=>by
 subst h;rfl
theorem wrap_i64{x:Int}(h1:-9223372036854775808<=x)(h2:x<=9223372036854775807):IntKind.i64.wrap x=x:=IntWalk.i64_in _ w7
theorem ai:(∀{p:Prop} [Decidable p],(decide p=true)=p)/\(∀{p:Prop} [Decidable p],(decide p=false)↔¬p)/\(∀{a b:Int},(a==b)=true↔a=b)/\(∀{a b:Int},(a != b)=true↔a≠b)/\(∀{a b:Bool},(a==b)=true↔a=b)/\(∀{a b:Bool},(a != b)=true↔a≠b)
  /\ (∀{b:Bool},((!b)=true)=(b=false))/\(∀{b:Bool},((!b)=false)=(b=true))/\(∀{b:Bool},(¬b=true)=(b=false))/\(∀{b:Bool},(¬b=false)=(b=true))/\(∀{a b:Int},(a==b)=false↔¬a=b)/\(∀{a b:Int},(a != b)=false↔a=b)/\(∀{a b:Bool},(a==b)=false↔¬a=b)/\(∀{a b:Bool},(a != b)=false↔a=b)
  /\ (∀{a b:Bool},((a&&b)=true)=(a=true/\b=true))/\(∀{a b:Bool},((a||b)=true)=(a=true\/b=true))/\(∀{b:Bool},(!!b)=b)/\(∀{a b:Bool},(a&&b)=false↔a=false\/b=false)/\(∀{a b:Bool},(a||b)=false↔a=false/\b=false)/\(∀{a b:Int},(¬a<b)↔b<=a)/\(∀{a b:Int},(¬a<=b)↔b<a):=by
 refine⟨fun {p} _=>by simp,fun {p} _=>by simp,by simp,by simp,by simp,by simp,by simp,by simp,by simp,by simp,by simp,by simp,by simp,by simp,by simp,by simp,by simp,by simp,by simp,by simp,by simp⟩
end
section
variable {P:Program} {C:cj} {G:List (Nat×List Value)} {Q:Exit->St->Prop} {x y:St} {ops:Array Oper} {l:List Oper} {o:Oper}
variable {d:D} {t e:TypeId} {ps:List (Nat×Operand)} {pl:List (Nat×D)} {ds args:List D} {sz i:Nat} {fo:Operand} {bL:Array Operand} {ts:Array TypeId} {Sf:List ak} {post:D->List ak->Prop} {α:Type} {M hi:Option Operand}
theorem mi{z:Operand}(ho:o.op = .move z)(hd:aO x z=d):bH P G x o .none d:=hd ▸ GY ho
theorem jm{z:Operand}(ho:o.op = .assign z)(hd:aO x z=d):bH P G x o .none d:=hd ▸ Gp ho
theorem oX{c y z:Operand}{t:Bool}(ho:o.op = .pick c y z)(hc:aO x c = .v (.bool t))(h:t=true)(hd:aO x y=d):bH P G x o .none d:=by
 have:=BF (P:=P) (G:=G) ho hc;rw[if_pos h,hd] at this;exact this
theorem jN{c y z:Operand}{t:Bool}(ho:o.op = .pick c y z)(hc:aO x c = .v (.bool t))(h:t=false)(hd:aO x z=d):bH P G x o .none d:=by
 have:=BF (P:=P) (G:=G) ho hc;rw[if_neg (by rw[h];simp),hd] at this;exact this
def gT(x:St):List Operand->List D->Prop
 | [],[]=>True
 | o::r,d::r'=>aO x o=d/\gT x r r'
 | _,_=>False
theorem gT.eq:∀{os:List Operand} {ds:List D},gT x os ds->os.map (aO x)=ds
 | [],[],_=>rfl
 | o::r,d::r',h=>by rw[map_cons,h.1,gT.eq h.2]
 | [],_::_,h=>h.elim
 | _::_,[],h=>h.elim
def ik(x:St):List (Nat×Operand)->List (Nat×D)->Prop
 | [],[]=>True
 | p::r,q::r'=>p.1=q.1/\aO x p.2=q.2/\ik x r r'
 | _,_=>False
theorem ik.eq:∀{ps:List (Nat×Operand)} {ds:List (Nat×D)},ik x ps ds->gF x ps.toArray=ds
 | [],[],_=>rfl
 | p::r,(i,d)::r',h=>by
  have:=ik.eq h.2.2;simp only[gF,map_cons] at this |-;rw[this,h.1,h.2.1]
 | [],_::_,h=>h.elim
 | _::_,[],h=>h.elim
def jW:D->Bool
 | .cx=>false
 | _=>true
theorem uC{ps:List (Nat×D)}(h:ps.all (fun p=>jW p.2)=true):∀p∈ps,p.2≠.cx:=fun p hp he=>by
 have:=all_eq_true.1 h p hp;rw[he] at this;cases this
theorem dc {E:Array Field} {places:Array (Nat×Nat)} {z:Value} (ho:o.op = .build t ps.toArray) (hz:∀w,(zeroValue t).run P w = .ok z w)
  (I:∀w,(underlying t).run P w = .ok (.struct E) w) (hp:∀w,(E.mapM fun f=>do pure (f.offset,<-sizeOf f.type):Sem (Array (Nat×Nat))).run P w = .ok places w)
  (fM:ik x ps pl) (hj:pl.all (fun p=>jW p.2)=true) (hd:gR (places[·]?) (z.cells.toList.map .v) pl=some ds):bH P G x o .none (.agg ds):=by
 refine GM ho hz I hp ?_ ?_
 ·rw[fM.eq];exact uC hj
 rw[fM.eq];exact hd
theorem G1 {n:Nat} {z:Value} (ho:o.op = .build t ps.toArray) (hz:∀w,(zeroValue t).run P w = .ok z w)
  (E:∀w,(underlying t).run P w = .ok (.array n e) w) (hs:∀w,(sizeOf e).run P w = .ok sz w)
  (fM:ik x ps pl) (hj:pl.all (fun p=>jW p.2)=true) (hd:gR (fun i=>some (i*sz,sz)) (z.cells.toList.map .v) pl=some ds):bH P G x o .none (.agg ds):=by
 refine Gu ho hz E hs ?_ ?_
 ·rw[fM.eq];exact uC hj
 rw[fM.eq];exact hd
def aU(k:Nat):List D->List (Nat×D)
 | []=>[]
 | d::r=>(k,d)::aU (k+1) r
theorem BW:∀(ds pre post:List D),ds.length<=post.length->eR (pre++post) pre.length ds=(pre++ds)++post.drop ds.length
 | [],pre,post,_=>by simp[eR]
 | d::ds,pre,[],h=>by simp at h
 | d::ds,pre,p::post,h=>by
  rw[eR,show(pre++p::post).set pre.length d=(pre++[d])++post by simp,show pre.length+1=(pre++[d]).length by simp,BW ds (pre++[d]) post pV];simp
theorem CR{sz:Nat}:∀(pd:List D) (k:Nat) (pre post:List D),(pd.all fun d=>Nat.beq (cellsOf d).length sz)=true->pre.length=k*sz->post.length=pd.length*sz->gR (fun i=>some (i*sz,sz)) (pre++post) (aU k pd)=some (pre++pd.flatMap cellsOf)
 | [],k,pre,post,_,_,h=>by
  have:post=[]:=length_eq_zero_iff.1 pV;simp[aU,gR,this]
 | d::r,k,pre,post,ha,h1,h2=>by
  rw[all_cons,Bool.and_eq_true] at ha;have hd:(cellsOf d).length=sz:=Nat.eq_of_beq_eq_true ha.1;have hp:post.length=r.length*sz+sz:=(by rw[h2,length_cons,Nat.succ_mul])
  rw[aU,gR];simp only;rw[if_neg (by simp only[hd,length_append,h1,hp,ne_eq,not_true_eq_false,decide_false,Bool.false_or,decide_eq_true_eq];omega),<-h1,BW _ _ _ w7,CR r (k+1) _ _ ha.2 (by rw[length_append,hd,h1,Nat.succ_mul]) (by rw[length_drop,hd];omega),flatMap_cons];simp
theorem Hr{pd zs:List D}(ha:(pd.all fun d=>Nat.beq (cellsOf d).length sz)=true)(hl:Nat.beq zs.length (pd.length*sz)=true)(ja:pd.flatMap cellsOf=ds):gR (fun i=>some (i*sz,sz)) zs (aU 0 pd)=some ds:=by
 have:=CR pd 0 [] zs ha cq (Nat.eq_of_beq_eq_true hl);rw[nil_append,nil_append,ja] at this;exact this
theorem IQ {tt len:Nat} {z:Value} {jA:List Value} (hw:bS ops x o true) (ho:o.op = .buildSlice t len ps.toArray) (gw:o.dst=some tt) (hz:∀w,(zeroValue e).run P w = .ok z w)
  (E:∀w,(underlying t).run P w = .ok (.slice e) w) (hs:∀w,(sizeOf e).run P w = .ok sz w) (hl:Nat.ble 1 (len*sz)=true) (gz:Nat.ble (len*sz) (2 ^ 24)=true) (dy:(Array.range (len*sz)).map (fun i=>z.cells[i % z.cells.size]!)=jA.toArray)
  (fM:ik x ps pl) (hj:pl.all (fun p=>jW p.2)=true) (hd:gR (fun i=>some (i*sz,sz)) (jA.map .v) pl=some ds)
  (k:∀b,OD P C ops l ⟨x.n,(tt,.v (.slice (some ⟨b,0,none⟩) len len))::x.env,⟨b,e,ds.length,ds⟩::x.S⟩ Q) (hne:isMap e=false:=by rfl):OD P C ops (o::l) x Q:=by
 refine OD.fh hw (Bo (hne:=hne) (zs:=jA.map .v) (ds:=ds) ho gw hz E hs (Nat.le_of_ble_eq_true hl) (Nat.le_of_ble_eq_true gz) ?_ ?_ ?_ ?_) ?_
 ·rw[dy];congr 1;rw[map_map];exact(map_id jA).symm
 ·intro d hd;obtain⟨u,_,rfl⟩:=mem_map.1 hd;exact⟨u,rfl⟩
 ·rw[fM.eq];exact uC hj
 ·rw[fM.eq];exact hd
 rintro _ ⟨b,rfl⟩;exact k b
theorem eo {z:Value} {t:Nat} (hw:bS ops x o true) (ho:o.op = .alloc e) (hd:o.dst=some t) (hz:∀w,(zeroValue e).run P w = .ok z w) (ja:z.cells.toList.map .v=ds)
  (k:∀b,OD P C ops l ⟨x.n,(t,.v (.pointer (some ⟨b,0,none⟩)))::x.env,⟨b,e,ds.length,ds⟩::x.S⟩ Q) (hne:isMap e=false:=by rfl):OD P C ops (o::l) x Q :=
 OD.fh hw (xE (hne:=hne) ho hd hz ja) fun y ⟨b,hy⟩=>hy ▸ k b
theorem fI {z:Operand} {t:Nat} (hw:bS ops x o true) (ho:o.op = .box e z) (hd:o.dst=some t) (hy:aO x z=d) (hj:jW d=true) (ja:cellsOf d=ds)
  (k:∀b,OD P C ops l ⟨x.n,(t,.v (.pointer (some ⟨b,0,none⟩)))::x.env,⟨b,e,ds.length,ds⟩::x.S⟩ Q) (hne:isMap e=false:=by rfl):OD P C ops (o::l) x Q :=
 OD.fh hw (IN (hne:=hne) ho hd hy (fun h=>by rw[h] at hj;cases hj) ja) fun y ⟨b,hy⟩=>hy ▸ k b
theorem OD.store {t:TypeId} {k b o' n:Nat} {B:ak} {d:D} {cs':List D} {y z:Operand} (hw:bS ops x o true) (ho:o.op = .store t y z) (gw:o.dst=none) (hy:aO x y = .v (.pointer (some ⟨b,o',none⟩)))
  (hk:x.S[k]?=some B) (hb:B.b=b) (hz:aO x z=d) (hj:jW d=true) (h1:(cellsOf d).all one=true) (hn:∀w,(sizeOf t).run P w = .ok n w) (lT:(cellsOf d).length=n) (hl:Nat.ble (o'+n) B.cs.length=true) (cL:eR B.cs o' (cellsOf d)=cs')
  (K:OD P C ops l ⟨x.n,x.env,x.S.set k {B with cs:=cs'}⟩ Q) (hne:isMap B.e=false:=by rfl):OD P C ops (o::l) x Q :=
 OD.fh hw (xH (hne:=hne) ho gw hy hk hb hz (fun h=>by rw[h] at hj;cases hj) h1 hn lT (Nat.le_of_ble_eq_true hl) cL) fun y hy=>hy ▸ K
theorem cP {f t:Nat} {R:List ak} (hw:bS ops x o true) (ho:o.op = .call {callee:=.value fo,args:=bL,argTypes:=ts}) (hd:o.dst=some t)
  (hf:fo = .func f) (dz:∀args w,(callFunc f args).run P w = .ok (.enter f args) w) (hc:VC P C.G f args Sf post) (ha:gT x bL.toList args) (hp:x.S.Perm (Sf++R))
  (K:∀r S',post r S'->OD P C ops l ⟨x.n,(t,r)::x.env,S'++R⟩ Q):OD P C ops (o::l) x Q :=
 OD.fh hw (uP ho hd hf dz ha.eq hp hc) fun y ⟨r,S',h,hy⟩=>hy ▸ K r S' h
theorem qx {f t:Nat} {r:D} (hw:bS ops x o true) (ho:o.op = .call {callee:=.value fo,args:=bL,argTypes:=ts}) (hd:o.dst=some t)
  (hf:fo = .func f) (dz:∀args w,(callFunc f args).run P w = .ok (.enter f args) w) (hc:VP P C.G f args r) (ha:gT x bL.toList args)
  (K:OD P C ops l (x.put t r) Q):OD P C ops (o::l) x Q :=
 cP hw ho hd hf dz hc ha (jP _) fun E S' ⟨h1,h2⟩=>by subst h1 h2;exact K
theorem xT {f t:Nat} {cQ all:List D} {R:List ak} (hw:bS ops x o true) (ho:o.op = .call {callee:=.value fo,args:=bL,argTypes:=ts}) (hd:o.dst=some t)
  (hf:aO x fo = .dQ (.func f) cQ) (dz:∀args w,(callFunc f args).run P w = .ok (.enter f args) w) (hc:VC P C.G f all Sf post) (E:args++cQ=all) (ha:gT x bL.toList args) (hp:x.S.Perm (Sf++R))
  (K:∀r S',post r S'->OD P C ops l ⟨x.n,(t,r)::x.env,S'++R⟩ Q):OD P C ops (o::l) x Q :=
 OD.fh hw (Hp ho hd hf dz (by rw[ha.eq,E]) hp hc) fun y ⟨r,S',h,hy⟩=>hy ▸ K r S' h
theorem OD.append {s y:Operand} {t e tt sz bytes n m b cap k:Nat} {z:Value} {B:ak} {cs:List D} (hw:bS ops x o true) (ho:o.op = .call {callee:=.builtin .append,args:=#[s,y],argTypes:=#[t,t]}) (hd:o.dst=some tt)
  (ht:P.underlying t=some (.slice e)) (hi:(P.info? e).map (fun i=>(i.zero,i.size,i.bytes))=some (some z,sz,bytes)) (dy:z.cells.size=sz) (Z:0<sz)
  (hs:aO x s = .v (.slice (some ⟨b,0,none⟩) n cap)) (hk:x.S[k]?=some B) (hb:B.b=b) (he:B.e=e) (M:B.size=cap*sz) (hl:B.cs.length=n*sz) (hn:n<=cap) (O:cap<=maxLen)
  (hy:aO x y = .list sz cs m) (U:∀d∈cs,one d=true) (hm:0<m) (kH:n+m<=maxLen) (I:(n+m)*bytes<=140737488355328)
  (K:∀Y E,n+m<=E->E<=maxLen->OD P C ops l ⟨x.n,(tt,.v (.slice (some ⟨Y,0,none⟩) (n+m) E))::x.env,⟨Y,e,E*sz,B.cs++cs⟩::x.S.eraseIdx k⟩ Q) (hne:isMap B.e=false:=by rfl):OD P C ops (o::l) x Q :=
 OD.fh hw (BI (hne:=hne) ho hd ht hi dy Z hs hk hb he M hl hn O hy U hm kH I) fun y ⟨Y,E,h1,h2,hy⟩=>hy ▸ K Y E h1 h2
theorem Gw {s y:Operand} {t e tt bytes m:Nat} {z:Value} {cs:List D} (hw:bS ops x o true) (ho:o.op = .call {callee:=.builtin .append,args:=#[s,y],argTypes:=#[t,t]}) (hd:o.dst=some tt)
  (ht:P.underlying t=some (.slice e)) (hi:(P.info? e).map (fun i=>(i.zero,i.size,i.bytes))=some (some z,sz,bytes)) (dy:z.cells.size=sz) (U:0<sz)
  (hs:aO x s = .v (.slice none 0 0)) (hy:aO x y = .list sz cs m) (M:∀d∈cs,one d=true) (hm:0<m) (Y:m<=maxLen) (I:m*bytes<=140737488355328)
  (K:∀O E,m<=E->E<=maxLen->OD P C ops l ⟨x.n,(tt,.v (.slice (some ⟨O,0,none⟩) m E))::x.env,⟨O,e,E*sz,cs⟩::x.S⟩ Q) (hne:isMap e=false:=by rfl):OD P C ops (o::l) x Q :=
 OD.fh hw (Bt (hne:=hne) ho hd ht hi dy U hs hy M hm Y I) fun y ⟨O,E,h1,h2,hy⟩=>hy ▸ K O E h1 h2
theorem dN{t:Nat}{b:Bool}(hb:look t x.env = .v (.bool b))(h1:b=true->OD P C ops l x Q)(h2:b=false->OD P C ops l x Q):OD P C ops l x Q:=by
 cases h:b
 ·exact h2 h
 exact h1 h
theorem Ga{z:Operand}{E:Addr}(ho:o.op = .nilCheck z)(hz:aO x z = .v (.pointer (some E))):bH P G x o .none (.v (.pointer (some E))):=fun C a w _ h =>
 ⟨_,.v _,fun w' _=>by unfold execOp;simp only[ho,h.flat hz];rfl⟩
theorem F7{z:Operand}{cs:List D}{off:Nat}(ho:o.op = .nilCheck z)(hz:aO x z = .dG cs off):bH P G x o .none (.dG cs off):=fun C a w _ h=>by
 have hr:=h.eval z;rw[hz] at hr;generalize hg:a.eval z=u at hr;cases hr with
 | dG _ _ b E g hb hL hc I=>exact⟨_,.dG cs off b E g hb hL hc I,fun w' _=>by unfold execOp;simp only[ho,hg];rfl⟩
theorem si{fn:Fn}{cQ:Array Operand}(ho:o.op = .makeFunc fn #[] cQ)(hd:gT x cQ.toList ds):bH P G x o .none (.dQ fn ds):=G0 ho hd.eq
theorem de{α:Type}{g:α->List D}{sz:Nat}(hg:∀a,(g a).length=sz):∀(ls:List α),(ls.flatMap g).length=ls.length*sz
 | []=>by simp
 | a::r=>by rw[flatMap_cons,length_append,hg,de hg r,length_cons,Nat.add_mul];omega
theorem uX{α:Type}{g:α->List D}{sz:Nat}(hg:∀a,(g a).length=sz):∀(ls:List α) (i:Nat),(ls.flatMap g).drop (i*sz)=(ls.drop i).flatMap g
 | [],i=>by simp
 | a::r,0=>by simp
 | a::r,i+1=>by
  rw[flatMap_cons,drop_succ_cons,<-uX hg r i,Nat.add_mul,Nat.one_mul,Nat.add_comm,<-drop_drop];congr 1;rw[<-hg a,drop_left]
theorem sn{α:Type}{g:α->List D}{sz:Nat}(hg:∀a,(g a).length=sz):∀(ls:List α) (i:Nat),(ls.flatMap g).take (i*sz)=(ls.take i).flatMap g
 | [],i=>by simp
 | a::r,0=>by simp
 | a::r,i+1=>by
  rw[flatMap_cons,take_succ_cons,flatMap_cons,<-sn hg r i,Nat.add_mul,Nat.one_mul,Nat.add_comm,<-hg a,take_length_add_append]
theorem sN{g:α->List D}(hg:∀a,(g a).length=sz){ls:List α}(hi:i<ls.length):((ls.flatMap g).drop (i*sz)).take sz=g ls[i]:=by
 rw[uX hg,drop_eq_getElem_cons hi,flatMap_cons,<-hg ls[i],take_left]
theorem qE{g:α->List D}(hg:∀a,(g a).length=sz){ls:List α}{j:Nat}(hi:i<ls.length)(hd:(g ls[i])[j]?=some d):(ls.flatMap g)[i*sz+j]?=some d:=by
 have h:=sN hg hi;have hj:=(List.getElem?_eq_some_iff.1 hd).1;rw[hg] at hj;rw[<-hd,<-h,getElem?_take_of_lt hj,getElem?_drop]
theorem xU{g:α->List D}(hg:∀a,(g a).length=sz){ls:List α}(hi:i<ls.length)(hd:(g ls[i])[0]?=some d):(ls.flatMap g)[i*sz]?=some d:=qE hg hi hd
theorem sE{g:α->List D}(hg:∀a,(g a).all one=true)(ls:List α):∀d∈ls.flatMap g,one d=true:=fun d hd=>by
 obtain⟨a,_,h⟩:=mem_flatMap.1 hd;exact all_eq_true.1 (hg a) d h
theorem GN {g:α->List D} {h':Nat} (hg:∀a,(g a).length=sz) {ls:List α} {y:Operand} (ho:o.op = .slice t y M hi none) (hy:aO x y = .list sz (ls.flatMap g) ls.length) (E:jV x M 0 0) (I:jV x hi h' ls.length)
  (O:∀w,(underlying t).run P w = .ok (.slice e) w) (hs:∀w,(sizeOf e).run P w = .ok sz w) (h2:h'<=ls.length):bH P G x o .none (.list sz ((ls.take h').flatMap g) (ls.take h').length):=by
 have:=xo (P:=P) (G:=G) ho hy E I O hs (Nat.zero_le _) h2;rw[Nat.zero_mul,drop_zero,Nat.sub_zero,sn hg] at this;rw[length_take,Nat.min_eq_left h2];exact this
theorem GO {g:α->List D} {l':Nat} (hg:∀a,(g a).length=sz) {ls:List α} {y:Operand} (ho:o.op = .slice t y M hi none) (hy:aO x y = .list sz (ls.flatMap g) ls.length) (E:jV x M l' 0) (I:jV x hi ls.length ls.length)
  (O:∀w,(underlying t).run P w = .ok (.slice e) w) (hs:∀w,(sizeOf e).run P w = .ok sz w) (h2:l'<=ls.length):bH P G x o .none (.list sz ((ls.drop l').flatMap g) (ls.drop l').length):=by
 have:=xo (P:=P) (G:=G) ho hy E I O hs h2 (Nat.le_refl _);rw[uX hg,take_of_length_le (by rw[de hg,length_drop];exact Nat.le_refl _)] at this;rw[length_drop];exact this
end
section
variable {P:Program} {C:cj} {Q:Exit->St->Prop} {x:St} {ops:Array Oper} {o:Oper} {S1 T:List Nat} {aP i:Nat} {ld:Array Bool}
variable {k t:Nat} {B:ak} {fo:Operand} {bL:Array Operand} {ts:Array TypeId} {args:List D}
theorem yo{S:List ak}(hk:S[k]?=some B):B.b∈aq S:=mem_map.2 ⟨B,mem_of_getElem? hk,rfl⟩
theorem gM{S:List ak}{k0:Nat}(hk:x.S[k]?=some B)(h0:S[k0]?=some B):Safe x (aq S) (.eK k):=⟨B,hk,yo h0⟩
theorem HS{b:Bool}(hb:look t x.env = .v (.bool b))(h1:b=true->AD P C ops S1 T aP ld x Q)(h2:b=false->AD P C ops S1 T aP ld x Q):AD P C ops S1 T aP ld x Q:=by
 cases h:b
 ·exact h2 h
 exact h1 h
theorem bt.split{b:Bool}(hb:look t x.env = .v (.bool b))(h1:b=true->bt P C ops S1 T aP ld x Q)(h2:b=false->bt P C ops S1 T aP ld x Q):bt P C ops S1 T aP ld x Q:=by
 cases h:b
 ·exact h2 h
 exact h1 h
theorem xA{post:St->Prop}(hi:ops[i]?=some o)(hw:bS ops x o true)(h:e8 P C.G x o [] post)(k:∀y,post y->AD P C ops S1 T aP (ld.setIfInBounds i true) y Q):ea P C ops S1 T aP ld x Q i :=
 ea.fh hi hw h (fun _ _ _ _ _ _ hb=>by simp at hb) (fun _ hb=>by simp at hb) k
theorem DO{C:cj}{a:Act}{w:World}(h:bp C x a w)(hk:x.S[k]?=some B)(hT:∀b∈T,b∈aq (x.S.eraseIdx k)):∀b∈T,b∉[B.b]:=fun b hb hm=>by
 have hp:(aq x.S).Perm (B.b::aq (x.S.eraseIdx k)):=(by have:=(r8 hk).map ak.b;simpa[aq] using this)
 have hn:=(nodup_cons.1 (hp.nodup_iff.1 h.own.apart)).1;have:b=B.b:=(by simpa using hm)
 exact hn (this ▸ hT b hb)
theorem G2 {t e:TypeId} {tt len sz:Nat} {ps:List (Nat×Operand)} {pl:List (Nat×D)} {z:Value} {jA:List Value} {ds:List D} (hi:ops[i]?=some o) (hw:bS ops x o true) (ho:o.op = .buildSlice t len ps.toArray) (gw:o.dst=some tt) (hz:∀w,(zeroValue e).run P w = .ok z w)
  (E:∀w,(underlying t).run P w = .ok (.slice e) w) (hs:∀w,(sizeOf e).run P w = .ok sz w) (hl:Nat.ble 1 (len*sz)=true) (gz:Nat.ble (len*sz) (2 ^ 24)=true) (dy:(Array.range (len*sz)).map (fun i=>z.cells[i % z.cells.size]!)=jA.toArray)
  (fM:ik x ps pl) (hj:pl.all (fun p=>jW p.2)=true) (hd:gR (fun i=>some (i*sz,sz)) (jA.map .v) pl=some ds)
  (k:∀b,AD P C ops S1 T aP (ld.setIfInBounds i true) ⟨x.n,(tt,.v (.slice (some ⟨b,0,none⟩) len len))::x.env,⟨b,e,ds.length,ds⟩::x.S⟩ Q) (hne:isMap e=false:=by rfl):ea P C ops S1 T aP ld x Q i:=by
 refine xA hi hw (Bo (hne:=hne) (zs:=jA.map .v) (ds:=ds) ho gw hz E hs (Nat.le_of_ble_eq_true hl) (Nat.le_of_ble_eq_true gz) ?_ ?_ ?_ ?_) ?_
 ·rw[dy];congr 1;rw[map_map];exact(map_id jA).symm
 ·intro d hd;obtain⟨u,_,rfl⟩:=mem_map.1 hd;exact⟨u,rfl⟩
 ·rw[fM.eq];exact uC hj
 ·rw[fM.eq];exact hd
 rintro _ ⟨b,rfl⟩;exact k b
theorem ea.store {t:TypeId} {k b o' n:Nat} {B:ak} {d:D} {cs':List D} {y z:Operand} (hi:ops[i]?=some o) (hw:bS ops x o true) (ho:o.op = .store t y z) (gw:o.dst=none) (hy:aO x y = .v (.pointer (some ⟨b,o',none⟩)))
  (hk:x.S[k]?=some B) (hb:B.b=b) (hz:aO x z=d) (hj:jW d=true) (h1:(cellsOf d).all one=true) (hn:∀w,(sizeOf t).run P w = .ok n w) (lT:(cellsOf d).length=n) (hl:Nat.ble (o'+n) B.cs.length=true) (cL:eR B.cs o' (cellsOf d)=cs')
  (hT:∀b∈T,b∈aq (x.S.eraseIdx k))
  (K:AD P C ops S1 T aP (ld.setIfInBounds i true) ⟨x.n,x.env,x.S.set k {B with cs:=cs'}⟩ Q) (hne:isMap B.e=false:=by rfl):ea P C ops S1 T aP ld x Q i :=
 ea.fh hi hw (xH (hne:=hne) ho gw hy hk hb hz (fun h=>by rw[h] at hj;cases hj) h1 hn lT (Nat.le_of_ble_eq_true hl) cL) (fun C a w hs I E=>hb ▸ DO hs hk hT I E) (fun I E=>by
  have:I=b:=(by simpa using E)
  subst this;rw[<-hb];exact yo hk) fun y hy=>hy ▸ K
theorem qq {f:Nat} {r:D} (hi:ops[i]?=some o) (hw:bS ops x o true) (ho:o.op = .call {callee:=.value fo,args:=bL,argTypes:=ts}) (hd:o.dst=some t)
  (hf:fo = .func f) (dz:∀args w,(callFunc f args).run P w = .ok (.enter f args) w) (hc:VP P C.G f args r) (ha:gT x bL.toList args)
  (K:AD P C ops S1 T aP (ld.setIfInBounds i true) (x.put t r) Q):ea P C ops S1 T aP ld x Q i :=
 xA hi hw (uP ho hd hf dz ha.eq (jP _) hc) fun y ⟨E,S',⟨h1,h2⟩,hy⟩=>by subst h1 h2;exact hy ▸ K
theorem oZ {f:Nat} {Sf R:List ak} {post:D->List ak->Prop} (hi:ops[i]?=some o) (hw:bS ops x o true) (ho:o.op = .call {callee:=.value fo,args:=bL,argTypes:=ts}) (hd:o.dst=some t)
  (hf:fo = .func f) (dz:∀args w,(callFunc f args).run P w = .ok (.enter f args) w) (hc:VC P C.G f args Sf post) (ha:gT x bL.toList args) (hp:x.S.Perm (Sf++R)) (hT:∀b∈T,b∈aq R)
  (K:∀r S',post r S'->AD P C ops S1 T aP (ld.setIfInBounds i true) ⟨x.n,(t,r)::x.env,S'++R⟩ Q):ea P C ops S1 T aP ld x Q i :=
 ea.fh hi hw (uP ho hd hf dz ha.eq hp hc) (fun C a w hs b hb hm=>by
  have h1:(aq x.S).Perm (aq Sf++aq R):=(by have:=hp.map ak.b;simpa[aq] using this)
  have h2:=h1.nodup_iff.1 hs.own.apart;exact(nodup_append.1 h2).2.2 b hm b (hT b hb) rfl) (fun b hb=>by
  have h1:(aq x.S).Perm (aq Sf++aq R):=(by have:=hp.map ak.b;simpa[aq] using this)
  exact h1.symm.subset (mem_append_left _ hb)) fun y ⟨r,S',h,hy⟩=>hy ▸ K r S' h
theorem ea.append {s y:Operand} {t e tt sz bytes n m b cap k:Nat} {z:Value} {B:ak} {cs:List D} (v8:ops[i]?=some o) (hw:bS ops x o true) (ho:o.op = .call {callee:=.builtin .append,args:=#[s,y],argTypes:=#[t,t]}) (hd:o.dst=some tt)
  (ht:P.underlying t=some (.slice e)) (hi:(P.info? e).map (fun i=>(i.zero,i.size,i.bytes))=some (some z,sz,bytes)) (dy:z.cells.size=sz) (jb:0<sz)
  (hs:aO x s = .v (.slice (some ⟨b,0,none⟩) n cap)) (hk:x.S[k]?=some B) (hb:B.b=b) (he:B.e=e) (O:B.size=cap*sz) (hl:B.cs.length=n*sz) (hn:n<=cap) (Y:cap<=maxLen)
  (hy:aO x y = .list sz cs m) (Z:∀d∈cs,one d=true) (hm:0<m) (kH:n+m<=maxLen) (I:(n+m)*bytes<=140737488355328) (hT:∀b∈T,b∈aq (x.S.eraseIdx k))
  (K:∀M E,n+m<=E->E<=maxLen->AD P C ops S1 T aP (ld.setIfInBounds i true) ⟨x.n,(tt,.v (.slice (some ⟨M,0,none⟩) (n+m) E))::x.env,⟨M,e,E*sz,B.cs++cs⟩::x.S.eraseIdx k⟩ Q) (hne:isMap B.e=false:=by rfl):ea P C ops S1 T aP ld x Q i :=
 ea.fh v8 hw (BI (hne:=hne) ho hd ht hi dy jb hs hk hb he O hl hn Y hy Z hm kH I) (fun C a w hs M U=>hb ▸ DO hs hk hT M U) (fun M U=>by
  have:M=b:=(by simpa using U)
  subst this;rw[<-hb];exact yo hk) fun y ⟨M,E,h1,h2,hy⟩=>hy ▸ K M E h1 h2
theorem F8 {s y:Operand} {e tt sz bytes m:Nat} {z:Value} {cs:List D} (U:ops[i]?=some o) (hw:bS ops x o true) (ho:o.op = .call {callee:=.builtin .append,args:=#[s,y],argTypes:=#[t,t]}) (hd:o.dst=some tt)
  (ht:P.underlying t=some (.slice e)) (hi:(P.info? e).map (fun i=>(i.zero,i.size,i.bytes))=some (some z,sz,bytes)) (dy:z.cells.size=sz) (Y:0<sz)
  (hs:aO x s = .v (.slice none 0 0)) (hy:aO x y = .list sz cs m) (M:∀d∈cs,one d=true) (hm:0<m) (Z:m<=maxLen) (I:m*bytes<=140737488355328)
  (K:∀O E,m<=E->E<=maxLen->AD P C ops S1 T aP (ld.setIfInBounds i true) ⟨x.n,(tt,.v (.slice (some ⟨O,0,none⟩) m E))::x.env,⟨O,e,E*sz,cs⟩::x.S⟩ Q) (hne:isMap e=false:=by rfl):ea P C ops S1 T aP ld x Q i :=
 xA U hw (Bt (hne:=hne) ho hd ht hi dy Y hs hy M hm Z I) fun y ⟨O,E,h1,h2,hy⟩=>hy ▸ K O E h1 h2
end
section
variable {P:Program} {C:cj} {G:List (Nat×List Value)} {Q:Exit->St->Prop} {x:St} {ops:Array Oper} {l:List Oper} {o:Oper} {S1 T:List Nat} {aP i:Nat} {ld:Array Bool}
variable {S Sq S' R:List ak} {d:D} {sz k n cap b t e m:Nat} {B:ak} {cs args cs':List D} {fo y:Operand} {bL:Array Operand} {ts:Array TypeId} {ad:Option Addr}
def View(S:List ak)(d d':D):Prop:=∀(X Y:Nat->Prop) w v,(∀b,Y b->X b)->(∀b,X b->b∉aq S)->Own w (live X S) S->bP w (live X S) d v->bP w Y d' v
theorem bP.bare{w:World}{X Y:Nat->Prop}{v:Value}(h:bP w (live X S) d v)(E:∀b,Y b->X b):bP w Y d v:=h.mono fun b _ hn=>⟨rfl,fun hy=>hn (.inl (E b hy))⟩
theorem qt:View S d d:=fun X Y w v E _ _ h=>h.bare E
theorem HT:View S (.v (.slice none 0 0)) (.list sz [] 0):=fun X Y w v _ _ _ h=>by rw[h.gu];exact .nil sz
theorem xV(hk:S[k]?=some B)(hb:B.b=b)(cL:B.cs=cs)(hl:cs.length=n*sz)(h1:n<=cap)(h2:cap<=maxLen)(hne:isMap B.e=false:=by rfl):View S (.v (.slice (some ⟨b,0,none⟩) n cap)) (.list sz cs n):=fun X Y w v E M ho h=>by
 subst hb cL;rw[h.gu];obtain⟨r0,cur,r1,r2,O,I⟩:=ho.at_ B (mem_of_getElem? hk);rw[jl hne] at r1;refine .list sz B.cs n B.b 0 cap (fun i=>cur.getD i undef) hl h1 h2 r0 (fun hy=>M _ (E _ hy) (mem_map.2 ⟨B,mem_of_getElem? hk,rfl⟩)) (fun i hi=>?_) (fun i hi=>?_)
 ·obtain⟨u,hu,_⟩:=I i hi;rw[Nat.zero_add,ng r1 hu];simp[hu]
 obtain⟨u,hu,hq⟩:=I i hi;simp only[Array.getD_eq_getD_getElem?,hu,Option.getD_some];exact hq.bare E
def kv(S:List ak):List D->List D->Prop
 | [],[]=>True
 | d::r,d'::r'=>View S d d'/\kv S r r'
 | _,_=>False
theorem kv.spec{S:List ak}:∀{ds E:List D},kv S ds E->ds.length=E.length/\∀i (h:i<ds.length) (h':i<E.length),View S ds[i] E[i]
 | [],[],_=>⟨rfl,fun i h=>by simp at h⟩
 | d::r,d'::r',h=>⟨by simp[(kv.spec h.2).1],fun i h1 h2=>by
  cases i with
  | zero=>exact h.1
  | succ i=>exact(kv.spec h.2).2 i _ _⟩
 | [],_::_,h=>h.elim
 | _::_,[],h=>h.elim
def Looks(x:St):List Operand->List D->Prop
 | [],[]=>True
 | o::r,d::r'=>(∃d0,aO x o=d0/\View x.S d0 d)/\Looks x r r'
 | _,_=>False
theorem Looks.Am{C:cj}{a:Act}{w:World}(h:bp C x a w):∀{os:List Operand} {ds:List D},Looks x os ds->bX w (fun _=>False) ds (os.map a.eval)
 | [],[],_=>⟨rfl,fun i h=>by simp at h⟩
 | o::r,d::r',⟨⟨d0,h1,h2⟩,h3⟩=>bX.cons (h2 _ _ _ _ (fun _ hf=>hf.elim) h.rB h.own (h1 ▸ h.eval o)) (Looks.Am h h3)
 | [],_::_,h=>h.elim
 | _::_,[],h=>h.elim
theorem VC.cover{f:FuncId}{post:D->List ak->Prop}{I:D}(h:VC P G f args [] post)(M:∀r S',post r S'->View S' r I):VP P G f args I:=fun X w vs hp =>
 (h X w vs hp).mono fun e w' ⟨v,r,S',h1,h2,O,U,E⟩=>by
  have Y:∀b,X b->b∉aq S':=fun b hb=>(E.block b (hp.ex b hb).1 (hp.ex b hb).2).2;refine⟨v,I,[],h1,⟨rfl,rfl⟩,⟨fun B Z=>by simp at Z,by simp[aq]⟩,M r S' h2 X _ w' v (fun b hb=>?_) Y O U,⟨E.os,E.tape,E.output,E.size,fun b hb hn=>⟨(E.block b hb hn).1,by simp[aq]⟩⟩⟩;rcases hb with hb|hb
  ·exact hb
  simp[aq] at hb
def kw:D->Bool
 | .v _=>true
 | .dK cs=>cs.all fun d=>match d with|.v _=>true|.agg es=>es.all (fun e=>match e with|.v _=>true|_=>false)|_=>false
 | .agg cs=>cs.all fun d=>match d with|.v _=>true|_=>false
 | _=>false
theorem bP.flat{w w':World}{L M:Nat->Prop}{v:Value}(h:bP w L d v)(hf:kw d=true):bP w' M d v:=by
 have E:∀(d:D),(match d with|.v _=>true|_=>false)=true->∀v,bP w L d v->bP w' M d v:=fun d hd v h=>by
  cases d<;>simp at hd
  rw[h.gu];exact .v _
 have I:∀(d:D),(match d with|.v _=>true|.agg es=>es.all (fun e=>match e with|.v _=>true|_=>false)|_=>false)=true->∀v,bP w L d v->bP w' M d v:=fun d hd v h=>by
  cases d<;>simp at hd
  ·rw[h.gu];exact .v _
  cases h with
  | agg _ vs hl hr=>exact .agg _ vs hl fun i h1 h2=>E _ (by have:=hd _ (getElem_mem h1);simpa using this) _ (hr i h1 h2)
 cases h with
 | v=>exact .v _
 | dK cs vs hl hr=>exact .dK cs vs hl fun i h1 h2=>I _ (all_eq_true.1 hf _ (getElem_mem h1)) _ (hr i h1 h2)
 | agg cs vs hl hr=>exact .agg cs vs hl fun i h1 h2=>E _ (all_eq_true.1 hf _ (getElem_mem h1)) _ (hr i h1 h2)
 | _=>cases hf
theorem HU {f:Nat} {r:D} (ho:o.op = .call {callee:=.value fo,args:=bL,argTypes:=ts}) (hd:o.dst=some t)
  (hf:fo = .func f) (dz:∀args w,(callFunc f args).run P w = .ok (.enter f args) w) (hc:VP P G f args r) (hr:kw r=true) (ha:Looks x bL.toList args) :
  e8 P G x o [] (fun y=>y=x.put t r):=fun C a w K Q hG h Z=>by
 subst hf;have M:(execOp a.eval o).run P w = .ok (.enter f (bL.toList.map a.eval).toArray) w:=by
  unfold execOp;have e:bL.map a.eval=(bL.toList.map a.eval).toArray:=by
   rw[<-Array.toList_map,Array.toArray_toList]
  simp only[ho,resolve,Act.eval,Deferred.ofValue,Sem.run_bind,Sem.run_pure,Result.andThen_ok,invoke,e];simp[dz]
 have O:mL G (fun _=>False) w [] args (bL.toList.map a.eval):=by
  refine⟨fun b hx=>hx.elim,fun g hg=>?_,⟨fun B U=>by simp at U,by simp[aq]⟩,(Looks.Am h ha).mono fun b _ _=>⟨rfl,fun hl=>by rcases hl with hl|hl;exact hl;simp[aq] at hl⟩⟩;rw[<-hG] at hg;exact⟨⟨Nat.lt_of_lt_of_le (h.dx g hg).1.1 h.fr.size,by simp[aq],id⟩,fun i v hi=>h.oo hg hi⟩
 unfold Oper.wp;rw[M,Oper.upon_enter,hd];refine(hc _ w _ O).mono fun e w' ⟨v,r',S',h1,⟨h2,Y⟩,h3,h4,I⟩=>?_;subst h1 h2 Y;have hb:∀b,b<w.heap.size->w'.heap[b]?=w.heap[b]?:=fun b hb=>(I.block b hb (by simp[aq])).1;have base:bp C x a w':=by
  refine⟨h.defers,h.size,fun t ht=>(h.env t ht).mono fun b E hn=>⟨hb b E,hn⟩,⟨fun B U=>?_,h.own.apart⟩,?_,h.ex,h.dx⟩
  ·obtain⟨r0,cur,r1,r2,r3,r4⟩:=h.own.at_ B U;refine⟨kS r0 (hb _ r0),cur,(hb _ r0).trans r1,r2,r3,fun i hi=>?_⟩;obtain⟨u,hu,hq⟩:=r4 i hi;exact⟨u,hu,hq.mono fun b E hn=>⟨hb b E,hn⟩⟩
  exact⟨I.os.trans h.fr.os,I.tape.trans h.fr.tape,I.output.trans h.fr.output,Nat.le_trans h.fr.size I.size,fun b E hn=>⟨(hb b (Nat.lt_of_lt_of_le E h.fr.size)).trans (h.fr.block b E hn).1,(h.fr.block b E hn).2⟩⟩
 exact Z _ _ _ rfl (base.put (h4.flat hr)) ⟨I.size,fun b E _=>hb b E⟩ ⟨I.os,I.tape,I.output,I.size,fun b E hn=>⟨hb b E,hn⟩⟩
theorem OD.look {f:Nat} {r:D} (hw:bS ops x o true) (ho:o.op = .call {callee:=.value fo,args:=bL,argTypes:=ts}) (hd:o.dst=some t)
  (hf:fo = .func f) (dz:∀args w,(callFunc f args).run P w = .ok (.enter f args) w) (hc:VP P C.G f args r) (hr:kw r=true) (ha:Looks x bL.toList args)
  (K:OD P C ops l (x.put t r) Q):OD P C ops (o::l) x Q:=OD.fh hw (HU ho hd hf dz hc hr ha) fun y hy=>hy ▸ K
def bV(e sz:Nat)(cs:List D)(n:Nat)(ad:Option Addr)(cap:Nat)(S:List ak):Prop :=
 (n=0/\cs=[]/\ad=none/\cap=0/\S=[])\/∃b,ad=some ⟨b,0,none⟩/\n<=cap/\cap<=maxLen/\S=[⟨b,e,cap*sz,cs⟩]
theorem xW(h:bV e sz cs n ad cap Sq)(hl:cs.length=n*sz)(hs:∀B∈Sq,B∈S)(hne:isMap e=false:=by rfl):View S (.v (.slice ad n cap)) (.list sz cs n):=by
 rcases h with ⟨rfl,rfl,rfl,rfl,rfl⟩|⟨b,rfl,h1,h2,rfl⟩
 ·exact HT
 obtain⟨k,hk,he⟩:=mem_iff_getElem.1 (hs _ mem_cons_self);exact xV (hne:=hne) (k:=k) (by rw[getElem?_eq_getElem hk,he]) rfl rfl hl h1 h2
theorem bV.le(h:bV e sz cs n ad cap S):n<=cap:=by
 rcases h with ⟨rfl,_,_,rfl,_⟩|⟨_,_,h,_⟩
 ·exact Nat.le_refl _
 exact h
theorem Wk.perm{env:List (Nat×D)}(hp:S.Perm S'):Wk ⟨n,env,S⟩ ⟨n,env,S'⟩:=fun C a w h=>by
 have hb:(aq S).Perm (aq S'):=hp.map ak.b;have hl:live C.X S=live C.X S':=(by funext b;exact propext (or_congr Iff.rfl hb.mem_iff))
 have I:=h.env;have E:=h.own;simp only[hl] at I E;exact⟨h.defers,h.size,I,⟨fun B M=>E.at_ B (hp.symm.subset M),hb.nodup_iff.1 E.apart⟩,
  ⟨h.fr.os,h.fr.tape,h.fr.output,h.fr.size,fun b h1 h2=>⟨(h.fr.block b h1 h2).1,fun hm=>(h.fr.block b h1 h2).2 (hb.symm.subset hm)⟩⟩,h.ex,h.dx⟩
theorem aW(hp:x.S.Perm S')(k:OD P C ops l ⟨x.n,x.env,S'⟩ Q):OD P C ops l x Q:=bc (Wk.perm hp) k
theorem gN(hp:x.S.Perm S')(k:AD P C ops S1 T aP ld ⟨x.n,x.env,S'⟩ Q):AD P C ops S1 T aP ld x Q:=sg (Wk.perm hp) (fun b hb=>(hp.map ak.b).symm.subset hb) k
theorem CS{c:Code}(hp:x.S.Perm S')(k:CD P C c ⟨x.n,x.env,S'⟩ Q):CD P C c x Q:=gS (Wk.perm hp) k
theorem Wk.cover{l:List (Nat×D)}{Sd:List ak}{A:ak}(hp:S.Perm ((A::R)++Sd))(U:kv Sd A.cs cs'):Wk ⟨n,l,S⟩ ⟨n,l,{A with cs:=cs'}::R⟩:=fun C a w h0=>by
 have h:=Wk.perm hp C a w h0;have hd:bp C ⟨n,l,A::R⟩ a w:=Wk.drop n l _ (A::R) (sublist_append_left _ _) C a w h;obtain⟨v1,v2⟩:=U.spec;have O:live C.X ({A with cs:=cs'}::R)=live C.X (A::R):=rfl;have hL:live C.X ((A::R)++Sd)=live (fun b=>live C.X (A::R) b) Sd:=by
  funext b;simp only[live,aq,map_append,mem_append];exact propext or_assoc.symm
 have hnd:(aq (A::R)++aq Sd).Nodup:=(by have:=h.own.apart;simpa[aq] using this)
 have Y:∀b,live C.X (A::R) b->b∉aq Sd:=fun b hb hm=>by
  rcases hb with hb|hb
  ·exact h.rB b hb (by simp only[aq,map_append,mem_append] at hm |-;exact .inr hm)
  exact(nodup_append.1 hnd).2.2 b hb b hm rfl
 have E:Own w (live (fun b=>live C.X (A::R) b) Sd) Sd:=⟨fun B I=>by rw[<-hL];exact h.own.at_ B (mem_append_right _ I),(nodup_append.1 hnd).2.1⟩
 refine⟨hd.defers,hd.size,hd.env,⟨fun B I=>?_,hd.own.apart⟩,hd.fr,hd.ex,hd.dx⟩;rcases mem_cons.1 I with rfl|I
 ·obtain⟨r0,cur,r1,r2,Z,r4⟩:=h.own.at_ A (mem_append_left _ mem_cons_self);refine⟨r0,cur,r1,r2,by rw[<-v1];exact Z,fun i hi=>?_⟩;have M:i<A.cs.length:=(by rw[v1];exact hi)
  obtain⟨u,hu,hq⟩:=r4 i M;refine⟨u,hu,v2 i M hi (fun b=>live C.X (A::R) b) _ w u (fun b hb=>hb) Y E ?_⟩;rw[<-hL];exact hq
 exact hd.own.at_ B (mem_cons_of_mem _ I)
theorem uG(hk:S[k]?=some B)(hp:S.Perm (B::R)):(S.eraseIdx k).Perm R:=((r8 hk).symm.trans hp).cons_inv
theorem CT (hk:x.S[k]?=some B) (ht:V.look t x.env = .v (.slice (some ⟨b,0,none⟩) m cap)) (hb:B.b=b) (cL:B.cs=cs) (hl:cs.length=m*sz) (h1:m<=cap) (h2:cap<=maxLen)
  (K:OD P C ops l ⟨x.n,(t,.list sz cs m)::x.env,x.S.eraseIdx k⟩ Q) (hne:isMap B.e=false:=by rfl):OD P C ops l x Q:=by
 subst hb;exact bc (Wk.vr (hne:=hne) (n:=x.n) (l:=x.env) (S:=x.S) hk ht cL hl h1 h2) K
theorem IR (hk:x.S[k]?=some B) (ht:V.look t x.env = .v (.slice (some ⟨b,0,none⟩) m cap)) (hb:B.b=b) (cL:B.cs=cs) (hl:cs.length=m*sz) (h1:m<=cap) (h2:cap<=maxLen)
  (K:AD P C ops S1 T aP ld ⟨x.n,(t,.list sz cs m)::x.env,x.S.eraseIdx k⟩ Q) (hne:isMap B.e=false:=by rfl):AD P C ops S1 T aP ld x Q:=by
 subst hb;exact sg (Wk.vr (hne:=hne) (n:=x.n) (l:=x.env) (S:=x.S) hk ht cL hl h1 h2) (fun b hb=>(Sublist.map ak.b (eraseIdx_sublist x.S k)).subset hb) K
theorem Gx {s:Operand} {tt bytes:Nat} {z:Value} {new:List D} (hw:bS ops x o true) (ho:o.op = .call {callee:=.builtin .append,args:=#[s,y],argTypes:=#[t,t]}) (hd:o.dst=some tt)
  (ht:P.underlying t=some (.slice e)) (hi:(P.info? e).map (fun i=>(i.zero,i.size,i.bytes))=some (some z,sz,bytes)) (dy:z.cells.size=sz) (U:0<sz)
  (hs:aO x s = .v (.slice ad n cap)) (Z:bV e sz cs n ad cap Sq) (hp:x.S.Perm (Sq++R)) (hl:cs.length=n*sz)
  (hy:aO x y = .list sz new m) (M:∀d∈new,one d=true) (hm:0<m) (kH:n+m<=maxLen) (I:(n+m)*bytes<=140737488355328)
  (K:∀O E,n+m<=E->E<=maxLen->OD P C ops l ⟨x.n,(tt,.v (.slice (some ⟨O,0,none⟩) (n+m) E))::x.env,⟨O,e,E*sz,cs++new⟩::R⟩ Q) (hne:isMap e=false:=by rfl):OD P C ops (o::l) x Q:=by
 rcases Z with ⟨rfl,rfl,rfl,rfl,rfl⟩|⟨b,rfl,h1,h2,rfl⟩
 ·refine Gw (hne:=hne) hw ho hd ht hi dy U hs hy M hm w7 (by rw[Nat.zero_add] at I;exact I) fun O E q1 q2=>?_;have:=K O E w7 q2;rw[Nat.zero_add] at this;exact bc (Wk.perm (hp.cons _)) this
 obtain⟨k,hk,he⟩:=mem_iff_getElem.1 (hp.symm.subset (mem_append_left _ mem_cons_self));have Y:x.S[k]?=some (⟨b,e,cap*sz,cs⟩:ak):=(by rw[getElem?_eq_getElem hk,he])
 refine OD.append (hne:=hne) hw ho hd ht hi dy U hs Y rfl rfl rfl hl h1 h2 hy M hm kH I fun O E q1 q2=>?_;exact bc (Wk.perm ((uG Y hp).cons _)) (K O E q1 q2)
theorem Bn {s:Operand} {tt bytes:Nat} {z:Value} {new:List D} (Y:ops[i]?=some o) (hw:bS ops x o true) (ho:o.op = .call {callee:=.builtin .append,args:=#[s,y],argTypes:=#[t,t]}) (hd:o.dst=some tt)
  (ht:P.underlying t=some (.slice e)) (hi:(P.info? e).map (fun i=>(i.zero,i.size,i.bytes))=some (some z,sz,bytes)) (dy:z.cells.size=sz) (Z:0<sz)
  (hs:aO x s = .v (.slice ad n cap)) (wc:bV e sz cs n ad cap Sq) (hp:x.S.Perm (Sq++R)) (hl:cs.length=n*sz)
  (hy:aO x y = .list sz new m) (O:∀d∈new,one d=true) (hm:0<m) (kH:n+m<=maxLen) (I:(n+m)*bytes<=140737488355328) (hT:∀b∈T,b∈aq R)
  (K:∀U E,n+m<=E->E<=maxLen->AD P C ops S1 T aP (ld.setIfInBounds i true) ⟨x.n,(tt,.v (.slice (some ⟨U,0,none⟩) (n+m) E))::x.env,⟨U,e,E*sz,cs++new⟩::R⟩ Q) (hne:isMap e=false:=by rfl):ea P C ops S1 T aP ld x Q i:=by
 rcases wc with ⟨rfl,rfl,rfl,rfl,rfl⟩|⟨b,rfl,h1,h2,rfl⟩
 ·refine F8 (hne:=hne) Y hw ho hd ht hi dy Z hs hy O hm w7 (by rw[Nat.zero_add] at I;exact I) fun U E q1 q2=>?_;have:=K U E w7 q2;rw[Nat.zero_add] at this;exact sg (Wk.perm (hp.cons _)) (fun b hb=>((hp.cons _).map ak.b).symm.subset hb) this
 obtain⟨k,hk,he⟩:=mem_iff_getElem.1 (hp.symm.subset (mem_append_left _ mem_cons_self));have M:x.S[k]?=some (⟨b,e,cap*sz,cs⟩:ak):=(by rw[getElem?_eq_getElem hk,he])
 refine ea.append (hne:=hne) Y hw ho hd ht hi dy Z hs M rfl rfl rfl hl h1 h2 hy O hm kH I (fun b hb=>((uG M hp).map ak.b).symm.subset (hT b hb)) fun U E q1 q2=>?_;exact sg (Wk.perm ((uG M hp).cons _)) (fun b hb=>(((uG M hp).cons _).map ak.b).symm.subset hb) (K U E q1 q2)
theorem nf {t:TypeId} {o':Nat} {z:Operand} (hw:bS ops x o true) (ho:o.op = .store t y z) (gw:o.dst=none) (hy:aO x y = .v (.pointer (some ⟨b,o',none⟩)))
  (hk:x.S[k]?=some B) (hb:B.b=b) (hz:aO x z=d) (hj:jW d=true) (h1:(cellsOf d).all one=true) (hn:∀w,(sizeOf t).run P w = .ok n w) (lT:(cellsOf d).length=n) (hl:o'+n<=B.cs.length) (cL:eR B.cs o' (cellsOf d)=cs')
  (K:OD P C ops l ⟨x.n,x.env,x.S.set k {B with cs:=cs'}⟩ Q) (hne:isMap B.e=false:=by rfl):OD P C ops (o::l) x Q :=
 OD.fh hw (xH (hne:=hne) ho gw hy hk hb hz (fun h=>by rw[h] at hj;cases hj) h1 hn lT hl cL) fun y hy=>hy ▸ K
end
section
variable {P:Program} {G:List (Nat×List Value)} {x:St} {o:Oper} {S:List ak}
variable {y:Operand} {d0 d:D} {k b o' n sz i j len cap h' l':Nat} {t e:TypeId} {B:ak} {cs:List D} {α:Type} {I hi M:Option Operand} {ad:Option Addr}
def R1(P:Program)(G:List (Nat×List Value))(S:List ak)(mk:Operand->Op)(d0:D)(k:Rd)(d:D):Prop:=∀x o y,o.op=mk y->aO x y=d0->x.S=S->bH P G x o k d
theorem cm{mk:Operand->Op}{k:Rd}(ho:o.op=mk y)(hy:aO x y=d0)(H:R1 P G x.S mk d0 k d):bH P G x o k d:=H x o y ho hy rfl
def R2(P:Program)(G:List (Nat×List Value))(S:List ak)(mk:Operand->Operand->Op)(d0 d1:D)(k:Rd)(d:D):Prop:=∀x o y z,o.op=mk y z->aO x y=d0->aO x z=d1->x.S=S->bH P G x o k d
theorem kj{mk:Operand->Operand->Op}{z:Operand}{d1:D}{k:Rd}(ho:o.op=mk y z)(hy:aO x y=d0)(hz:aO x z=d1)(H:R2 P G x.S mk d0 d1 k d):bH P G x o k d:=H x o y z ho hy hz rfl
theorem sC{t:Nat}(hk:S[k]?=some B)(hb:B.b=b)(ha:∀w,(isAgg t).run P w = .ok false w)(hd:B.cs[o']?=some d)(hne:isMap B.e=false:=by rfl):R1 P G S (Op.load t) (.v (.pointer (some ⟨b,o',none⟩))) (.eK k) d:=fun x o y ho hy hS=>uE (hne:=hne) ho hy (hS ▸ hk) hb ha hd
theorem og{t:Nat}{ds:List D}(hk:S[k]?=some B)(hb:B.b=b)(ha:∀w,(isAgg t).run P w = .ok true w)(hn:∀w,(sizeOf t).run P w = .ok n w)(hl:ds.length=n)(hd:(B.cs.drop o').take n=ds)(hne:isMap B.e=false:=by rfl):R1 P G S (Op.load t) (.v (.pointer (some ⟨b,o',none⟩))) (.eK k) (.agg ds):=fun x o y ho hy hS=>uA (hne:=hne) ho hy (hS ▸ hk) hb ha hn hl hd
theorem vp{t:Nat}(ha:∀w,(isAgg t).run P w = .ok false w)(hd:cs[o']?=some d):R1 P G S (Op.load t) (.dG cs o') .fA d:=fun x o y ho hy _=>uB ho hy ha hd
theorem oq{t:Nat}{ds:List D}(ha:∀w,(isAgg t).run P w = .ok true w)(hn:∀w,(sizeOf t).run P w = .ok n w)(hl:ds.length=n)(hd:(cs.drop o').take n=ds):R1 P G S (Op.load t) (.dG cs o') .fA (.agg ds):=fun x o y ho hy _=>rX ho hy ha hn hl hd
theorem ny{g:α->List D}{t:Nat}{ls:List α}(hg:∀a,(g a).length=sz)(ha:∀w,(isAgg t).run P w = .ok false w)(hi:i<ls.length)(hd:(g ls[i])[j]?=some d):R1 P G S (Op.load t) (.dG (ls.flatMap g) (i*sz+j)) .fA d:=vp ha (qE hg hi hd)
theorem lG{g:α->List D}{t:Nat}{ls:List α}(hg:∀a,(g a).length=sz)(ha:∀w,(isAgg t).run P w = .ok false w)(hi:i<ls.length)(hd:(g ls[i])[0]?=some d):R1 P G S (Op.load t) (.dG (ls.flatMap g) (i*sz)) .fA d:=vp ha (xU hg hi hd)
theorem kX{g:α->List D}{t:Nat}{ls:List α}(hg:∀a,(g a).length=sz)(ha:∀w,(isAgg t).run P w = .ok true w)(hn:∀w,(sizeOf t).run P w = .ok sz w)(hi:i<ls.length):R1 P G S (Op.load t) (.dG (ls.flatMap g) (i*sz)) .fA (.agg (g ls[i])):=oq ha hn (hg _) (sN hg hi)
theorem JL{t:Nat}{vs:List Value}{v:Value}(hg:(b,vs)∈G)(ha:∀w,(isAgg t).run P w = .ok false w)(hd:vs[o']?=some v)(gV:ku v=true:=by rfl):R1 P G S (Op.load t) (.v (.pointer (some ⟨b,o',none⟩))) .fA (.v v):=fun x o y ho hy _=>GL ho hy hg ha hd gV
theorem lF{g:α->List D}{t:Nat}{ls:List α}(hg:∀a,(g a).length=sz)(hk:S[k]?=some B)(hb:B.b=b)(cL:B.cs=ls.flatMap g)(ha:∀w,(isAgg t).run P w = .ok false w)(hi:i<ls.length)(hd:(g ls[i])[j]?=some d)(hne:isMap B.e=false:=by rfl):R1 P G S (Op.load t) (.v (.pointer (some ⟨b,0+i*sz+j,none⟩))) (.eK k) d :=
 sC (hne:=hne) hk hb ha (by rw[cL,Nat.zero_add];exact qE hg hi hd)
theorem gp{g:α->List D}{t:Nat}{ls:List α}(hg:∀a,(g a).length=sz)(hk:S[k]?=some B)(hb:B.b=b)(cL:B.cs=ls.flatMap g)(ha:∀w,(isAgg t).run P w = .ok false w)(hi:i<ls.length)(hd:(g ls[i])[0]?=some d)(hne:isMap B.e=false:=by rfl):R1 P G S (Op.load t) (.v (.pointer (some ⟨b,0+i*sz,none⟩))) (.eK k) d :=
 sC (hne:=hne) hk hb ha (by rw[cL,Nat.zero_add];exact xU hg hi hd)
theorem iI{g:α->List D}{t:Nat}{ls:List α}(hg:∀a,(g a).length=sz)(hk:S[k]?=some B)(hb:B.b=b)(cL:B.cs=ls.flatMap g)(ha:∀w,(isAgg t).run P w = .ok true w)(hn:∀w,(sizeOf t).run P w = .ok sz w)(hi:i<ls.length)(hne:isMap B.e=false:=by rfl):R1 P G S (Op.load t) (.v (.pointer (some ⟨b,0+i*sz,none⟩))) (.eK k) (.agg (g ls[i])) :=
 og (hne:=hne) hk hb ha hn (hg _) (by rw[cL,Nat.zero_add];exact sN hg hi)
theorem JG{s:TypeId}{off:Nat}{f:Field}{I:Array Field}(M:∀w,(underlying s).run P w = .ok (.struct I) w)(hf:I[i]?=some f)(hn:∀w,(sizeOf f.type).run P w = .ok (n+1) w)(E:f.offset=off):R1 P G S (fun y=>Op.fieldAddr s y i) (.v (.pointer (some ⟨b,o',none⟩))) .none (.v (.pointer (some ⟨b,o'+off,none⟩))):=fun x o y ho hy _=>By ho hy M hf hn E
theorem uZ{ts:Array TypeId}(ht:ts = #[t])(E:∀w,(underlying t).run P w = .ok (.slice e) w):R1 P G S (fun y=>.call {callee:=.builtin .len,args:=#[y],argTypes:=ts}) (.v (.slice ad len cap)) .none (.v (.int .i64 len)):=fun x o y ho hy _=>BH ho ht hy E
theorem sr{k:IntKind}{i:Int}(E:∀w,(underlying t).run P w = .ok (.slice e) w)(hs:∀w,(sizeOf e).run P w = .ok sz w)(hi:i=j)(hj:j<len):R2 P G S (Op.indexAddr t) (.list sz cs len) (.v (.int k i)) .none (.dG cs (j*sz)):=fun x o y z ho hy hz _=>BV ho hy hz E hs hi hj
theorem Db{k:IntKind}{i:Int}(E:∀w,(underlying t).run P w = .ok (.slice e) w)(hs:∀w,(sizeOf e).run P w = .ok sz w)(hi:i=j)(hj:j<len):R2 P G S (Op.indexAddr t) (.v (.slice (some ⟨b,o',none⟩) len cap)) (.v (.int k i)) .none (.v (.pointer (some ⟨b,o'+j*sz,none⟩))):=fun x o y z ho hy hz _=>BG ho hy hz E hs hi hj
theorem Dg{k:IntKind}{i:Int}(E:∀w,(underlying t).run P w = .ok (.array len e) w)(hs:∀w,(sizeOf e).run P w = .ok sz w)(hi:i=j)(hj:j<len):R2 P G S (Op.indexAddr t) (.v (.pointer (some ⟨b,o',none⟩))) (.v (.int k i)) .none (.v (.pointer (some ⟨b,o'+j*sz,none⟩))):=fun x o y z ho hy hz _=>GZ ho hy hz E hs hi hj
def Bd(x:St)(y:Option Operand)(n:Nat):Prop:=match y with|some y=>∃(k:IntKind),aO x y = .v (.int k n)|none=>True
def Rs(P:Program)(G:List (Nat×List Value))(t:TypeId)(lo hi:Option Operand)(l h:Nat)(d0:D)(d:D):Prop:=∀x o y,o.op = .slice t y lo hi none->aO x y=d0->Bd x lo l->Bd x hi h->bH P G x o .none d
theorem fH{E:Option Operand}{l h:Nat}(ho:o.op = .slice t y E hi none)(hy:aO x y=d0)(hl:Bd x E l)(I:Bd x hi h)(H:Rs P G t E hi l h d0 d):bH P G x o .none d:=H x o y ho hy hl I
theorem ni{y:Option Operand}{df:Nat}(h:Bd x y n)(hd:y=none->n=df):jV x y n df:=by
 cases y with
 | none=>exact hd rfl
 | some y=>obtain⟨k,hk⟩:=h;exact⟨k,_,hk,rfl⟩
theorem CB {g:α->List D} (hg:∀a,(g a).length=sz) {ls:List α} (E:hi=none->h'=ls.length)
  (M:∀w,(underlying t).run P w = .ok (.slice e) w) (hs:∀w,(sizeOf e).run P w = .ok sz w) (h2:h'<=ls.length):Rs P G t I hi 0 h' (.list sz (ls.flatMap g) ls.length) (.list sz ((ls.take h').flatMap g) (ls.take h').length):=fun x o y ho hy hl O =>
 GN hg ho hy (ni hl fun _=>rfl) (ni O E) M hs h2
theorem IM {g:α->List D} {ls:List α} (E:h'=ls.length) (hg:∀a,(g a).length=sz) (I:M=none->l'=0)
  (O:∀w,(underlying t).run P w = .ok (.slice e) w) (hs:∀w,(sizeOf e).run P w = .ok sz w) (h2:l'<=ls.length):Rs P G t M none l' h' (.list sz (ls.flatMap g) ls.length) (.list sz ((ls.drop l').flatMap g) (ls.drop l').length):=fun x o y ho hy hl U=>by
 subst E;exact GO hg ho hy (ni hl I) rfl O hs h2
theorem uY (E:M=none->l'=0) (I:hi=none->h'=len)
  (O:∀w,(underlying t).run P w = .ok (.slice e) w) (hs:∀w,(sizeOf e).run P w = .ok sz w) (h1:l'<=h') (h2:h'<=len):Rs P G t M hi l' h' (.list sz cs len) (.list sz ((cs.drop (l'*sz)).take ((h'-l')*sz)) (h'-l')):=fun x o y ho hy hl U =>
 xo ho hy (ni hl E) (ni U I) O hs h1 h2
theorem yz (E:hi=none->h'=len)
  (M:∀w,(underlying t).run P w = .ok (.slice e) w) (hs:∀w,(sizeOf e).run P w = .ok sz w) (h2:h'<=cap):Rs P G t I hi 0 h' (.v (.slice (some ⟨b,o',none⟩) len cap)) (.v (.slice (some ⟨b,o',none⟩) h' cap)):=fun x o y ho hy hl O =>
 Gs ho hy (ni hl fun _=>rfl) (ni O E) M hs h2
theorem Dc {s:ByteArray} (E:M=none->l'=0) (I:hi=none->h'=s.size)
  (O:∀w,(underlying t).run P w = .ok .string w) (h1:l'<=h') (h2:h'<=s.size):Rs P G t M hi l' h' (.v (.string s)) (.v (.string (s.extract l' h'))):=fun x o y ho hy hl U =>
 Gt ho hy (ni hl E) (ni U I) O h1 h2
theorem fY {C:cj} {Q:Exit->St->Prop} {ops:Array Oper} {l:List Oper} {g:α->List D} {ls new:List α} {s:Operand} {t e tt bytes:Nat} {z:Value} {Sq R:List ak} (hg:∀a,(g a).length=sz) (hg1:∀a,(g a).all one=true) (hw:bS ops x o true) (ho:o.op = .call {callee:=.builtin .append,args:=#[s,y],argTypes:=#[t,t]}) (hd:o.dst=some tt)
  (ht:P.underlying t=some (.slice e)) (hi:(P.info? e).map (fun i=>(i.zero,i.size,i.bytes))=some (some z,sz,bytes)) (dy:z.cells.size=sz) (O:0<sz)
  (hs:aO x s = .v (.slice ad ls.length cap)) (U:bV e sz (ls.flatMap g) ls.length ad cap Sq) (hp:x.S.Perm (Sq++R))
  (hy:aO x y = .list sz (new.flatMap g) new.length) (hm:0<new.length) (Y:ls.length+new.length<=maxLen) (I:(ls.length+new.length)*bytes<=140737488355328)
  (K:∀M E,(ls++new).length<=E->E<=maxLen->OD P C ops l ⟨x.n,(tt,.v (.slice (some ⟨M,0,none⟩) (ls++new).length E))::x.env,⟨M,e,E*sz,(ls++new).flatMap g⟩::R⟩ Q) (hne:isMap e=false:=by rfl):OD P C ops (o::l) x Q :=
 Gx (hne:=hne) hw ho hd ht hi dy O hs U hp (de hg ls) hy (sE hg1 new) hm Y I fun M E h1 h2=>by
  have:=K M E (by rw[length_append];exact h1) h2;rw[length_append,flatMap_append] at this;exact this
end
variable {P:Program} {C:cj} {G:List (Nat×List Value)} {Q:Exit->St->Prop} {x:St} {ops:Array Oper} {l:List Oper} {o:Oper} {n:Nat} {e:List (Nat×D)} {S:List ak}
variable {t i:Nat} {b:Bool} {d d0:D} {y c:Operand} {kd:Rd} {r:List Oper} {l':List (Nat×D)} {p:Prop}
def mM(P:Program)(t n:Nat):Bool:=match P.info? t with|some i=>Nat.beq i.size n|none=>false
theorem iq{n:Nat}(h:mM P t n=true):∀w,(sizeOf t).run P w = .ok n w:=by
 unfold mM at h;cases hi:P.info? t with
 | none=>rw[hi] at h;cases h
 | some i =>
  rw[hi] at h;intro w;have:=run_sizeOf (P:=P) w hi;rw[this];simp only[Program.cellsOf,hi,Option.map_some,Option.getD_some,Nat.eq_of_beq_eq_true h]
def mN(P:Program)(t:Nat)(b:Bool):Bool:=match P.underlying t with
 | some (.struct _)=>b
 | some (.array _ _)=>b
 | some _=>!b
 | none=>false
theorem eE(h:mN P t b=true):∀w,(isAgg t).run P w = .ok b w:=by
 unfold mN at h;intro w;cases hu:P.underlying t with
 | none=>rw[hu] at h;cases h
 | some d =>
  rw[hu] at h;have hr:=run_underlying hu w;unfold isAgg;rw[Sem.run_bind,hr];cases d<;>simp only at h<;>first|(subst h;rfl)|(cases b;rfl;cases h)
def tI(P:Program)(s i off:Nat):Bool:=match P.underlying s with
 | some (.struct fs)=>match fs[i]? with
  | some f=>Nat.beq f.offset off&&(match P.info? f.type with|some j=>Nat.ble 1 j.size|none=>false)
  | none=>false
 | _=>false
theorem KI{s off:Nat}(h:tI P s i off=true):∃E f m,(∀w,(underlying s).run P w = .ok (.struct E) w)/\E[i]?=some f/\(∀w,(sizeOf f.type).run P w = .ok (m+1) w)/\f.offset=off:=by
 unfold tI at h;split at h
 ·rename_i E I;split at h
  ·rename_i f hf;rw[Bool.and_eq_true] at h;obtain⟨h1,h2⟩:=h;split at h2
   ·rename_i j hj;have M:=Nat.le_of_ble_eq_true h2;refine⟨E,f,j.size-1,run_underlying I,hf,fun w=>?_,Nat.eq_of_beq_eq_true h1⟩;have:=run_sizeOf (P:=P) w hj;rw[this];simp only[Program.cellsOf,hj,Option.map_some,Option.getD_some];congr 1;omega
   cases h2
  cases h
 cases h
def tJ(P:Program)(t sz:Nat):Bool:=match P.underlying t with
 | some (.slice e)=>mM P e sz
 | _=>false
theorem KJ{sz:Nat}(h:tJ P t sz=true):∃e,(∀w,(underlying t).run P w = .ok (.slice e) w)/\∀w,(sizeOf e).run P w = .ok sz w:=by
 unfold tJ at h;split at h
 ·rename_i e E;exact⟨e,run_underlying E,iq h⟩
 cases h
def An(P:Program)(t:Nat):Bool:=match P.underlying t with
 | some (.slice _)=>true
 | _=>false
theorem JM(h:An P t=true):∃e,∀w,(underlying t).run P w = .ok (.slice e) w:=by
 unfold An at h;split at h
 ·rename_i e E;exact⟨e,run_underlying E⟩
 cases h
theorem bg{z:Operand}(ho:o.op = .move z\/o.op = .assign z:=by first|exact .inl rfl|exact .inr rfl)(hz:aO x z=d:=by first|exact ot|exact aN|exact nh|exact mh):bH P G x o .none d:=by
 rcases ho with h|h
 ·exact mi h hz
 exact jm h hz
inductive FA (off:Nat):D->D->Prop
 | p {b o':Nat}:FA off (.v (.pointer (some ⟨b,o',none⟩))) (.v (.pointer (some ⟨b,o'+off,none⟩)))
 | i {cs:List D} {o':Nat}:FA off (.dG cs o') (.dG cs (o'+off))
theorem aB(off:Nat){s:TypeId}{d':D}(ho:o.op = .fieldAddr s y i:=by exact rfl)(hy:aO x y=d:=by first|exact ot|exact mh)(hc:tI P s i off=true:=by kernel_rfl)(h:FA off d d':=by first|exact .p|exact .i):bH P G x o .none d':=by
 obtain⟨fs,f,m,h1,h2,h3,h4⟩:=KI hc;cases h with
 | p=>exact By ho hy h1 h2 h3 h4
 | i=>exact Gq ho hy h1 h2 h3 h4
theorem bF(ho:o.op = .nilCheck y:=by exact rfl)(hy:aO x y=d:=by exact ot)(h:FA 0 d d:=by first|exact .p|exact .i):bH P G x o .none d:=by
 cases h with
 | p=>exact Ga ho hy
 | i=>exact F7 ho hy
theorem gW{cs:List D}(ho:o.op = .extract y i:=by exact rfl)(hy:aO x y = .dK cs:=by exact ot)(hd:cs[i]?=some d:=by exact rfl):bH P G x o .none d:=Gb ho hy hd
inductive LD (S:List ak):D->Rd->D->Prop
 | b (k:Nat) {b o':Nat} {B:ak} {d:D} (hk:S[k]?=some B) (hb:B.b=b) (hd:B.cs[o']?=some d) (hne:isMap B.e=false):LD S (.v (.pointer (some ⟨b,o',none⟩))) (.eK k) d
 | m {α:Type} {g:α->List D} {sz i j:Nat} {ls:List α} {d:D} (hg:∀a,(g a).length=sz) (hi:i<ls.length) (hd:(g ls[i])[j]?=some d):LD S (.dG (ls.flatMap g) (i*sz+j)) .fA d
 | m0 {α:Type} {g:α->List D} {sz i:Nat} {ls:List α} {d:D} (hg:∀a,(g a).length=sz) (hi:i<ls.length) (hd:(g ls[i])[0]?=some d):LD S (.dG (ls.flatMap g) (i*sz)) .fA d
 | r (k:Nat) {α:Type} {g:α->List D} {b sz i j:Nat} {B:ak} {ls:List α} {d:D} (hg:∀a,(g a).length=sz) (hk:S[k]?=some B) (hb:B.b=b) (cL:B.cs=ls.flatMap g) (hi:i<ls.length) (hd:(g ls[i])[j]?=some d) (hne:isMap B.e=false):LD S (.v (.pointer (some ⟨b,0+i*sz+j,none⟩))) (.eK k) d
 | r0 (k:Nat) {α:Type} {g:α->List D} {b sz i:Nat} {B:ak} {ls:List α} {d:D} (hg:∀a,(g a).length=sz) (hk:S[k]?=some B) (hb:B.b=b) (cL:B.cs=ls.flatMap g) (hi:i<ls.length) (hd:(g ls[i])[0]?=some d) (hne:isMap B.e=false):LD S (.v (.pointer (some ⟨b,0+i*sz,none⟩))) (.eK k) d
 | i {o':Nat} {cs:List D} {d:D} (hd:cs[o']?=some d):LD S (.dG cs o') .fA d
theorem LD.still{t:TypeId}(h:LD x.S d0 kd d)(ho:o.op = .load t y)(hy:aO x y=d0)(ha:∀w,(isAgg t).run P w = .ok false w):bH P G x o kd d:=by
 cases h with
 | b k hk hb hd hne=>exact uE (hne:=hne) ho hy hk hb ha hd
 | m hg hi hd=>exact uB ho hy ha (qE hg hi hd)
 | m0 hg hi hd=>exact uB ho hy ha (xU hg hi hd)
 | r k hg hk hb cL hi hd hne=>exact lF (hne:=hne) hg hk hb cL ha hi hd x o y ho hy rfl
 | r0 k hg hk hb cL hi hd hne=>exact gp (hne:=hne) hg hk hb cL ha hi hd x o y ho hy rfl
 | i hd=>exact uB ho hy ha hd
theorem fE {t:TypeId} (ho:o.op = .load t y:=by exact rfl) (hy:aO x y=d0:=by exact ot) (ha:mN P t false=true:=by kernel_rfl)
  (h:LD x.S d0 kd d:=by first|exact .m mI cX rfl|exact .m0 mI cX rfl|exact .b 0 rfl rfl rfl rfl|exact .b 1 rfl rfl rfl rfl|exact .b 2 rfl rfl rfl rfl|exact .b 3 rfl rfl rfl rfl|exact .b 4 rfl rfl rfl rfl|exact .i rfl|exact .r 0 mI rfl rfl rfl cX rfl rfl|exact .r0 0 mI rfl rfl rfl cX rfl rfl|exact .r 1 mI rfl rfl rfl cX rfl rfl|exact .r0 1 mI rfl rfl rfl cX rfl rfl):bH P G x o kd d:=h.still ho hy (eE ha)
theorem aH(k:Nat){b o':Nat}{B:ak}(ho:o.op = .load t y:=by exact rfl)(hy:aO x y = .v (.pointer (some ⟨b,o',none⟩)):=by exact ot)(hk:x.S[k]?=some B:=by exact rfl)(hb:B.b=b:=by exact rfl)(ha:mN P t false=true:=by kernel_rfl)(hd:B.cs[o']?=some d:=by exact rfl)(hne:isMap B.e=false:=by exact rfl):bH P G x o (.eK k) d:=uE (hne:=hne) ho hy hk hb (eE ha) hd
inductive LA (S:List ak):List D->D->Rd->List D->Prop
 | b (k:Nat) {b o':Nat} {B:ak} {ds:List D} (hk:S[k]?=some B) (hb:B.b=b) (hd:(B.cs.drop o').take ds.length=ds) (hne:isMap B.e=false):LA S ds (.v (.pointer (some ⟨b,o',none⟩))) (.eK k) ds
 | m {α:Type} {g:α->List D} {sz i:Nat} {ls:List α} {ds:List D} (hg:∀a,(g a).length=sz) (hi:i<ls.length) (hd:g ls[i]=ds):LA S ds (.dG (ls.flatMap g) (i*sz)) .fA (g ls[i])
 | r (k:Nat) {α:Type} {g:α->List D} {b sz i:Nat} {B:ak} {ls:List α} {ds:List D} (hg:∀a,(g a).length=sz) (hk:S[k]?=some B) (hb:B.b=b) (cL:B.cs=ls.flatMap g) (hi:i<ls.length) (hd:g ls[i]=ds) (hne:isMap B.e=false):LA S ds (.v (.pointer (some ⟨b,0+i*sz,none⟩))) (.eK k) (g ls[i])
 | i {o':Nat} {cs ds:List D} (hd:(cs.drop o').take ds.length=ds):LA S ds (.dG cs o') .fA ds
theorem we (ds:List D) {t:TypeId} {es:List D} (ho:o.op = .load t y:=by exact rfl) (hy:aO x y=d0:=by exact ot) (ha:mN P t true=true:=by kernel_rfl)
  (h:LA x.S ds d0 kd es:=by first|exact .m mI cX rfl|exact .b 0 rfl rfl rfl rfl|exact .b 1 rfl rfl rfl rfl|exact .b 2 rfl rfl rfl rfl|exact .b 3 rfl rfl rfl rfl|exact .b 4 rfl rfl rfl rfl|exact .i rfl|exact .r 0 mI rfl rfl rfl cX rfl rfl|exact .r 1 mI rfl rfl rfl cX rfl rfl|exact .r 2 mI rfl rfl rfl cX rfl rfl) (hn:mM P t ds.length=true:=by kernel_rfl):bH P G x o kd (.agg es):=by
 have E:=iq hn;cases h with
 | b k hk hb hd hne=>exact uA (hne:=hne) ho hy hk hb (eE ha) E rfl hd
 | m hg hi hd=>exact rX ho hy (eE ha) (by rw[<-hd,hg] at E;exact E) (hg _) (sN hg hi)
 | r k hg hk hb cL hi hd hne=>exact iI (hne:=hne) hg hk hb cL (eE ha) (by rw[<-hd,hg] at E;exact E) hi x o y ho hy rfl
 | i hd=>exact rX ho hy (eE ha) E rfl hd
theorem fw(k:Nat)(ds:List D){b o':Nat}{B:ak}(ho:o.op = .load t y:=by exact rfl)(hy:aO x y = .v (.pointer (some ⟨b,o',none⟩)):=by exact ot)(ha:mN P t true=true:=by kernel_rfl)(hk:x.S[k]?=some B:=by exact rfl)(hb:B.b=b:=by exact rfl)(hd:(B.cs.drop o').take ds.length=ds:=by exact rfl)(hne:isMap B.e=false:=by exact rfl)(hn:mM P t ds.length=true:=by kernel_rfl):bH P G x o (.eK k) (.agg ds):=uA (hne:=hne) ho hy hk hb (eE ha) (iq hn) rfl hd
inductive IX (sz:Nat) (i:Int):D->D->Prop
 | l {cs:List D} {len j:Nat} (hi:i=j) (hj:j<len):IX sz i (.list sz cs len) (.dG cs (j*sz))
 | r {b o' len cap j:Nat} (hi:i=j) (hj:j<len):IX sz i (.v (.slice (some ⟨b,o',none⟩) len cap)) (.v (.pointer (some ⟨b,o'+j*sz,none⟩)))
theorem dW (sz:Nat) {t:TypeId} {z:Operand} {k:IntKind} {i:Int} {d':D} (ho:o.op = .indexAddr t y z:=by exact rfl) (hy:aO x y=d:=by exact ot) (hz:aO x z = .v (.int k i):=by first|exact ot|exact aN) (hs:tJ P t sz=true:=by kernel_rfl)
  (h:IX sz i d d':=by first|exact .l rfl cX|exact .r rfl cX|exact .l (Int.toNat_of_nonneg w7).symm w7|exact .r (Int.toNat_of_nonneg w7).symm w7):bH P G x o .none d':=by
 obtain⟨e,h1,h2⟩:=KJ hs;cases h with
 | l hi hj=>exact BV ho hy hz h1 h2 hi hj
 | r hi hj=>exact BG ho hy hz h1 h2 hi hj
theorem cZ{t:TypeId}{m:Nat}{ts:Array TypeId}(ho:o.op = .call {callee:=.builtin .len,args:=#[y],argTypes:=ts}:=by exact rfl)(ht:ts = #[t]:=by exact rfl)(hy:aO x y=d:=by exact ot)(hs:An P t=true:=by kernel_rfl)(h:(∃sz cs,d = .list sz cs m)\/∃ad cap,d = .v (.slice ad m cap):=by first|exact .inl ⟨_,_,rfl⟩|exact .inr ⟨_,_,rfl⟩):bH P G x o .none (.v (.int .i64 m)):=by
 obtain⟨e,he⟩:=JM hs;rcases h with ⟨sz,cs,rfl⟩|⟨ad,cap,rfl⟩
 ·exact Ho ho ht hy he
 exact BH ho ht hy he
theorem aE {op:BinOp} {t t':TypeId} {z:Operand} {u u' r:Value} (ho:o.op = .binOp op t y z t':=by exact rfl) (hy:aO x y = .v u:=by first|exact ot|exact aN) (hz:aO x z = .v u':=by first|exact ot|exact aN)
  (hb:ij P op t u u' r:=by first|exact sx|exact CL|exact lD (wrap_i64 w7 w7)|exact qC (wrap_i64 w7 w7)|exact CP|exact CN|exact CM|exact CO|exact qD (wrap_i64 w7 w7)|exact Cc|exact xR|exact HV|exact HW|exact HX|exact HY|exact IS w7):bH P G x o .none (.v r):=eX ho hy hz hb
theorem e9{t:TypeId}(ho:o.op = .unOp .not t y:=by exact rfl)(hy:aO x y = .v (.bool b):=by exact ot):bH P G x o .none (.v (.bool !b)):=xP ho hy JK
theorem cW{z:Operand}(ho:o.op = .pick c y z:=by exact rfl)(hc:aO x c = .v (.bool b):=by exact ot)(h:b=true:=by first|rfl|assumption)(hd:aO x y=d:=by first|exact ot|exact aN):bH P G x o .none d:=oX ho hc h hd
theorem bC{z:Operand}(ho:o.op = .pick c y z:=by exact rfl)(hc:aO x c = .v (.bool b):=by exact ot)(h:b=false:=by first|rfl|assumption)(hd:aO x z=d:=by first|exact ot|exact aN):bH P G x o .none d:=jN ho hc h hd
theorem ae(h:bH P C.G ⟨n,e,S⟩ o kd d)(K:OD P C ops l ⟨n,(t,d)::e,S⟩ Q)(hw:bS ops ⟨n,e,S⟩ o true:=by first|exact mc rfl|exact pp rfl rfl rfl lk w6)(hd:o.dst=some t:=by exact rfl):OD P C ops (o::l) ⟨n,e,S⟩ Q:=gE hw hd h K
theorem an(K:OD P C ops l ⟨n,(t,.v (.tuple #[]))::e,S⟩ Q)(hw:bS ops ⟨n,e,S⟩ o false:=by exact cz rfl rfl rfl lk w6)(hd:o.dst=some t:=by exact rfl):OD P C ops (o::l) ⟨n,e,S⟩ Q:=ym hw hd K
theorem oI(K:OD P C ops l ⟨n,(t,.v (.tuple #[]))::e,S⟩ Q)(hw:bS ops ⟨n,e,S⟩ o false:=by exact yl (b:=false) rfl rfl rfl lk)(hd:o.dst=some t:=by exact rfl):OD P C ops (o::l) ⟨n,e,S⟩ Q:=ym hw hd K
inductive dX:List Nat->List (Nat×D)->List (Nat×D)->Prop
 | nil {e:List (Nat×D)}:dX [] e []
 | cons {t:Nat} {ts:List Nat} {d:D} {e l':List (Nat×D)} (h:look t e=d) (k:dX ts e l'):dX (t::ts) e ((t,d)::l')
theorem dX.gH{ts:List Nat}{e:List (Nat×D)}(h:dX ts e l'):gG e l':=by
 induction h with
 | nil=>trivial
 | cons h _ ih=>exact⟨h,ih⟩
theorem au(ts:List Nat)(K:Q .normal ⟨n,l',S⟩)(h:dX ts e l':=by repeat (first|exact dX.nil|(apply dX.cons;focus exact lk))):OD P C ops [] ⟨n,e,S⟩ Q:=bc (Wk.aR rfl rfl h.gH) (bi K)
def M9:Code->Bool
 | .region ..=>true
 | _=>false
theorem Na{c d:Code}(K:CD P C c x (sV P C d Q))(h:M9 c=false:=by exact rfl):CD P C (.seq c d) x Q:=aC K
theorem jB{q:Prop}(h:q->p:=by intro k;(repeat (first|refine Na ?_|refine aS ?_|refine bZ ?_|refine ep ?_|refine aI ?_|fail));exact k):q->p:=h
theorem bl{fn:Func}{post:D->List ak->Prop}{ex:Exit}(hp:post d [])(h0:Body P fn post ex ⟨n,e,S⟩->p:=by exact jB)(he:ex = .normal\/ex = .ret:=by first|exact .inr rfl|exact .inl rfl)(hr:fn.results = #[.tmp t]:=by exact rfl)(ht:Nat.blt t n=true:=by exact rfl)(hd:look t e=d:=by exact lk):p :=
 h0 ⟨he,d,[],nil_sublist _,eC hr (cw (Nat.le_of_ble_eq_true ht) hd),hp⟩
theorem ah{id:Nat}{d:Code}(h:OD P C r.toArray r x (sV P C d Q))(h0:CD P C (.seq (.region id r.toArray false) d) x Q->p:=by exact jB):p:=h0 (aC (aV h))
theorem Nb{id:Nat}(h:OD P C r.toArray r x Q)(h0:CD P C (.region id r.toArray false) x Q->p:=by exact jB):p:=h0 (aV h)
theorem EM{d e:Code}(ht:CD P C d x Q)(h0:CD P C (.cond c d e) x Q->p:=by exact jB)(hc:aO x c = .v (.bool b):=by exact ot)(hb:b=true:=by first|rfl|assumption):p:=h0 (fe hc hb ht)
theorem Nc{d e:Code}(ht:CD P C e x Q)(h0:CD P C (.cond c d e) x Q->p:=by exact jB)(hc:aO x c = .v (.bool b):=by exact ot)(hb:b=false:=by first|rfl|assumption):p:=h0 (iG hc hb ht)
end V
namespace Tab
open List
open Go.RowKit Go.ChangeShapes
variable {α:Type} {e t:TypeId}
theorem chunks{α:Type}{g:α->List Value}{c:Nat}:∀(E:List α) (cs:List Value),cs.length=E.length*c->(∀i (h:i<E.length),(cs.drop (i*c)).take c=g E[i])->cs=E.flatMap g
 | [],cs,hl,_=>by
  have:cs=[]:=length_eq_zero_iff.1 (by simpa using hl);simp[this]
 | r::E,cs,hl,h=>by
  have h0:cs.take c=g r:=by
   have h1:=h 0 cq;simp only[Nat.zero_mul,drop_zero] at h1;exact h1
  have I:=chunks (c:=c) E (cs.drop c) (by rw[length_drop,hl,length_cons,Nat.add_mul];omega) (fun i hi=>by
   have h1:=h (i+1) (by simpa using hi);rw[drop_drop,show c+i*c=(i+1)*c from by rw[Nat.add_mul];omega];exact h1)
  rw[flatMap_cons,<-h0,<-I,take_append_drop]
variable {H:Type} {enc:TypeId×Value->H} {P:Program} {w:World} {base:Nat} {sp:Nat->Bool} {held:Bool}
def Reads(enc:TypeId×Value->H)(P:Program)(w:World)(base:Nat)(sp:Nat->Bool)(held:Bool)(e:TypeId)(f:α->DataW H)(g:α->List Value):Prop :=
 ∀(aP:Nat) (cs:List Value) (x:DataW H×List MemPlace),DataW.trod enc P w base sp held aP e cs=some x->∀r,x.1=f r->cs=g r
theorem reads_bool(he:P.underlying e=some .bool):Reads enc P w base sp held e (fun b:Bool=>.lit (.bool b)) (fun b=>[.bool b]):=by
 intro aP cs x h r hr;obtain⟨b,rfl,rfl⟩:=DataW.trod_bool he h;simp at hr;rw[hr]
theorem reads_int{k:IntKind}(he:P.underlying e=some (.int k)):Reads enc P w base sp held e (fun b:Int=>.lit (.int k b)) (fun b=>[.int k b]):=by
 intro aP cs x h r hr;obtain⟨b,rfl,rfl,_⟩:=DataW.trod_int he h;simp at hr;rw[hr]
theorem reads_string(he:P.underlying e=some .string):Reads enc P w base sp held e (fun b:List UInt8=>.lit (.string b)) (fun b=>[.string ⟨b.toArray⟩]):=by
 intro aP cs x h r hr;obtain⟨s,rfl,rfl,_⟩:=DataW.trod_string he h;simp at hr;obtain⟨⟨s⟩⟩:=s;simp at hr;rw[<-hr]
theorem reads_arr {f:α->DataW H} {g:α->List Value} {n:Nat} (ht:P.underlying t=some (.array n e)) (I:P.cellsOf t=n*P.cellsOf e)
  (M:Reads enc P w base sp held e f g):Reads enc P w base sp held t (fun E:List α=>.agg (E.map f)) (fun E=>E.flatMap g):=by
 intro aP cs x h E hr;obtain⟨xs,m,_,rfl,hl,hn,hi⟩:=DataW.trod_array ht h;simp only[DataW.agg.injEq] at hr;have O:E.length=n:=(by have:=congrArg length hr;simp at this;omega)
 refine chunks E cs (by rw[hl,I,O]) fun i U=>?_;have h1:=hi i w7;rw[getElem?_eq_getElem w7] at h1;refine M m _ _ h1 _ ?_;have:=congrArg (fun l=>l[i]?) hr;simpa[getElem?_eq_getElem U,getElem?_eq_getElem (show i<xs.length by omega)] using this
theorem reads_four {E I M O:Type} {f0:E->DataW H} {f1:I->DataW H} {f2:M->DataW H} {f3:O->DataW H} {g0:E->List Value} {g1:I->List Value} {g2:M->List Value} {g3:O->List Value} {d0 d1 d2 U:Field}
  (ht:P.underlying t=some (.struct #[d0,d1,d2,U])) (hc:P.cellsOf t=4) (o0:d0.offset=0) (o1:d1.offset=1) (o2:d2.offset=2) (o3:U.offset=3) (c0:P.cellsOf d0.type=1) (c1:P.cellsOf d1.type=1) (c2:P.cellsOf d2.type=1) (c3:P.cellsOf U.type=1)
  (h0:Reads enc P w base sp held d0.type f0 g0) (h1:Reads enc P w base sp held d1.type f1 g1) (h2:Reads enc P w base sp held d2.type f2 g2) (h3:Reads enc P w base sp held U.type f3 g3) :
  Reads enc P w base sp held t (fun r:E × I × M × O=>.agg [f0 r.1,f1 r.2.1,f2 r.2.2.1,f3 r.2.2.2]) (fun r=>g0 r.1++(g1 r.2.1++(g2 r.2.2.1++g3 r.2.2.2))):=by
 intro aP cs x h r hr;obtain⟨xs,m,_,rfl,hl,hn,hf⟩:=DataW.trod_struct ht h;rw[hc] at hl;have q0:=hf 0 d0 rfl;have q1:=hf 1 d1 rfl;have q2:=hf 2 d2 rfl;have Y:=hf 3 U rfl;rw[o0,c0] at q0;rw[o1,c1] at q1;rw[o2,c2] at q2;rw[o3,c3] at Y;match xs,hn with
 | [y0,y1,y2,y3],_ =>
  simp only[DataW.agg.injEq,map_cons,map_nil,cons.injEq,and_true] at hr;match cs,hl with
  | [v0,v1,v2,v3],_ =>
   have Z:=h0 m _ _ q0 _ hr.1;have e1:=h1 m _ _ q1 _ hr.2.1;have e2:=h2 m _ _ q2 _ hr.2.2.1;have e3:=h3 m _ _ Y _ hr.2.2.2;simp only[drop_zero,drop_succ_cons,take_succ_cons,List.take_zero] at Z e1 e2 e3;show[v0,v1,v2,v3]=g0 r.1++(g1 r.2.1++(g2 r.2.2.1++g3 r.2.2.2));rw[<-Z,<-e1,<-e2,<-e3];rfl
theorem var_cells {f:α->DataW Unit} {g:α->List Value} {W:World} {n:String} {I:Nat} {cs:Array Value} {aP:Nat} {p:List MemPlace} {r:α}
  (hg:P.globalNamed n=some I) (M:W.var? P n=some cs) (hd:DataW.trod (fun _=>()) P W 0 (fun _=>true) false aP t cs.toList=some (f r,p))
  (E:Reads (fun _=>()) P W 0 (fun _=>true) false t f g) (i:Nat) (v:Value) (hi:(g r)[i]?=some v):W.cell? ⟨I,i,none⟩=some v:=by
 have h:=E _ _ _ hd r rfl;rw[World.var?_cell hg M i,<-Array.getElem?_toList,h,hi]
def iM(w:World)(g:Nat)(l:List Value):Prop:=∀i v,l[i]?=some v->w.cell? ⟨g,i,none⟩=some v
end Tab
namespace V
open List
open Go.RowKit
section
variable {G:List (Nat×List Value)} {args:List D}
def sW(w:World)(g:Nat)(l:List Value):Prop:=∀i v,l[i]?=some v->iR w g i v
theorem sW.of{w:World}{g:Nat}{l:List Value}(h:Tab.iM w g l)(hp:l.all ku=true):sW w g l:=fun i v hi=>.of (h i v hi) (xO hp hi)
theorem VP.run {P:Program} {f:FuncId} {vs:List Value} {r:Value} {w:World} (h:VP P G f args (.v r))
  (hG:∀g∈G,g.2≠[]/\sW w g.1 g.2) (hr:bX w (live (fun _=>False) []) args vs):Calls P f vs.toArray w fun e w'=>e = .returned r/\Below w.heap.size w w':=by
 have hp:mL G (fun _=>False) w [] args vs:=by
  refine⟨fun _ h=>h.elim,fun g hg=>⟨⟨?_,by simp[aq],fun h=>h⟩,(hG g hg).2⟩,⟨fun B I=>by simp at I,by simp[aq]⟩,hr⟩;obtain⟨h1,h2⟩:=hG g hg;cases hl:g.2 with
  | nil=>exact absurd hl h1
  | cons v l=>exact(h2 0 v (by rw[hl];rfl)).lt
 refine(h _ w vs hp).mono fun e w' ⟨v,O,S',h1,⟨h2,U⟩,Y,M,E⟩=>?_;subst h2;rw[M.gu] at h1;exact⟨h1,E.os,E.tape,E.output,E.size,fun k hk=>(E.block k hk (by simp[aq])).1⟩
theorem bX.vs(w:World)(L:Nat->Prop)(vs:List Value):bX w L (vs.map .v) vs:=⟨by simp,fun i h1 h2=>by rw[getElem_map];exact .v _⟩
theorem yH{a:Int}(h:(Lit.int .i64 a).wf=true):-9223372036854775808<=a/\a<=9223372036854775807:=bounds_i64 h
variable {H:Type} {enc:TypeId×Value->H} {P:Program} {w:World} {base:Nat} {sp:Nat->Bool} {held:Bool}
def EN(enc:TypeId×Value->H)(P:Program)(w:World)(base:Nat)(sp:Nat->Bool)(held:Bool)(t:TypeId){α:Type}(g:α->List D)(ok:α->Prop):Prop :=
 ∀aP cs x,DataW.trod enc P w base sp held aP t cs=some x->∃a,bX w (fun _=>False) (g a) cs/\ok a
theorem JN{t:TypeId}(ht:P.underlying t=some (.int .i64)):EN enc P w base sp held t (fun n:Int=>[.v (.int .i64 n)]) (fun n=>-9223372036854775808<=n/\n<=9223372036854775807):=fun aP cs x h=>by
 obtain⟨n,rfl,_,hw⟩:=DataW.trod_int ht h;exact⟨n,bX.vs w _ [_],yH hw⟩
theorem HZ {t e:TypeId} {sz b':Nat} {α:Type} {g:α->List D} {ok:α->Prop} (ht:P.underlying t=some (.slice e)) (Nd:P.cellsOf e=sz) (jb:0<sz) (re:EN enc P w base sp held e g ok) (hg:∀a,(g a).length=sz) {v:Value} {d:DataW H} {p:List MemPlace}
  (hval:Value.okWide P w .any b' t v) (h:DataW.Trod enc P w base sp held t v d p):∃l:List α,bP w (fun _=>False) (.list sz (l.flatMap g) l.length) v/\(∀x∈l,ok x)/\l.length<=maxLen:=by
 have hv:Cell.okWide P w .any b' t v:=(by unfold Value.okWide at hval;rw[ht] at hval;exact hval)
 unfold Cell.okWide at hv;rw[ht] at hv;obtain⟨m,hm⟩:=h;have hv2:Cell.ok P w .any b' t v:=(by revert hv;cases v<;>exact id)
 unfold Cell.ok at hv2;rw[ht] at hv2;cases v with
 | slice ad len cap =>
  rcases Go.Deep.open_slice ht hm with ⟨h1,_⟩|⟨a,U,Y,mm,n,Dd,Pl,h1,hb,hl,eI,Nf,_,hx⟩
  ·have e1:Value.slice ad len cap = .slice none 0 0:=(by simpa[Value.cells] using h1)
   rw[e1];exact⟨[],.nil sz,(fun x hx=>by cases hx),Nat.zero_le _⟩
  have e1:Value.slice ad len cap = .slice (some a) U Y:=(by simpa[Value.cells] using h1)
  cases e1;have Z:w.has P .any b' a e cap:=hv2.2.2;obtain⟨_,M,row,cells,tK,_⟩:=Z;obtain⟨b,o,s⟩:=a;have E:s=none:=M;subst E;have aD:b<w.heap.size:=by
   rcases Nat.lt_or_ge b w.heap.size with h2|h2
   ·exact h2
   simp[World.shape?,Array.getElem?_eq_none h2] at tK
  have hle:len<=mm:=(by rw[Nf];split<;>omega)
  have I:∀i:Fin len,∃a:α,(∃cs',w.cells? base ((⟨b,o,none⟩:Addr).add (i.1*P.cellsOf e)) (P.cellsOf e)=some cs'/\bX w (fun _=>False) (g a) cs')/\ok a:=fun i=>by
   obtain⟨cs',h1,h2⟩:=hx i.1 w7;obtain⟨a,h3,h4⟩:=re _ _ _ h2;exact⟨a,⟨cs',h1,h3⟩,h4⟩
  let l:List α:=ofFn fun i:Fin len=>Classical.choose (I i)
  have Ao:l.length=len:=(by simp[l])
  have EO:∀i (hi:i<l.length),(∃cs',w.cells? base ((⟨b,o,none⟩:Addr).add (i*P.cellsOf e)) (P.cellsOf e)=some cs'/\bX w (fun _=>False) (g l[i]) cs')/\ok l[i]:=fun i hi=>by
   have:=Classical.choose_spec (I ⟨i,by omega⟩);simpa[l] using this
  refine⟨l,?_,fun x hx=>?_,by omega⟩
  ·have key:∀k,k<(l.flatMap g).length->∃u,w.cell? ⟨b,o+k,none⟩=some u/\∀h:k<(l.flatMap g).length,bP w (fun _=>False) (l.flatMap g)[k] u:=fun k hk=>by
    rw[de hg] at hk;have hi:k/sz<l.length:=Nat.div_lt_of_lt_mul (by rw[Nat.mul_comm];exact hk);have hj:k % sz<sz:=Nat.mod_lt _ jb;have pY:k/sz*sz+k % sz=k:=(by rw[Nat.mul_comm];exact Nat.div_add_mod k sz)
    obtain⟨⟨cs',h1,h2⟩,_⟩:=EO _ hi;obtain⟨_,h4,h5⟩:=World.cells?_some h1;have h6:=h5 (k % sz) w7;have tH:k % sz<cs'.length:=(by omega)
    rw[getElem?_eq_getElem tH,Go.Deep.add_add,Nd,pY,Addr.add_mid] at h6;refine⟨_,h6,fun h=>?_⟩;have h7:=h2.2 (k % sz) (by rw[hg];exact hj) tH;have h8:=qE hg hi (getElem?_eq_getElem (show k % sz<(g l[k/sz]).length by rw[hg];exact hj));rw[pY,getElem?_eq_getElem h] at h8;rw[Option.some.inj h8];exact h7
   have Qc:len<=cap:=hl;have O:Value.slice (some ⟨b,o,none⟩) len cap=Value.slice (some ⟨b,o,none⟩) l.length cap:=(by rw[Ao])
   rw[O];refine bP.list (L:=fun _=>False) sz (l.flatMap g) l.length b o cap (fun k=>(w.cell? ⟨b,o+k,none⟩).getD undef) (de hg l) w7 eI aD (fun h=>h.elim) (fun k hk=>?_) (fun k hk=>?_)
   ·obtain⟨u,h1,_⟩:=key k hk;rw[h1];rfl
   obtain⟨u,h1,h2⟩:=key k hk;simp only[h1,Option.getD_some];exact h2 hk
  obtain⟨i,hi,rfl⟩:=mem_iff_getElem.1 hx;exact(EO i hi).2
 | _=>exact hv2.elim
theorem VP.Lo {f:FuncId} {vs:List Value} {r:Value} (h:VP P G f args (.v r))
  (hG:∀g∈G,g.2≠[]/\sW w g.1 g.2) (hr:bX w (fun _=>False) args vs):Calls P f vs.toArray w fun e w'=>e = .returned r/\Below w.heap.size w w' :=
 h.run hG (hr.mono fun b _ _=>⟨rfl,fun hl=>by rcases hl with hl|hl;exact hl;simp[aq] at hl⟩)
end
variable {P:Program} {C:cj} {G:List (Nat×List Value)} {Q:Exit->St->Prop} {x:St} {ops:Array Oper} {l:List Oper} {o:Oper} {S1 T:List Nat} {aP i:Nat} {ld:Array Bool}
theorem xI:∀(ds cs:List D) (off:Nat),off+ds.length<=cs.length->eR cs off ds=cs.take off++ds++cs.drop (off+ds.length)
 | [],cs,off,h=>by simp[eR]
 | d::ds,cs,off,h=>by
  simp only[length_cons] at h;have e:cs.set off d=(cs.take off++[d])++cs.drop (off+1):=(by rw[set_eq_take_append_cons_drop,if_pos w7];simp)
  have hl:(cs.take off++[d]).length=off+1:=(by simp;omega)
  rw[eR,xI ds _ (off+1) ee,e,take_left' hl,<-drop_drop,drop_left' hl,drop_drop];simp only[append_assoc,cons_append,nil_append,length_cons];congr 4;omega
theorem H6{l r:List ak}(h:∀f:ak->Nat,(l.map f).sum=(r.map f).sum):l.Perm r:=by
 classical
 rw[perm_iff_count];intro a;have E:∀l:List ak,(l.map fun b=>if b=a then 1 else 0).sum=l.count a:=by
  intro l;induction l with
  | nil=>rfl
  | cons b l ih =>
   rw[map_cons,sum_cons,ih,count_cons];by_cases e:b=a<;>simp[e,Nat.add_comm]
 have:=h (fun b=>if b=a then 1 else 0);rw[E,E] at this;exact this
theorem NP.norm{Φ:St->Prop}:NP (fun e y=>e=Exit.normal/\Φ y):=fun c y t hq=>by cases hq.1
end V
end Go.Proofs.YtomnenkeecbglaaGreatDoor
