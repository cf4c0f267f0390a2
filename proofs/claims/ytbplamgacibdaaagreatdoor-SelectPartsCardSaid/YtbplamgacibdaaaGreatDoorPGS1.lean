/-
  GS: walks and plain facts, part 1.
-/
import Derived.WalkKit
import Derived.Deep.MidRow
import Derived.Deep.AppendLies
import Derived.OrdersHeld
import Derived.IntWalk
import Derived.Laws.Cover3
import Derived.ChangeKeysEq
import Derived.ProofKit
import Derived.OpenShut
import Derived.Lib.LaidTab
import Derived.Below
import Derived.Deep.Slices
import Derived.ArgAppend
import Derived.Lib.AppendStr
import Derived.MapKept
import Derived.RangeFuncLeaves
import Derived.RangeFuncOwn
import Derived.OrdersIn
import Derived.TacticsIn
import Derived.Shelf.Abstract
import Derived.RecoverIn
import Derived.WalkLawsBesides
import Derived.Lib.AppendZeros
import Derived.Laws.IdiomCopy
import Derived.Lib.Overlaps
import Derived.Lib.AppendZerosOnto
import Derived.Lib.BytesEntry
import Derived.Shelf.Strings.Builder1
import Derived.Shelf.Strings.Builder2
import Derived.Shelf.Small.Strs
import Derived.Shelf.Small.Wraps
import Derived.Shelf.Strings.BuilderF
import Derived.Shelf.Strings.BuilderK
import Derived.Shelf.Utf8.RuneCount
import Derived.Shelf.Strings.Builder2Cap
import Derived.Shelf.Strings.Search1
import Derived.Shelf.Strings.Search2
import Derived.Shelf.Strings.Search3
import Derived.Shelf.Strings.Count
import Derived.Shelf.LaysM
import Derived.Shelf.Strings.Shaped
import Derived.Shelf.Strings.Split
import Derived.Shelf.Strings.Replace
import Derived.Shelf.Strings.SplitShaped
import Derived.Shelf.Unicode.Decode
import Derived.Shelf.Strings.RuneCount
import Derived.Shelf.Unicode.DecodeSlow
import Derived.Shelf.Unicode.DecodeAny
import Derived.Shelf.Strings.BuilderCap
import Derived.Shelf.Slices.Turned
import Derived.Shelf.Slices.Reverse
import Derived.Ground.Names2Prog
import Derived.Shelf.Slices.Clone
import Derived.Shelf.Slices.SearchI
import Derived.Shelf.Slices.Delete
import Derived.Shelf.Slices.Cells
import Derived.Shelf.Slices.Empties
import Derived.Shelf.Bytes.SlSearch0
import Derived.Shelf.Bytes.SlEqualAll
import Derived.Shelf.Bytes.Small
import Derived.SizedLaws
import Derived.Lib.Bytealg
import Derived.Test.YtbplamgacibdaaaGreatDoorRows
import Derived.Test.YtbplamgacibdaaaGreatDoorProg
set_option linter.unusedVariables false
set_option linter.unusedSimpArgs false
set_option maxRecDepth 100000
set_option maxHeartbeats 4000000
namespace Go.Proofs.YtbplamgacibdaaaGreatDoor
section
open List
variable {p:Prop}
theorem w4(h:p:=by omega):p:=h
theorem w5(h:p:=by first|assumption|omega):p:=h
theorem w6(h:p:=by repeat (first|exact trivial|refine⟨(by (repeat (first|exact jV|(apply kP;focus (first|rfl|(rw[vF];done)|(simp;done)))|(apply j8;focus rfl)));done),?_⟩)):p:=h
theorem w7(h:p:=by repeat (first|exact trivial|refine⟨(by (repeat (first|exact jV|(apply kP;focus (first|rfl|(simp;done)|(congr 2;omega)|(apply iW;rw[<-Rj aa];unfold p8;first|(rw[GP (by assumption)];simp;done)|(rw[GQ (by assumption),take_of_length_le (l:=mh (uN l[i])) (by rw[yd];omega)];simp;done)|(rw[GR (by assumption),<-FI];simp;done)|(rw[WT (by assumption) (by assumption) (by assumption)];done))|(apply iW;rfl)|(apply iW;simp;done)))|(apply j8;focus rfl)));done),?_⟩)):p:=h
theorem w8(h:p:=by decide):p:=h
theorem w9(h:p:=by simp only[length_append,length_map,length_cons,length_nil];omega):p:=h
theorem xm(h:p:=by have dH:=ey;have q1:=F7 N7 i;(try have q2:=N7 _ (getElem_mem aa));(try simp only[length_append,length_cons,length_nil]);omega):p:=h
theorem qI(h:p:=by simp only[maxLen,length_append,length_map,length_cons,length_nil];omega):p:=h
theorem oA(h:p:=by simp only[maxLen,length_cons,length_nil] at *;omega):p:=h
theorem HV(h:p:=by rw[<-Rj aa];unfold p8;first|(rw[GP (by assumption)];simp;done)|(rw[GQ (by assumption),take_of_length_le (l:=mh (uN l[i])) (by rw[yd];omega)];simp;done)|(rw[GR (by assumption),<-FI];simp;done)|(rw[WT (by assumption) (by assumption) (by assumption)];done)):p:=h
theorem oB(h:p:=by simp only[length_cons,length_nil] at *;omega):p:=h
theorem N8(h:p:=by first|exact(dN (mk:=Op.load 101) rfl ot (by exact ke (k:=0) (i:=(eX H l[i])) gF rfl rfl rfl isAgg101 ir rfl))|exact(dN (mk:=Op.load 101) rfl ot (by exact ke (k:=1) (i:=(eX H l[i])) gF rfl rfl rfl isAgg101 ir rfl))|exact(dN (mk:=Op.load 101) rfl ot (by exact ke (k:=2) (i:=(eX H l[i])) gF rfl rfl rfl isAgg101 ir rfl))):p:=h
theorem uD(h:p:=by simp only[maxLen,length_append,length_cons,length_nil] at *;omega):p:=h
theorem HW(h:p:=by exact(ei 1 (h:=by first|exact .l (j:=((ap t s.ah).1[k]'aa).toNat) (Int.toNat_of_nonneg jm).symm (by rw[<-xn];exact gK)|exact .r (j:=((ap t s.ah).1[k]'aa).toNat) (Int.toNat_of_nonneg jm).symm (by rw[<-xn];exact gK)))):p:=h
theorem HX(h:p:=by repeat (first|exact trivial|refine⟨(by (repeat (first|exact jV|(apply kP;focus (first|rfl|(simp;done)|(congr 2;omega)|(apply iW;rfl)|(apply iW;simp;done)))|(apply j8;focus rfl)));done),?_⟩)):p:=h
theorem xo(h:p:=by show _=p.kids.drop (if p.leaf=true then 2 else 3);rw[gg];rfl):p:=h
theorem xp(h:p:=by show _=p.keys.drop (if p.leaf=true then 2 else 3);rw[gg];rfl):p:=h
theorem w21(h:p:=by rw[getElem_set_self];show gO (⟨(mK p (aS (t.pg (aJ t k h t.root)) k)),some ⟨bk,0,none⟩,ck,[⟨bk,86,ck*1,flatMap cK (p.keys.eraseIdx (aS (t.pg (aJ t k h t.root)) k))⟩],some ⟨bi,0,none⟩,ci,[⟨bi,3,ci*1,flatMap cI (p.kids.eraseIdx (aS (t.pg (aJ t k h t.root)) k))⟩]⟩:aZ)=(gO (⟨{p with keys:=(p.keys.eraseIdx (aS (t.pg (aJ t k h t.root)) k))},some ⟨bk,0,none⟩,ck,[⟨bk,86,ck*1,flatMap cK (p.keys.eraseIdx (aS (t.pg (aJ t k h t.root)) k))⟩],some ⟨bi,0,none⟩,ci,[⟨bi,3,ci*1,flatMap cI p.kids⟩]⟩:aZ)).set 2 _;unfold gO mK;simp only[];rw[length_eraseIdx_of_lt qJ];rfl):p:=h
theorem bp(h:p:=by simp):p:=h
theorem jQ(h:p:=by first|rfl|assumption):p:=h
theorem Bm(h:p:=by have dH:=ey;(try simp only[length_append,length_cons,length_nil,length_take,yd]);omega):p:=h
theorem Bn(h:p:=by simp only[flatten_cons,flatten_nil,length_append,length_cons,length_nil];omega):p:=h
theorem w26(h:p:=by rw[<-ho];show gO (⟨{p with keys:=(p.keys.eraseIdx (aS (t.pg (aJ t k h t.root)) k))},some ⟨bk,0,none⟩,ck,[⟨bk,86,ck*1,flatMap cK (p.keys.eraseIdx (aS (t.pg (aJ t k h t.root)) k))⟩],some ⟨bi,0,none⟩,ci,[⟨bi,3,ci*1,flatMap cI p.kids⟩]⟩:aZ)=(gO (⟨p,some ⟨bk,0,none⟩,ck,[⟨bk,86,ck*1,flatMap cK p.keys⟩],some ⟨bi,0,none⟩,ci,[⟨bi,3,ci*1,flatMap cI p.kids⟩]⟩:aZ)).set 1 _;unfold gO;rw[length_eraseIdx_of_lt ha];rfl):p:=h
theorem Bo(h:p:=by have dH:=ey;(try simp only[length_append,length_cons,length_nil]);omega):p:=h
theorem nR(h:p:=by first|rfl|simp[St.put]):p:=h
theorem Zc(h:p:=by show 0+(aJ t k h t.root).toNat*5+2+1<=(flatMap gO (L.set (aJ t k h t.root).toNat (⟨{p with keys:=(p.keys.eraseIdx (aS (t.pg (aJ t k h t.root)) k))},some ⟨bk,0,none⟩,ck,[⟨bk,86,ck*1,flatMap cK (p.keys.eraseIdx (aS (t.pg (aJ t k h t.root)) k))⟩],some ⟨bi,0,none⟩,ci,[⟨bi,3,ci*1,flatMap cI p.kids⟩]⟩:aZ))).length;rw[cz ju,length_set];omega):p:=h
theorem N9(h:p:=by exact(ei 1 (h:=by first|exact .l (j:=((ap t s.ah).1[k]'aa).toNat) (Int.toNat_of_nonneg jm).symm eZ|exact .r (j:=((ap t s.ah).1[k]'aa).toNat) (Int.toNat_of_nonneg jm).symm eZ))):p:=h
theorem pF(h:p:=by rw[length_take];omega):p:=h
theorem lW(h:p:=by first|rfl|simp):p:=h
theorem iI(h:p:=by simp;omega):p:=h
theorem uE(h:p:=by rw[qD,iY,append_assoc];rfl):p:=h
theorem Zd(h:p:=by exact(dN (mk:=Op.load 40) rfl ot (ke (k:=3) (i:=((ap t s.ah).1[k]'aa).toNat) (ls:=M) (d:=aN (some ⟨bw,0,none⟩) (M[((ap t s.ah).1[k]'aa).toNat].r.set 0 (acc[k]'dA)).length M[((ap t s.ah).1[k]'aa).toNat].cap) CC rfl rfl rfl isAgg40 gK (by rw[<-DK,length_set];rfl)))):p:=h
theorem yX(h:p:=by rw[length_append,length_singleton];omega):p:=h
theorem Oa(h:p:=by exact(QT (pl:=[(0,_),(1,_)]) (ds:=[_,_,_,_,_,_]) rfl zeroValue245 runUnderlying245 sizeOf56 ⟨rfl,ot,rfl,ot,trivial⟩ rfl rfl)):p:=h
theorem Ob(h:p:=by have:=Ke s.names s.names.length;(try rw[vG]);simp only[length_append,length_map,length_cons,length_nil];omega):p:=h
theorem Ze(h:p:=by exact(dN (mk:=Op.load 40) rfl ot (ke (k:=3) (i:=((ap t s.ah).1[k]'aa).toNat) (ls:=M) (d:=aN (some ⟨bw,0,none⟩) M[((ap t s.ah).1[k]'aa).toNat].r.length M[((ap t s.ah).1[k]'aa).toNat].cap) CC rfl rfl rfl isAgg40 gK (by rw[<-DK];rfl)))):p:=h
theorem Zf(h:p:=by repeat (first|exact trivial|refine⟨(by (repeat (first|exact jV|(apply kP;focus (first|rfl|(simp;done)|(congr 2;omega)|(apply iW;rw[JG aa])|(apply iW;rfl)|(apply iW;simp;done)))|(apply j8;focus rfl)));done),?_⟩)):p:=h
theorem Zg(h:p:=by repeat (first|exact trivial|refine⟨(by (repeat (first|exact jV|(apply kP;focus (first|rfl|(simp;done)|(congr 2;omega)|(apply iW;rw[hT];rfl)|(apply iW;rfl)|(apply iW;simp;done)))|(apply j8;focus rfl)));done),?_⟩)):p:=h
theorem Oc(h:p:=by repeat (first|exact trivial|exact⟨dG,trivial⟩|exact⟨fG,trivial⟩|refine⟨dG,?_⟩|refine⟨fG,?_⟩)):p:=h
theorem Zh(h:p:=by repeat (first|exact trivial|refine⟨(by (repeat (first|exact jV|(apply kP;focus (first|rfl|(simp;done)|(congr 2;omega)|(apply iW;exact zV bI aa)|(apply iW;simp;done)))|(apply j8;focus rfl)));done),?_⟩)):p:=h
theorem xq(h:p:=by first|exact Ah rfl gF (fun h=>by cases h) runUnderlying127 sizeOf86 w4|exact pU (fun _=>rfl) runUnderlying127 sizeOf86 w4|exact Ai (fun h=>by cases h) (fun _=>rfl) runUnderlying127 sizeOf86 w4 w4|exact ph (fun h=>by cases h) (fun _=>rfl) runUnderlying127 sizeOf86 w4 w4):p:=h
theorem xu(h:p:=by first|exact Ah rfl eS (fun h=>by cases h) runUnderlying61 sizeOf3 w4|exact pU (fun _=>rfl) runUnderlying61 sizeOf3 w4|exact Ai (fun h=>by cases h) (fun _=>rfl) runUnderlying61 sizeOf3 w4 w4|exact ph (fun h=>by cases h) (fun _=>rfl) runUnderlying61 sizeOf3 w4 w4):p:=h
theorem Bp(h:p:=by first|exact Ah rfl gF (fun h=>by cases h) runUnderlying61 sizeOf3 w4|exact Ah rfl eS (fun h=>by cases h) runUnderlying61 sizeOf3 w4|exact pU (fun _=>rfl) runUnderlying61 sizeOf3 w4|exact ph (fun h=>by cases h) (fun _=>rfl) runUnderlying61 sizeOf3 w4 w4):p:=h
theorem HY(h:p:=by first|exact Ah rfl gF (fun h=>by cases h) runUnderlying127 sizeOf86 w4|exact Ah rfl eS (fun h=>by cases h) runUnderlying127 sizeOf86 w4|exact pU (fun _=>rfl) runUnderlying127 sizeOf86 w4|exact ph (fun h=>by cases h) (fun _=>rfl) runUnderlying127 sizeOf86 w4 w4):p:=h
theorem Zi(h:p:=by show(flatMap gO (L.set (aJ t k h t.root).toNat (⟨{p with keys:=(p.keys.eraseIdx (aS (t.pg (aJ t k h t.root)) k))},some ⟨bk,0,none⟩,ck,[⟨bk,86,ck*1,flatMap cK (p.keys.eraseIdx (aS (t.pg (aJ t k h t.root)) k))⟩],some ⟨bi,0,none⟩,ci,[⟨bi,3,ci*1,flatMap cI p.kids⟩]⟩:aZ))).set (0+(aJ t k h t.root).toNat*5+2) _=_;rw[Nat.zero_add,B0 ju (a':=(⟨(mK p (aS (t.pg (aJ t k h t.root)) k)),some ⟨bk,0,none⟩,ck,[⟨bk,86,ck*1,flatMap cK (p.keys.eraseIdx (aS (t.pg (aJ t k h t.root)) k))⟩],some ⟨bi,0,none⟩,ci,[⟨bi,3,ci*1,flatMap cI (p.kids.eraseIdx (aS (t.pg (aJ t k h t.root)) k))⟩]⟩:aZ)) w8 (by rw[length_set];exact hj) w21,List.set_set]):p:=h
theorem Od(h:p:=by repeat (first|exact trivial|refine⟨(by (repeat (first|exact jV|(apply kP;focus (first|rfl|(simp;done)|(congr 2;omega)|(apply iW;first|exact JH aa w4 _|exact Jq aa w4 _)|(apply iW;simp[kC])|(apply iW;simp;done)))|(apply j8;focus rfl)));done),?_⟩)):p:=h
theorem HZ(h:p:=by first|exact pT mY (fun h=>by cases h) runUnderlying42 sizeOf58 w4|exact pU (fun h=>by cases h) runUnderlying42 sizeOf58 w4|exact ph (fun _=>rfl) (fun h=>by cases h) runUnderlying42 sizeOf58 w4 w4):p:=h
theorem Oe(h:p:=by first|exact pT gF (fun h=>by cases h) runUnderlying127 sizeOf86 w4|exact pU (fun h=>by cases h) runUnderlying127 sizeOf86 w4|exact Ai (fun _=>rfl) (fun h=>by cases h) runUnderlying127 sizeOf86 w4 w4|exact ph (fun _=>rfl) (fun h=>by cases h) runUnderlying127 sizeOf86 w4 w4):p:=h
theorem Of(h:p:=by first|exact pT eS (fun h=>by cases h) runUnderlying61 sizeOf3 w4|exact pU (fun h=>by cases h) runUnderlying61 sizeOf3 w4|exact Ai (fun _=>rfl) (fun h=>by cases h) runUnderlying61 sizeOf3 w4 w4|exact ph (fun _=>rfl) (fun h=>by cases h) runUnderlying61 sizeOf3 w4 w4):p:=h
theorem Og(h:p:=by first|exact pT jW (fun h=>by cases h) runUnderlying41 sizeOf9 w4|exact pT mB (fun h=>by cases h) runUnderlying41 sizeOf9 w4|exact pU (fun h=>by cases h) runUnderlying41 sizeOf9 w4|exact ph (fun _=>rfl) (fun h=>by cases h) runUnderlying41 sizeOf9 w4 w4):p:=h
theorem rN(h:p:=by rw[<-Int.ofNat_sub w4];exact wrap_i64 w4 w4):p:=h
theorem Zj(h:p:=by repeat (first|exact trivial|refine⟨(by (repeat (first|exact jV|(apply kP;focus (first|rfl|(simp;done)|(congr 2;omega)|(apply iW;first|exact SO aa w4|exact Rk aa w4)|(apply iW;rfl)|(apply iW;simp;done)))|(apply j8;focus rfl)));done),?_⟩)):p:=h
theorem Zk(h:p:=by repeat (first|exact trivial|refine⟨(by (repeat (first|exact jV|(apply kP;focus (first|rfl|(congr 2;omega)|(simp;done)|(apply iW;rw[<-KP w4];simp)|(apply iW;simp)|(apply iW;simp;done)))|(apply j8;focus rfl)));done),?_⟩)):p:=h
theorem Zl(h:p:=by first|exact pT gF (fun h=>by cases h) runUnderlying61 sizeOf3 w4|exact pT eS (fun h=>by cases h) runUnderlying61 sizeOf3 w4|exact pU (fun h=>by cases h) runUnderlying61 sizeOf3 w4|exact ph (fun _=>rfl) (fun h=>by cases h) runUnderlying61 sizeOf3 w4 w4):p:=h
theorem Zm(h:p:=by repeat (first|exact trivial|refine⟨(by (repeat (first|exact jV|(apply kP;focus (first|rfl|(simp;done)|(congr 2;omega)|(apply iW;exact zV jZ aa)|(apply iW;simp;done)))|(apply j8;focus rfl)));done),?_⟩)):p:=h
theorem Zn(h:p:=by repeat (first|exact trivial|refine⟨(by (repeat (first|exact jV|(apply kP;focus (first|rfl|(rw[SP,if_neg Ho];rfl)|(rw[SP,if_pos Ho];rfl)|(simp;done)|(congr 2;omega)))|(apply j8;focus rfl)));done),?_⟩)):p:=h
theorem Zo(h:p:=by repeat (first|exact trivial|refine⟨(by (repeat (first|exact jV|(apply kP;focus (first|rfl|(simp;done)|(congr 2;omega)|(apply iW;exact zV jN aa)|(apply iW;simp;done)))|(apply j8;focus rfl)));done),?_⟩)):p:=h
theorem qd(h:p:=by rw[append_nil]):p:=h
theorem Zp(h:p:=by repeat (first|exact trivial|refine⟨(by (repeat (first|exact jV|(apply kP;focus (first|rfl|(simp;done)|(congr 2;omega)|(apply iW;exact SQ oW)|(apply iW;simp;done)))|(apply j8;focus rfl)));done),?_⟩)):p:=h
theorem Zq(h:p:=by repeat (first|exact trivial|refine⟨(by (repeat (first|exact jV|(apply kP;focus (first|rfl|(rw[show(20*(k+1):Nat)=20*k+20 by omega];rfl)|(simp;done)|(congr 3;omega)))|(apply j8;focus rfl)));done),?_⟩)):p:=h
theorem Zr(h:p:=by repeat (first|exact trivial|refine⟨(by (repeat (first|exact jV|(apply kP;focus (first|rfl|(simp;done)|(congr 2;omega)|(apply iW;rw[Xw])|(apply iW;simp;done)))|(apply j8;focus rfl)));done),?_⟩)):p:=h
theorem Oh(h:p:=by exact(tO rfl ot (tT (r:=((((i+j)/2):Nat):Int)) runUnderlying210 runUnderlying3 (wrap_i64 w4 w4)))):p:=h
theorem Oi(h:p:=by exact(tO rfl ot (tT (r:=((i+j:Nat):Int)) runUnderlying3 runUnderlying210 (IntWalk.u64_in _ w4)))):p:=h
theorem Oj(h:p:=by exact(dX rfl ot ot (lI (r:=((i+j:Nat):Int)) (by rw[<-Int.natCast_add];exact wrap_i64 w4 w4)))):p:=h
theorem Zs(h:p:=by repeat (first|exact trivial|refine⟨(by (repeat (first|exact jV|(apply kP;focus (first|rfl|(simp;done)|(congr 2;omega)|(apply iW;exact ri ja)))|(apply j8;focus rfl)));done),?_⟩)):p:=h
theorem uF(h:p:=by rw[y2,qD,iY];simp):p:=h
theorem nS(h:p:=by simpa using h):p:=h
theorem DL(h:p:=by exact(dX rfl ot cf (Uz w8 akn))):p:=h
theorem DM(h:p:=by first|rfl|(show(1:Int)+_=1+_;omega)|omega):p:=h
theorem Ol(h:p:=by rw[<-show(p.kids.drop 3)=(cy p).kids from xo];simp only[length_take,length_drop];omega):p:=h
theorem Om(h:p:=by rw[<-show(p.kids.drop 2)=(cy p).kids from xo];simp only[length_take,length_drop];omega):p:=h
theorem On(h:p:=by rw[<-show(p.keys.drop 3)=(cy p).keys from xp];simp only[length_take,length_drop];omega):p:=h
theorem Oo(h:p:=by rw[<-show(p.keys.drop 2)=(cy p).keys from xp];simp only[length_take,length_drop];omega):p:=h
theorem Zt(h:p:=by repeat (first|exact trivial|refine⟨(by (repeat (first|exact jV|(apply kP;focus (first|rfl|(simp;done)|(rw[<-iJ,fA.next hL.qK])))|(apply j8;focus rfl)));done),?_⟩)):p:=h
theorem xw(h:p:=by rw[length_append];omega):p:=h
theorem Zu(h:p:=by exact⟨⟨_,ot,(mX (bN (g:=cV) (by rw[length_set];exact yY) H6) (cz fQ _) (fun B hB=>by rw[mem_singleton] at hB;rw[hB];exact mem_cons_self))⟩,trivial⟩):p:=h
theorem Zv(h:p:=by exact⟨⟨_,ot,(afl Oq (fun B hB=>by repeat (first|exact hB|apply mem_append_right|apply mem_cons_of_mem)):View _ (.agg (tC t ad cap)) _)⟩,⟨_,ot,fq⟩,trivial⟩):p:=h
theorem rO(h:p:=by rw[vn];omega):p:=h
theorem Zw(h:p:=by repeat (first|exact trivial|refine⟨(by (repeat (first|exact jV|(apply kP;focus (first|rfl|(rw[uG];done)|(rw[bf];done)))|(apply j8;focus rfl)));done),?_⟩)):p:=h
theorem H7(h:p:=by show _=p.kids.take (if p.leaf=true then 2 else 3);rw[gg];rfl):p:=h
theorem H8(h:p:=by show 0+_*1+1<=_;rw[cz eS,length_set];omega):p:=h
theorem Zx(h:p:=by repeat (first|exact trivial|refine⟨(by (repeat (first|exact jV|(apply kP;focus (first|rfl|(rw[ff];done)|(simp;done)))|(apply j8;focus rfl)));done),?_⟩)):p:=h
theorem Zy(h:p:=by repeat (first|exact trivial|refine⟨(by (repeat (first|exact jV|(apply kP;focus (first|rfl|(rw[eJ];done)|(simp;done)))|(apply j8;focus rfl)));done),?_⟩)):p:=h
theorem Zz(h:p:=by repeat (first|exact trivial|refine⟨(by (repeat (first|exact jV|(apply kP;focus (first|rfl|(congr 2;omega)|(simp;done)))|(apply j8;focus rfl)));done),?_⟩)):p:=h
theorem H9(h:p:=by first|exact .l (j:=a) rfl Ot|exact .r (j:=a) rfl Ot):p:=h
theorem Ou(h:p:=by rw[show(((a+(t+1):Nat):Int)-1)=((a+t:Nat):Int) by omega];exact wrap_i64 w4 w4):p:=h
theorem xx(h:p:=by rw[length_set];omega):p:=h
theorem DN(h:p:=by show(-1:Int)<=9223372036854775807;decide):p:=h
theorem ZA(h:p:=by rw[show(wF 0 (⟨#[0,255]⟩:ByteArray).data.toList l[i].s).size=(p9 l[i].s.data.toList).length from hrs];simp only[length_append,length_cons,length_nil];omega):p:=h
theorem yZ(h:p:=by rw[length_set];exact gK):p:=h
theorem Ia(h:p:=by exact(tU (ds:=[_,_]) rfl ⟨ot,ot,trivial⟩)):p:=h
theorem ZB(h:p:=by rw[Nat.zero_add];exact qt CE L1 (⟨(L1[level]'eO).l++[i],some ⟨lD,0,none⟩,kX,[⟨lD,3,kX*1,flatMap cI ((L1[level]'eO).l++[i])⟩]⟩:dI) eO):p:=h
theorem ZC(h:p:=by exact⟨⟨_,ot,(LO fy wO (fun B hB=>by repeat (first|exact hB|apply mem_append_right|apply mem_cons_of_mem)))⟩,⟨_,ot,fq⟩,trivial⟩):p:=h
theorem Ib(h:p:=by rw[<-Array.getElem?_toList,getElem?_eq_getElem hj]):p:=h
theorem th(h:p:=by rw[<-ho];rfl):p:=h
theorem ZD(h:p:=by rw[take_succ_eq_append_getElem w4];intro x hx;rcases mem_append.1 hx with hx|hx;exact h0 x hx;simp only[mem_singleton] at hx;subst hx;assumption):p:=h
theorem Xx(h:p:=by intro x0 jm;have jm:x0∈[b7,b6]:=jm;show x0∈(b7::b6::_:List Nat);simp only[mem_cons,not_mem_nil,or_false] at jm |-;omega):p:=h
theorem MR(h:p:=by first|exact .l (j:=a+t+1) rfl w4|exact .r (j:=a+t+1) rfl w4):p:=h
theorem MS(h:p:=by rw[show((j:Int)-1)=((j-1:Nat):Int) by omega];exact wrap_i64 w4 w4):p:=h
theorem yx(h:p:=by rw[g.au];exact UA):p:=h
theorem Xy(h:p:=by rw[show(((aS (t.pg (aJ t k h t.root)) k):Nat):Int)+1=(((aS (t.pg (aJ t k h t.root)) k)+1:Nat):Int) from rfl];exact wrap_i64 w4 w4):p:=h
theorem Hp(h:p:=by show 0+_*1+1<=_;rw[cz eS];omega):p:=h
theorem Xz(h:p:=by exact(dN (mk:=Op.load 40) rfl ot (ke (k:=2) (i:=((ap t s.ah).1[k]'aa).toNat) (ls:=L) CC rfl rfl rfl isAgg40 gK rfl))):p:=h
theorem vv(h:p:=by simp at aM;omega):p:=h
theorem MT(h:p:=by unfold gi;rw[if_neg cU,if_neg eG,if_neg fS,if_pos iC,uH]):p:=h
theorem wP(h:p:=by simp[maxLen];omega):p:=h
theorem MU(h:p:=by first|exact .l (j:=a+t) rfl w4|exact .r (j:=a+t) rfl w4):p:=h
theorem uh(h:p:=by simpa using bf):p:=h
theorem XA(h:p:=by first|exact .l (j:=(st.length-(bu ops[i].k).toNat)+1) w4 w4|exact .r (j:=(st.length-(bu ops[i].k).toNat)+1) w4 w4):p:=h
theorem MV(h:p:=by rw[ez];exact mem_flatMap.2 ⟨_,getElem_mem d1,hx⟩):p:=h
theorem MW(h:p:=by first|exact .l (j:=a) rfl qL|exact .r (j:=a) rfl qL):p:=h
theorem XB(h:p:=by first|exact .l (j:=i.toNat) (Int.toNat_of_nonneg hi.1).symm hj|exact .r (j:=i.toNat) (Int.toNat_of_nonneg hi.1).symm hj):p:=h
theorem XC(h:p:=by first|exact .l (j:=(st.length-(bu ops[i].k).toNat)) w4 w4|exact .r (j:=(st.length-(bu ops[i].k).toNat)) w4 w4):p:=h
theorem XD(h:p:=by have dH:=ey;(try simp only[length_append,length_cons,length_nil,length_map,length_take]);omega):p:=h
theorem MX(h:p:=by first|exact .l (j:=j) rfl w4|exact .r (j:=j) rfl w4):p:=h
theorem MY(h:p:=by unfold CF;rw[XE,alZ,if_pos (by simpa using de)];rfl):p:=h
theorem XF(h:p:=by show take (Nat.min 1 (q.length+1-i)) (cK a)=_;rw[show Nat.min 1 (q.length+1-i)=1 from Nat.min_eq_left w4];rfl):p:=h
theorem XG(h:p:=by show take (Nat.min 1 (q.length+1-i)) (cI a)=_;rw[show Nat.min 1 (q.length+1-i)=1 from Nat.min_eq_left w4];rfl):p:=h
theorem XH(h:p:=by simp only[flatten_cons,flatten_nil,length_append,length_map,length_cons,length_nil];omega):p:=h
theorem MZ(h:p:=by first|exact fun _ hq=>hq|exact fun _ hq=>by cases hq.1):p:=h
theorem XI(h:p:=by show(L.flatMap gO).set (0+(aJ t k h t.root).toNat*5+1) _=_;rw[Nat.zero_add];exact B0 ju w8 hj w26):p:=h
theorem C2(h:p:=by rw[length_set];exact hj):p:=h
theorem XJ(h:p:=by first|exact .inl (adJ (by simpa using GS))|exact .inr (afm (by simpa using GS) (by simpa using jn))):p:=h
theorem XK(h:p:=by first|exact we runUnderlying39 sizeOf93 (j:=0) rfl Ic|exact wB runUnderlying39 sizeOf93 (j:=0) rfl Ic):p:=h
theorem vw(h:p:=by exact fW):p:=h
theorem XL(h:p:=by show(p.kids.eraseIdx (aS (t.pg (aJ t k h t.root)) k)).length<=ci;rw[length_eraseIdx_of_lt qJ];omega):p:=h
theorem yy(h:p:=by rw[g.au];decide):p:=h
theorem XM(h:p:=by show(p.keys.eraseIdx (aS (t.pg (aJ t k h t.root)) k)).length<=ck;rw[length_eraseIdx_of_lt ha];omega):p:=h
theorem uj(h:p:=by rw[y1];rfl):p:=h
theorem AV(h:p:=by first|omega|decide):p:=h
theorem Hq(h:p:=by rw[length_append];simp;omega):p:=h
theorem AW(h:p:=by simpa[aj] using er):p:=h
theorem AX(h:p:=by show 1<=10;decide):p:=h
theorem XN(h:p:=by exact(dX (r:=.int .i64 kk) rfl cf ot (lI (by rw[mO];exact wrap_i64 w4 w4)))):p:=h
theorem XO(h:p:=by show 0+(aJ t k h t.root).toNat*5+1+1<=(flatMap gO L).length;rw[cz ju];omega):p:=h
theorem AY(h:p:=by simpa[aj] using hj):p:=h
theorem XP(h:p:=by rw[show bT (⟨_,_,gL,aO,qM,[]⟩:aX)=qM from append_nil _];exact Perm.refl _):p:=h
theorem yz(h:p:=by rw[jz];decide):p:=h
theorem M1(h:p:=by show _<=1000;exact Nat.le_of_ble_eq_true rfl):p:=h
theorem XQ(h:p:=by rw[show(((a+t:Nat):Int)+1)=((a+t+1:Nat):Int) by omega];exact wrap_i64 w4 w4):p:=h
theorem yA(h:p:=by simpa using aM):p:=h
theorem AZ(h:p:=by exact fun _=>rfl):p:=h
theorem M2(h:p:=by rw[<-Int.natCast_add];exact wrap_i64 w4 w4):p:=h
theorem M3(h:p:=by show w.heap.size<(w.heap.push _).size;simp):p:=h
theorem yB(h:p:=by simpa using hl):p:=h
theorem M4(h:p:=by show(w.heap.push _)[w.heap.size]?=_;simp):p:=h
theorem yC(h:p:=by decide +kernel):p:=h
theorem XR(h:p:=by first|exact .l (j:=((i+j)/2)) rfl w4|exact .r (j:=((i+j)/2)) rfl w4):p:=h
theorem C3(h:p:=by rw[<-e1];exact hd):p:=h
theorem M5(h:p:=by rw[cz wC,length_take];omega):p:=h
theorem XS(h:p:=by rw[FI];simp only[length_append,length_cons,length_nil];omega):p:=h
theorem vy(h:p:=by assumption):p:=h
theorem XT(h:p:=by exact(fb (l:=i+1) (h:=q.length+1) rfl ot ⟨_,ot⟩ trivial xu)):p:=h
theorem XU(h:p:=by exact(fb (l:=i+1) (h:=q.length+1) rfl ot ⟨_,ot⟩ trivial xq)):p:=h
theorem XV(h:p:=by rw[show bO ⟨p,ak,ck,sk,ai,ci,si⟩=sk++si from rfl,append_assoc]):p:=h
theorem C4(h:p:=by rw[vg];decide):p:=h
theorem Hr(h:p:=by rw[length_map];omega):p:=h
theorem XW(h:p:=by simp only[maxLen,length_set,length_cons,length_nil] at *;omega):p:=h
theorem XX(h:p:=by show 0+level*1+1<=(flatMap gV L1).length;rw[cz CE];omega):p:=h
theorem A3(h:p:=by rw[h4];decide):p:=h
theorem Hs(h:p:=by simp only[maxLen];omega):p:=h
theorem Ht(h:p:=by show i<cs.length;omega):p:=h
theorem z4(h:p:=by
  refine bH (i:=17) aB ?_;refine ko rfl av rfl rfl rfl call133 (QU p.kids (aS (t.pg (aJ t k h t.root)) k) ci bi qJ fO Ie w4) ⟨ot,ot,ot,trivial⟩ (nB (k:=5) rfl) jb ?_;rintro _ _ ⟨rfl,rfl⟩;refine gq (perm_middle (l₁:=[_,_,_,_,_])).symm ?_;refine dr 18 rfl qN ?_;refine dr 19 rfl (dU 1) ?_;refine bH (i:=20) aB ?_;refine vW (k:=3) (cs':=flatMap gO (L.set (aJ t k h t.root).toNat (⟨{p with keys:=(p.keys.eraseIdx (aS (t.pg (aJ t k h t.root)) k))},some ⟨bk,0,none⟩,ck,[⟨bk,86,ck*1,flatMap cK (p.keys.eraseIdx (aS (t.pg (aJ t k h t.root)) k))⟩],some ⟨bi,0,none⟩,ci,[⟨bi,3,ci*1,flatMap cI p.kids⟩]⟩:aZ))) rfl av rfl rfl ot rfl rfl ot rfl rfl sizeOf127 rfl XO XI jb ?_;refine fD ?_;refine aG 2 ?_;refine oe (k:=3) (cs':=flatMap gO (L.set (aJ t k h t.root).toNat (⟨(mK p (aS (t.pg (aJ t k h t.root)) k)),some ⟨bk,0,none⟩,ck,[⟨bk,86,ck*1,flatMap cK (p.keys.eraseIdx (aS (t.pg (aJ t k h t.root)) k))⟩],some ⟨bi,0,none⟩,ci,[⟨bi,3,ci*1,flatMap cI (p.kids.eraseIdx (aS (t.pg (aJ t k h t.root)) k))⟩]⟩:aZ))) av rfl rfl ot rfl rfl ot rfl rfl sizeOf61 rfl Zc Zi ?_
  have nT:(⟨bk,86,ck*1,flatMap cK (p.keys.eraseIdx (aS (t.pg (aJ t k h t.root)) k))⟩::⟨bi,3,ci*1,flatMap cI (p.kids.eraseIdx (aS (t.pg (aJ t k h t.root)) k))⟩::((L.eraseIdx (aJ t k h t.root).toNat).flatMap bO)).Perm ((L.set (aJ t k h t.root).toNat (⟨(mK p (aS (t.pg (aJ t k h t.root)) k)),some ⟨bk,0,none⟩,ck,[⟨bk,86,ck*1,flatMap cK (p.keys.eraseIdx (aS (t.pg (aJ t k h t.root)) k))⟩],some ⟨bi,0,none⟩,ci,[⟨bi,3,ci*1,flatMap cI (p.kids.eraseIdx (aS (t.pg (aJ t k h t.root)) k))⟩]⟩:aZ)).flatMap bO):=(zW bO hj (⟨(mK p (aS (t.pg (aJ t k h t.root)) k)),some ⟨bk,0,none⟩,ck,[⟨bk,86,ck*1,flatMap cK (p.keys.eraseIdx (aS (t.pg (aJ t k h t.root)) k))⟩],some ⟨bi,0,none⟩,ci,[⟨bi,3,ci*1,flatMap cI (p.kids.eraseIdx (aS (t.pg (aJ t k h t.root)) k))⟩]⟩:aZ)).symm;refine bZ (Perm.cons _ (Perm.cons _ (Perm.cons _ (Perm.cons _ nT)))) ?_;refine aq 58 [4,7] ?_;refine az 1 ?_;refine aR 1 [_,_] sizeOf66 ?_;refine aq 58 [4,5] ?_
  refine eu ([⟨bx,129,cap*5,flatMap gO (L.set (aJ t k h t.root).toNat (⟨(mK p (aS (t.pg (aJ t k h t.root)) k)),some ⟨bk,0,none⟩,ck,[⟨bk,86,ck*1,flatMap cK (p.keys.eraseIdx (aS (t.pg (aJ t k h t.root)) k))⟩],some ⟨bi,0,none⟩,ci,[⟨bi,3,ci*1,flatMap cI (p.kids.eraseIdx (aS (t.pg (aJ t k h t.root)) k))⟩]⟩:aZ))⟩]++(L.set (aJ t k h t.root).toNat (⟨(mK p (aS (t.pg (aJ t k h t.root)) k)),some ⟨bk,0,none⟩,ck,[⟨bk,86,ck*1,flatMap cK (p.keys.eraseIdx (aS (t.pg (aJ t k h t.root)) k))⟩],some ⟨bi,0,none⟩,ci,[⟨bi,3,ci*1,flatMap cI (p.kids.eraseIdx (aS (t.pg (aJ t k h t.root)) k))⟩]⟩:aZ)).flatMap bO) ?_;unfold sS;rw[if_pos hz,if_pos jz];refine⟨_,rfl,L.set (aJ t k h t.root).toNat (⟨(mK p (aS (t.pg (aJ t k h t.root)) k)),some ⟨bk,0,none⟩,ck,[⟨bk,86,ck*1,flatMap cK (p.keys.eraseIdx (aS (t.pg (aJ t k h t.root)) k))⟩],some ⟨bi,0,none⟩,ci,[⟨bi,3,ci*1,flatMap cI (p.kids.eraseIdx (aS (t.pg (aJ t k h t.root)) k))⟩]⟩:aZ),some ⟨bx,0,none⟩,cap,_,by rw[length_set];rfl,bN yZ y4,fun x hx=>?_,?_,rfl⟩
  ·rcases mem_or_eq_of_mem_set hx with hx|rfl
   ·exact aQ x hx
   exact⟨bN XM y6,bN XL Ie⟩
  rw[map_set,hL];show _=t.af.set (aJ t k h t.root).toNat (mK (t.pg (aJ t k h t.root)) (aS (t.pg (aJ t k h t.root)) k));rw[<-iJ]):p:=h
theorem z5(h:p:=by
  refine bH (i:=15) aB ?_;refine qk (ls:=L) (new:=[(⟨(t.af[i]'aa),jd,je,Sy,mP,mQ,Sz⟩:aZ)]) (Sq:=Sx) ju Gy rfl av rfl rfl underlying64 acf rfl w8 ot ev (SR (A:=[_,_,_])) ot bp oA oB (fun If Hu al0 al1=>?_);refine gq (afn (S3:=[⟨If,129,Hu*5,flatMap gO (L++[(⟨(t.af[i]'aa),jd,je,Sy,mP,mQ,Sz⟩:aZ)])⟩]) (A:=[_,_,_])) ?_;refine gq (S':=⟨b5,129,5,cP (t.af[i]'aa)⟩::⟨b3,66,2,[aN dP L.length dm,ae t.root]⟩::⟨b2,66,2,[bW,ae 0]⟩::([⟨If,129,Hu*5,flatMap gO (L++[(⟨(t.af[i]'aa),jd,je,Sy,mP,mQ,Sz⟩:aZ)])⟩]++(L++[(⟨(t.af[i]'aa),jd,je,Sy,mP,mQ,Sz⟩:aZ)]).flatMap bO)) (j9 fun nl=>by rw[UB];simp only[bO,map_append,map_cons,map_nil,sum_append,sum_cons,sum_nil];omega) ?_;refine fD ?_;refine aG 1 ?_;refine aR 1 [_,_] sizeOf64 ?_;refine aq 51 [2,3,13,14,15] ?_;refine cc [2,3,13,14,15] ?_;refine⟨((i+1),(L++[(⟨(t.af[i]'aa),jd,je,Sy,mP,mQ,Sz⟩:aZ)]),(some ⟨If,0,none⟩),Hu,[⟨If,129,Hu*5,flatMap gO (L++[(⟨(t.af[i]'aa),jd,je,Sy,mP,mQ,Sz⟩:aZ)])⟩]),_,cG,aI,w4,xy,kD,(bN al0 al1),rfl⟩):p:=h
theorem z6(h:p:=by
  refine qO 13 rfl ?_;refine qO 16 rfl ?_;refine lK (i:=14) (j:=17) aB ?_ ?_
  ·refine ql rfl (nC rfl rfl rfl lk jQ) rfl ?_;refine lK (i:=15) (j:=17) aB ?_ ?_
   ·refine ql rfl (nC rfl rfl rfl lk jQ) rfl ?_;refine bH (i:=17) aB ?_;refine ql rfl (nC rfl rfl rfl lk jQ) rfl ?_;refine qO 18 rfl ?_;refine qO 19 rfl ?_;refine dr 20 rfl wQ ?_;refine fD ?_;refine bA [3] ?_;refine aA [52] ?_;refine e9 ?_;refine aA [2] ?_;refine fi ?_;refine⟨vi ?_,rfl⟩;try simp only[wg] at *
    simp only[vo,pu];try simp_all
    try omega
   refine ql rfl (nC rfl rfl rfl lk jQ) rfl ?_;refine qO 18 rfl ?_;refine bH (i:=15) aB ?_;refine ql rfl (nC rfl rfl rfl lk jQ) rfl ?_;refine qO 19 rfl ?_;refine dr 20 rfl wQ ?_;refine fD ?_;refine bA [3] ?_;refine aA [52] ?_;refine e9 ?_;refine aA [2] ?_;refine fi ?_;refine⟨vi ?_,rfl⟩;try simp only[wg] at *
   simp only[vo,pu];try simp_all
   try omega
  refine ql rfl (nC rfl rfl rfl lk jQ) rfl ?_;refine qO 18 rfl ?_;refine bH (i:=14) aB ?_;refine ql rfl (nC rfl rfl rfl lk jQ) rfl ?_;refine bH (i:=15) aB ?_;refine ql rfl (nC rfl rfl rfl lk jQ) rfl ?_;refine qO 19 rfl ?_;refine dr 20 rfl wQ ?_;refine fD ?_;refine bA [3] ?_;refine aA [52] ?_;refine e9 ?_;refine aA [2] ?_;refine fi ?_;refine⟨vi ?_,rfl⟩;try simp only[wg] at *
  simp only[vo,pu];try simp_all
  try omega):p:=h
theorem z7(h:p:=by
  refine⟨vb (FJ fun hp=>?_),rfl⟩;have g1:=hp.eU;have g2:=hp.hlen;have g3:=hp.yD;have g4:=hp.yh;have g5:=hp.yE;have g6:=hp.leaf;have g7:=fun h=>(hp.node h).1;have g8:=fun h (e:p.keys.length=0)=>(hp.node h).2 (length_eq_zero_iff.1 e);clear hp;first|omega|(rw[ako g5] at aM;cases aM;done)|(have:=g6 sU;omega)|(have gg:p.leaf=false:=(by simpa using vz);have:=g7 gg;omega)|(have gg:p.leaf=false:=(by simpa using vz);exact g8 gg w4)):p:=h
theorem z8(h:p:=by
  refine aR 0 [_,_,_] sizeOf56 ?_;refine dY 106 [6,7] [] ?_;rw[aY];first|exact⟨rfl,rfl⟩|(refine⟨?_,rfl⟩;clear aY fE Ig pG mi rP qe;generalize (eN a b==0)=z1 at *;generalize (decide (eN a b<0))=z2 at *;subst_vars;simp_all;done)):p:=h
theorem ZE(h:p:=by
  have xz:((bz[bz.length-1].k==6) || !(((c9 (lu key) (bz.take 2))==0)==nt))=true:=(by first|rw[Ml,Bool.true_or]|rw[iQ,Bool.or_true])
  have DO:(fM key (f+1) ops (lo,hi))=qy (gj [bz[(c9 gv (bz.take 2)).toNat].v]).1 b1:=(by rw[WU];unfold uk;rw[show((bz[bz.length-1].k==6)||((c9 (lu key) (bz.take 2))==0)!=nt)=true from xz,<-gw];rfl)
  refine az 7 ?_;refine bU 141 (fun akp aiT=>?_) (fun akp aiT=>?_)
  ·refine bA [0,11,149] ?_;refine e9 ?_;have uI:b1.2.length=0\/compareBytes (gj [bz[(c9 gv (bz.take 2)).toNat].v]).1 b1.2<0:=(by first|exact .inl w4|exact .inr (by simpa using jn))
   have uJ:(fM key (f+1) ops (lo,hi))=(b1.1,(gj [bz[(c9 gv (bz.take 2)).toNat].v]).1):=(by rw[DO];unfold qy;rw[if_pos uI])
   refine dV 2 ?_;refine eB call70 (Kf (gj [bz[(c9 gv (bz.take 2)).toNat].v]).1 w4) ?_;refine aG 2 ?_;refine aR 0 [_,_] sizeOf86 ?_;refine dY 155 [] [⟨b0,_,_,_⟩] ?_;refine⟨rfl,?_⟩;first|rw[uJ]|rw[aY]
  refine aG 5 ?_;refine oK iR rfl rfl rfl call53 (UC (gj [bz[(c9 gv (bz.take 2)).toNat].v]).1 b1.2) ⟨ot,ot,trivial⟩ ?_;refine aq 155 [0,11,149] ?_;refine cj ?_ ?_<;>intro jn nK
  ·have uI:b1.2.length=0\/compareBytes (gj [bz[(c9 gv (bz.take 2)).toNat].v]).1 b1.2<0:=(by first|exact .inl w4|exact .inr (by simpa using jn))
   have uJ:(fM key (f+1) ops (lo,hi))=(b1.1,(gj [bz[(c9 gv (bz.take 2)).toNat].v]).1):=(by rw[DO];unfold qy;rw[if_pos uI])
   refine dV 2 ?_;refine eB call70 (Kf (gj [bz[(c9 gv (bz.take 2)).toNat].v]).1 w4) ?_;refine aG 2 ?_;refine aR 0 [_,_] sizeOf86 ?_;refine dY 155 [] [⟨b0,_,_,_⟩] ?_;refine⟨rfl,?_⟩;first|rw[uJ]|rw[aY]
  have uI:¬(b1.2.length=0\/compareBytes (gj [bz[(c9 gv (bz.take 2)).toNat].v]).1 b1.2<0):=(by (have ZF:¬compareBytes (gj [bz[(c9 gv (bz.take 2)).toNat].v]).1 b1.2<0:=by simpa using jn);omega)
  have uJ:(fM key (f+1) ops (lo,hi))=b1:=(by rw[DO];unfold qy;rw[if_neg uI])
  refine eu [⟨b0,_,_,_⟩] ?_;refine⟨rfl,?_⟩;first|rw[uJ]|rw[aY]):p:=h
theorem ZG(h:p:=by
  refine az 1 ?_;refine fC (Wk.ek (n:=19) (l':=[(0,_),(1,_)]) (S':=S) rfl nR fJ) ?_;refine jX ?_;refine az 3 ?_;refine fC (Wk.ek (n:=19) (l':=[(0,_),(1,_),(7,_),(8,_)]) (S':=S) rfl nR fJ) ?_;refine jX ?_;refine fa [0,1,7] (fun aV _ (k:Nat) aF=>(k<=ls.length)/\(∀x∈ls.take k,p x=false)/\aF=(⟨19,(8,ae (k:Nat))::aV,S⟩:St)) (fun (k:Nat)=>ls.length-k) 0 ⟨Nat.zero_le _,bp,rfl⟩ ?_;rintro k _ ⟨hk,h0,rfl⟩;refine az 1 ?_;refine fC (Wk.ek (n:=19) (l':=[(0,_),(1,_),(7,_),(8,_),(9,_)]) (S':=S) rfl nR fJ) ?_;refine jX ?_;refine cj ?_ ?_<;>intro aM bG
  ·refine az 2 ?_;refine fC (Wk.ek (n:=19) (l':=[(0,_),(1,_),(5,_),(7,_),(8,_)]) (S':=S) rfl nR fJ) ?_;refine jX ?_;refine az 5 ?_;refine my (f:=g) (args:=[_]) av rfl rfl (vh rfl lk) fH (hp (ls[k]'w4) (getElem_mem _)) rfl ⟨vh rfl lk,trivial⟩ (Kg _) ?_;rintro _ S2 ⟨rfl,iK⟩;rw[iK];clear iK;refine fC (Wk.ek (n:=19) (l':=[(0,_),(1,_),(5,_),(7,_),(8,_),(16,_)]) (S':=S) rfl nR fJ) ?_;refine jX ?_;refine cj ?_ ?_<;>intro bf cD
   ·refine az 2 ?_;refine fC (Wk.ek (n:=19) (l':=[(4,_)]) (S':=S) rfl nR fJ) ?_;refine jX ?_;refine eu S ?_;refine⟨?_,rfl⟩;first|(rw[xW w4 h0 vy])|(rw[xQ w4 h0])
   refine dV 2 ?_;refine fC (Wk.ek (n:=19) (l':=[(0,_),(1,_),(7,_),(8,_)]) (S':=S) rfl nR fJ) ?_;refine jX ?_;refine⟨k+1,_,cG,aI,w4,ZD,rfl⟩
  refine az 1 ?_;refine fC (Wk.ek (n:=19) (l':=[(4,_)]) (S':=S) rfl nR fJ) ?_;refine jX ?_;refine eu S ?_;refine⟨?_,rfl⟩;first|(rw[xW w4 h0 vy])|(rw[xQ w4 h0])
  ):p:=h
theorem z12(h:p:=by
  refine aA [2] ?_;refine fi ?_;refine⟨vi ?_,rfl⟩;try simp only[wg] at *
  simp only[vo,pu];try simp_all
  try omega):p:=h
theorem ZH(h:p:=by
  refine cX [1,3] (SS hm hw s.names (by have:=hf.ok.2.2.1;omega) hf.n) ?_;refine ax [1,3,36] ?_ ?_<;>intro de eG
  ·refine aA [2] ?_;refine fi ?_;refine⟨vi ?_,rfl⟩;unfold pW jf;simp_all;all_goals (try (intros;(repeat' split)<;>first|rfl|omega))
  refine cX [1,4] (Fp hm hw s.ah (fun o h=>(hf.w o h).1)) ?_;refine ax [1,4,42] ?_ ?_<;>intro eo fS
  ·refine aA [2] ?_;refine fi ?_;refine⟨vi ?_,rfl⟩;unfold pW jf;simp_all;all_goals (try (intros;(repeat' split)<;>first|rfl|omega))
  refine ax [1,46] ?_ ?_<;>intro gk iC
  ·refine cX [2] (wi hm hw s.order hf.o) ?_;refine fi ?_;refine⟨vi ?_,rfl⟩;unfold pW jf;simp_all;all_goals (try (intros;(repeat' split)<;>first|rfl|omega))
  refine aA [2] ?_;refine fi ?_;refine⟨vi ?_,rfl⟩;unfold pW jf;simp_all;all_goals (try (intros;(repeat' split)<;>first|rfl|omega))):p:=h
theorem Ih(h:p:=by
  refine aq 76 [11,12] ?_;refine ax [12,74] ?_ ?_<;>intro wR GU
  ·refine dj [8,9] [] ?_;refine⟨?_,rfl⟩;unfold gA okF um;simp_all
  refine dj [8,9] [] ?_;refine⟨?_,rfl⟩;unfold gA okF um;simp_all):p:=h
theorem Bq(h:p:=by
  refine dj [8,9] [] ?_;refine⟨?_,rfl⟩;unfold gA okF um;simp_all):p:=h
theorem Ov(h:p:=by
  refine⟨vi ?_,rfl⟩;try simp only[wg] at *
  simp only[vo,pu];try simp_all
  try omega):p:=h
theorem DP(h:p:=by
  refine fi ?_;refine⟨vi ?_,rfl⟩;unfold pW jf;simp_all;all_goals (try (intros;(repeat' split)<;>first|rfl|omega))):p:=h
theorem ZI(h:p:=by
  refine⟨vi ?_,rfl⟩;unfold pW jf;simp_all;all_goals (try (intros;(repeat' split)<;>first|rfl|omega))):p:=h
theorem ZJ(h:p:=by
  skip;refine oC 20 [0,2,3,8,9,59,64,69,74] ?_;refine aT 4 ?_ (h:=by exact(dN (mk:=Op.load 3) rfl ot (wG (g:=Ph.cs) (ls:=ps) (i:=k) (j:=1) Ar isAgg3 aa rfl)));refine aT 4 ?_ (h:=by exact(dN (mk:=Op.load 3) rfl ot (wG (g:=Ph.cs) (ls:=ps) (i:=k) (j:=2) Ar isAgg3 aa rfl)));refine aT 4 ?_ (h:=by exact(dN (mk:=Op.load 3) rfl ot (wG (g:=Ph.cs) (ls:=ps) (i:=k) (j:=3) Ar isAgg3 aa rfl)));refine aT 4 ?_ (h:=by exact(dN (mk:=Op.load 23) rfl ot (wG (g:=Ph.cs) (ls:=ps) (i:=k) (j:=4) Ar isAgg23 aa rfl)));refine jR ?_;refine aG 1 ?_;refine fg av rfl rfl rfl call9 (VC.DQ (Wa hm hw ht hG (⟨2,(ps[k]'aa).t,(ps[k]'aa).a,(ps[k]'aa).b,(ps[k]'aa).row,.mk 0 0 ⟨#[]⟩ [],.mk 0 0 ⟨#[]⟩ [],false⟩:Ph) ⟨(show(-9223372036854775808:Int)<=2/\(2:Int)<=9223372036854775807 by decide),tq.t,tq.a,tq.b,tq.row,Wb,Wb⟩) (args':=[.agg [ae 2,ae (ps[k]'aa).t,ae (ps[k]'aa).a,ae (ps[k]'aa).b,.list 3 ((ps[k]'aa).row.flatMap cV) (ps[k]'aa).row.length,ae 0,ae 0,fN,bW,ae 0,ae 0,fN,bW,bP false]]) ⟨As ⟨dG,dG,dG,dG,dG,dG,dG,dG,fG,dG,dG,dG,fG,dG,trivial⟩,trivial⟩) ⟨ot,trivial⟩ (fx _) ?_;rintro _ _ ⟨s',rfl,rfl,al2,al3⟩;have hk9:s'.kind=3:=al3.trans (show(1:Int)+cH 2 6=3 by decide);have al4:¬s'.kind=1/\¬s'.kind=2:=(by omega)
  refine aR 0 [_,_,_,_,_,_,_,_,_,_,_,_] sizeOf44 ?_;refine aq 88 [0,2,3,8,9] ?_;refine⟨_,aI,s',al2,al4,rfl⟩):p:=h
theorem z20(h:p:=by
  refine bU 103 (fun CN aiU=>?_) (fun CN aiU=>?_)
  ·refine aG 3 ?_;refine oK iR rfl rfl rfl call53 (ye p.keys[i] p.high) ⟨ot,ot,trivial⟩ ?_;refine aq 132 [1,2,73,74,75,110] ?_;refine cj ?_ ?_<;>intro de eG
   ·have pC:¬wH p i:=fun hk=>by obtain⟨k1,k2,k3⟩:=hk aa;unfold bC at k2 k3;first|(rw[k1] at yF;cases yF;done)|(have:=k2 w4;omega)|(have:=k3 (LP CN);have hx:=of_decide_eq_true de;omega)
    refine dj [4] [] ?_;refine⟨vb (FJ fun hp=>?_),rfl⟩;exact pC (UD hp i)
   have hK:wH p i:=fun _=>⟨by simpa using yF,fun h0=>by unfold bC;first|(exfalso;omega)|(have hx:=of_decide_eq_false A4;omega),fun hne=>by first|exact absurd (len_nil CN) hne|(unfold bC;have hx:=of_decide_eq_false de;omega)⟩
   refine cc [1,2,73,74,75] ?_;refine⟨(i+1),_,cG,aI,w4,(fun j hj=>by rcases Nat.lt_or_ge j i with h|h;exact y7 j h;obtain rfl:j=i:=w4;exact hK),rfl⟩
  refine aq 132 [1,2,73,74,75,110] ?_;refine gB ?_;have hK:wH p i:=fun _=>⟨by simpa using yF,fun h0=>by unfold bC;first|(exfalso;omega)|(have hx:=of_decide_eq_false A4;omega),fun hne=>by first|exact absurd (len_nil CN) hne|(unfold bC;have hx:=of_decide_eq_false de;omega)⟩
  refine cc [1,2,73,74,75] ?_;refine⟨(i+1),_,cG,aI,w4,(fun j hj=>by rcases Nat.lt_or_ge j i with h|h;exact y7 j h;obtain rfl:j=i:=w4;exact hK),rfl⟩):p:=h
theorem z21(h:p:=by
  refine dY 69 [4] [_] ?_;first|exact gI.cast (gI.mk (g:=cO) (e:=58) (sz:=5) (ls:=[(⟨1,sV n s,⟨#[]⟩⟩:aH)]) (bN (ls:=[(⟨1,sV n s,⟨#[]⟩⟩:aH)]) (Nat.le_refl _) (show 1<=maxLen by decide))) (by unfold mz sK;rw[if_neg w4])|exact gI.cast (gI.mk (g:=cO) (e:=58) (sz:=5) (ls:=[(⟨kk,sV n s,⟨#[]⟩⟩:aH)]) (bN (ls:=[(⟨kk,sV n s,⟨#[]⟩⟩:aH)]) (Nat.le_refl _) (show 1<=maxLen by decide))) (by unfold mz sK;rw[if_neg w4,show kk=1 by omega])|exact gI.cast (gI.mk (g:=cO) (e:=58) (sz:=5) (ls:=[(⟨kk,aU,pX (j:Int)⟩:aH)]) (bN (ls:=[(⟨kk,aU,pX (j:Int)⟩:aH)]) (Nat.le_refl _) (show 1<=maxLen by decide))) (by unfold mz wI;rw[if_pos w4,hj,show kk=2 by omega])):p:=h
theorem z22(h:p:=by
  have mR:((bz[bz.length-1].k==6)||(((c9 (lu key) (bz.take 2))==0)==nt))=true:=(by first|rw[Mm,Bool.true_or]|rw[eo,Bool.or_true])
  refine cX [0,8,9,11,13,122] (UC (gj [bz[(c9 gv (bz.take 2)).toNat].v]).1 lo) ?_;refine cj ?_ ?_<;>intro gk iC
  ·have y8:compareBytes (gj [bz[(c9 gv (bz.take 2)).toNat].v]).1 lo>0:=(by simpa using gk)
   have DR:((gj [bz[(c9 gv (bz.take 2)).toNat].v]).1,hi)=(bif (bz[bz.length-1].k==6)||(((c9 (lu key) (bz.take 2))==0)==nt) then nL (gj [bz[(c9 gv (bz.take 2)).toNat].v]).1 (lo,hi) else (lo,hi)):=(by rw[mR];show _=nL _ _;unfold nL;rw[if_pos y8])
   refine dV 2 ?_;refine eB call70 (Kf (gj [bz[(c9 gv (bz.take 2)).toNat].v]).1 w4) ?_;refine aG 2 ?_;refine aR 1 [_,_] sizeOf86 ?_;refine aq 155 [0,8,9,11,13] ?_;refine⟨_,aI,((gj [bz[(c9 gv (bz.take 2)).toNat].v]).1,hi),DR,(by first|exact er|exact ff),eJ,rfl⟩
  have y8:¬compareBytes (gj [bz[(c9 gv (bz.take 2)).toNat].v]).1 lo>0:=(by simpa using gk)
  have DR:(lo,hi)=(bif (bz[bz.length-1].k==6)||(((c9 (lu key) (bz.take 2))==0)==nt) then nL (gj [bz[(c9 gv (bz.take 2)).toNat].v]).1 (lo,hi) else (lo,hi)):=(by rw[mR];show _=nL _ _;unfold nL;rw[if_neg y8])
  refine en ?_;refine⟨_,aI,(lo,hi),DR,(by first|exact er|exact ff),eJ,rfl⟩):p:=h
theorem Ow(h:p:=by
  refine⟨vi ?_,rfl⟩;first|exact hf.symm|(rw[hf,hx,SU aa yG (by first|assumption|decide)];done)|(rw[hf,fw,if_pos (by simpa using qP)];done)|(rw[hf,fw,if_neg (by simpa using qP)];done)):p:=h
theorem z24(h:p:=by
  have fX:sL eC y=false:=(by unfold sL;simp_all[Wc])
  refine CI.skip ?_;refine CI.region MZ rfl ?_;refine bQ (ec 1) ?_;refine bQ (M6 0 [_,_]) ?_;refine eH (cx 0 [_]) [.slice none 0 0,.int .i64 0] [_,_] zeroValue88 runUnderlying83 sizeOf88 (fun Ii=>?_);refine gh 0 40 2 1 ?_;refine fY (ls:=pre) (new:=[y]) (Sq:=So) Wd aiV av rfl rfl underlying83 acK rfl w8 ot ho (dK (A:=[_,_,_])) ot bp uD uD (fun xA Hv al5 al6=>?_);refine bZ (ew (S1:=[⟨xA,88,Hv*2,flatMap cE (pre++[y])⟩]) (A:=[_,_,_])) ?_;refine aR 1 [_] sizeOf83 ?_;refine fC (Wk.ek (n:=43) (l':=[]) (S':=(⟨kY,88,2,[_,_]⟩::⟨b9,83,1,[_]⟩::⟨b5,86,1,[_]⟩::[⟨xA,88,Hv*2,flatMap cE (pre++[y])⟩])) rfl rfl trivial) ?_;refine jX ?_;exact⟨_,Sublist.cons _ (Sublist.refl _),(fun x hx=>by rcases mem_append.1 hx with hx|hx;exact aQ x hx;rw[mem_singleton] at hx;subst hx;exact fX),(some ⟨xA,0,none⟩),Hv,[⟨xA,88,Hv*2,flatMap cE (pre++[y])⟩],(bN al5 al6),rfl⟩):p:=h
theorem ZK(h:p:=by
  refine az 1 ?_;refine my (f:=54) (args:=[_]) (all:=[_,_,_]) (Sf:=[_,_]) (R:=[]) av rfl rfl ot call54 (Mn r k n d s ts 0 b2 b3 IH gM iS hs hd1 hd w8) rfl ⟨cf,trivial⟩ (Perm.refl _) ?_;rintro _ _ ⟨Ox,⟨atc,atd,rfl,al7⟩,rfl⟩;refine bZ (SV (A:=[_,_])) ?_;refine aG 2 ?_;refine eH (cx 0 [_]) [.int .i64 0,.int .i64 0,.int .i64 0,.string ⟨#[]⟩,.string ⟨#[]⟩] [_,_,_,_,_] zeroValue58 runUnderlying42 sizeOf58 (fun Br=>?_);refine gh 0 58 5 1 ?_;refine fY (ls:=(gJ r ts n s 0)) (new:=[(⟨kk,aU,⟨#[]⟩⟩:aH)]) (Sq:=Ox) mY At av rfl rfl underlying42 Jr rfl w8 ot al7 (dK (A:=[_,_])) ot bp Bo Bo (fun uK uo C5 C6=>?_);refine bZ (ew (S1:=[⟨uK,58,uo*5,flatMap cO ((gJ r ts n s 0)++[(⟨kk,aU,⟨#[]⟩⟩:aH)])⟩]) (A:=[_,_])) ?_;refine dY 69 [4] [⟨uK,58,uo*5,flatMap cO ((gJ r ts n s 0)++[(⟨kk,aU,⟨#[]⟩⟩:aH)])⟩] ?_;exact gI.cast (gI.mk (bN C5 C6)) (by rw[v7,mO,if_neg w4,if_neg w4,if_pos w4];rfl)):p:=h
theorem Ij(h:p:=by
  refine eu [] ?_;refine⟨?_,rfl⟩;unfold jZ;first|(rw[if_pos bG];first|done|rfl)|(rw[if_neg bG,if_pos cl,hj];rcases j with _|_|j<;>first|rfl|omega)|(rw[if_neg bG,if_neg cD,if_pos cU];first|done|rfl)|(rw[if_neg bG,if_neg cD,if_neg cU,if_pos w4,show -v.n=0-v.n by omega];first|done|rfl)|(rw[if_neg bG,if_neg cD,if_neg cU,if_neg w4];first|done|rfl)):p:=h
theorem ZL(h:p:=by
  refine at_ rfl fW ?_;refine dr 14 rfl (ei 1 (h:=MR)) ?_;refine bH (i:=15) aB ?_;refine vW (k:=0) (cs':=((Mv P B Q x (t+1)).set (a+t+1) ((Mv P B Q x (t+1))[a+t])).flatMap cI) rfl av rfl rfl ot rfl rfl ot rfl rfl sizeOf3 rfl Hp (by rw[Nat.zero_add];exact qt eS _ _ w4) jb ?_;refine fD ?_;refine aG 1 ?_;refine oe (k:=0) (cs':=(Mv P B Q x (t)).flatMap cI) av rfl rfl ot rfl rfl ot rfl rfl sizeOf3 rfl H8 (by rw[Nat.zero_add];exact(qt eS ((Mv P B Q x (t+1)).set (a+t+1) ((Mv P B Q x (t+1))[a+t])) ((Mv P B Q x (t+1))[a+t+1]) xx).trans (congrArg (flatMap cI) (aiW Oy hP w4 w4))) ?_;refine aq 220 [0,14,17] ?_;refine jg [0,14,17] ?_;refine aT 1 ?_ (h:=by exact(dX rfl ot cf (iL (r:=((a+t:Nat):Int)) Ou)));refine bL ?_;refine⟨t,_,cG,aI,w4,w4,rfl⟩):p:=h
theorem z28(h:p:=by
  refine at_ rfl fW ?_;refine dr 14 rfl (ei 1 (h:=MU)) ?_;refine bH (i:=15) aB ?_;refine vW (k:=0) (cs':=((Mv P B Q x (t)).set (a+t) ((Mv P B Q x (t))[a+t+1])).flatMap cI) rfl av rfl rfl ot rfl rfl ot rfl rfl sizeOf3 rfl Hp (by rw[Nat.zero_add];exact qt eS _ _ w4) jb ?_;refine fD ?_;refine aG 1 ?_;refine oe (k:=0) (cs':=(Mv P B Q x (t+1)).flatMap cI) av rfl rfl ot rfl rfl ot rfl rfl sizeOf3 rfl H8 (by rw[Nat.zero_add];exact(qt eS ((Mv P B Q x (t)).set (a+t) ((Mv P B Q x (t))[a+t+1])) ((Mv P B Q x (t))[a+t]) xx).trans (congrArg (flatMap cI) (aiX Oy hP w4 w4))) ?_;refine aq 220 [0,10,13] ?_;refine jg [0,10,13] ?_;refine aT 1 ?_ (h:=by exact(dX rfl ot cf (lI (r:=((a+(t+1):Nat):Int)) (by rw[show(((a+t:Nat):Int)+1)=((a+(t+1):Nat):Int) by omega];exact wrap_i64 w4 w4))));refine bL ?_;refine⟨(t+1),_,cG,aI,w4,rfl⟩):p:=h
theorem ZM(h:p:=by
  refine at_ rfl fW ?_;refine dr 14 rfl (ei 1 (h:=MX)) ?_;refine bH (i:=15) aB ?_;refine vW (k:=0) (cs':=(mj.set j (mj[j-1]'rQ)).flatMap cI) rfl av rfl rfl ot rfl rfl ot rfl rfl sizeOf3 rfl Hp (by rw[Nat.zero_add];exact qt eS _ _ rR) jb ?_;refine fD ?_;refine aG 1 ?_;refine oe (k:=0) (cs':=((mj.set j (mj[j-1]'rQ)).set (j-1) (mj[j]'rR)).flatMap cI) av rfl rfl ot rfl rfl ot rfl rfl sizeOf3 rfl H8 (by rw[Nat.zero_add];exact qt eS _ _ (by rw[length_set];exact rQ)) ?_;refine aq 53 [0,1,2,3,8,9] ?_;refine jg [0,1,2,3,8,9] ?_;refine aT 1 ?_ (h:=by exact(dX rfl ot cf (iL (r:=((j-1:Nat):Int)) MS)));refine bL ?_;refine⟨((j-1),((mj.set j (mj[j-1]'rQ)).set (j-1) (mj[j]'rR))),_,cG,aI,(adK hj hja rR rQ (F8 akq)),(by simpa using A5),rfl⟩):p:=h
theorem ZN(h:p:=by
  refine bU 71 (fun al8 akr=>?_) (fun al8 akr=>?_)
  ·refine bA [0,2,4,6,8,79] ?_;refine cj ?_ ?_<;>intro cr cU
   ·have uq:(bz.length≠3\/(nt=true/\bz[bz.length-1].k≠7)\/(bz[bz.length-1].k≠6/\bz[bz.length-1].k≠7)):=(by first|omega|(simp_all;omega)|simp_all)
    have nM:mb key bz nt (lo,hi)=(lo,hi):=(by unfold mb;rw[sE wS,if_pos uq])
    rw[nM] at aY;refine eu [⟨b0,_,_,_⟩] ?_;refine⟨rfl,?_⟩;first|rw[uJ]|rw[aY]
   have uq:¬(bz.length≠3\/(nt=true/\bz[bz.length-1].k≠7)\/(bz[bz.length-1].k≠6/\bz[bz.length-1].k≠7)):=(by first|omega|(simp_all;omega)|simp_all)
   refine en ?_;refine⟨_,aI,uq,rfl⟩
  refine bA [0,2,4,6,8,79] ?_;refine gB ?_;have uq:¬(bz.length≠3\/(nt=true/\bz[bz.length-1].k≠7)\/(bz[bz.length-1].k≠6/\bz[bz.length-1].k≠7)):=(by first|omega|(simp_all;omega)|simp_all)
  refine en ?_;refine⟨_,aI,uq,rfl⟩):p:=h
theorem z31(h:p:=by
  have uq:(bz.length≠3\/(nt=true/\bz[bz.length-1].k≠7)\/(bz[bz.length-1].k≠6/\bz[bz.length-1].k≠7)):=(by first|omega|(simp_all;omega)|simp_all)
  have nM:mb key bz nt (lo,hi)=(lo,hi):=(by unfold mb;rw[sE wS,if_pos uq])
  rw[nM] at aY;refine eu [⟨b0,_,_,_⟩] ?_;refine⟨rfl,?_⟩;first|rw[uJ]|rw[aY]):p:=h
theorem ZO(h:p:=by
  refine aA [0] ?_;refine aA [3] ?_;refine ax [3,4] ?_ ?_<;>intro aM bG
  ·refine e9 ?_;refine dj [2] [] ?_;refine⟨vi ?_,rfl⟩;unfold bu;simp_all
  refine cc [3,4] ?_;refine cj ?_ ?_<;>intro bf cD
  ·refine dj [2] [] ?_;refine⟨vi ?_,rfl⟩;unfold bu;simp_all
  refine ax [3,7] ?_ ?_<;>intro cr cU
  ·refine e9 ?_;refine dj [2] [] ?_;refine⟨vi ?_,rfl⟩;unfold bu;simp_all
  refine cc [7] ?_;refine cj ?_ ?_<;>intro de eG
  ·refine dj [2] [] ?_;refine⟨vi ?_,rfl⟩;unfold bu;simp_all
  refine dj [2] [] ?_;refine⟨vi ?_,rfl⟩;unfold bu;simp_all
  ):p:=h
theorem ZP(h:p:=by
  have pC:¬wH p i:=fun hk=>by obtain⟨k1,k2,k3⟩:=hk aa;unfold bC at k2 k3;first|(rw[k1] at yF;cases yF;done)|(have:=k2 w4;omega)|(have:=k3 (LP CN);have hx:=of_decide_eq_true de;omega)
  refine dj [4] [] ?_;refine⟨vb (FJ fun hp=>?_),rfl⟩;exact pC (UD hp i)):p:=h
theorem Oz(h:p:=by
  refine aG 1 ?_;first|refine l8 (k:=0) (cs':=[.list 1 [] 0,_]) rfl ⟨fG,dG,trivial⟩ rfl ?_|skip
  first|refine l8 (k:=1) (cs':=[.list 1 [] 0,_]) rfl ⟨fG,dG,trivial⟩ rfl ?_|skip
  first|refine l8 (k:=1) (cs':=[.list 5 [] 0]) rfl ⟨fG,trivial⟩ rfl ?_|skip
  first|refine l8 (k:=2) (cs':=[.list 5 [] 0]) rfl ⟨fG,trivial⟩ rfl ?_|skip
  refine dY 46 [4,5,6] [] ?_;rw[aY];exact⟨rfl,rfl⟩):p:=h
theorem ZQ(h:p:=by
  refine⟨vi ?_,rfl⟩;try simp only[wg] at *
  unfold bY;simp_all;try omega):p:=h
theorem ZR(h:p:=by
  refine eu [⟨b0,_,_,_⟩] ?_;refine⟨rfl,?_⟩;first|rw[uJ]|rw[aY]):p:=h
theorem z37(h:p:=by
  refine at_ rfl fW ?_;refine dr 20 rfl (ei 1) ?_;refine bH (i:=21) aB ?_;refine vW (k:=0) (cs':=((kK l la lb i).set (la+i) ((kK l la lb i)[lb+i]'hb)).flatMap cI) rfl av rfl rfl ot rfl rfl ot rfl rfl sizeOf3 rfl Hp (by rw[Nat.zero_add];exact qt eS _ _ ha) jb ?_;refine fD ?_;refine aG 1 ?_;refine oe (k:=0) (cs':=(kK l la lb (i+1)).flatMap cI) av rfl rfl ot rfl rfl ot rfl rfl sizeOf3 rfl H8 (by rw[Nat.zero_add];exact(qt eS ((kK l la lb i).set (la+i) ((kK l la lb i)[lb+i]'hb)) ((kK l la lb i)[la+i]'ha) (by rw[length_set];exact hb)).trans (by rw[kK,sw,nD ha,nD hb])) ?_;refine aq 38 [0,1,2,3,10] ?_;refine cc [0,1,2,3,10] ?_;refine⟨(i+1),_,cG,aI,w4,rfl⟩):p:=h
theorem ZS(h:p:=by
  have kZ:p.1∈ts:=(by rw[<-hr.keys];exact mem_map_of_mem eP)
  refine⟨kZ,?_⟩;rw[hr.at kZ];have eL:∀(j:Nat) (p':Oper),k<=j->ops[j]?=some p'->p'.dst≠some p.1:=fun j p' hj rS fj=>by
   obtain⟨e1,mR,gw,jh⟩:=wj (by simpa using tr) rS fj kZ;have:=(rB hp rI).1 e1 mR gw;omega
  have h6:∀p'∈l,p'.dst≠some p.1:=fun p' tu=>by
   rw[<-gY] at tu;obtain⟨j,hj,rfl⟩:=mem_iff_getElem.1 tu;refine eL (k+1+j) _ w4 ?_;rw[<-Array.getElem?_toList,<-getElem?_drop,getElem?_eq_getElem hj]
  rw[he p.1 fun p' tu=>h6 p' (k0.sub p' tu),k0.later h6,eD,if_neg (fun e1:t=p.1=>eL k o (Nat.le_refl _) rI C3)]):p:=h
theorem pH(h:p:=by
  refine eu [] ?_;rw[aY];exact⟨rfl,rfl⟩):p:=h
theorem z40(h:p:=by
  refine dj [4] [] ?_;first|exact⟨rfl,rfl⟩|(refine⟨vi ?_,rfl⟩;unfold qE;simp_all;done)|(refine⟨vi ?_,rfl⟩;unfold qE;split<;>(try split)<;>simp_all<;>omega)):p:=h
theorem y9(h:p:=by
  refine dY 90 [4] [] ?_;refine⟨vb ?_,rfl⟩;unfold iM jf;simp_all;all_goals (try (intros;omega))):p:=h
theorem ZT(h:p:=by
  have kZ:p.1∈ts:=(by rw[<-hr.keys];exact mem_map_of_mem eP)
  refine⟨kZ,?_⟩;rw[hr.at kZ];have eL:∀(j:Nat) (p':Oper),k<=j->ops[j]?=some p'->p'.dst≠some p.1:=fun j p' hj rS fj=>by
   obtain⟨e1,mR,gw,jh⟩:=wj (by simpa using tr) rS fj kZ;have:=(rB hp rI).1 e1 mR gw;omega
  have h5:=k0.later (q:=p.1) (fun p' tu=>by
   rw[<-gY] at tu;obtain⟨j,hj,rfl⟩:=mem_iff_getElem.1 tu;refine eL (k+1+j) _ w4 ?_;rw[<-Array.getElem?_toList,<-getElem?_drop,getElem?_eq_getElem hj])
  rw[h5,eD,if_neg (fun e1:t=p.1=>eL k o (Nat.le_refl _) rI C3)]):p:=h
theorem OA(h:p:=by
  refine⟨vb ?_,rfl⟩;unfold iM jf;simp_all;all_goals (try (intros;omega))):p:=h
theorem oD(h:p:=by
  refine eu [] ?_;exact⟨rfl,rfl⟩
  ):p:=h
theorem Il(h:p:=by
  refine eu [] ?_;rw[aY];exact⟨rfl,fun h=>by dsimp only at h;omega⟩):p:=h
theorem z46(h:p:=by
  refine dY 69 [4] [_] ?_;first|exact gI.cast (gI.mk (g:=cO) (e:=58) (sz:=5) (ls:=[(⟨kk,sV n s,⟨#[]⟩⟩:aH)]) (bN (ls:=[(⟨kk,sV n s,⟨#[]⟩⟩:aH)]) (Nat.le_refl _) (show 1<=maxLen by decide))) (by rw[v7,mO,if_pos w4];unfold sK;rw[show kk=1 by omega])|exact gI.cast (gI.mk (g:=cO) (e:=58) (sz:=5) (ls:=[(⟨kk,aU,pX (j:Int)⟩:aH)]) (bN (ls:=[(⟨kk,aU,pX (j:Int)⟩:aH)]) (Nat.le_refl _) (show 1<=maxLen by decide))) (by rw[v7,mO,if_neg w4,if_pos w4];unfold wI;rw[hj,show kk=2 by omega])):p:=h
theorem Im(h:p:=by
  refine bA [2] ?_;refine fi ?_;refine⟨vb ?_,rfl⟩;rw[Bool.eq_iff_iff];simp[x7];first|done|omega):p:=h
theorem Io(h:p:=by
  refine dj [4] [] ?_;refine⟨?_,rfl⟩;first|rfl|(rcases hd1 with h|h<;>simp[h];done)|(congr 3;done)|(rw[cl];simp;done)):p:=h
theorem z49(h:p:=by
  refine bZ (ew (A:=[])) ?_;refine aq 29 [3,8,9,10] ?_;refine cc [3,8,9,10] ?_;refine⟨((i+1),XY,XZ,ZU),_,cG,(aI (h:=Zj)),w4,(bq.cast X4 (by first|exact SO aa w4|exact Rk aa w4)),rfl⟩):p:=h
theorem OB(h:p:=by
  refine⟨vs ?_,rfl⟩;have Bs:k=s.size\/6<=k:=(by omega)
  have M7:min k s.size=k:=Nat.min_eq_left hk;simp only[length_map,length_take,lJ,M7] at *;unfold wJ AH;first|(rw[if_pos w4];done)|(rw[if_neg w4,SX hk Bs h6])):p:=h
theorem z51(h:p:=by
  have hF:¬((bE t.au s.set)=0/\(c8 t.au (rowAt t ((ap t s.ah).1[k]'aa)) s.bM).1.k=0):=(by first|exact fun h=>(show ¬(c8 t.au (rowAt t ((ap t s.ah).1[k]'aa)) s.bM).1.k=0 from by simpa using iQ) h.2|exact fun h=>absurd h.1 (by simpa using A4))
  have oX:(jv t (bE t.au s.set) s.bM [] (ap t s.ah).1)=jv t (bE t.au s.set) s.bM (acc++[(c8 t.au (rowAt t ((ap t s.ah).1[k]'aa)) s.bM).1]) ((ap t s.ah).1.drop (k+1)):=(by rw[Bt,gY,jv,if_neg hE,if_neg hF])
  refine en ?_;refine⟨_,aI,oX,rfl⟩):p:=h
theorem Ip(h:p:=by
  rw[<-gY] at eP;obtain⟨j,hj,rfl⟩:=mem_iff_getElem.1 eP;refine j5 (k+1+j) _ w4 ?_;rw[<-Array.getElem?_toList,<-getElem?_drop,getElem?_eq_getElem hj]):p:=h
theorem z53(h:p:=by
  skip;obtain⟨hz,_⟩:=za aM;obtain rfl:=length_eq_zero_iff.1 hz;refine dj [2] [] ?_;exact⟨none,0,rfl,.inl ⟨rfl,rfl,rfl,rfl,rfl⟩⟩):p:=h
theorem DS(h:p:=by
  refine aR 0 [_,_,_] sizeOf56 ?_;refine dY 35 [4,5] [] ?_;refine⟨?_,rfl⟩;unfold j3;simp_all[aU]):p:=h
theorem OC(h:p:=by
  refine dj [2] [] ?_;refine⟨vi ?_,rfl⟩;try simp only[QV] at *
  simp only[cR];first|(rw[if_pos w4];done)|(rw[if_neg w4];cases h1:pu s<;>cases h2:wD.any (jf s)<;>simp_all)):p:=h
theorem Iq(h:p:=by
  refine eu _ ?_;first|exact⟨rfl,_,Mo,rfl⟩|exact⟨rfl,_,F9 rJ mS tv,rfl⟩|exact⟨rfl,_,F9 rJ mS (Rl rJ mS w4),rfl⟩):p:=h
theorem zb(h:p:=by
  refine aA [2] ?_;refine fi ?_;rw[aY];exact⟨rfl,rfl⟩):p:=h
theorem ZV(h:p:=by
  have hC:0<=p.kids[i]/\(p.leaf=false->p.kids[i]<many):=⟨by have hx:=of_decide_eq_false Mp;omega,fun hl=>by first|(rw[hl] at GV;cases GV;done)|(have hx:=of_decide_eq_false gk;omega)⟩
  refine cc [1,2,113,114,115] ?_;refine⟨(i+1),_,cG,aI,w4,(fun j hj hl=>by rcases Nat.lt_or_ge j i with h|h;exact mi j h hl;obtain rfl:j=i:=w4;exact hC),rfl⟩):p:=h
theorem z59(h:p:=by
  have fw:j=a\/Rc cF Lt (mj[j-1]'rQ) (mj[j]'rR):=(by first|exact .inr (Gz ha (ahb hj (by have q:=of_decide_eq_true rK;omega) rR rQ hq) w4)|exact .inl (by have q:=of_decide_eq_false rK;omega))
  refine cc [0,1,2,3,8] ?_;refine⟨((i+1),mj),_,cG,aI,(fun _=>afo ht hj w4 w4 fw),w4,w4,w4,A5,rfl⟩):p:=h
theorem ZW(h:p:=by
  refine aR 0 [_,_,_] sizeOf153 ?_;refine dY 14 [2] [] ?_;refine⟨?_,rfl⟩;unfold A6;first|(rw[if_neg kf,if_neg zc,show((j:Nat):Int).toNat=j from rfl,getD_eq_getElem?_getD,getElem?_eq_getElem hj];rfl)|(rw[if_pos yA];rfl)|(rw[if_neg yA,if_pos uh];rfl)):p:=h
theorem vH(h:p:=by
  refine eu [] ?_;rw[aY];exact⟨rfl,rfl⟩
  ):p:=h
theorem ZX(h:p:=by
  have pC:vs[i].k≠l[i].k/\(i=0\/vs[i].k≠0):=(by first|(simp at *;omega)|(constructor<;>simp_all<;>omega))
  have hf:nh i l[i] vs[i]=4:=(by unfold nh;rw[if_neg hz,if_pos pC])
  have aY:dR l vs=4:=(by rw[hinv,SY M8 aa (by rw[hf];decide),hf])
  refine aA [4] ?_;refine fi ?_;rw[aY];exact⟨rfl,rfl⟩):p:=h
theorem ZY(h:p:=by
  have pC:¬(0<=p.kids[i]/\(p.leaf=false->p.kids[i]<many)):=fun hk=>by obtain⟨k1,k2⟩:=hk;first|(have hx:=of_decide_eq_true Mp;omega)|(have:=k2 (by simpa using GV);have hx:=of_decide_eq_true gk;omega)
  refine aA [4] ?_;refine fi ?_;refine⟨vb (FJ fun hp=>?_),rfl⟩;exact pC (ahc hp aa)):p:=h
theorem ZZ(h:p:=by
  refine aq 70 [1,2,11,35,36,37] ?_;refine cc [1,2,11,35,36,37] ?_;refine⟨((k+1),(acc++[(L[k]'aa).2]),(some ⟨rT,0,none⟩),sW,[⟨rT,3,sW*1,flatMap Tw.cI ((acc)++[(L[k]'aa).2])⟩]),_,cG,aI,w4,Hq,oX,(bq.cast (bN Hw Hx) lW),rfl⟩):p:=h
theorem Z0(h:p:=by
  have pz:¬(vs[i].k≠l[i].k/\(i=0\/vs[i].k≠0)):=(by first|(simp_all;done)|omega|(simp at *;omega))
  have hf:nh i l[i] vs[i]=0:=(by unfold nh;rw[if_neg hz,if_neg pz])
  have iY:=hinv.trans (adL M8 aa hf);refine cc [0,19,20,21] ?_;refine⟨(i+1),_,cG,aI,w4,iY,rfl⟩):p:=h
theorem Z1(h:p:=by
  refine cc [1,3,33,34,35] ?_;refine⟨(i+1),_,cG,(aI (h:=Zn)),w4,rfl⟩):p:=h
theorem OE(h:p:=by
  refine aR 0 [_,_,_] sizeOf56 ?_;refine dY 42 [8,9] [⟨br,40,1,[an 3 cV row]⟩,⟨bc,39,1,[an 2 cC l]⟩] ?_;rw[aY];exact⟨rfl,rfl⟩):p:=h
theorem Ir(h:p:=by
  obtain⟨t',h3,h4⟩:=(rB hp rS).2;rw[fj] at h3;obtain rfl:=Option.some.inj h3;exact h4 k o hj rI hd):p:=h
theorem Is(h:p:=by
  refine bZ (ew (A:=[])) ?_;refine dY 8 [2] S7 ?_;exact⟨_,_,rfl,qQ⟩
  ):p:=h
theorem z70(h:p:=by
  refine fD ?_;refine oK iR rfl rfl rfl call28 (fF) ⟨ot,ot,trivial⟩ ?_;refine aq 31 [1,10,11,12,29] ?_;refine cj ?_ ?_<;>intro cr cU
  ·exact absurd cr (by (simp at cr;omega))
  refine cc [1,10,11,12] ?_;refine⟨(i+1),_,cG,aI,w4,rfl⟩):p:=h
theorem Z2(h:p:=by exact We At rfl rfl underlying42 Js rfl w8 (fun _=>by first|exact ot|exact cf) (fun _=>ot) nq uD uD rfl _):p:=h
theorem z72(h:p:=by
  skip;refine bA [1,33] ?_;refine e9 ?_;refine aA [2] ?_;refine fi ?_;exact⟨vi (QG w4).symm,rfl⟩):p:=h
theorem OF(h:p:=by
  refine aR 0 [_,_,_] sizeOf56 ?_;refine dY 29 [2] [] ?_;refine⟨?_,rfl⟩;unfold px aU;simp_all):p:=h
theorem Z3(h:p:=by
  have hC:¬((cu t.au s.bM).1≠(t.au.getD (bE t.au s.set).toNat ⟨⟨#[]⟩,0⟩).k/\(cu t.au s.bM).1≠0):=(by rw[k8];first|exact fun h=>h.2 (by simpa using cr)|exact fun h=>h.1 AJ)
  refine en ?_;refine⟨_,aI,hC,rfl⟩):p:=h
theorem z75(h:p:=by
  have pG:¬(0<=s.iz/\s.iz<lz.length):=(by first|exact fun h=>nK h.2|(intro h;omega))
  refine en ?_;refine⟨_,aI,lz,(by unfold vp C7;rw[<-nU,Int.toNat_natCast,<-hM,<-X5,if_neg pG]),X6,w4,rfl⟩):p:=h
theorem z76(h:p:=by
  refine dY 135 [4,5] [] ?_;rw[aY];exact⟨[],none,0,[],rfl,jj,(fun o h=>by cases h),rfl,rfl⟩):p:=h
theorem Z4(h:p:=by
  have aks:¬(f.length<=100/\eC.length<=100):=(by simp_all;omega)
  refine aA [6,7] ?_;refine kS (Wk.vj (t:=6) (sz:=2) lk) ?_;refine OG ?_;exact⟨by unfold yj;rw[if_pos hz,if_neg aks];rfl,rfl⟩):p:=h
theorem Z5(h:p:=by
  unfold cC;refine bX ?_;refine cW [_,_] (fun b2=>?_);refine aq 8 [1,2] ?_;refine dj [3] [⟨b,9,1,[bg nm]⟩] ?_;exact⟨rfl,rfl⟩
  ):p:=h
theorem Z6(h:p:=by
  have jw:¬((jH a b i).k≠2/\(jH a b i).k≠0):=(by simp_all)
  refine cc [0,4,5,6,73,74] ?_;refine⟨(i+1),_,cG,aI,w4,(Kh (p:=fun v=>¬(v.k≠2/\v.k≠0)) eL jw),rfl⟩):p:=h
theorem z80(h:p:=by
  have jw:¬((jH a b i).k≠1/\(jH a b i).k≠0):=(by simp_all)
  refine cc [2,3,4,6,14,15] ?_;refine⟨(i+1),_,cG,aI,w4,(Kh (p:=fun v=>¬(v.k≠1/\v.k≠0)) eL jw),rfl⟩):p:=h
theorem Z7(h:p:=by
  unfold eN cmpL fK fK fK fK;rcases rj a.k b.k with ⟨h1,h2⟩|⟨h1,h2⟩|⟨h1,h2⟩<;>rcases rj a.n b.n with ⟨k1,k2⟩|⟨k1,k2⟩|⟨k1,k2⟩<;>simp only[h1,k1]<;>(repeat' split)<;>omega):p:=h
theorem Z8(h:p:=by
  refine bL ?_;refine cN [6,7] ?_;refine aT 6 ?_ (h:=by exact(dX rfl ot ot (FK underlying4)));refine bL ?_;refine eu [] ?_;refine⟨?_,rfl⟩;unfold qu;simp_all):p:=h
theorem Z9(h:p:=by
  have akt:¬((jH a b i).k=1/\(jH a b i).n=d):=(by simp_all)
  refine cc [2,3,4,6,30,31] ?_;refine⟨(i+1),_,cG,aI,w4,(Kh (p:=fun v=>¬(v.k=1/\v.n=d)) Mq akt),rfl⟩):p:=h
theorem z84(h:p:=by refine⟨_,(aI (h:=by repeat (first|exact trivial|refine⟨(by (repeat (first|exact jV|(apply kP;focus (first|rfl|(rw[dA];done)|(simp;done)))|(apply j8;focus rfl)));done),?_⟩))),rfl⟩):p:=h
theorem z85(h:p:=by refine⟨_,(aI (h:=by repeat (first|exact trivial|refine⟨(by (repeat (first|exact jV|(apply kP;focus (first|rfl|(rw[k8];done)|(simp;done)))|(apply j8;focus rfl)));done),?_⟩))),rfl⟩):p:=h
theorem z86(h:p:=by
  skip;obtain⟨hz,_⟩:=za aM;obtain rfl:=length_eq_zero_iff.1 hz;refine aA [2] ?_;refine kS (Wk.vj (t:=2) (sz:=1) lk) ?_;refine eu [] ?_;exact⟨rfl,rfl⟩):p:=h
theorem z87(h:p:=by
  refine dj [4] [] ?_;first|exact⟨vi (FL hn).symm,rfl⟩|exact⟨vi (Fq hz uh).symm,rfl⟩|exact⟨vi (KQ hz uh).symm,rfl⟩):p:=h
theorem z88(h:p:=by
  refine aA [4] ?_;refine fi ?_;refine⟨vi ?_,rfl⟩;unfold aS;first|(rw[C8] at hud;cases gg:p.leaf<;>simp_all;done)|(simp_all;done)|(simp_all;omega)):p:=h
theorem OH(h:p:=by
  refine dj [2,3] [] ?_;first|(rw[aY];exact⟨none,0,rfl,jj⟩)):p:=h
theorem DT(h:p:=by refine⟨_,aI,_,(by unfold zeroV;simp_all),rfl⟩):p:=h
theorem z91(h:p:=by
  refine dj [2] [] ?_;exact⟨by first|rw[aY]|rw[aY];rfl,rfl⟩):p:=h
theorem z92(h:p:=by
  have g6:=po.leaf;have g7:=fun h=>(po.node h).1;cases gg:(t.af[i]'aa).leaf with
  | true=>have:=g6 gg;omega
  | false=>have:=g7 gg;omega):p:=h
theorem z93(h:p:=by
  split
  ·rw[getD_eq_getElem?_getD,getD_eq_getElem?_getD,length_append,getElem?_append_right w4];congr 2;omega
  rfl):p:=h
theorem z94(h:p:=by
  rw[map_set,hn];have:l[i].nm=(l.map aK.nm)[i]'(by rw[length_map];exact hi):=(by rw[getElem_map])
  rw[this,set_getElem_self]):p:=h
theorem z95(h:p:=by
  have vI:not=false:=(by simpa using h')
  have h7:o2.k=7:=(by rcases It with h6|h7;rw[h6] at h;cases h;exact h7)
  have:=m5 h7 vI;omega):p:=h
theorem Iu(h:p:=by
  refine eu [] ?_;rw[fw];exact⟨rfl,rfl⟩
  ):p:=h
theorem DU(h:p:=by refine⟨_,aI,_,iI,rfl⟩):p:=h
theorem OI(h:p:=by
  refine dj [2] [] ?_;rw[fw];exact⟨rfl,rfl⟩):p:=h
theorem z99(h:p:=by refine⟨((((i+j)/2)+1),j),_,cG,aI,w4,w4,w4,(.inr ⟨by omega,by omega,by exact vF⟩),eR,rfl⟩):p:=h
theorem X7(h:p:=by
  unfold mZ;rw[mk_data,getD_eq_getElem?_getD,getElem?_eq_getElem w4];exact getElem_mem _):p:=h
theorem X8(h:p:=by
  rw[qF] at qf;rcases mem_cons.1 qf with rfl|qf
  ·exact .inl (u3 _ _)
  exact m.Wf x qf):p:=h
theorem X9(h:p:=by
  have fw:dR l=1:=if_pos w4;refine aA [2] ?_;refine fi ?_;rw[fw];exact⟨rfl,rfl⟩):p:=h
theorem Ya(h:p:=by
  refine eu [⟨br,40,1,[an 3 cV row]⟩,⟨bc,39,1,[an 2 cC l]⟩] ?_;rw[aY];exact⟨rfl,rfl⟩
  ):p:=h
theorem Yb(h:p:=by refine⟨(i,((i+j)/2)),_,cG,aI,w4,w4,w4,cl,(.inr ⟨by omega,by omega,Bu⟩),rfl⟩):p:=h
theorem z105(h:p:=by
  refine en ?_;have aku:l1=l:=afp M9 w4;rw[aku];refine⟨_,aI,rfl⟩):p:=h
theorem Na(h:p:=by
  refine dV 2 ?_;refine my (f:=103) (args:=[_,_]) (all:=[_,_]) (Sf:=[]) av rfl rfl ot call103 (AK a 2) rfl ⟨ot,cf,trivial⟩ (fx _) ?_;rintro _ _ ⟨rfl,rfl⟩;refine aG 1 ?_;refine bU 68 (fun al9 akv=>?_) (fun al9 akv=>?_)
  ·refine aG 2 ?_;refine my (f:=103) (args:=[_,_]) (all:=[_,_]) (Sf:=[]) iR rfl rfl ot call103 (AK b 2) rfl ⟨ot,cf,trivial⟩ (fx _) ?_;rintro _ _ ⟨rfl,rfl⟩;exact Ih
  refine aq 76 [11,12] ?_;refine aA [12,74] ?_;refine e9 ?_;exact Bq):p:=h
theorem z107(h:p:=by
  refine cQ ?_;refine uL 11 10 [5,7,31] ?_;refine cL (l7 G n 40 gM iS w8) ?_;refine cL (SZ ⟨n,cH n 40-20,s⟩ gl) ?_;refine nV ?_;refine jR ?_;refine⟨rfl,fun b7=>?_⟩;refine aR 0 [_,_,_] sizeOf56 ?_;refine aq 69 [5,7] ?_;refine az 2 ?_;refine eB call25 (GA (px ⟨n,cH n 40-20,s⟩).s 4 w4) ?_;refine aG 1 ?_;refine aR 0 [_,_,_] sizeOf9 ?_;refine aq 69 [5,7] ?_;refine az 3 ?_;refine eH (cx 0 [_]) [.int .i64 0,.int .i64 0,.int .i64 0,.string ⟨#[]⟩,.string ⟨#[]⟩] [_,_,_,_,_] zeroValue58 runUnderlying42 sizeOf58 (fun DV=>?_);exact z21):p:=h
theorem Yc(h:p:=by
  refine dV 2 ?_;refine my (f:=103) (args:=[_,_]) (all:=[_,_]) (Sf:=[]) av rfl rfl ot call103 (AK a 1) rfl ⟨ot,cf,trivial⟩ (fx _) ?_;rintro _ _ ⟨rfl,rfl⟩;refine aG 1 ?_;refine bU 40 (fun Nb Mr=>?_) (fun Nb Mr=>?_)
  ·refine aG 2 ?_;refine my (f:=103) (args:=[_,_]) (all:=[_,_]) (Sf:=[]) iR rfl rfl ot call103 (AK b 1) rfl ⟨ot,cf,trivial⟩ (fx _) ?_;rintro _ _ ⟨rfl,rfl⟩;exact Ih
  refine aq 76 [11,12] ?_;refine aA [12,74] ?_;refine e9 ?_;exact Bq):p:=h
theorem z109(h:p:=by
  refine bH (i:=10) aB ?_;refine qR call70 (mW (t.af[i]'aa).high w4) ?_;refine dr 13 rfl (pQ (pl:=[(0,_),(1,_),(2,_),(3,_),(4,_)]) (ds:=[_,_,_,_,_]) rfl zeroValue129 runUnderlying129 Qu ⟨rfl,ot,rfl,ot,rfl,ot,rfl,ot,rfl,ot,trivial⟩ rfl rfl) ?_;refine bH (i:=14) aB ?_;refine oE (cx 0 [_]) [.bool false,.slice none 0 0,.slice none 0 0,.slice none 0 0,.int .i64 0] [_,_,_,_,_] zeroValue129 runUnderlying64 sizeOf129 (fun Bv=>?_);refine oF 0 46 5 1 ?_;exact z5):p:=h
theorem Nc(h:p:=by
  refine fD ?_;refine bA [3] ?_;refine ax [52] ?_ ?_<;>intro gk iC
  ·exact z12
  exact z12):p:=h
theorem Hy(h:p:=by
  refine aA [4,5,6] ?_;refine kS (Wk.vj (t:=4) (sz:=1) lk) ?_;refine kS (Wk.vj (t:=5) (sz:=1) lk) ?_;exact pH):p:=h
theorem Yd(h:p:=by
  refine dV 3 ?_;refine my (f:=103) (args:=[_,_]) (all:=[_,_]) (Sf:=[]) av rfl rfl ot call103 (AK a b) rfl ⟨ot,ot,trivial⟩ (fx _) ?_;rintro _ _ ⟨rfl,rfl⟩;refine aG 1 ?_;refine bU 57 (fun vA CO=>?_) (fun vA CO=>?_)
  ·refine aq 76 [11,12] ?_;refine aA [12,74] ?_;refine gB ?_;exact Bq
  exact Ih):p:=h
theorem Ye(h:p:=by
  refine nr 7 rfl ?_;refine nr 8 rfl ?_;refine nr 9 rfl ?_;refine dW.later rfl ?_;refine bH (i:=10) aB ?_;refine ql rfl (nC rfl rfl rfl lk jQ) rfl ?_;refine dr 11 rfl wQ ?_;refine dr 12 rfl bJ ?_;exact z6):p:=h
theorem Hz(h:p:=by
  skip;refine bA [1,2,39] ?_;refine e9 ?_;refine aA [4] ?_;refine fi ?_;exact z7):p:=h
theorem Yf(h:p:=by
  have cr:(c9 (lu key) (bz.take 2))<0\/(c9 gv (bz.take 2))<0:=(by first|omega|(simp_all;omega)|simp_all)
  have nM:mb key bz nt (lo,hi)=(lo,hi):=(by unfold mb;rw[sE wS,if_neg uq,if_pos cr])
  rw[nM] at aY;exact ZR):p:=h
theorem z116(h:p:=by
  refine aA [2] ?_;refine fi ?_;exact ZQ):p:=h
theorem z117(h:p:=by
  refine aG 4 ?_;refine eB call168 (Ce _) ?_;exact z8):p:=h
theorem Yg(h:p:=by
  refine bX ?_;refine dF (ds:=[_,_,_]) av rfl rfl zeroValue153 rfl (fun b2=>?_);refine aq 5 [0,2] ?_;refine az 2 ?_;refine aR 0 [_,_,_] sizeOf153 ?_;refine aq 5 [2] ?_;exact oD):p:=h
theorem z119(h:p:=by
  refine ax [52] ?_ ?_<;>intro gk iC
  ·refine dj [2] [] ?_;exact Ov
  refine dj [2] [] ?_;exact Ov):p:=h
theorem Yh(h:p:=by
  refine bn func53 rfl ntmps53 aP fun X0 w0 bj=>?_;refine aA [0,1] ?_;refine az 2 ?_;refine bQ (abL rfl ot ot func99 aB aB aB aB) ?_;refine aq 8 [4] ?_;exact oD):p:=h
theorem A7(h:p:=by
  refine aA [2] ?_;refine fi ?_;exact Ow):p:=h
theorem Yi(h:p:=by
  have hf:ou (l.take i) l[i]=2:=(by unfold ou;rw[if_neg ir,if_pos w4])
  have aY:ga l=2:=(by rw[hinv,Ki aa (by rw[hf];decide),hf])
  exact zb):p:=h
theorem C9(h:p:=by
  refine dj [2] [] ?_;exact ZQ):p:=h
theorem z124(h:p:=by
  refine bZ (ew (A:=[])) ?_;refine aq 8 [2] ?_;refine oL (t:=2) (Sq:=S7) lk qQ (cz qv _) (dK (A:=[])) ?_;exact oD):p:=h
theorem Yj(h:p:=by
  skip;refine bA [1,14] ?_;refine cj ?_ ?_<;>intro cr cU
  ·refine aA [2] ?_;exact DP
  exact ZH):p:=h
theorem yH(h:p:=by
  refine aA [4,5] ?_;exact Il):p:=h
theorem z127(h:p:=by
  have hd1:decide (K1>1)=true\/(K2 != 0)=true:=(by first|exact .inl (decide_eq_true uh)|exact .inr hb)
  exact Io):p:=h
theorem Yk(h:p:=by
  skip;refine aG 5 ?_;refine bU 17 (fun yI yl=>?_) (fun yI yl=>?_)
  ·exact Im
  exact Im):p:=h
theorem Yl(h:p:=by
  skip;refine bA [1,2,71] ?_;refine e9 ?_;refine aA [4] ?_;refine fi ?_;exact z7):p:=h
theorem z130(h:p:=by
  refine bH (i:=15) aB ?_;refine BW rfl iR rfl rfl rfl call136 (UE t.s 137 ym call137 S4 hs) ⟨ot,u4,trivial⟩ ?_;refine dr 19 rfl qS ?_;refine dr 20 rfl yJ ?_;exact Nc):p:=h
end
namespace V
open List
open Go.RowKit
section
variable {L X:Nat->Prop} {w':World} {b i k n off o' cap sz j m h' tt bytes:Nat} {I:Array Field} {v u:Value} {e t:TypeId} {y fo:Operand} {a:Act} {cur:Array Value} {lo hi:Option Operand} {ts:Array TypeId} {ad:Option Addr} {ps:Array (Nat×Operand)} {dh:Array Operand}
inductive D where
 | v (x:Value)
 | list (sz:Nat) (cs:List D) (len:Nat)
 | fT (cs:List D) (off:Nat)
 | agg (cs:List D)
 | dB (cs:List D)
 | eK (f:Fn) (cs:List D)
 | lf (l:Nat) (os:List (Nat×Obj))
 | bF
 deriving Inhabited
variable {ds cs':List D} {l:List (Nat×D)}
inductive cq (w:World) (L:Nat->Prop):D->Value->Prop
 | v (x:Value):cq w L (.v x) x
 | ni (sz:Nat) (ad:Option Addr) (cap:Nat):cq w L (.list sz [] 0) (.slice ad 0 cap)
 | list (sz:Nat) (cs:List D) (len b o cap:Nat) (f:Nat->Value) (hl:cs.length=len*sz) (h1:len<=cap) (h2:cap<=maxLen) (hb:b<w.heap.size) (hL:¬L b)
   (hc:∀i,i<cs.length->w.cell? ⟨b,o+i,none⟩=some (f i)) (hr:∀i (h:i<cs.length),cq w L cs[i] (f i)):cq w L (.list sz cs len) (.slice (some ⟨b,o,none⟩) len cap)
 | fT (cs:List D) (off b o:Nat) (f:Nat->Value) (hb:b<w.heap.size) (hL:¬L b)
   (hc:∀i,i<cs.length->w.cell? ⟨b,o+i,none⟩=some (f i)) (hr:∀i (h:i<cs.length),cq w L cs[i] (f i)):cq w L (.fT cs off) (.pointer (some ⟨b,o+off,none⟩))
 | agg (cs:List D) (vs:List Value) (hl:vs.length=cs.length) (hr:∀i (h:i<cs.length) (h':i<vs.length),cq w L cs[i] vs[i]):cq w L (.agg cs) (.agg vs.toArray)
 | dB (cs:List D) (vs:List Value) (hl:vs.length=cs.length) (hr:∀i (h:i<cs.length) (h':i<vs.length),cq w L cs[i] vs[i]):cq w L (.dB cs) (.tuple vs.toArray)
 | eK (fn:Fn) (cs:List D) (vs:List Value) (hl:vs.length=cs.length) (hr:∀i (h:i<cs.length) (h':i<vs.length),cq w L cs[i] vs[i]):cq w L (.eK fn cs) (.func fn #[] vs.toArray)
 | lf (l:Nat) (os:List (Nat×Obj)) (h:∀z∈os,z.1<w.heap.size/\¬L z.1/\w.heap[z.1]?=some z.2):cq w L (.lf l os) (.func (.yield l) #[] #[])
 | bF (x:Value):cq w L .bF x
theorem cq.nil{w:World}(sz:Nat):cq w L (.list sz [] 0) (.slice none 0 0):=.ni sz none 0
theorem su{w:World}(hb:b<w.heap.size)(h:w'.heap[b]?=w.heap[b]?):b<w'.heap.size:=by
 rcases Nat.lt_or_ge b w'.heap.size with h'|h'
 ·exact h'
 rw[Array.getElem?_eq_none h',Array.getElem?_eq_getElem hb] at h;cases h
theorem cq.mono{w:World}{I:Nat->Prop}{d:D}(h:cq w L d v)(H:∀b,b<w.heap.size->¬L b->w'.heap[b]?=w.heap[b]?/\¬I b):cq w' I d v:=by
 induction h with
 | v x=>exact .v x
 | ni sz ad cap=>exact .ni sz ad cap
 | list sz cs len b o cap f hl h1 h2 hb hL hc hr ih =>
  have E:=H b hb hL;exact .list sz cs len b o cap f hl h1 h2 (su hb E.1) E.2 (fun i hi=>(World.cell?_of_block (w:=w) (a:=⟨b,o+i,none⟩) E.1).trans (hc i hi)) ih
 | fT cs off b o f hb hL hc hr ih =>
  have E:=H b hb hL;exact .fT cs off b o f (su hb E.1) E.2 (fun i hi=>(World.cell?_of_block (w:=w) (a:=⟨b,o+i,none⟩) E.1).trans (hc i hi)) ih
 | agg cs vs hl hr ih=>exact .agg cs vs hl ih
 | dB cs vs hl hr ih=>exact .dB cs vs hl ih
 | eK fn cs vs hl hr ih=>exact .eK fn cs vs hl ih
 | lf l os h =>
  refine .lf l os fun z hz=>?_;obtain⟨h1,h2,h3⟩:=h z hz;have E:=H z.1 h1 h2;exact⟨su h1 E.1,E.2,E.1.trans h3⟩
 | bF x=>exact .bF x
structure ag where
 b:Nat
 e:TypeId
 size:Nat
 cs:List D
 deriving Inhabited
variable {S S' Sf R:List ag} {B:ag} {post:D->List ag->Prop}
def Au:TypeId:=1000003
def UF:TypeId:=1000004
def isMap(e:TypeId):Bool:=Nat.beq e Au||Nat.beq e UF
def CP(cur:Array Value):Obj:=.map (cur.mapIdx fun i k=>⟨k,.agg #[],i⟩) cur.size
def Wg:Value->Nat
 | .int _ n=>n.toNat
 | _=>0
def Ym:List Value->List MapEntry
 | k::v::b::r=>⟨k,v,Wg b⟩::Ym r
 | _=>[]
def aiY(cur:Array Value):Obj:=match cur.toList with
 | c::r=>.map (Ym r).toArray (Wg c)
 | []=>.map #[] 0
def ob(e:TypeId)(cur:Array Value):Obj:=bif isMap e then (bif Nat.beq e UF then aiY cur else CP cur) else .cells cur e (0,0)
theorem lp(he:isMap e=false)(cur:Array Value):ob e cur = .cells cur e (0,0):=by rw[ob,he];rfl
theorem Wh(cur:Array Value):ob Au cur=CP cur:=rfl
def Ms(w:World)(L:Nat->Prop)(B:ag):Prop :=
 B.b<w.heap.size/\∃cur:Array Value,w.heap[B.b]?=some (ob B.e cur)/\cur.size=B.size/\B.cs.length<=B.size/\∀i (h:i<B.cs.length),∃u,cur[i]?=some u/\cq w L B.cs[i] u
def sF:Value->Bool
 | .tuple _=>false
 | _=>true
def pi(w:World)(b i:Nat):Value->Prop
 | .tuple vs=>∃t fz,w.heap[b]?=some (.cells vs t fz)
 | v=>w.cell? ⟨b,i,none⟩=some v
theorem pi.cell{w:World}(h:pi w b i v)(hv:sF v=true):w.cell? ⟨b,i,none⟩=some v:=by
 cases v<;>first|exact h|cases hv
theorem pi.of{w:World}(h:w.cell? ⟨b,i,none⟩=some v)(hv:sF v=true):pi w b i v:=by
 cases v<;>first|exact h|cases hv
theorem pi.on{w:World}(hb:w'.heap[b]?=w.heap[b]?)(h:pi w b i v):pi w' b i v:=by
 by_cases hv:sF v=true
 ·exact .of ((World.cell?_of_block (w:=w) (a:=⟨b,i,none⟩) hb).trans (h.cell hv)) hv
 cases v<;>first|exact absurd rfl hv|(obtain⟨t,fz,h⟩:=h;exact⟨t,fz,hb.trans h⟩)
theorem pi.lt{w:World}(h:pi w b i v):b<w.heap.size:=by
 by_cases hv:sF v=true
 ·exact World.block_lt_of_cell? w _ (h.cell hv)
 cases v<;>first|exact absurd rfl hv|(obtain⟨t,fz,h⟩:=h;exact(Array.getElem?_eq_some_iff.1 h).1)
theorem S5{vs:List Value}(h:vs.all sF=true)(hi:vs[i]?=some v):sF v=true:=all_eq_true.1 h v (mem_of_getElem? hi)
structure dJ where
 X:Nat->Prop
 w0:World
 S0:List Nat
 G:List (Nat×List Value)
 df:List Deferred
 DW:Act->World->Prop
variable {C:dJ}
structure St where
 n:Nat
 env:List (Nat×D)
 S:List ag
def look(t:Nat):List (Nat×D)->D
 | []=>.bF
 | (i,d)::r=>bif Nat.beq i t then d else look t r
theorem eD(t i:Nat)(d:D)(l:List (Nat×D)):look t ((i,d)::l)=if i=t then d else look t l:=by
 rw[look];by_cases e:i=t
 ·subst e;simp
 have:Nat.beq i t=false:=by
  cases h:Nat.beq i t with
  | false=>rfl
  | true=>exact absurd (Nat.eq_of_beq_eq_true h) e
 rw[this,if_neg e];rfl
def aj(S:List ag):List Nat:=S.map (·.b)
def live(X:Nat->Prop)(S:List ag)(b:Nat):Prop:=X b\/b∈aj S
structure Fr (w:World) (S:List Nat) (w':World) (S':List Nat):Prop where
 os:w'.os=w.os
 tape:w'.tape=w.tape
 output:w'.output=w.output
 size:w.heap.size<=w'.heap.size
 block:∀b,b<w.heap.size->b∉S->w'.heap[b]?=w.heap[b]?/\b∉S'
theorem Fr.refl(w:World)(S:List Nat):Fr w S w S:=⟨rfl,rfl,rfl,Nat.le_refl _,fun _ _ h=>⟨rfl,h⟩⟩
theorem Fr.trans{E I O:World}{S1 S2 S3:List Nat}(h:Fr E S1 I S2)(k:Fr I S2 O S3):Fr E S1 O S3 :=
 ⟨k.os.trans h.os,k.tape.trans h.tape,k.output.trans h.output,Nat.le_trans h.size k.size,fun b hb hn =>
  have h1:=h.block b hb hn;have h2:=k.block b (Nat.lt_of_lt_of_le hb h.size) h1.2
  ⟨h2.1.trans h1.1,h2.2⟩⟩
structure Own (w:World) (L:Nat->Prop) (S:List ag):Prop where
 at_:∀B∈S,Ms w L B
 apart:(aj S).Nodup
structure bB (C:dJ) (x:St) (a:Act) (w:World):Prop where
 defers:a.defers=C.df
 size:a.tmps.size=x.n
 env:∀t,t<x.n->cq w (live C.X x.S) (look t x.env) (a.tmps.getD t undef)
 own:Own w (live C.X x.S) x.S
 fr:Fr C.w0 C.S0 w (aj x.S)
 ex:∀b,C.X b->b<C.w0.heap.size/\b∉C.S0
 eI:∀g∈C.G,(g.1<C.w0.heap.size/\g.1∉C.S0/\¬C.X g.1)/\∀i v,g.2[i]?=some v->pi C.w0 g.1 i v
def St.put(x:St)(t:Nat)(d:D):St:=⟨x.n,(t,d)::x.env,x.S⟩
theorem bB.put{C:dJ}{x:St}{a:Act}{w:World}(h:bB C x a w){t:Nat}{d:D}{v:Value}(hd:cq w (live C.X x.S) d v):bB C (x.put t d) (a.put (some t) v) w:=by
 refine⟨h.defers,by simp[Act.put,St.put,h.size],fun i hi=>?_,h.own,h.fr,h.ex,h.eI⟩;have hs:=h.size;simp only[St.put,eD,Act.put] at hi |-;by_cases e:t=i
 ·subst e;rw[if_pos rfl];have:(a.tmps.setIfInBounds t v).getD t undef=v:=by
   simp[Array.getElem?_setIfInBounds,hs,hi]
  rw[this];exact hd
 rw[if_neg e];have:(a.tmps.setIfInBounds t v).getD i undef=a.tmps.getD i undef:=by
  simp[Array.getElem?_setIfInBounds_ne e]
 rw[this];exact h.env i hi
def Wk(x y:St):Prop:=∀C a w,bB C x a w->bB C y a w
theorem Wk.refl(x:St):Wk x x:=fun _ _ _ h=>h
theorem Wk.trans{x y z:St}(h:Wk x y)(k:Wk y z):Wk x z:=fun C a w s=>k C a w (h C a w s)
theorem Own.sub{w:World}(h:Own w (live X S) S)(hs:S'.Sublist S):Own w (live X S') S' :=
 have E:(aj S').Sublist (aj S):=Sublist.map _ hs
 ⟨fun B hB=>by
  obtain⟨h0,cur,h1,h2,h3,h4⟩:=h.at_ B (hs.subset hB);refine⟨h0,cur,h1,h2,h3,fun i hi=>?_⟩;obtain⟨u,hu,hr⟩:=h4 i hi;exact⟨u,hu,hr.mono fun b _ hn=>⟨rfl,fun hl=>hn (hl.imp id fun q=>E.subset q)⟩⟩,h.apart.sublist E⟩
theorem Wk.drop(n:Nat)(l:List (Nat×D))(S S':List ag)(hs:S'.Sublist S):Wk ⟨n,l,S⟩ ⟨n,l,S'⟩:=fun C a w h =>
 have E:(aj S').Sublist (aj S):=Sublist.map _ hs
 ⟨h.defers,h.size,fun t ht=>(h.env t ht).mono fun b _ hn=>⟨rfl,fun hl=>hn (hl.imp id fun q=>E.subset q)⟩,h.own.sub hs,
  ⟨h.fr.os,h.fr.tape,h.fr.output,h.fr.size,fun b hb hn=>⟨(h.fr.block b hb hn).1,fun q=>(h.fr.block b hb hn).2 (E.subset q)⟩⟩,h.ex,h.eI⟩
theorem cq.lQ{w:World}{x y:Value}(h:cq w L (.v x) y):y=x:=by cases h;rfl
def aD(x:St):Operand->D
 | .tmp t=>bif Nat.blt t x.n then look t x.env else .bF
 | .const v=>.v v
 | .global g=>.v (.pointer (some ⟨g,0,none⟩))
 | .func f=>.eK (.func f) []
theorem bB.eval{C:dJ}{x:St}{a:Act}{w:World}(h:bB C x a w)(o:Operand):cq w (live C.X x.S) (aD x o) (a.eval o):=by
 cases o with
 | tmp t =>
  simp only[aD,Act.eval];cases ht:Nat.blt t x.n with
  | true=>exact h.env t (Nat.le_of_ble_eq_true ht)
  | false=>exact .bF _
 | const v=>exact .v _
 | global g=>exact .v _
 | func f=>exact .eK (.func f) [] [] rfl (fun i h=>by simp at h)
theorem bB.flat{x:St}{w:World}(h:bB C x a w){o:Operand}(ho:aD x o = .v u):a.eval o=u:=by
 have:=h.eval o;rw[ho] at this;exact this.lQ
theorem bB.fP{x:St}{w:World}(h:bB C x a w)(hk:x.S[k]?=some B):Ms w (live C.X x.S) B:=h.own.at_ B (mem_of_getElem? hk)
theorem S6(hk:S[k]?=some B):live X S B.b:=.inr (mem_map.2 ⟨B,mem_of_getElem? hk,rfl⟩)
theorem bB.aW{x:St}{w:World}(h:bB C x a w){g:Nat×List Value}(hg:g∈C.G)(hi:g.2[i]?=some v):pi w g.1 i v:=by
 obtain⟨⟨h1,h2,h3⟩,h4⟩:=h.eI g hg;exact(h4 i v hi).on (h.fr.block g.1 h1 h2).1
inductive Rd where
 | none
 | fP (k:Nat)
 | kL
def Same(C:dJ)(x:St)(w w':World):Rd->Prop
 | .none=>True
 | .fP k=>∀B,x.S[k]?=some B->w'.heap[B.b]?=w.heap[B.b]?
 | .kL=>∀b,b<w.heap.size->¬live C.X x.S b->w'.heap[b]?=w.heap[b]?
theorem Same.self(C:dJ)(x:St)(w:World):∀k,Same C x w w k
 | .none=>trivial
 | .fP _=>fun _ _=>rfl
 | .kL=>fun _ _ _=>rfl
def bS(P:Program)(G:List (Nat×List Value))(x:St)(o:Oper)(k:Rd)(d:D):Prop :=
 ∀C a w,C.G=G->bB C x a w->∃v,cq w (live C.X x.S) d v/\∀w',Same C x w w' k->(execOp a.eval o).run P w' = .ok (.value v) w'
variable {P:Program} {G:List (Nat×List Value)} {x:St} {o:Oper}
theorem acL(ho:o.op = .move y):bS P G x o .none (aD x y):=fun C a w _ h =>
 ⟨a.eval y,h.eval y,fun w' _=>by unfold execOp;simp[ho]⟩
theorem abW(ho:o.op = .assign y):bS P G x o .none (aD x y):=fun C a w _ h =>
 ⟨a.eval y,h.eval y,fun w' _=>by unfold execOp;simp[ho]⟩
theorem QW{c z:Operand}{t:Bool}(ho:o.op = .pick c y z)(hc:aD x c = .v (.bool t)):bS P G x o .none (if t then aD x y else aD x z):=fun C a w _ h=>by
 refine⟨if t then a.eval y else a.eval z,by cases t<;>simp[h.eval],fun w' _=>?_⟩;unfold execOp;simp only[ho,h.flat hc,asBool];cases t<;>simp
def lO(P:Program)(op:BinOp)(t:TypeId)(u u' r:Value):Prop:=∀(y z:Operand) w,(do eqGuard op t y z u u';Go.binOp op t u u':Sem Value).run P w = .ok r w
theorem dX{op:BinOp}{t':TypeId}{z:Operand}{u' r:Value}(ho:o.op = .binOp op t y z t')(hy:aD x y = .v u)(hz:aD x z = .v u')(hb:lO P op t u u' r):bS P G x o .none (.v r):=fun C a w _ h =>
 ⟨r,.v _,fun w' _=>by
  unfold execOp;have:=hb y z w';simp only[Sem.run_bind] at this;simp only[ho,h.flat hy,h.flat hz,Sem.run_bind,this,Result.andThen_ok,Sem.run_pure]⟩
theorem FM{op:UnOp}{r:Value}(ho:o.op = .unOp op t y)(hy:aD x y = .v u)(hb:∀w,(Op.unary op u).run P w = .ok r w):bS P G x o .none (.v r):=fun C a w _ h =>
 ⟨r,.v _,fun w' _=>by
  unfold execOp;simp only[ho,h.flat hy,Sem.run_bind,hb w',Result.andThen_ok,Sem.run_pure]⟩
theorem tO{s:TypeId}{r:Value}(ho:o.op = .convert s t y)(hy:aD x y = .v u)(hb:∀w,(Go.convert s t u).run P w = .ok r w):bS P G x o .none (.v r):=fun C a w _ h =>
 ⟨r,.v _,fun w' _=>by
  unfold execOp;simp only[ho,h.flat hy,Sem.run_bind,hb w',Result.andThen_ok,Sem.run_pure]⟩
theorem Qv{s:TypeId}{f:Field}{w:World}(O:∀w,(underlying s).run P w = .ok (.struct I) w)(hf:I[i]?=some f)(hn:∀w,(sizeOf f.type).run P w = .ok (n+1) w)(E:f.offset=off) :
  (Instr.fieldAt s (.pointer (some ⟨b,o',none⟩)) i).run P w = .ok (.pointer (some ⟨b,o'+off,none⟩)) w:=by
 subst E;simp[Instr.fieldAt,O,hf,Instr.sureAddr,fieldPlace,hn,Addr.add_mid]
theorem acg {s:TypeId} {f:Field} (ho:o.op = .fieldAddr s y i) (hy:aD x y = .v (.pointer (some ⟨b,o',none⟩)))
  (O:∀w,(underlying s).run P w = .ok (.struct I) w) (hf:I[i]?=some f) (hn:∀w,(sizeOf f.type).run P w = .ok (n+1) w) (E:f.offset=off):bS P G x o .none (.v (.pointer (some ⟨b,o'+off,none⟩))):=fun C a w _ h =>
 ⟨_,.v _,fun w' _=>by
  unfold execOp;simp only[ho,h.flat hy,Sem.run_bind,Qv O hf hn E,Result.andThen_ok,Sem.run_pure]⟩
theorem abX {s:TypeId} {cs:List D} {f:Field} {O:Array Field} (ho:o.op = .fieldAddr s y i) (hy:aD x y = .fT cs o')
  (U:∀w,(underlying s).run P w = .ok (.struct O) w) (hf:O[i]?=some f) (hn:∀w,(sizeOf f.type).run P w = .ok (n+1) w) (E:f.offset=off):bS P G x o .none (.fT cs (o'+off)):=fun C a w _ h=>by
 have hr:=h.eval y;rw[hy] at hr;generalize hg:a.eval y=u at hr;cases hr with
 | fT _ _ b I g hb hL hc hr =>
  refine⟨_,.fT cs (o'+off) b I g hb hL hc hr,fun w' _=>?_⟩;unfold execOp;simp only[ho,hg,Sem.run_bind,Qv U hf hn E,Result.andThen_ok,Sem.run_pure,Nat.add_assoc]
theorem abM{cs:List D}{d:D}(ho:o.op = .extract y i)(hy:aD x y = .dB cs)(hd:cs[i]?=some d):bS P G x o .none d:=fun C a w _ h=>by
 have hr:=h.eval y;rw[hy] at hr;generalize hg:a.eval y=u at hr;cases hr with
 | dB _ vs hl hr =>
  obtain⟨aa,he⟩:=List.getElem?_eq_some_iff.1 hd;refine⟨vs[i]'w4,?_,fun w' _=>?_⟩
  ·rw[<-he];exact hr _ aa w4
  unfold execOp;simp[ho,hg,Instr.extract,getElem?_eq_getElem (show i<vs.length by omega)]
theorem JI{w:World}(ha:∀w,(isAgg t).run P w = .ok false w)(hc:w.cell? ⟨b,o',none⟩=some v) :
  (Instr.loadAt t (.pointer (some ⟨b,o',none⟩))).run P w = .ok v w:=by
 simp[Instr.loadAt,Instr.sureAddr,loadVar,ha,hc]
theorem JJ {vs:List Value} {w:World} (ha:∀w,(isAgg t).run P w = .ok true w) (hn:∀w,(sizeOf t).run P w = .ok n w) (hl:vs.length=n)
  (hc:∀j (h:j<vs.length),w.cell? ⟨b,o'+j,none⟩=some vs[j]) :
  (Instr.loadAt t (.pointer (some ⟨b,o',none⟩))).run P w = .ok (.agg vs.toArray) w:=by
 have:=run_loadCells_list (P:=P) w ⟨b,o',none⟩ vs (fun j v hv=>by
  obtain⟨h1,h2⟩:=List.getElem?_eq_some_iff.1 hv;rw[Addr.add_mid,hc j h1,h2])
 rw[hl] at this;simp[Instr.loadAt,Instr.sureAddr,loadVar,ha,hn,this]
theorem pc{w:World}(E:w.heap[b]?=some (.cells cur e (0,0)))(I:cur[i]?=some u):w.cell? ⟨b,i,none⟩=some u:=by
 unfold World.cell?;simp[E,I]
theorem Ff {d:D} (ho:o.op = .load t y) (hy:aD x y = .v (.pointer (some ⟨b,o',none⟩)))
  (hk:x.S[k]?=some B) (hb:B.b=b) (ha:∀w,(isAgg t).run P w = .ok false w) (hd:B.cs[o']?=some d) (hne:isMap B.e=false:=by rfl):bS P G x o (.fP k) d:=fun C a w _ h=>by
 obtain⟨_,cur,h1,h2,h3,h4⟩:=h.fP hk;rw[lp hne] at h1;obtain⟨aa,he⟩:=List.getElem?_eq_some_iff.1 hd;obtain⟨u,hu,hr⟩:=h4 o' aa;refine⟨u,by rw[<-he];exact hr,fun w' hw=>?_⟩;have E:w'.heap[B.b]?=_:=(hw B hk).trans h1;unfold execOp;subst hb;simp only[ho,h.flat hy,Sem.run_bind,JI ha (pc E hu),Result.andThen_ok,Sem.run_pure]
theorem BX (ho:o.op = .load t y) (hy:aD x y = .v (.pointer (some ⟨b,o',none⟩)))
  (hk:x.S[k]?=some B) (hb:B.b=b) (ha:∀w,(isAgg t).run P w = .ok true w) (hn:∀w,(sizeOf t).run P w = .ok n w) (hl:ds.length=n) (hd:(B.cs.drop o').take n=ds) (hne:isMap B.e=false:=by rfl):bS P G x o (.fP k) (.agg ds):=fun C a w _ h=>by
 obtain⟨_,cur,h1,h2,h3,h4⟩:=h.fP hk;rw[lp hne] at h1;have hlen:o'+n<=B.cs.length\/n=0:=by
  have:=congrArg length hd;simp only[length_take,length_drop] at this;omega
 have E:∀j,j<n->∃u,cur[o'+j]?=some u/\∀(h:j<ds.length),cq w (live C.X x.S) ds[j] u:=fun j hj=>by
  obtain⟨u,hu,hr⟩:=h4 (o'+j) w4;refine⟨u,hu,fun h=>?_⟩;subst hd;simpa using hr
 refine⟨.agg ((range n).map fun j=>cur.getD (o'+j) undef).toArray,.agg _ _ (by simp[hl]) (fun i q1 q2=>?_),fun w' hw=>?_⟩
 ·obtain⟨u,hu,hr⟩:=E i w4;simp only[getElem_map,getElem_range,Array.getD_eq_getD_getElem?,hu,Option.getD_some];exact hr q1
 have I:w'.heap[B.b]?=_:=(hw B hk).trans h1;unfold execOp;subst hb;have:=JJ (P:=P) (w:=w') (b:=B.b) (o':=o') (vs:=(range n).map fun j=>cur.getD (o'+j) undef) ha hn bp (fun j hj=>by
  simp only[length_map,length_range] at hj;obtain⟨u,hu,_⟩:=E j hj;simp only[getElem_map,getElem_range,Array.getD_eq_getD_getElem?,hu,Option.getD_some];exact pc I hu)
 simp only[ho,h.flat hy,Sem.run_bind,this,Result.andThen_ok,Sem.run_pure]
theorem Fe {cs:List D} {d:D} (ho:o.op = .load t y) (hy:aD x y = .fT cs o')
  (ha:∀w,(isAgg t).run P w = .ok false w) (hd:cs[o']?=some d):bS P G x o .kL d:=fun C a w _ h=>by
 have hr:=h.eval y;rw[hy] at hr;generalize hg:a.eval y=u at hr;cases hr with
 | fT _ _ b E g hb hL hc hr =>
  obtain⟨aa,he⟩:=List.getElem?_eq_some_iff.1 hd;refine⟨g o',by rw[<-he];exact hr o' aa,fun w' hw=>?_⟩;have I:=World.cell?_of_block (w:=w) (a:=⟨b,E+o',none⟩) (hw b hb hL);unfold execOp;simp only[ho,hg,Sem.run_bind,JI ha (I.trans (hc o' aa)),Result.andThen_ok,Sem.run_pure]
theorem Jh {cs:List D} (ho:o.op = .load t y) (hy:aD x y = .fT cs o')
  (ha:∀w,(isAgg t).run P w = .ok true w) (hn:∀w,(sizeOf t).run P w = .ok n w) (hl:ds.length=n) (hd:(cs.drop o').take n=ds):bS P G x o .kL (.agg ds):=fun C a w _ h=>by
 have hr:=h.eval y;rw[hy] at hr;generalize hg:a.eval y=u at hr;cases hr with
 | fT _ _ b E g hb hL hc hr =>
  have hlen:o'+n<=cs.length\/n=0:=by
   have:=congrArg length hd;simp only[length_take,length_drop] at this;omega
  refine⟨.agg ((range n).map fun j=>g (o'+j)).toArray,.agg _ _ (by simp[hl]) (fun i q1 q2=>?_),fun w' hw=>?_⟩
  ·simp only[getElem_map,getElem_range];have:=hr (o'+i) w4;subst hd;simpa using this
  have:=JJ (P:=P) (w:=w') (b:=b) (o':=E+o') (vs:=(range n).map fun j=>g (o'+j)) ha hn bp (fun j hj=>by
   simp only[length_map,length_range] at hj;simp only[getElem_map,getElem_range];have I:=World.cell?_of_block (w:=w) (a:=⟨b,E+o'+j,none⟩) (hw b hb hL);rw[I,Nat.add_assoc];exact hc _ w4)
  unfold execOp;simp only[ho,hg,Sem.run_bind,this,Result.andThen_ok,Sem.run_pure]
theorem ach {vs:List Value} (ho:o.op = .load t y) (hy:aD x y = .v (.pointer (some ⟨b,o',none⟩)))
  (hg:(b,vs)∈G) (ha:∀w,(isAgg t).run P w = .ok false w) (hd:vs[o']?=some v) (rU:sF v=true:=by rfl):bS P G x o .kL (.v v):=fun C a w hG h=>by
 subst hG;refine⟨v,.v _,fun w' hw=>?_⟩;have h1:=(h.aW hg hd).cell rU;obtain⟨⟨q1,q2,E⟩,_⟩:=h.eI _ hg;have hb:b<w.heap.size:=Nat.lt_of_lt_of_le q1 h.fr.size;have hn:¬live C.X x.S b:=fun hl=>hl.elim E (h.fr.block b q1 q2).2;have I:=World.cell?_of_block (w:=w) (a:=⟨b,o',none⟩) (hw b hb hn);unfold execOp;simp only[ho,h.flat hy,Sem.run_bind,JI ha (I.trans h1),Result.andThen_ok,Sem.run_pure]
theorem UG{len:Nat}{k:IntKind}{i:Int}{w:World}(E:∀w,(underlying t).run P w = .ok (.slice e) w)(hs:∀w,(sizeOf e).run P w = .ok sz w)(hi:i=j)(hj:j<len) :
  (Instr.indexAt t (.slice (some ⟨b,o',none⟩) len cap) (.int k i)).run P w = .ok (.pointer (some ⟨b,o'+j*sz,none⟩)) w:=by
 subst hi;simp[Instr.indexAt,asIntOf,E,hs,hj,Addr.add_mid]
theorem Rm {len:Nat} {cs:List D} {k:IntKind} {i:Int} {z:Operand} (ho:o.op = .indexAddr t y z) (hy:aD x y = .list sz cs len) (hz:aD x z = .v (.int k i))
  (I:∀w,(underlying t).run P w = .ok (.slice e) w) (hs:∀w,(sizeOf e).run P w = .ok sz w) (hi:i=j) (hj:j<len):bS P G x o .none (.fT cs (j*sz)):=fun C a w _ h=>by
 have hr:=h.eval y;rw[hy] at hr;generalize hg:a.eval y=u at hr;cases hr with
 | ni=>omega
 | list _ _ _ b E cap g hl h1 h2 hb hL hc hr =>
  refine⟨_,.fT cs (j*sz) b E g hb hL hc hr,fun w' _=>?_⟩;unfold execOp;simp only[ho,hg,h.flat hz,Sem.run_bind,UG I hs hi hj,Result.andThen_ok,Sem.run_pure]
theorem QX {len:Nat} {k:IntKind} {i:Int} {z:Operand} (ho:o.op = .indexAddr t y z) (hy:aD x y = .v (.slice (some ⟨b,o',none⟩) len cap)) (hz:aD x z = .v (.int k i))
  (E:∀w,(underlying t).run P w = .ok (.slice e) w) (hs:∀w,(sizeOf e).run P w = .ok sz w) (hi:i=j) (hj:j<len):bS P G x o .none (.v (.pointer (some ⟨b,o'+j*sz,none⟩))):=fun C a w _ h =>
 ⟨_,.v _,fun w' _=>by
  unfold execOp;simp only[ho,h.flat hy,h.flat hz,Sem.run_bind,UG E hs hi hj,Result.andThen_ok,Sem.run_pure]⟩
theorem afq{len:Nat}{k:IntKind}{i:Int}{w:World}(E:∀w,(underlying t).run P w = .ok (.array len e) w)(hs:∀w,(sizeOf e).run P w = .ok sz w)(hi:i=j)(hj:j<len) :
  (Instr.indexAt t (.pointer (some ⟨b,o',none⟩)) (.int k i)).run P w = .ok (.pointer (some ⟨b,o'+j*sz,none⟩)) w:=by
 subst hi;simp[Instr.indexAt,asIntOf,E,hs,hj,Addr.add_mid,Instr.sureAddr]
theorem acM {len:Nat} {k:IntKind} {i:Int} {z:Operand} (ho:o.op = .indexAddr t y z) (hy:aD x y = .v (.pointer (some ⟨b,o',none⟩))) (hz:aD x z = .v (.int k i))
  (E:∀w,(underlying t).run P w = .ok (.array len e) w) (hs:∀w,(sizeOf e).run P w = .ok sz w) (hi:i=j) (hj:j<len):bS P G x o .none (.v (.pointer (some ⟨b,o'+j*sz,none⟩))):=fun C a w _ h =>
 ⟨_,.v _,fun w' _=>by
  unfold execOp;simp only[ho,h.flat hy,h.flat hz,Sem.run_bind,afq E hs hi hj,Result.andThen_ok,Sem.run_pure]⟩
theorem Jt {s:ByteArray} {c:UInt8} {k:IntKind} {i:Int} {z:Operand} (ho:o.op = .index t y z) (hy:aD x y = .v (.string s)) (hz:aD x z = .v (.int k i))
  (E:∀w,(underlying t).run P w = .ok .string w) (hi:i=j) (hj:s[j]?=some c):bS P G x o .none (.v (.int .u8 c.toNat)):=fun C a w _ h =>
 ⟨_,.v _,fun w' _=>by
  subst hi;unfold execOp;simp[ho,h.flat hy,h.flat hz,Instr.index,asIntOf,E,hj]⟩
theorem acN {len:Nat} {cs:List D} {d:D} {k:IntKind} {i:Int} {z:Operand} (ho:o.op = .index t y z) (hy:aD x y = .agg cs) (hz:aD x z = .v (.int k i))
  (E:∀w,(underlying t).run P w = .ok (.array len e) w) (hs:∀w,(sizeOf e).run P w = .ok sz w) (ha:∀w,(isAgg e).run P w = .ok false w) (hi:i=j) (hj:j<len) (hd:cs[j*sz]?=some d):bS P G x o .none d:=fun C a w _ h=>by
 have hr:=h.eval y;rw[hy] at hr;generalize hg:a.eval y=u at hr;subst hi;cases hr with
 | agg _ vs hl hr =>
  obtain⟨aa,he⟩:=List.getElem?_eq_some_iff.1 hd;refine⟨vs[j*sz]'w4,?_,fun w' _=>?_⟩
  ·rw[<-he];exact hr _ aa w4
  unfold execOp;simp[ho,hg,h.flat hz,Instr.index,asIntOf,E,hj,part,ha,hs,getElem?_eq_getElem (show j*sz<vs.length by omega)]
def nG(x:St)(y:Option Operand)(n:Nat)(ama:Nat):Prop :=
 match y with
 | some y=>∃(k:IntKind) (i:Int),aD x y = .v (.int k i)/\i=n
 | none=>n=ama
theorem tP{w:World}(h:bB C x a w){y:Option Operand}{E:Nat}(hb:nG x y n E):(∃k,y.map a.eval=some (.int k n))\/(y.map a.eval=none/\n=E):=by
 cases y with
 | none=>exact .inr ⟨rfl,hb⟩
 | some y =>
  obtain⟨k,i,h1,h2⟩:=hb;exact .inl ⟨k,by rw[Option.map_some,h.flat h1,h2]⟩
theorem Fg{k:IntKind}{code:BoundsCode}{w:World}(h:n<=m):(Instr.sliceBound (.int k n) m code).run P w = .ok n w:=by
 unfold Instr.sliceBound;simp[asIntOf,h]
theorem xO{il:Bool}{len l h:Nat}{lo hi:Option Value}{w:World}(ff:(∃k,lo=some (.int k l))\/(lo=none/\l=0))(eJ:(∃k,hi=some (.int k h))\/(hi=none/\h=len))(h1:l<=h)(h2:h<=cap) :
  (Instr.sliceBounds il len cap lo hi none).run P w = .ok (l,h,cap) w:=by
 unfold Instr.sliceBounds;rcases ff with ⟨k,rfl⟩|⟨rfl,rfl⟩<;>rcases eJ with ⟨k',rfl⟩|⟨rfl,rfl⟩<;>simp[Fg,h1,h2]
theorem Jj {len l:Nat} {cs:List D} (ho:o.op = .slice t y lo hi none) (hy:aD x y = .list sz cs len) (ff:nG x lo l 0) (eJ:nG x hi h' len)
  (U:∀w,(underlying t).run P w = .ok (.slice e) w) (hs:∀w,(sizeOf e).run P w = .ok sz w) (h1:l<=h') (h2:h'<=len):bS P G x o .none (.list sz ((cs.drop (l*sz)).take ((h'-l)*sz)) (h'-l)):=fun C a w _ h=>by
 have hr:=h.eval y;rw[hy] at hr;generalize hg:a.eval y=u at hr;have b1:=tP h ff;have b2:=tP h eJ;cases hr with
 | ni _ ad cap =>
  have e1:l=0:=(by omega)
  have e2:h'=0:=(by omega)
  subst e1 e2;refine⟨.slice (if cap=0 then ad else ad.map (·.add (0*sz))) 0 cap,by simpa using cq.ni sz _ _,fun w' _=>?_⟩;unfold execOp;simp[ho,hg,Instr.sliceAt,Instr.slice,U,xO b1 b2 (Nat.le_refl _) (Nat.zero_le _),hs]
 | list _ _ _ b E cap g hl q1 q2 hb hL hc hr =>
  have hlen:((cs.drop (l*sz)).take ((h'-l)*sz)).length=(h'-l)*sz:=by
   rw[length_take,length_drop,hl,<-Nat.sub_mul];exact Nat.min_eq_left (Nat.mul_le_mul_right _ w4)
  have O:∀i,i<(h'-l)*sz->l*sz+i<cs.length:=fun i hi=>by
   rw[hl];have:l*sz+(h'-l)*sz<=len*sz:=(by rw[<-Nat.add_mul];exact Nat.mul_le_mul_right _ w4)
   omega
  by_cases I:cap=l
  ·have e2:h'=l:=(by omega)
   refine⟨.slice (some ⟨b,E,none⟩) (h'-l) (cap-l),?_,fun w' _=>?_⟩
   ·refine .list sz _ _ b E _ g hlen w4 w4 hb hL (fun i hi=>?_) (fun i hi=>?_)<;>(rw[hlen,e2] at hi;simp at hi)
   have b3:=fun w=>xO (P:=P) (il:=true) (w:=w) b1 b2 h1 (Nat.le_trans h2 q1);unfold execOp;simp only[ho,hg,Instr.sliceAt,Instr.slice,U,Sem.run_bind,Result.andThen_ok,Option.map_none,b3,hs,Sem.run_pure,if_pos I]
  refine⟨.slice (some ⟨b,E+l*sz,none⟩) (h'-l) (cap-l),?_,fun w' _=>?_⟩
  ·refine .list sz _ _ b (E+l*sz) _ (fun i=>g (l*sz+i)) hlen w4 w4 hb hL (fun i hi=>?_) (fun i hi=>?_)
   ·rw[Nat.add_assoc];exact hc _ (O i (by rw[hlen] at hi;exact hi))
   simp only[getElem_take,getElem_drop];exact hr _ _
  have b3:=fun w=>xO (P:=P) (il:=true) (w:=w) b1 b2 h1 (Nat.le_trans h2 q1);unfold execOp;simp only[ho,hg,Instr.sliceAt,Instr.slice,U,Sem.run_bind,Result.andThen_ok,Option.map_none,b3,hs,Sem.run_pure,if_neg I,Option.map_some,Addr.add_mid]
theorem QC {len:Nat} (ho:o.op = .slice t y lo hi none) (hy:aD x y = .v (.slice (some ⟨b,o',none⟩) len cap)) (ff:nG x lo 0 0) (eJ:nG x hi h' len)
  (E:∀w,(underlying t).run P w = .ok (.slice e) w) (hs:∀w,(sizeOf e).run P w = .ok sz w) (h2:h'<=cap):bS P G x o .none (.v (.slice (some ⟨b,o',none⟩) h' cap)):=fun C a w _ h =>
 ⟨_,.v _,fun w' _=>by
  have b1:=tP h ff;have b2:=tP h eJ;unfold execOp;simp[ho,h.flat hy,Instr.sliceAt,Instr.slice,E,xO b1 b2 (Nat.zero_le _) h2,hs,Addr.add_mid]⟩
theorem abY {s:ByteArray} {l:Nat} (ho:o.op = .slice t y lo hi none) (hy:aD x y = .v (.string s)) (ff:nG x lo l 0) (eJ:nG x hi h' s.size)
  (E:∀w,(underlying t).run P w = .ok .string w) (h1:l<=h') (h2:h'<=s.size):bS P G x o .none (.v (.string (s.extract l h'))):=fun C a w _ h =>
 ⟨_,.v _,fun w' _=>by
  have b1:=tP h ff;have b2:=tP h eJ;unfold execOp;simp[ho,h.flat hy,Instr.sliceAt,Instr.slice,E,xO b1 b2 h1 h2]⟩
theorem adM{len:Nat}{cs:List D}(ho:o.op = .call {callee:=.builtin .len,args:=#[y],argTypes:=ts})(ht:ts = #[t])(hy:aD x y = .list sz cs len)(E:∀w,(underlying t).run P w = .ok (.slice e) w):bS P G x o .none (.v (.int .i64 len)):=fun C a w _ h=>by
 have hr:=h.eval y;rw[hy] at hr;generalize hg:a.eval y=u at hr;subst ht;refine⟨_,.v _,fun w' _=>?_⟩;cases hr<;>(unfold execOp;simp[ho,hg,resolve,invoke,builtin,Builtin.len_,E,goInt])
theorem QY{len:Nat}(ho:o.op = .call {callee:=.builtin .len,args:=#[y],argTypes:=ts})(ht:ts = #[t])(hy:aD x y = .v (.slice ad len cap))(E:∀w,(underlying t).run P w = .ok (.slice e) w):bS P G x o .none (.v (.int .i64 len)):=fun C a w _ h=>by
 subst ht;refine⟨_,.v _,fun w' _=>?_⟩;unfold execOp;simp[ho,h.flat hy,resolve,invoke,builtin,Builtin.len_,E,goInt]
theorem Fh {s:ByteArray} (ho:o.op = .call {callee:=.builtin .len,args:=#[y],argTypes:=ts}) (ht:ts = #[t]) (hy:aD x y = .v (.string s))
  (E:∀w,(underlying t).run P w = .ok .string w):bS P G x o .none (.v (.int .i64 s.size)):=fun C a w _ h=>by
 subst ht;refine⟨_,.v _,fun w' _=>?_⟩;unfold execOp;simp[ho,h.flat hy,resolve,invoke,builtin,Builtin.len_,E,goInt]
theorem abZ {b:Builtin} {u' r:Value} {z:Operand} (ho:o.op = .call {callee:=.builtin b,args:=#[y,z],argTypes:=ts}) (hy:aD x y = .v u) (hz:aD x z = .v u')
  (hb:∀cs w,(Go.builtin b ts o.type cs #[u,u']).run P w = .ok (.value r) w):bS P G x o .none (.v r):=fun C a w _ h =>
 ⟨_,.v _,fun w' _=>by
  unfold execOp;simp[ho,h.flat hy,h.flat hz,resolve,invoke,hb]⟩
theorem acO{fn:Fn}{E:Array Operand}(ho:o.op = .makeFunc fn #[] E)(hd:E.toList.map (aD x)=ds):bS P G x o .none (.eK fn ds):=fun C a w _ h=>by
 subst hd;refine⟨.func fn #[] (E.toList.map a.eval).toArray,.eK _ _ _ bp (fun i q1 q2=>?_),fun w' _=>?_⟩
 ·simp only[getElem_map];exact h.eval _
 unfold execOp;simp[ho,Instr.makeFunc];rw[<-Array.toList_map,Array.toArray_toList]
def mT(W:List Nat)(w w':World):Prop:=w.heap.size<=w'.heap.size/\∀b,b<w.heap.size->b∉W->w'.heap[b]?=w.heap[b]?
def fh(P:Program)(G:List (Nat×List Value))(x:St)(o:Oper)(W:List Nat)(post:St->Prop):Prop :=
 ∀(C:dJ) (a:Act) (w:World) (K:Act->World->Prop) (Q:Exit->Act->World->Prop),C.G=G->bB C x a w->(∀y a' w',post y->bB C y a' w'->mT W w w'->Fr w (aj x.S) w' (aj y.S)->K a' w')->o.wp P a w K Q
theorem mT.refl(W:List Nat)(w:World):mT W w w:=⟨Nat.le_refl _,fun _ _ _=>rfl⟩
theorem bS.gm{k:Rd}{d:D}{t:Nat}(h:bS P G x o k d)(hd:o.dst=some t):fh P G x o [] (fun y=>y=x.put t d):=fun C a w K Q hG hs hK=>by
 obtain⟨v,hr,oR⟩:=h C a w hG hs;unfold Oper.wp;rw[oR w (Same.self C x w k),Oper.upon_value,hd];exact hK _ _ _ rfl (hs.put hr) (mT.refl _ _) (Fr.refl _ _)
def cellsOf:D->List D
 | .agg cs=>cs
 | .v (.agg cs)=>cs.toList.map .v
 | d=>[d]
def cM(w:World)(L:Nat->Prop)(ds:List D)(vs:List Value):Prop:=vs.length=ds.length/\∀i (h:i<ds.length) (h':i<vs.length),cq w L ds[i] vs[i]
theorem cM.mono{w w':World}{L E:Nat->Prop}{ds:List D}{vs:List Value}(h:cM w L ds vs)(H:∀b,b<w.heap.size->¬L b->w'.heap[b]?=w.heap[b]?/\¬E b):cM w' E ds vs :=
 ⟨h.1,fun i h1 h2=>(h.2 i h1 h2).mono H⟩
def one:D->Bool
 | .v x=>x.oneCell'
 | .list ..|.fT ..|.eK ..=>true
 | _=>false
theorem cq.Cf{w:World}{d:D}(h:cq w L d v)(hd:one d=true):v.oneCell'=true:=by
 cases h<;>first|exact hd|rfl|exact absurd hd (by simp[one])
theorem cq.cells{w:World}{L:Nat->Prop}{d:D}{v:Value}(h:cq w L d v)(hd:d≠.bF):cM w L (cellsOf d) v.cells.toList:=by
 have E:∀(d:D) (v:Value),v.cells = #[v]->cellsOf d=[d]->cq w L d v->cM w L (cellsOf d) v.cells.toList:=fun d v h1 h2 h3=>by
  rw[h1,h2];refine⟨rfl,fun i q1 q2=>?_⟩;have:i=0:=(by simpa using q1)
  subst this;exact h3
 cases h with
 | v =>
  cases v with
  | agg cs =>
   refine⟨by simp[cellsOf,Value.cells],fun i q1 q2=>?_⟩;simp only[cellsOf,getElem_map,Value.cells];exact .v _
  | _=>exact E _ _ rfl rfl (.v _)
 | ni sz ad cap=>exact E _ _ rfl rfl (.ni sz ad cap)
 | list sz cs len b o cap f hl h1 h2 hb hL hc hr=>exact E _ _ rfl rfl (.list sz cs len b o cap f hl h1 h2 hb hL hc hr)
 | fT cs off b o f hb hL hc hr=>exact E _ _ rfl rfl (.fT cs off b o f hb hL hc hr)
 | agg cs vs hl hr=>exact⟨by simp[cellsOf,Value.cells,hl],fun i q1 q2=>hr i q1 q2⟩
 | dB cs vs hl hr=>exact E _ _ rfl rfl (.dB cs vs hl hr)
 | eK fn cs vs hl hr=>exact E _ _ rfl rfl (.eK fn cs vs hl hr)
 | lf l os h=>exact E _ _ rfl rfl (.lf l os h)
 | bF=>exact absurd rfl hd
theorem getElem?_push_lt{w:World}{ob:Obj}(h:b<w.heap.size):(w.alloc ob).heap[b]?=w.heap[b]?:=Below.heap_alloc w ob b h
theorem bB.WV {w:World} (h:bB C x a w) {t:Nat} {cells:Array Value} {size:Nat} (hr:cM w (live C.X x.S) ds cells.toList) (dg:cells.size=size) {d:D}
  (hd:∀L,cq (w.alloc (ob e cells)) L d v) :
  bB C ⟨x.n,(t,d)::x.env,⟨w.heap.size,e,size,ds⟩::x.S⟩ (a.put (some t) v) (w.alloc (ob e cells)):=by
 have aa:∀b,live C.X x.S b->b<w.heap.size:=fun b hb=>by
  rcases hb with hb|hb
  ·exact Nat.lt_of_lt_of_le (h.ex b hb).1 h.fr.size
  obtain⟨B,hB,rfl⟩:=mem_map.1 hb;exact(h.own.at_ B hB).1
 have H:∀b,b<w.heap.size->¬live C.X x.S b->(w.alloc (ob e cells)).heap[b]?=w.heap[b]?/\¬live C.X (⟨w.heap.size,e,size,ds⟩::x.S) b:=fun b hb hn =>
  ⟨getElem?_push_lt hb,fun hl=>by
   rcases hl with hl|hl
   ·exact hn (.inl hl)
   simp only[aj,map_cons,mem_cons] at hl;rcases hl with hl|hl
   ·omega
   exact hn (.inr hl)⟩
 have base:bB C ⟨x.n,x.env,⟨w.heap.size,e,size,ds⟩::x.S⟩ a (w.alloc (ob e cells)):=by
  refine⟨h.defers,h.size,fun t ht=>(h.env t ht).mono H,⟨fun B hB=>?_,?_⟩,?_,h.ex,h.eI⟩
  ·rcases mem_cons.1 hB with rfl|hB
   ·refine⟨by simp,cells,heap_alloc_new w _,dg,?_,fun i hi=>?_⟩
    ·have:=hr.1;simp at this;simp only;omega
    have E:i<cells.toList.length:=(by rw[hr.1];exact hi)
    refine⟨cells.toList[i],?_,(hr.2 i hi E).mono H⟩;simp at E;simp[E]
   obtain⟨h0,cur,h1,h2,h3,h4⟩:=h.own.at_ B hB;refine⟨by simp;omega,cur,(getElem?_push_lt h0).trans h1,h2,h3,fun i hi=>?_⟩;obtain⟨u,hu,hq⟩:=h4 i hi;exact⟨u,hu,hq.mono H⟩
  ·show(w.heap.size::aj x.S).Nodup;exact nodup_cons.2 ⟨fun hm=>Nat.lt_irrefl _ (aa _ (.inr hm)),h.own.apart⟩
  refine⟨h.fr.os,h.fr.tape,h.fr.output,by simp;have:=h.fr.size;omega,fun b hb hn=>?_⟩;obtain⟨q1,q2⟩:=h.fr.block b hb hn;have I:=Nat.lt_of_lt_of_le hb h.fr.size;refine⟨(getElem?_push_lt I).trans q1,fun hm=>?_⟩;simp only[aj,map_cons,mem_cons] at hm;rcases hm with hm|hm
  ·omega
  exact q2 hm
 exact base.put (hd _)
theorem bB.new {w:World} (h:bB C x a w) {t:Nat} {cells:Array Value} {size:Nat} (hr:cM w (live C.X x.S) ds cells.toList) (dg:cells.size=size) {d:D}
  (hd:∀L,cq (w.alloc (.cells cells e)) L d v) (hne:isMap e=false:=by rfl) :
  bB C ⟨x.n,(t,d)::x.env,⟨w.heap.size,e,size,ds⟩::x.S⟩ (a.put (some t) v) (w.alloc (.cells cells e)):=by
 have:=bB.WV h (e:=e) hr dg (t:=t) (d:=d) (v:=v) (fun L=>by rw[lp hne];exact hd L);rw[lp hne] at this;exact this
theorem mT.alloc(w:World)(ob:Obj):mT [] w (w.alloc ob):=⟨by simp,fun b hb _=>getElem?_push_lt hb⟩
theorem Fr.alloc(w:World)(ob:Obj)(S:List Nat):Fr w S (w.alloc ob) (w.heap.size::S) :=
 ⟨rfl,rfl,rfl,by simp,fun b hb hn=>⟨getElem?_push_lt hb,fun hm=>by
  rcases mem_cons.1 hm with hm|hm
  ·omega
  exact hn hm⟩⟩
def ua(x:St)(t:Nat)(e:TypeId)(ds:List D)(y:St):Prop:=∃b,y=⟨x.n,(t,.v (.pointer (some ⟨b,0,none⟩)))::x.env,⟨b,e,ds.length,ds⟩::x.S⟩
theorem Fs{z:Value}{t:Nat}(ho:o.op = .alloc e)(hd:o.dst=some t)(hz:∀w,(zeroValue e).run P w = .ok z w)(jA:z.cells.toList.map .v=ds)(hne:isMap e=false:=by rfl):fh P G x o [] (ua x t e ds):=fun C a w K Q hG h hK=>by
 subst jA;unfold Oper.wp;have:(execOp a.eval o).run P w = .ok (.value (.pointer (some ⟨w.heap.size,0,none⟩))) (w.alloc (.cells z.cells e)):=by
  unfold execOp;simp[ho,Instr.alloc,hz,newVar,newRow]
 rw[this,Oper.upon_value,hd];refine hK _ _ _ ⟨w.heap.size,rfl⟩ (h.new (ds:=z.cells.toList.map .v) ⟨by simp,fun i q1 q2=>?_⟩ bp (fun L=>.v _) hne) (mT.alloc _ _) (Fr.alloc _ _ _);simp only[getElem_map];exact .v _
theorem ahd{t:Nat}{d:D}(ho:o.op = .box e y)(hd:o.dst=some t)(hy:aD x y=d)(hj:d≠.bF)(jA:cellsOf d=ds)(hne:isMap e=false:=by rfl):fh P G x o [] (ua x t e ds):=fun C a w K Q hG h hK=>by
 subst jA;unfold Oper.wp;have:(execOp a.eval o).run P w = .ok (.value (.pointer (some ⟨w.heap.size,0,none⟩))) (w.alloc (.cells (a.eval y).cells e)):=by
  unfold execOp;simp[ho,Instr.box,newVar,newRow]
 rw[this,Oper.upon_value,hd];have hr:=h.eval y;rw[hy] at hr;have hc:=hr.cells hj;refine hK _ _ _ ⟨w.heap.size,rfl⟩ (h.new (ds:=cellsOf d) hc (by have:=hc.1;simpa using this) (fun L=>.v _) hne) (mT.alloc _ _) (Fr.alloc _ _ _)
def dx(cs:List D)(off:Nat):List D->List D
 | []=>cs
 | d::r=>dx (cs.set off d) (off+1) r
def nc(place:Nat->Option (Nat×Nat))(cells:List D):List (Nat×D)->Option (List D)
 | []=>some cells
 | (i,d)::rest =>
  match place i with
  | none=>none
  | some (off,size)=>if (cellsOf d).length≠size||off+(cellsOf d).length>cells.length then none else nc place (dx cells off (cellsOf d)) rest
theorem cM.set{w:World}{L:Nat->Prop}{ds:List D}{vs:List Value}(h:cM w L ds vs)(i:Nat){d:D}{v:Value}(hd:cq w L d v):cM w L (ds.set i d) (vs.set i v) :=
 ⟨by simp[h.1],fun j h1 h2=>by
  rw[getElem_set,getElem_set];split
  ·exact hd
  exact h.2 j _ _⟩
theorem cM.tail{w:World}{d:D}{vs:List Value}(h:cM w L (d::ds) (v::vs)):cq w L d v/\cM w L ds vs :=
 ⟨h.2 0 bp bp,by simpa using h.1,fun i h1 h2=>h.2 (i+1) (by simpa using h1) (by simpa using h2)⟩
theorem JK{β:Type}(f:β->Value->Nat->β):∀(r:List Value) (k:Nat) (z:β),(r.zipIdx (k+1)).foldl (fun c (x:Value×Nat)=>f c x.1 x.2) z=(r.zipIdx k).foldl (fun c (x:Value×Nat)=>f c x.1 (x.2+1)) z
 | [],_,_=>rfl
 | v::r,k,z=>by
  simp only[zipIdx_cons,foldl_cons];exact JK f r (k+1) _
theorem cM.dx{w:World}{L:Nat->Prop}:∀(ds:List D) (vs:List Value) (cs:List D) (cells:List Value) (off:Nat),cM w L ds vs->cM w L cs cells->cM w L (dx cs off ds) (vs.zipIdx.foldl (fun cs (c,j)=>cs.set (off+j) c) cells)
 | [],[],cs,cells,off,_,h=>h
 | [],_::_,_,_,_,h,_=>by simp[cM] at h
 | _::_,[],_,_,_,h,_=>by simp[cM] at h
 | d::ds,v::vs,cs,cells,off,h,hc=>by
  obtain⟨h0,h1⟩:=h.tail;have E:=cM.dx ds vs (cs.set off d) (cells.set off v) (off+1) h1 (hc.set off h0);have e:(v::vs).zipIdx.foldl (fun cs (x:Value×Nat)=>cs.set (off+x.2) x.1) cells=vs.zipIdx.foldl (fun cs (x:Value×Nat)=>cs.set (off+1+x.2) x.1) (cells.set off v):=by
   rw[zipIdx_cons,foldl_cons,Nat.add_zero,JK (fun (c:List Value) v n=>c.set (off+n) v)];congr 1;funext a b;rw[Nat.add_assoc,Nat.add_comm 1]
  rw[e];exact E
theorem Ft:∀(l:List (Value×Nat)) (cells:Array Value) (off:Nat),(l.foldl (fun cs (x:Value×Nat)=>cs.setIfInBounds (off+x.2) x.1) cells).toList=l.foldl (fun cs (x:Value×Nat)=>cs.set (off+x.2) x.1) cells.toList
 | [],_,_=>rfl
 | (v,j)::l,cells,off=>by
  simp only[foldl_cons];rw[Ft l];simp
theorem FN{w:World}{L:Nat->Prop}(place:Nat->Option (Nat×Nat)):∀(E:List (Nat×D)) (ur:List (Nat×Value)) (cs:List D) (cells:Array Value) (ds:List D),
  E.length=ur.length->(∀i (h:i<E.length) (h':i<ur.length),E[i].1=ur[i].1/\E[i].2≠.bF/\cq w L E[i].2 ur[i].2)->cM w L cs cells.toList->nc place cs E=some ds ->
  ∃I,Instr.fill place cells ur=some I/\cM w L ds I.toList
 | [],[],cs,cells,ds,_,_,hc,hf=>by
  simp only[nc,Option.some.injEq] at hf;subst hf;exact⟨cells,rfl,hc⟩
 | [],_::_,_,_,_,h,_,_,_=>by simp at h
 | _::_,[],_,_,_,h,_,_,_=>by simp at h
 | (i,d)::E,(j,v)::ur,cs,cells,ds,hl,hp,hc,hf=>by
  obtain⟨h1,h2,h3⟩:=hp 0 bp bp;simp only[getElem_cons_zero] at h1 h2 h3;subst h1;have O:=h3.cells h2;have U:v.cells.size=(cellsOf d).length:=(by have:=O.1;simpa using this)
  have dg:cells.size=cs.length:=(by have:=hc.1;simpa using this)
  unfold nc at hf;unfold Instr.fill;cases eP:place i with
  | none=>rw[eP] at hf;simp at hf
  | some os =>
   obtain⟨off,size⟩:=os;simp only[eP] at hf |-;rw[U,dg];split at hf
   ·cases hf
   rename_i hn;rw[if_neg hn];refine FN place E ur _ _ ds yB (fun i h h'=>hp (i+1) nS (by simpa using h')) ?_ hf;have:=cM.dx (w:=w) (L:=L) (cellsOf d) v.cells.toList cs cells.toList off O hc;rw[<-Ft] at this;have e:v.cells.zipIdx.foldl (fun cs (x:Value×Nat)=>cs.setIfInBounds (off+x.2) x.1) cells=v.cells.toList.zipIdx.foldl (fun cs (x:Value×Nat)=>cs.setIfInBounds (off+x.2) x.1) cells:=by
    rw[<-Array.foldl_toList,Array.toList_zipIdx]
   rw[e];exact this
theorem cM.ur(w:World)(L:Nat->Prop)(vs:List Value):cM w L (vs.map .v) vs:=⟨by simp,fun i h1 h2=>by simp only[getElem_map];exact .v _⟩
def mC(x:St)(ps:Array (Nat×Operand)):List (Nat×D):=ps.toList.map fun p=>(p.1,aD x p.2)
theorem JL{w:World}(h:bB C x a w)(ps:Array (Nat×Operand))(hj:∀p∈mC x ps,p.2≠.bF):(mC x ps).length=((ps.map fun p=>(p.1,a.eval p.2)).toList).length /\
  ∀i (h1:i<(mC x ps).length) (h2:i<((ps.map fun p=>(p.1,a.eval p.2)).toList).length),(mC x ps)[i].1=((ps.map fun p=>(p.1,a.eval p.2)).toList)[i].1/\(mC x ps)[i].2≠.bF/\cq w (live C.X x.S) (mC x ps)[i].2 ((ps.map fun p=>(p.1,a.eval p.2)).toList)[i].2:=by
 refine⟨by simp[mC],fun i h1 h2=>⟨?_,hj _ (getElem_mem h1),?_⟩⟩
 ·simp[mC]
 simp only[mC,getElem_map,Array.toList_map];exact h.eval _
theorem aci {E:Array Field} {places:Array (Nat×Nat)} {z:Value} (ho:o.op = .build t ps) (hz:∀w,(zeroValue t).run P w = .ok z w)
  (I:∀w,(underlying t).run P w = .ok (.struct E) w) (hp:∀w,(E.mapM fun f=>do pure (f.offset,<-sizeOf f.type):Sem (Array (Nat×Nat))).run P w = .ok places w)
  (hj:∀p∈mC x ps,p.2≠.bF) (hd:nc (places[·]?) (z.cells.toList.map .v) (mC x ps)=some ds):bS P G x o .none (.agg ds):=fun C a w _ h=>by
 obtain⟨q1,q2⟩:=JL h ps hj;obtain⟨CG,h1,h2⟩:=FN (w:=w) (L:=live C.X x.S) (places[·]?) (mC x ps) ((ps.map fun p=>(p.1,a.eval p.2)).toList) _ z.cells ds q1 q2 (cM.ur _ _ _) hd;refine⟨.agg CG.toList.toArray,.agg _ _ h2.1 h2.2,fun w' _=>?_⟩;unfold execOp;simp only[ho,Instr.build,hz,I,hp,Sem.run_bind,Result.andThen_ok,h1,Sem.run_pure,Array.toArray_toList]
theorem ab0 {z:Value} (ho:o.op = .build t ps) (hz:∀w,(zeroValue t).run P w = .ok z w)
  (E:∀w,(underlying t).run P w = .ok (.array n e) w) (hs:∀w,(sizeOf e).run P w = .ok sz w)
  (hj:∀p∈mC x ps,p.2≠.bF) (hd:nc (fun i=>some (i*sz,sz)) (z.cells.toList.map .v) (mC x ps)=some ds):bS P G x o .none (.agg ds):=fun C a w _ h=>by
 obtain⟨q1,q2⟩:=JL h ps hj;obtain⟨CG,h1,h2⟩:=FN (w:=w) (L:=live C.X x.S) (fun i=>some (i*sz,sz)) (mC x ps) ((ps.map fun p=>(p.1,a.eval p.2)).toList) _ z.cells ds q1 q2 (cM.ur _ _ _) hd;refine⟨.agg CG.toList.toArray,.agg _ _ h2.1 h2.2,fun w' _=>?_⟩;unfold execOp;simp only[ho,Instr.build,hz,E,hs,Sem.run_bind,Result.andThen_ok,h1,Sem.run_pure,Array.toArray_toList]
def ahe(x:St)(t:Nat)(e:TypeId)(len:Nat)(ds:List D)(y:St):Prop:=∃b,y=⟨x.n,(t,.v (.slice (some ⟨b,0,none⟩) len len))::x.env,⟨b,e,ds.length,ds⟩::x.S⟩
theorem Je {len:Nat} {z:Value} {zs:List D} (ho:o.op = .buildSlice t len ps) (j4:o.dst=some tt) (hz:∀w,(zeroValue e).run P w = .ok z w)
  (I:∀w,(underlying t).run P w = .ok (.slice e) w) (hs:∀w,(sizeOf e).run P w = .ok sz w) (hl:0<len*sz) (iu:len*sz<=2 ^ 24) (eM:(Array.range (len*sz)).map (fun i=>z.cells[i % z.cells.size]!)=(zs.map (fun d=>match d with|.v u=>u|_=>undef)).toArray) (O:∀d∈zs,∃u,d = .v u)
  (hj:∀p∈mC x ps,p.2≠.bF) (hd:nc (fun i=>some (i*sz,sz)) zs (mC x ps)=some ds) (hne:isMap e=false:=by rfl):fh P G x o [] (ahe x tt e len ds):=fun C a w K Q hG h hK=>by
 obtain⟨q1,q2⟩:=JL h ps hj;have U:cM w (live C.X x.S) zs ((zs.map (fun d=>match d with|.v u=>u|_=>undef)).toArray).toList:=by
  refine⟨by simp,fun i h1 h2=>?_⟩;obtain⟨u,I⟩:=O _ (getElem_mem h1);simp only[getElem_map,I];exact .v _
 obtain⟨CG,h1,h2⟩:=FN (w:=w) (L:=live C.X x.S) (fun i=>some (i*sz,sz)) (mC x ps) ((ps.map fun p=>(p.1,a.eval p.2)).toList) _ _ ds q1 q2 U hd;unfold Oper.wp;have:(execOp a.eval o).run P w = .ok (.value (.slice (some ⟨w.heap.size,0,none⟩) len len)) (w.alloc (.cells CG e)):=by
  unfold execOp;have E:¬len*sz=0:=(by omega)
  have Z:¬len*sz>2 ^ 24:=(by omega)
  simp only[ho,Instr.buildSlice,hz,I,hs,Sem.run_bind,Result.andThen_ok,Sem.run_pure,if_neg E,if_neg Z,eM,h1];simp[newRow]
 rw[this,Oper.upon_value,j4];exact hK _ _ _ ⟨w.heap.size,rfl⟩ (h.new (ds:=ds) h2 (by have:=h2.1;simpa using this) (fun L=>.v _) hne) (mT.alloc _ _) (Fr.alloc _ _ _)
theorem Qw(b:Nat):∀(vs:List Value) (o':Nat) (w:World) (cur:Array Value) (e:TypeId),w.heap[b]?=some (.cells cur e (0,0))->o'+vs.length<=cur.size ->
  (w.setCells b o' vs).heap[b]?=some (.cells (vs.zipIdx.foldl (fun cs (x:Value×Nat)=>cs.setIfInBounds (o'+x.2) x.1) cur) e (0,0))/\(∀k,k≠b->(w.setCells b o' vs).heap[k]?=w.heap[k]?)/\(w.setCells b o' vs).heap.size=w.heap.size /\
  (w.setCells b o' vs).os=w.os/\(w.setCells b o' vs).tape=w.tape/\(w.setCells b o' vs).output=w.output
 | [],o',w,cur,e,h,_=>⟨h,fun _ _=>rfl,rfl,rfl,rfl,rfl⟩
 | v::r,o',w,cur,e,h,hl=>by
  have h0:(w.setCell ⟨b,o',none⟩ v).heap[b]?=some (.cells (cur.setIfInBounds o' v) e (0,0)):=by
   simp[World.setCell,Array.getElem?_modify,h]
  obtain⟨i1,i2,i3,i4,i5,i6⟩:=Qw b r (o'+1) (w.setCell ⟨b,o',none⟩ v) (cur.setIfInBounds o' v) e h0 (by simp at hl |-;omega);refine⟨?_,fun k hk=>?_,?_,i4,i5,i6⟩
  ·rw[World.setCells,i1,zipIdx_cons,foldl_cons,Nat.add_zero,JK (fun (c:Array Value) v n=>c.setIfInBounds (o'+n) v)];congr 3;funext a b;rw[Nat.add_assoc,Nat.add_comm 1]
  ·rw[World.setCells,i2 k hk,Below.heap_setCell _ _ _ _ hk]
  rw[World.setCells,i3];simp
theorem zO:∀(ds cs:List D) (off:Nat),(dx cs off ds).length=cs.length
 | [],cs,off=>rfl
 | d::ds,cs,off=>by rw[dx,zO ds];simp
theorem bB.store{w:World}(h:bB C x a w){vs:List Value}(hk:x.S[k]?=some B)(hr:cM w (live C.X x.S) ds vs)(hl:o'+ds.length<=B.cs.length)(hne:isMap B.e=false:=by rfl) :
  bB C ⟨x.n,x.env,x.S.set k {B with cs:=dx B.cs o' ds}⟩ a (w.setCells B.b o' vs)/\mT [B.b] w (w.setCells B.b o' vs)/\Fr w (aj x.S) (w.setCells B.b o' vs) (aj (x.S.set k {B with cs:=dx B.cs o' ds})):=by
 obtain⟨h0,cur,h1,h2,h3,h4⟩:=h.fP hk;rw[lp hne] at h1;have qT:vs.length=ds.length:=hr.1;obtain⟨i1,i2,i3,i4,i5,i6⟩:=Qw B.b vs o' w cur B.e h1 w4;have er:k<x.S.length:=(List.getElem?_eq_some_iff.1 hk).1;have xB:x.S[k]=B:=(List.getElem?_eq_some_iff.1 hk).2;have E:aj (x.S.set k {B with cs:=dx B.cs o' ds})=aj x.S:=by
  unfold aj;rw[map_set];apply ext_getElem bp;intro i q1 q2;rw[getElem_set];split
  ·rename_i e;subst e;simp[xB]
  rfl
 have I:live C.X (x.S.set k {B with cs:=dx B.cs o' ds})=live C.X x.S:=(by funext b;simp only[live,E])
 have hB:live C.X x.S B.b:=S6 hk;have H:∀b,b<w.heap.size->¬live C.X x.S b->(w.setCells B.b o' vs).heap[b]?=w.heap[b]?/\¬live C.X x.S b:=fun b _ hn=>⟨i2 b (fun e=>hn (e ▸ hB)),hn⟩
 refine⟨⟨h.defers,h.size,fun t ht=>?_,⟨fun B' OJ=>?_,?_⟩,?_,h.ex,h.eI⟩,⟨by rw[i3];exact Nat.le_refl _,fun b _ hn=>i2 b (by simpa using hn)⟩,?_⟩
 ·simp only[I];exact(h.env t ht).mono H
 ·simp only[I];obtain⟨j,hj,O⟩:=mem_iff_getElem.1 OJ;rw[length_set] at hj;rw[getElem_set] at O;by_cases e:k=j
  ·rw[if_pos e] at O;subst O;refine⟨by rw[i3];exact h0,_,i1.trans (by rw[lp hne]),?_,by simp only[zO];exact h3,fun i hi=>?_⟩
   ·have:=Ft vs.zipIdx cur o';have hlen:=congrArg length this;have amb:∀(l:List (Value×Nat)) (c:List Value),(l.foldl (fun cs (x:Value×Nat)=>cs.set (o'+x.2) x.1) c).length=c.length:=by
     intro l;induction l with
     | nil=>intro c;rfl
     | cons p l ih=>intro c;rw[foldl_cons,ih];simp
    rw[amb] at hlen;simp only[Array.length_toList] at hlen;rw[hlen,h2]
   have dz:cM w (live C.X x.S) B.cs (cur.toList.take B.cs.length):=by
    refine⟨by simp;omega,fun i q1 q2=>?_⟩;obtain⟨u,hu,hq⟩:=h4 i q1;have:(cur.toList.take B.cs.length)[i]=u:=by
     rw[getElem_take];rw[<-Array.getElem?_toList,List.getElem?_eq_some_iff] at hu;exact hu.2
    rw[this];exact hq
   have U:=cM.dx ds vs B.cs (cur.toList.take B.cs.length) o' hr dz;have WW:∀(l:List (Value×Nat)) (c:List Value),(∀p∈l,o'+p.2<B.cs.length)->l.foldl (fun cs (x:Value×Nat)=>cs.set (o'+x.2) x.1) (c.take B.cs.length)=(l.foldl (fun cs (x:Value×Nat)=>cs.set (o'+x.2) x.1) c).take B.cs.length:=by
    intro l;induction l with
    | nil=>intro c _;rfl
    | cons p l ih =>
     intro c hp;rw[foldl_cons,foldl_cons,<-ih _ (fun q hq=>hp q (mem_cons_of_mem _ hq)),take_set]
   rw[WW vs.zipIdx cur.toList (fun p hp=>by have:=mem_zipIdx hp;omega),<-Ft] at U;simp only at hi;have Bw:=hi;rw[<-U.1] at Bw;have hq:=U.2 i hi Bw;rw[getElem_take] at hq;refine⟨_,?_,hq.mono H⟩;rw[<-Array.getElem?_toList,getElem?_eq_getElem]
  rw[if_neg e] at O;subst O;have hne:x.S[j].b≠B.b:=fun he=>by
   have hn:=h.own.apart;have xC:(aj x.S)[j]'AY=(aj x.S)[k]'AW:=(by simp[aj,he,xB])
   have hp:=pairwise_iff_getElem.1 hn;rcases Nat.lt_trichotomy j k with Z|Z|Z
   ·exact hp j k AY AW Z xC
   ·exact e Z.symm
   exact hp k j AW AY Z xC.symm
  obtain⟨r0,mL,r1,r2,r3,r4⟩:=h.own.at_ x.S[j] (getElem_mem hj);refine⟨by rw[i3];exact r0,mL,(i2 _ hne).trans r1,r2,r3,fun i hi=>?_⟩;obtain⟨u,hu,hq⟩:=r4 i hi;exact⟨u,hu,hq.mono H⟩
 ·simp only[E];exact h.own.apart
 ·refine⟨i4.trans h.fr.os,i5.trans h.fr.tape,i6.trans h.fr.output,by rw[i3];exact h.fr.size,fun b hb hn=>?_⟩;obtain⟨q1,q2⟩:=h.fr.block b hb hn;refine⟨(i2 b (fun e=>q2 (e ▸ mem_map.2 ⟨B,mem_of_getElem? hk,rfl⟩))).trans q1,?_⟩;simp only[E];exact q2
 rw[E];exact⟨i4,i5,i6,by rw[i3];exact Nat.le_refl _,fun b hb hn=>⟨i2 b (fun e=>hn (e ▸ mem_map.2 ⟨B,mem_of_getElem? hk,rfl⟩)),hn⟩⟩
theorem Fu {d:D} {z:Operand} (ho:o.op = .store t y z) (j4:o.dst=none) (hy:aD x y = .v (.pointer (some ⟨b,o',none⟩)))
  (hk:x.S[k]?=some B) (hb:B.b=b) (hz:aD x z=d) (hj:d≠.bF) (h1:(cellsOf d).all one=true) (hn:∀w,(sizeOf t).run P w = .ok n w) (gz:(cellsOf d).length=n) (hl:o'+n<=B.cs.length) (dz:dx B.cs o' (cellsOf d)=cs') (hne:isMap B.e=false:=by rfl) :
  fh P G x o [b] (fun y=>y=⟨x.n,x.env,x.S.set k {B with cs:=cs'}⟩):=fun C a w K Q hG h hK=>by
 subst dz hb;have hr:=h.eval z;rw[hz] at hr;have hc:=hr.cells hj;obtain⟨s1,s2,Z⟩:=h.store hk hc (o':=o') w4 hne;obtain⟨h0,cur,q1,q2,q3,q4⟩:=h.fP hk;rw[lp hne] at q1;have U:(a.eval z).cells.toList.length=n:=(by rw[hc.1,gz])
 have E:=run_storeCells_cells (P:=P) B.b o' (a.eval z).cells.toList 0 w (fun j hj=>by
   have:(o'+0+j)<cur.size:=(by omega)
   rw[pc q1 (u:=cur[o'+0+j]) (by simp[this])];rfl)
  (fun j hj=>by unfold World.frozen?;simp[q1]) (fun v hv=>by
   obtain⟨j,hj,rfl⟩:=mem_iff_getElem.1 hv;have O:j<(cellsOf d).length:=(by rw[<-hc.1];exact hj)
   exact(hc.2 j O hj).Cf (all_eq_true.1 h1 _ (getElem_mem O)))
 have I:(execOp a.eval o).run P w = .ok .skip (w.setCells B.b o' (a.eval z).cells.toList):=by
  unfold execOp;have dg:(a.eval z).cells.size=n:=(by simpa using U)
  simp only[Nat.add_zero] at E;simp[ho,h.flat hy,Instr.storeAt,Instr.sureAddr,storeVar,hn,dg,E]
 unfold Oper.wp;rw[I,Oper.upon_skip,j4];exact hK _ _ _ rfl s1 s2 Z
structure Iv (G:List (Nat×List Value)) (X:Nat->Prop) (w:World) (S:List ag) (args:List D) (vs:List Value):Prop where
 ex:∀b,X b->b<w.heap.size/\b∉aj S
 eI:∀g∈G,(g.1<w.heap.size/\g.1∉aj S/\¬X g.1)/\∀i v,g.2[i]?=some v->pi w g.1 i v
 own:Own w (live X S) S
 args:cM w (live X S) args vs
def VC(P:Program)(G:List (Nat×List Value))(f:FuncId)(args:List D)(S:List ag)(post:D->List ag->Prop):Prop :=
 ∀(X:Nat->Prop) (w:World) (vs:List Value),Iv G X w S args vs->Calls P f vs.toArray w fun e w'=>∃v r S',e = .returned v/\post r S'/\Own w' (live X S') S'/\cq w' (live X S') r v/\Fr w (aj S) w' (aj S')
theorem VC.mono{f:FuncId}{args:List D}{S:List ag}{post E:D->List ag->Prop}(h:VC P G f args S post)(k:∀r S',post r S'->E r S'):VC P G f args S E:=fun X w vs hp =>
 (h X w vs hp).mono fun e w' ⟨v,r,S',h1,h2,h3⟩=>⟨v,r,S',h1,k r S' h2,h3⟩
abbrev VP(P:Program)(G:List (Nat×List Value))(f:FuncId)(args:List D)(r:D):Prop:=VC P G f args [] fun r' S'=>r'=r/\S'=[]
theorem zQ(hp:S.Perm (Sf++R)):live X S=live (fun b=>X b\/b∈aj R) Sf:=by
 funext b;have:(aj S).Perm (aj Sf++aj R):=(by have:=hp.map ag.b;simpa[aj] using this)
 have:=this.mem_iff (a:=b);simp only[live,mem_append] at *;rw[this];exact propext ⟨fun h=>by rcases h with h|h|h<;>simp[h],fun h=>by rcases h with (h|h)|h<;>simp[h]⟩
theorem bB.call{w:World}(h:bB C x a w)(hG:C.G=G){f:FuncId}{args:List D}{vs:List Value}(hc:VC P G f args Sf post)(hp:x.S.Perm (Sf++R))(hr:cM w (live C.X x.S) args vs) :
  Calls P f vs.toArray w fun e w'=>∃v r S',e = .returned v/\post r S'/\cq w' (live C.X (S'++R)) r v/\bB C ⟨x.n,x.env,S'++R⟩ a w'/\mT (aj Sf) w w'/\Fr w (aj x.S) w' (aj (S'++R)):=by
 have hb:(aj x.S).Perm (aj Sf++aj R):=(by have:=hp.map ag.b;simpa[aj] using this)
 have hL:=zQ (X:=C.X) hp;have hnd:(aj Sf++aj R).Nodup:=hb.nodup_iff.1 h.own.apart;obtain⟨n1,n2,n3⟩:=nodup_append.1 hnd;have O:∀b,b∈aj R->b<w.heap.size:=fun b ze=>by
  obtain⟨B,hB,rfl⟩:=mem_map.1 ze;exact(h.own.at_ B (hp.symm.subset (mem_append_right _ hB))).1
 have U:Iv G (fun b=>C.X b\/b∈aj R) w Sf args vs:=by
  refine⟨fun b hx=>?_,fun g hg=>?_,⟨fun B hB=>?_,n1⟩,?_⟩
  ·rcases hx with hx|hx
   ·obtain⟨q1,q2⟩:=h.ex b hx;exact⟨Nat.lt_of_lt_of_le q1 h.fr.size,fun hm=>(h.fr.block b q1 q2).2 (hb.symm.subset (mem_append_left _ hm))⟩
   exact⟨O b hx,fun hm=>n3 b hm b hx rfl⟩
  ·rw[<-hG] at hg;obtain⟨⟨q1,q2,Z⟩,q4⟩:=h.eI g hg;have q5:=(h.fr.block g.1 q1 q2).2;refine⟨⟨Nat.lt_of_lt_of_le q1 h.fr.size,fun hm=>q5 (hb.symm.subset (mem_append_left _ hm)),fun hx=>?_⟩,fun i v hi=>h.aW hg hi⟩;rcases hx with hx|hx
   ·exact Z hx
   exact q5 (hb.symm.subset (mem_append_right _ hx))
  ·rw[<-hL];exact h.own.at_ B (hp.symm.subset (mem_append_left _ hB))
  rw[<-hL];exact hr
 refine(hc _ w vs U).mono fun e w' ⟨v,r,S',h1,h2,h3,h4,h5⟩=>⟨v,r,S',h1,h2,?_,?_,⟨h5.size,fun b I hn=>(h5.block b I hn).1⟩,?_⟩
 ·have:live C.X (S'++R)=live (fun b=>C.X b\/b∈aj R) S':=zQ (Perm.refl _);rw[this];exact h4
 ·have hL':live C.X (S'++R)=live (fun b=>C.X b\/b∈aj R) S':=zQ (Perm.refl _);have H:∀b,b<w.heap.size->¬live C.X x.S b->w'.heap[b]?=w.heap[b]?/\¬live C.X (S'++R) b:=fun b aa hn=>by
   rw[hL] at hn;have E:b∉aj Sf:=fun hm=>hn (.inr hm);obtain⟨q1,q2⟩:=h5.block b aa E;refine⟨q1,fun hl=>?_⟩;rw[hL'] at hl;rcases hl with hl|hl
   ·exact hn (.inl hl)
   exact q2 hl
  refine⟨h.defers,h.size,fun t ht=>(h.env t ht).mono H,⟨fun B hB=>?_,?_⟩,?_,h.ex,h.eI⟩
  ·rcases mem_append.1 hB with hB|hB
   ·have:=h3.at_ B hB;rw[<-hL'] at this;exact this
   obtain⟨r0,cur,r1,r2,r3,r4⟩:=h.own.at_ B (hp.symm.subset (mem_append_right _ hB));have DX:B.b∈aj R:=mem_map.2 ⟨B,hB,rfl⟩;have E:B.b∉aj Sf:=fun hm=>n3 B.b hm B.b DX rfl;have hh:=(h5.block B.b r0 E).1;refine⟨su r0 hh,cur,hh.trans r1,r2,r3,fun i hi=>?_⟩;obtain⟨u,hu,hq⟩:=r4 i hi;exact⟨u,hu,hq.mono H⟩
  ·show(aj (S'++R)).Nodup;have:aj (S'++R)=aj S'++aj R:=(by simp[aj])
   rw[this];refine nodup_append.2 ⟨h3.apart,n2,fun b gw c bf he=>?_⟩;subst he;have E:b∉aj Sf:=fun hm=>n3 b hm b bf rfl;exact(h5.block b (O b bf) E).2 gw
  refine⟨h5.os.trans h.fr.os,h5.tape.trans h.fr.tape,h5.output.trans h.fr.output,Nat.le_trans h.fr.size h5.size,fun b I hn=>?_⟩;obtain⟨q1,q2⟩:=h.fr.block b I hn;have gM:b∉aj Sf:=fun hm=>q2 (hb.symm.subset (mem_append_left _ hm));have iS:b∉aj R:=fun hm=>q2 (hb.symm.subset (mem_append_right _ hm));obtain⟨Z,q4⟩:=h5.block b (Nat.lt_of_lt_of_le I h.fr.size) gM;refine⟨Z.trans q1,fun hm=>?_⟩;have:aj (S'++R)=aj S'++aj R:=(by simp[aj])
  rw[this] at hm;rcases mem_append.1 hm with hm|hm
  ·exact q4 hm
  exact iS hm
 refine⟨h5.os,h5.tape,h5.output,h5.size,fun b I hn=>?_⟩;have gM:b∉aj Sf:=fun hm=>hn (hb.symm.subset (mem_append_left _ hm));have iS:b∉aj R:=fun hm=>hn (hb.symm.subset (mem_append_right _ hm));obtain⟨Z,q4⟩:=h5.block b I gM;refine⟨Z,fun hm=>?_⟩;have:aj (S'++R)=aj S'++aj R:=(by simp[aj])
 rw[this] at hm;rcases mem_append.1 hm with hm|hm
 ·exact q4 hm
 exact iS hm
theorem cM.Nd{w:World}(h:bB C x a w)(dh:List Operand):cM w (live C.X x.S) (dh.map (aD x)) (dh.map a.eval) :=
 ⟨by simp,fun i h1 h2=>by simp only[getElem_map];exact h.eval _⟩
theorem cM.append{w:World}{E:List D}{vs I:List Value}(h:cM w L ds vs)(h':cM w L E I):cM w L (ds++E) (vs++I) :=
 ⟨by simp[h.1,h'.1],fun i h1 h2=>by
  by_cases hi:i<ds.length
  ·rw[getElem_append_left hi,getElem_append_left (by rw[h.1];exact hi)];exact h.2 i _ _
  rw[getElem_append_right w4,getElem_append_right (by rw[h.1];omega)];have:=h.1;simp only[this];exact h'.2 _ _ _⟩
def called(x:St)(t:Nat)(R:List ag)(post:D->List ag->Prop)(y:St):Prop:=∃r S',post r S'/\y=⟨x.n,(t,r)::x.env,S'++R⟩
theorem Cg {f t:Nat} {args:List D} (ho:o.op = .call {callee:=.value fo,args:=dh,argTypes:=ts}) (hd:o.dst=some t)
  (hf:fo = .func f) (fH:∀args w,(callFunc f args).run P w = .ok (.enter f args) w) (ha:dh.toList.map (aD x)=args) (hp:x.S.Perm (Sf++R)) (hc:VC P G f args Sf post) :
  fh P G x o (aj Sf) (called x t R post):=fun C a w K Q hG h hK=>by
 subst hf ha;have hr:=cM.Nd h dh.toList;have E:(execOp a.eval o).run P w = .ok (.enter f (dh.toList.map a.eval).toArray) w:=by
  unfold execOp;have e:dh.map a.eval=(dh.toList.map a.eval).toArray:=by
   rw[<-Array.toList_map,Array.toArray_toList]
  simp only[ho,resolve,Act.eval,Deferred.ofValue,Sem.run_bind,Sem.run_pure,Result.andThen_ok,invoke,e];simp[fH]
 unfold Oper.wp;rw[E,Oper.upon_enter,hd];refine(h.call hG hc hp hr).mono fun e w' ⟨v,r,S',h1,h2,h3,h4,h5,h6⟩=>?_;subst h1;exact hK _ _ _ ⟨r,S',h2,rfl⟩ (h4.put h3) h5 h6
theorem adN {f t:Nat} {args E:List D} (ho:o.op = .call {callee:=.value fo,args:=dh,argTypes:=ts}) (hd:o.dst=some t)
  (hf:aD x fo = .eK (.func f) E) (fH:∀args w,(callFunc f args).run P w = .ok (.enter f args) w) (ha:dh.toList.map (aD x)++E=args) (hp:x.S.Perm (Sf++R)) (hc:VC P G f args Sf post) :
  fh P G x o (aj Sf) (called x t R post):=fun C a w K Q hG h hK=>by
 subst ha;have hr:=cM.Nd h dh.toList;have fF:=h.eval fo;rw[hf] at fF;generalize hg:a.eval fo=u at fF;cases fF with
 | eK _ _ vs hl ZF =>
  have I:(execOp a.eval o).run P w = .ok (.enter f (dh.toList.map a.eval++vs).toArray) w:=by
   unfold execOp;have e:dh.map a.eval++vs.toArray=(dh.toList.map a.eval++vs).toArray:=by
    rw[<-append_toArray,<-Array.toList_map,Array.toArray_toList]
   simp only[ho,resolve,hg,Deferred.ofValue,Sem.run_bind,Sem.run_pure,Result.andThen_ok,invoke];simp[fH]
  unfold Oper.wp;rw[I,Oper.upon_enter,hd];refine(h.call hG hc hp (hr.append ⟨hl,ZF⟩)).mono fun e w' ⟨v,r,S',h1,h2,h3,h4,h5,h6⟩=>?_;subst h1;exact hK _ _ _ ⟨r,S',h2,rfl⟩ (h4.put h3) h5 h6
theorem vX(hk:S[k]?=some B):S.Perm (B::S.eraseIdx k):=by
 obtain⟨h1,h2⟩:=List.getElem?_eq_some_iff.1 hk;subst h2;clear hk;induction S generalizing k with
 | nil=>simp at h1
 | cons A S ih =>
  cases k with
  | zero=>exact Perm.refl _
  | succ k =>
   have E:k<S.length:=(by simpa using h1)
   rw[eraseIdx_cons_succ];exact((ih E).cons A).trans (Perm.swap _ _ _)
theorem fx(S:List ag):S.Perm ([]++S):=Perm.refl _
theorem nB(hk:S[k]?=some B):S.Perm ([B]++S.eraseIdx k):=vX hk
theorem Kj{k':Nat}{B':ag}(hk:S[k]?=some B)(E:(S.eraseIdx k)[k']?=some B'):S.Perm ([B,B']++(S.eraseIdx k).eraseIdx k'):=(vX hk).trans ((vX E).cons B)
theorem cq.yn{w:World}(h:Own w (live X S) S)(O:∀b,X b->b∉aj S)(hk:S[k]?=some B)(hl:B.cs.length=n*sz)(h1:n<=cap)(h2:cap<=maxLen)(hne:isMap B.e=false:=by rfl) :
  cq w (live X (S.eraseIdx k)) (.list sz B.cs n) (.slice (some ⟨B.b,0,none⟩) n cap):=by
 have hm:=mem_of_getElem? hk;obtain⟨r0,cur,r1,r2,U,I⟩:=h.at_ B hm;rw[lp hne] at r1;have E:(aj (S.eraseIdx k)).Sublist (aj S):=Sublist.map _ (eraseIdx_sublist S k);have hL:¬live X (S.eraseIdx k) B.b:=fun hl=>by
  rcases hl with hl|hl
  ·exact O _ hl (mem_map.2 ⟨B,hm,rfl⟩)
  have hp:(aj S).Perm (B.b::aj (S.eraseIdx k)):=(by have:=(vX hk).map ag.b;simpa[aj] using this)
  have hnd:=hp.nodup_iff.1 h.apart;exact(nodup_cons.1 hnd).1 hl
 refine .list sz B.cs n B.b 0 cap (fun i=>cur.getD i undef) hl h1 h2 r0 hL (fun i hi=>?_) (fun i hi=>?_)
 ·obtain⟨u,hu,_⟩:=I i hi;rw[Nat.zero_add,pc r1 hu];simp[hu]
 obtain⟨u,hu,hq⟩:=I i hi;simp only[Array.getD_eq_getD_getElem?,hu,Option.getD_some];exact hq.mono fun b _ hn=>⟨rfl,fun hl=>hn (hl.imp id fun q=>E.subset q)⟩
theorem bB.Bx{w:World}(h:bB C x a w):∀b,C.X b->b∉aj x.S:=fun b hb=>(h.fr.block b (h.ex b hb).1 (h.ex b hb).2).2
theorem Wk.Da{t:Nat}{cs:List D}(hk:S[k]?=some B)(ht:look t l = .v (.slice (some ⟨B.b,0,none⟩) m cap))(dz:B.cs=cs)(hl:cs.length=m*sz)(h1:m<=cap)(h2:cap<=maxLen)(hne:isMap B.e=false:=by rfl) :
  Wk ⟨n,l,S⟩ ⟨n,(t,.list sz cs m)::l,S.eraseIdx k⟩:=fun C a w h=>by
 subst dz;have hd:=Wk.drop n l S (S.eraseIdx k) (eraseIdx_sublist S k) C a w h;refine⟨hd.defers,hd.size,fun i hi=>?_,hd.own,hd.fr,hd.ex,hd.eI⟩;simp only[eD];by_cases e:t=i
 ·subst e;rw[if_pos rfl];have hv:=h.env t hi;simp only[ht] at hv;rw[hv.lQ];exact cq.yn h.own h.Bx hk hl h1 h2 hne
 rw[if_neg e];exact hd.env i hi
theorem Wk.vj{t:Nat}(ht:look t l = .v (.slice none 0 0)):Wk ⟨n,l,S⟩ ⟨n,(t,.list sz [] 0)::l,S⟩:=fun C a w h=>by
 refine⟨h.defers,h.size,fun i hi=>?_,h.own,h.fr,h.ex,h.eI⟩;simp only[eD];by_cases e:t=i
 ·subst e;rw[if_pos rfl];have hv:=h.env t hi;simp only[ht] at hv;rw[hv.lQ];exact .nil sz
 rw[if_neg e];exact h.env i hi
theorem Wk.aiZ {A:ag} {cs:List D} (hk:S[k]?=some B) (hj:(S.eraseIdx k)[j]?=some A) (hi:A.cs[i]?=some (.v (.slice (some ⟨B.b,0,none⟩) m cap))) (dz:B.cs=cs) (hl:cs.length=m*sz) (h1:m<=cap) (h2:cap<=maxLen)
  (U:A.cs.set i (.list sz cs m)=cs') (hS:(S.eraseIdx k).set j {A with cs:=cs'}=S') (hne:isMap B.e=false:=by rfl):Wk ⟨n,l,S⟩ ⟨n,l,S'⟩:=fun C a w h=>by
 subst dz U hS;have hd:=Wk.drop n l S (S.eraseIdx k) (eraseIdx_sublist S k) C a w h;have Z:=cq.yn h.own h.Bx hk hl h1 h2 hne;have ja:=(List.getElem?_eq_some_iff.1 hj).1;have hjA:=(List.getElem?_eq_some_iff.1 hj).2;have E:aj ((S.eraseIdx k).set j {A with cs:=A.cs.set i (.list sz B.cs m)})=aj (S.eraseIdx k):=by
  unfold aj;rw[map_set];apply ext_getElem bp;intro i q1 q2;rw[getElem_set];split
  ·rename_i e;subst e;simp[hjA]
  rfl
 have I:live C.X ((S.eraseIdx k).set j {A with cs:=A.cs.set i (.list sz B.cs m)})=live C.X (S.eraseIdx k):=(by funext b;simp only[live,E])
 refine⟨hd.defers,hd.size,fun t ht=>?_,⟨fun B' OJ=>?_,?_⟩,?_,hd.ex,hd.eI⟩
 ·simp only[I];exact hd.env t ht
 ·simp only[I];obtain⟨p,hp,iJ⟩:=mem_iff_getElem.1 OJ;rw[length_set] at hp;rw[getElem_set] at iJ;by_cases e:j=p
  ·rw[if_pos e] at iJ;subst iJ;obtain⟨r0,cur,r1,r2,r3,r4⟩:=hd.own.at_ A (mem_of_getElem? hj);refine⟨r0,cur,r1,r2,by simpa using r3,fun q hq=>?_⟩;simp only[length_set] at hq;obtain⟨u,hu,O⟩:=r4 q hq;refine⟨u,hu,?_⟩;rw[getElem_set];split
   ·rename_i he;subst he;have:=(List.getElem?_eq_some_iff.1 hi).2;rw[this] at O;rw[O.lQ];exact Z
   exact O
  rw[if_neg e] at iJ;subst iJ;exact hd.own.at_ _ (getElem_mem hp)
 ·simp only[E];exact hd.own.apart
 simp only[E];exact hd.fr
def UH(x:St)(t:Nat)(e:TypeId)(sz len:Nat)(cs:List D)(S:List ag)(y:St):Prop :=
 ∃b cap,len<=cap/\cap<=maxLen/\y=⟨x.n,(t,.v (.slice (some ⟨b,0,none⟩) len cap))::x.env,⟨b,e,cap*sz,cs⟩::S⟩
theorem bB.grown {w:World} (h:bB C x a w) {t g e:Nat} {row:Option Nat} {cs:List D}
  (hS:S.Sublist x.S) (I:∀k,row=some k->k∈aj x.S/\k∉aj S) (E:w.grownBy w' row) (hg:row=some g\/g=w.heap.size) (aa:g<w'.heap.size)
  (Db:w'.heap[g]?=some (.cells cur e (0,0))) (dg:cur.size=cap*sz) (hl:cs.length<=cap*sz) (hr:∀i (h:i<cs.length),∃u,cur[i]?=some u/\cq w (live C.X x.S) cs[i] u) (hne:isMap e=false:=by rfl) :
  bB C ⟨x.n,(t,.v (.slice (some ⟨g,0,none⟩) m cap))::x.env,⟨g,e,cap*sz,cs⟩::S⟩ (a.put (some t) (.slice (some ⟨g,0,none⟩) m cap)) w'/\mT row.toList w w'/\Fr w (aj x.S) w' (aj (⟨g,e,cap*sz,cs⟩::S)):=by
 have O:(aj S).Sublist (aj x.S):=Sublist.map _ hS;have Z:∀b,live C.X x.S b->b<w.heap.size:=fun b hb=>by
  rcases hb with hb|hb
  ·exact Nat.lt_of_lt_of_le (h.ex b hb).1 h.fr.size
  obtain⟨B,hB,rfl⟩:=mem_map.1 hb;exact(h.own.at_ B hB).1
 have hgS:g∉aj S:=by
  rcases hg with hg|hg
  ·exact(I g hg).2
  intro hm;have:=Z g (.inr (O.subset hm));omega
 have hgX:¬C.X g:=fun hx=>by
  rcases hg with hg|hg
  ·exact h.Bx g hx (I g hg).1
  have:=Z g (.inl hx);omega
 have U:g<w.heap.size->g∈aj x.S:=fun aa=>by
  rcases hg with hg|hg
  ·exact(I g hg).1
  omega
 have H:∀b,b<w.heap.size->¬live C.X x.S b->w'.heap[b]?=w.heap[b]?/\¬live C.X (⟨g,e,cap*sz,cs⟩::S) b:=fun b hb hn=>by
  refine⟨E.block b hb (fun hm=>hn (.inr (I b hm.symm).1)),fun hl=>?_⟩;rcases hl with hl|hl
  ·exact hn (.inl hl)
  simp only[aj,map_cons,mem_cons] at hl;rcases hl with hl|hl
  ·subst hl;exact hn (.inr (U hb))
  exact hn (.inr (O.subset hl))
 have base:bB C ⟨x.n,x.env,⟨g,e,cap*sz,cs⟩::S⟩ a w':=by
  refine⟨h.defers,h.size,fun t ht=>(h.env t ht).mono H,⟨fun B hB=>?_,?_⟩,?_,h.ex,h.eI⟩
  ·rcases mem_cons.1 hB with rfl|hB
   ·refine⟨aa,cur,Db.trans (by rw[lp hne]),dg,hl,fun i hi=>?_⟩;obtain⟨u,hu,hq⟩:=hr i hi;exact⟨u,hu,hq.mono H⟩
   obtain⟨r0,mL,r1,r2,r3,r4⟩:=h.own.at_ B (hS.subset hB);have DX:B.b∈aj S:=mem_map.2 ⟨B,hB,rfl⟩;have hh:=E.block B.b r0 (fun hm=>(I B.b hm.symm).2 DX);refine⟨su r0 hh,mL,hh.trans r1,r2,r3,fun i hi=>?_⟩;obtain⟨u,hu,hq⟩:=r4 i hi;exact⟨u,hu,hq.mono H⟩
  ·show(g::aj S).Nodup;exact nodup_cons.2 ⟨hgS,h.own.apart.sublist O⟩
  refine⟨E.os.trans h.fr.os,E.tape.trans h.fr.tape,E.output.trans h.fr.output,Nat.le_trans h.fr.size E.size,fun b hb hn=>?_⟩;obtain⟨q1,q2⟩:=h.fr.block b hb hn;have jo:=Nat.lt_of_lt_of_le hb h.fr.size;refine⟨(E.block b jo (fun hm=>q2 (I b hm.symm).1)).trans q1,fun hm=>?_⟩;simp only[aj,map_cons,mem_cons] at hm;rcases hm with hm|hm
  ·subst hm;exact q2 (U jo)
  exact q2 (O.subset hm)
 refine⟨base.put (.v _),⟨E.size,fun b hb hn=>E.block b hb (fun hm=>hn (by rw[<-hm];simp))⟩,⟨E.os,E.tape,E.output,E.size,fun b hb hn=>?_⟩⟩;refine⟨E.block b hb (fun hm=>hn (I b hm.symm).1),fun hm=>?_⟩;simp only[aj,map_cons,mem_cons] at hm;rcases hm with hm|hm
 ·subst hm;exact hn (U hb)
 exact hn (O.subset hm)
theorem B3 {s:Operand} {t:Nat} {I:Value} {w:World} (ho:o.op = .call {callee:=.builtin .append,args:=#[s,y],argTypes:=#[t,t]}) (hs:a.eval s=v) (hy:a.eval y=u)
  (E:(Builtin.append_ #[t,t] o.type #[v,u]).run P w = .ok I w'):(execOp a.eval o).run P w = .ok (.value I) w':=by
 unfold execOp;simp[ho,resolve,invoke,builtin,hs,hy,E]
theorem Aj{e:Nat}{z:Value}(hi:(P.info? e).map (fun i=>(i.zero,i.size,i.bytes))=some (some z,sz,bytes)):∃i,P.info? e=some i/\i.zero=some z/\i.size=sz/\i.bytes=bytes:=by
 cases h:P.info? e with
 | none=>simp[h] at hi
 | some i=>simp[h] at hi;exact⟨i,rfl,hi⟩
theorem Ju {s:Operand} {t e:Nat} {z:Value} {cs:List D} (ho:o.op = .call {callee:=.builtin .append,args:=#[s,y],argTypes:=#[t,t]}) (hd:o.dst=some tt)
  (ht:P.underlying t=some (.slice e)) (hi:(P.info? e).map (fun i=>(i.zero,i.size,i.bytes))=some (some z,sz,bytes)) (eM:z.cells.size=sz) (dg:0<sz)
  (hs:aD x s = .v (.slice (some ⟨b,0,none⟩) n cap)) (hk:x.S[k]?=some B) (hb:B.b=b) (he:B.e=e) (asJ:B.size=cap*sz) (hl:B.cs.length=n*sz) (hn:n<=cap) (U:cap<=maxLen)
  (hy:aD x y = .list sz cs m) (jw:∀d∈cs,one d=true) (hm:0<m) (oY:n+m<=maxLen) (I:(n+m)*bytes<=140737488355328) (hne:isMap B.e=false:=by rfl) :
  fh P G x o [b] (UH x tt e sz (n+m) (B.cs++cs) (x.S.eraseIdx k)):=fun C a w K Q hG h hK=>by
 subst hb he;obtain⟨i,lg,gE,qg,qU⟩:=Aj hi;obtain⟨r0,cur,r1,r2,r3,r4⟩:=h.fP hk;rw[lp hne] at r1;have hr:=h.eval y;rw[hy] at hr;generalize hg:a.eval y=u at hr;cases hr with
 | ni=>omega
 | list _ _ _ b' o' aO f lj q1 q2 jo hL hc Z =>
  have fy:w.ownsRow 0 B.e sz (.slice (some ⟨B.b,0,none⟩) n cap) n (cur.toList.take (n*sz)) :=
   ⟨by simp;omega,.inr ⟨B.b,cap,cur,rfl,Nat.zero_le _,r1,hn,U,by omega,rfl⟩⟩
  obtain⟨v',w',oR,h2,h3,_,h5⟩:=run_append_own_at (P:=P) w 0 t o.type B.e i z sz bytes ht lg gE qg qU eM dg _ n _ fy ⟨b',o',none⟩ m aO ((range cs.length).map f) (by simp[lj]) (fun j u hu=>by
    rw[Addr.add_mid];obtain⟨hj,he⟩:=List.getElem?_eq_some_iff.1 hu;simp only[length_map,length_range] at hj;rw[hc j hj,<-he];simp) (fun u hu=>by
    obtain⟨j,hj,rfl⟩:=mem_map.1 hu;have kM:=mem_range.1 hj;exact(Z j kM).Cf (jw _ (getElem_mem kM))) oY I (Nat.zero_le _)
  obtain⟨g,E,rfl,_,aa⟩:=h2.form w4;have h6:(Value.slice (some ⟨B.b,0,none⟩) n cap).ownBlock=some g\/g=w.heap.size:=by
   rcases h5 with h5|h5
   ·exact .inl (by rw[<-h5];rfl)
   right;simpa[Value.ownBlock] using h5
  obtain⟨_,h2⟩:=h2;rcases h2 with ⟨h2,_⟩|⟨g',aO,mL,e1,_,e2,e3,e4,e5,e6⟩
  ·cases h2
  have DY:g=g'/\E=aO:=(by simpa using e1)
  obtain⟨rfl,rfl⟩:=DY;have hlen:(B.cs++cs).length=(n+m)*sz:=(by rw[length_append,hl,lj,Nat.add_mul])
  have OK:(n+m)*sz<=E*sz:=Nat.mul_le_mul_right _ e3;have Db:∀i,i<(n+m)*sz->mL[i]?=(cur.toList.take (n*sz)++(range cs.length).map f)[i]?:=fun i hi=>by
   rw[<-e6,getElem?_take_of_lt hi,Array.getElem?_toList]
  obtain⟨s1,s2,s3⟩:=h.grown (t:=tt) (m:=n+m) (e:=B.e) (sz:=sz) (S:=x.S.eraseIdx k) (cs:=B.cs++cs) (row:=some B.b) (g:=g) (cap:=E) (eraseIdx_sublist _ _) (fun k' rV=>by
    have:B.b=k':=(by simpa using rV)
    subst this;refine⟨mem_map.2 ⟨B,mem_of_getElem? hk,rfl⟩,fun hm=>?_⟩;have hp:(aj x.S).Perm (B.b::aj (x.S.eraseIdx k)):=(by have:=(vX hk).map ag.b;simpa[aj] using this)
    exact(nodup_cons.1 (hp.nodup_iff.1 h.own.apart)).1 hm) h3 h6 aa e2 e5 w4 (fun i hi=>by
    rw[hlen] at hi;rw[Db i hi];by_cases lX:i<n*sz
    ·obtain⟨u,hu,hq⟩:=r4 i w4;refine⟨u,?_,?_⟩
     ·rw[getElem?_append_left iI,getElem?_take_of_lt lX,Array.getElem?_toList,hu]
     rw[getElem_append_left w4];exact hq
    have O:i-n*sz<cs.length:=(by rw[lj];rw[Nat.add_mul] at hi;omega)
    refine⟨f (i-n*sz),?_,?_⟩
    ·rw[getElem?_append_right iI];have:(cur.toList.take (n*sz)).length=n*sz:=(by simp;omega)
     rw[this];simp[O]
    rw[getElem_append_right w4];have:=Z (i-n*sz) O;simp only[hl];exact this) hne
  unfold Oper.wp;rw[B3 (P:=P) ho (h.flat hs) hg oR,Oper.upon_value,hd];exact hK _ _ _ ⟨g,E,e3,e4,rfl⟩ s1 s2 s3
theorem Jg {s:Operand} {t e:Nat} {z:Value} {cs:List D} (ho:o.op = .call {callee:=.builtin .append,args:=#[s,y],argTypes:=#[t,t]}) (hd:o.dst=some tt)
  (ht:P.underlying t=some (.slice e)) (hi:(P.info? e).map (fun i=>(i.zero,i.size,i.bytes))=some (some z,sz,bytes)) (eM:z.cells.size=sz) (dg:0<sz)
  (hs:aD x s = .v (.slice none 0 0)) (hy:aD x y = .list sz cs m) (jw:∀d∈cs,one d=true) (hm:0<m) (Z:m<=maxLen) (I:m*bytes<=140737488355328) (hne:isMap e=false:=by rfl) :
  fh P G x o [] (UH x tt e sz m cs x.S):=fun C a w K Q hG h hK=>by
 obtain⟨i,lg,gE,qg,qU⟩:=Aj hi;have hr:=h.eval y;rw[hy] at hr;generalize hg:a.eval y=u at hr;cases hr with
 | ni=>omega
 | list _ _ _ b' o' aO f lj q1 q2 jo hL hc O =>
  have fy:w.ownsRow 0 e sz (.slice none 0 0) 0 []:=⟨by simp,.inl ⟨rfl,rfl⟩⟩
  obtain⟨v',w',oR,h2,h3,_,h5⟩:=run_append_own_at (P:=P) w 0 t o.type e i z sz bytes ht lg gE qg qU eM dg _ 0 _ fy ⟨b',o',none⟩ m aO ((range cs.length).map f) (by simp[lj]) (fun j u hu=>by
    rw[Addr.add_mid];obtain⟨hj,he⟩:=List.getElem?_eq_some_iff.1 hu;simp only[length_map,length_range] at hj;rw[hc j hj,<-he];simp) (fun u hu=>by
    obtain⟨j,hj,rfl⟩:=mem_map.1 hu;have U:=mem_range.1 hj;exact(O j U).Cf (jw _ (getElem_mem U))) (by rw[Nat.zero_add];exact Z) (by rw[Nat.zero_add];exact I) (Nat.zero_le _)
  simp only[Nat.zero_add,nil_append] at h2;obtain⟨g,E,rfl,_,aa⟩:=h2.form w4;have h6:(none:Option Nat)=some g\/g=w.heap.size:=by
   rcases h5 with h5|h5
   ·simp[Value.ownBlock] at h5
   right;simpa[Value.ownBlock] using h5
  obtain⟨_,h2⟩:=h2;rcases h2 with ⟨h2,_⟩|⟨g',aO,mL,e1,_,e2,e3,e4,e5,e6⟩
  ·cases h2
  have DY:g=g'/\E=aO:=(by simpa using e1)
  obtain⟨rfl,rfl⟩:=DY;have OK:m*sz<=E*sz:=Nat.mul_le_mul_right _ e3;obtain⟨s1,s2,s3⟩:=h.grown (t:=tt) (m:=m) (e:=e) (sz:=sz) (S:=x.S) (cs:=cs) (row:=none) (g:=g) (cap:=E) (Sublist.refl _) (fun k' rV=>by cases rV) h3 h6 aa e2 e5 w4 (fun i hi=>by
    refine⟨f i,?_,O i hi⟩;have:mL[i]?=((range cs.length).map f)[i]?:=(by rw[<-e6,getElem?_take_of_lt w4,Array.getElem?_toList])
    rw[this];simp[hi]) hne
  unfold Oper.wp;rw[B3 (P:=P) ho (h.flat hs) hg oR,Oper.upon_value,hd];exact hK _ _ _ ⟨g,E,e3,e4,rfl⟩ s1 s2 s3
theorem Qx {s:Operand} {t e:Nat} {cs:List D} (ho:o.op = .call {callee:=.builtin .append,args:=#[s,y],argTypes:=#[t,t]})
  (E:∀w,(underlying t).run P w = .ok (.slice e) w) (dg:∀w,(sizeOf e).run P w = .ok sz w) (hs:aD x s = .v (.slice ad n cap)) (hn:n<=cap) (hy:aD x y = .list sz cs 0):bS P G x o .none (.v (.slice ad n cap)):=fun C a w _ h=>by
 refine⟨_,.v _,fun w' _=>?_⟩;have hr:=h.eval y;rw[hy] at hr;generalize hg:a.eval y=u at hr;refine B3 (P:=P) ho (h.flat hs) hg ?_;have I:n+0<=cap:=hn;cases hr with
 | ni _ gL aO=>cases gL<;>cases ad<;>simp[Builtin.append_,E,dg,Builtin.lenOf,Builtin.firstCells,storeCells,loadCells,loadCellsFrom,hn,Nat.not_lt.2 hn]
 | list _ _ _ b' o' aO f lj q1 q2 jo hL hc O=>cases ad<;>simp[Builtin.append_,E,dg,Builtin.lenOf,Builtin.firstCells,storeCells,loadCells,loadCellsFrom,hn,Nat.not_lt.2 hn]
end
section
variable {g t n id:Nat} {E b:Bool} {l':List (Nat×D)} {S':List ag} {c e:Code} {ds:List D} {fn:Func} {L:Nat->Prop} {r1:ResultVar}
def LQ(C:dJ)(Q:Exit->St->Prop):Exit->Act->World->Prop:=fun e a w=>(∃y,bB C y a w/\Q e y)\/(e = .ret/\C.DW a w)
def CD(P:Program)(C:dJ)(c:Code)(x:St)(Q:Exit->St->Prop):Prop:=∀a w,bB C x a w->c.wp P (LQ C Q) a w
def OD(P:Program)(C:dJ)(ops:Array Oper)(l:List Oper)(x:St)(Q:Exit->St->Prop):Prop:=∀a w,bB C x a w->wpList P ops (LQ C Q) l a w
variable {P:Program} {C:dJ} {Q:Exit->St->Prop} {x y:St} {ops:Array Oper} {l:List Oper} {o:Oper}
def bV(ops:Array Oper)(x:St)(o:Oper)(b:Bool):Prop:=∀C a w,bB C x a w->Region.wanted o (yielded ops a.tmps)=b
theorem so(h:o.guard=none):bV ops x o true:=fun C a w _=>by simp[Region.wanted,h]
theorem S8(h:o.guard=some (g,E))(hg:(ops[g]?).bind (·.dst)=some t)(ht:t<x.n)(hb:look t x.env = .v (.bool b)):bV ops x o (b==E):=fun C a w hs=>by
 have hv:=hs.env t ht;rw[hb] at hv;have hv:=hv.lQ;have dg:=hs.size;have:a.tmps[t]?=some (.bool b):=by
  rw[Array.getD_eq_getD_getElem?,Array.getElem?_eq_getElem w4] at hv;rw[Array.getElem?_eq_getElem w4];simpa using hv
 simp only[Region.wanted,h,yielded,hg,Option.bind_some,this];cases b<;>cases E<;>rfl
theorem jV{d:D}{r:List (Nat×D)}:look t ((t,d)::r)=d:=by rw[eD,if_pos rfl]
theorem kP{d d':D}{r:List (Nat×D)}(h:d=d'):look t ((t,d)::r)=d':=by rw[eD,if_pos rfl,h]
theorem j8{i:Nat}{d d':D}{r:List (Nat×D)}(h:Nat.beq i t=false)(k:look t r=d'):look t ((i,d)::r)=d':=by rw[look,h];exact k
theorem cf{v:Value}{x:St}:aD x (.const v) = .v v:=rfl
theorem u4{f:FuncId}{x:St}:aD x (.func f) = .eK (.func f) []:=rfl
theorem xX{x:St}:aD x (.global g) = .v (.pointer (some ⟨g,0,none⟩)):=rfl
theorem vh{d:D}{x:St}(h:Nat.blt t x.n=true)(k:look t x.env=d):aD x (.tmp t)=d:=by simp only[aD,h,k];rfl
theorem lk{l:List (Nat×D)}{d:D}(h:look t l=d:=by (repeat (first|exact jV|(apply j8;focus rfl)|exact look_nil));first|done|fail):look t l=d:=h
theorem ot{d:D}{x:St}(h:Nat.blt t x.n=true:=by exact rfl)(k:look t x.env=d:=by (repeat (first|exact jV|(apply j8;focus rfl)|exact look_nil));first|done|fail):aD x (.tmp t)=d:=vh h k
def oN(l:List (Nat×D)):List (Nat×D)->Prop
 | []=>True
 | (i,d)::r=>look i l=d/\oN l r
theorem oN.look{l:List (Nat×D)}:∀{l':List (Nat×D)},oN l l'->∀t,V.look t l'=V.look t l\/V.look t l' = .bF
 | [],_,t=>.inr rfl
 | (i,d)::r,h,t=>by
  rw[eD];by_cases e:i=t
  ·subst e;rw[if_pos rfl];exact .inl h.1.symm
  rw[if_neg e];exact h.2.look t
theorem Wk.kU{l:List (Nat×D)}{S:List ag}(h:oN l l'):Wk ⟨n,l,S⟩ ⟨n,l',S⟩:=fun C a w hs =>
 ⟨hs.defers,hs.size,fun t ht=>by
  rcases h.look t with e|e
  ·simp only[e];exact hs.env t ht
  simp only[e];exact .bF _,hs.own,hs.fr,hs.ex,hs.eI⟩
theorem Wk.ek{x:St}(hn:x.n=n)(hS:x.S=S')(h:oN x.env l'):Wk x ⟨n,l',S'⟩:=by
 obtain⟨n0,l0,S0⟩:=x;simp only at hn hS h;subst hn hS;exact Wk.kU h
theorem Wk.asS{x:St}(hn:x.n=n)(hS:S'.Sublist x.S)(h:oN x.env l'):Wk x ⟨n,l',S'⟩:=by
 obtain⟨n0,l0,S0⟩:=x;simp only at hn hS h;subst hn;exact(Wk.drop n0 l0 S0 S' hS).trans (Wk.kU h)
theorem vk{ops:Array Oper}{x:St}{o:Oper}(h:o.guard=some (g,E))(hg:(ops[g]?).bind (·.dst)=some t)(ht:Nat.blt t x.n=true)(hb:look t x.env = .v (.bool b))(hw:b=E):bV ops x o true:=by
 have:=S8 h hg (Nat.le_of_ble_eq_true ht) hb;rw[hw] at this;simpa using this
theorem nC{ops:Array Oper}{x:St}{o:Oper}(h:o.guard=some (g,E))(hg:(ops[g]?).bind (·.dst)=some t)(ht:Nat.blt t x.n=true)(hb:look t x.env = .v (.bool b))(hw:b = !E):bV ops x o false:=by
 have:=S8 h hg (Nat.le_of_ble_eq_true ht) hb;rw[hw] at this;cases E<;>simpa using this
theorem KR{ops:Array Oper}{x:St}{o:Oper}{b:Bool}(h:o.guard=some (g,E))(hg:(ops[g]?).bind (·.dst)=some t)(ht:Nat.blt t x.n=true)(hb:look t x.env = .v (.tuple #[])):bV ops x o false:=fun C a w hs=>by
 have hv:=hs.env t (Nat.le_of_ble_eq_true ht);rw[hb] at hv;have hv:=hv.lQ;have dg:=hs.size;have By:t<x.n:=Nat.le_of_ble_eq_true ht;have:a.tmps[t]?=some (.tuple #[]):=by
  rw[Array.getD_eq_getD_getElem?,Array.getElem?_eq_getElem w4] at hv;rw[Array.getElem?_eq_getElem w4];simpa using hv
 simp only[Region.wanted,h,yielded,hg,Option.bind_some,this];cases E<;>rfl
theorem jX(h:Q .normal x):OD P C ops [] x Q:=fun a w hs=>.inl ⟨x,hs,h⟩
theorem OD.gm{W:List Nat}{post:St->Prop}(hw:bV ops x o true)(h:fh P C.G x o W post)(k:∀y,post y->OD P C ops l y Q):OD P C ops (o::l) x Q:=fun a w hs=>by
 unfold wpList;rw[if_pos (hw C a w hs)];exact .inl (h C a w _ _ rfl hs fun y a' w' hp E _ _=>k y hp a' w' E)
theorem pR{kd:Rd}{d:D}(hw:bV ops x o true)(hd:o.dst=some t)(h:bS P C.G x o kd d)(k:OD P C ops l (x.put t d) Q):OD P C ops (o::l) x Q :=
 OD.gm hw (h.gm hd) fun y hy=>by subst hy;exact k
theorem UI(hw:bV ops x o false)(hd:o.dst=some t)(k:OD P C ops l (x.put t (.v (.tuple #[]))) Q):OD P C ops (o::l) x Q:=fun a w hs=>by
 unfold wpList;rw[if_neg (by rw[hw C a w hs];simp),hd];exact k _ _ (hs.put (.v _))
theorem fC(h:Wk x y)(k:OD P C ops l y Q):OD P C ops l x Q:=fun a w hs=>k a w (h C a w hs)
theorem kS(h:Wk x y)(k:CD P C c y Q):CD P C c x Q:=fun a w hs=>k a w (h C a w hs)
theorem CD.mono{Q':Exit->St->Prop}(h:CD P C c x Q)(k:∀e y,Q e y->Q' e y):CD P C c x Q':=fun a w hs =>
 wp_mono (h a w hs) fun e a' w' h=>h.imp (fun ⟨y,h1,h2⟩=>⟨y,h1,k e y h2⟩) id
theorem en(h:Q .normal x):CD P C .skip x Q:=fun a w hs=>wp_skip (.inl ⟨x,hs,h⟩)
theorem rC(h:Q .ret x):CD P C .ret x Q:=fun a w hs=>wp_ret (.inl ⟨x,hs,h⟩)
theorem qq(h:Q (.exit id) x):CD P C (.exit id) x Q:=fun a w hs=>wp_exit (.inl ⟨x,hs,h⟩)
def Dc(P:Program)(C:dJ)(c:Code)(Q:Exit->St->Prop):Exit->St->Prop
 | .normal,y=>CD P C c y Q
 | e,y=>Q e y
theorem cQ{d:Code}(h:CD P C c x (Dc P C d Q)):CD P C (.seq c d) x Q:=fun a w hs =>
 wp_seq (wp_mono (h a w hs) fun e a' w' h=>by
  rcases h with ⟨y,h1,h2⟩|⟨rfl,h⟩
  ·cases e<;>first|exact h2 a' w' h1|exact .inl ⟨y,h1,h2⟩
  exact .inr ⟨rfl,h⟩)
theorem B5{l:List Oper}(h:OD P C l.toArray l x Q):CD P C (.region id l.toArray false) x Q:=fun a w hs=>wp_region_lit (h a w hs)
theorem ahf{c:Operand}{d:Code}(hc:aD x c = .v (.bool b))(ht:b=true->CD P C d x Q)(hf:b=false->CD P C e x Q):CD P C (.cond c d e) x Q:=fun a w hs =>
 wp_cond_split (hs.flat hc) (fun h=>ht h a w hs) (fun h=>hf h a w hs)
theorem afr{c:Operand}{d:Code}(hc:aD x c = .v (.bool b))(hb:b=true)(ht:CD P C d x Q):CD P C (.cond c d e) x Q:=fun a w hs =>
 wp_cond_true (by rw[hs.flat hc,hb]) (ht a w hs)
theorem afs{c:Operand}{d:Code}(hc:aD x c = .v (.bool b))(hb:b=false)(hf:CD P C e x Q):CD P C (.cond c d e) x Q:=fun a w hs =>
 wp_cond_false (by rw[hs.flat hc,hb]) (hf a w hs)
def OL(Inv:St->Prop)(Q:Exit->St->Prop):Exit->St->Prop
 | .normal,y=>∃z,Wk y z/\Inv z
 | e,y=>Q e y
theorem sG{d:Code}(E:St->Prop)(h1:CD P C c x (OL E Q))(h2:∀z,E z->CD P C d z Q):CD P C (.seq c d) x Q :=
 cQ (CD.mono h1 fun e y h=>by cases e<;>first|(obtain⟨z,hw,hz⟩:=h;exact kS hw (h2 z hz))|exact h)
def Cr(id:Nat)(Q:Exit->St->Prop):Exit->St->Prop
 | .exit uM,y=>bif Nat.beq uM id then Q .normal y else Q (.exit uM) y
 | e,y=>Q e y
theorem kp(h:CD P C c x (Cr id Q)):CD P C (.block id c) x Q:=fun a w hs =>
 wp_block (wp_mono (h a w hs) fun e a' w' h=>by
  rcases h with ⟨y,h1,h2⟩|⟨rfl,h⟩
  case inr=>exact .inr ⟨rfl,h⟩
  cases e with
  | exit uM =>
   simp only[Cr] at h2;simp only[Exit.inBlock];by_cases he:uM=id
   ·subst he;rw[if_pos rfl];simp at h2;exact .inl ⟨y,h1,h2⟩
   rw[if_neg he];have:Nat.beq uM id=false:=by
    cases h:Nat.beq uM id with
    | false=>rfl
    | true=>exact absurd (Nat.eq_of_beq_eq_true h) he
   rw[this] at h2;exact .inl ⟨y,h1,h2⟩
  | _=>exact .inl ⟨y,h1,h2⟩)
theorem least(p:Nat->Prop)(h:∃n,p n):∃n,p n/\∀m,p m->n<=m:=by
 obtain⟨n,hn⟩:=h;induction n using Nat.strongRecOn with
 | _ n ih =>
  by_cases hq:∃m,m<n/\p m
  ·obtain⟨m,hm,hp⟩:=hq;exact ih m hm hp
  exact⟨n,hn,fun m hm=>Nat.le_of_not_lt fun aa=>hq ⟨m,aa,hm⟩⟩
def CQ{ι:Type}(I:ι->St->Prop)(μ:ι->Nat)(i:ι)(Q:Exit->St->Prop):Exit->St->Prop
 | .normal,y=>∃j z,μ j < μ i/\Wk y z/\I j z
 | e,y=>Q e y
open Classical in
theorem KS{ι:Type}(I:ι->St->Prop)(μ:ι->Nat)(i:ι)(h0:I i x)(round:∀i y,I i y->CD P C c y (CQ I μ i Q)):CD P C (.loop c) x Q:=fun a w hs=>by
 let p:Act->World->Nat->Prop:=fun a w n=>∃i y,μ i=n/\I i y/\bB C y a w
 let m:Act->World->Nat:=fun a w=>if h:∃n,p a w n then Classical.choose (least _ h) else 0
 refine wp_loop (fun a w=>∃n,p a w n) m ⟨_,i,x,rfl,h0,hs⟩ fun a w O=>?_;have hm:m a w=Classical.choose (least _ O):=dif_pos O;obtain⟨⟨i,y,h1,h2,h3⟩,_⟩:=Classical.choose_spec (least _ O);rw[<-hm] at h1;refine wp_mono (round i y h2 a w h3) fun e a' w' h=>?_;rcases h with ⟨z,q1,q2⟩|⟨rfl,h⟩
 case inr=>exact .inr ⟨rfl,h⟩
 cases e with
 | normal =>
  obtain⟨j,z',r1,r2,Z⟩:=q2;have hp:p a' w' (μ j):=⟨j,z',rfl,Z,r2 C a' w' q1⟩
  have E:∃n,p a' w' n:=⟨_,hp⟩
  have U:m a' w'=Classical.choose (least _ E):=dif_pos E;refine⟨E,?_⟩;have:=(Classical.choose_spec (least _ E)).2 _ hp;rw[U];omega
 | _=>exact .inl ⟨z,q1,q2⟩
def Nf(tmps:Array Value):ResultVar->Sem Value
 | .tmp t=>pure (tmps.getD t undef)
 | .cell a t=>do loadVar t (<-asAddr (tmps.getD a undef))
theorem Jv(fn:Func)(tmps:Array Value):results fn tmps=(do let vs <-fn.results.mapM (Nf tmps);pure (if h:vs.size=1 then vs[0] else .tuple vs)):=rfl
def uO(P:Program)(y:St)(rv:ResultVar)(d:D):Prop :=
 ∀C a w,bB C y a w->∃v,cq w (live C.X y.S) d v/\(Nf a.tmps rv).run P w = .ok v w
theorem Ak{d:D}(ht:t<y.n)(hd:look t y.env=d):uO P y (.tmp t) d:=fun C a w h=>⟨_,hd ▸ h.env t ht,rfl⟩
theorem tQ{c k b:Nat}{B:ag}(hc:c<y.n)(hd:look c y.env = .v (.pointer (some ⟨b,0,none⟩)))(hk:y.S[k]?=some B)(hb:B.b=b)(ha:∀w,(isAgg t).run P w = .ok true w)(hn:∀w,(sizeOf t).run P w = .ok n w)(dz:B.cs=ds)(hl:ds.length=n)(hne:isMap B.e=false:=by rfl):uO P y (.cell c t) (.agg ds):=fun C a w h=>by
 subst hb dz;have he:=h.env c hc;rw[hd] at he;obtain⟨_,cur,h1,h2,h3,h4⟩:=h.fP hk;rw[lp hne] at h1;refine⟨.agg ((range n).map fun j=>cur.getD j undef).toArray,.agg _ _ (by simp[hl]) (fun i q1 q2=>?_),?_⟩
 ·obtain⟨u,hu,hr⟩:=h4 i q1;simp only[getElem_map,getElem_range,Array.getD_eq_getD_getElem?,hu,Option.getD_some];exact hr
 simp only[Nf,he.lQ,asAddr,Sem.run_bind,Sem.run_pure,Result.andThen_ok];have:=JJ (P:=P) (t:=t) (w:=w) (b:=B.b) (o':=0) (vs:=(range n).map fun j=>cur.getD j undef) ha hn bp (fun j hj=>by
  simp only[length_map,length_range] at hj;obtain⟨u,hu,_⟩:=h4 j w4;simp only[getElem_map,getElem_range,Array.getD_eq_getD_getElem?,hu,Option.getD_some,Nat.zero_add];exact pc h1 hu)
 simpa[Instr.loadAt,Instr.sureAddr] using this
def rW(P:Program)(fn:Func)(y:St)(r:D):Prop:=∀C a w,bB C y a w->∃v,cq w (live C.X y.S) r v/\(results fn a.tmps).run P w = .ok v w
theorem rp(hr:fn.results = #[]):rW P fn y (.dB []):=fun C a w h =>
 ⟨.tuple #[],.dB [] [] rfl (fun i h1 _=>by simp at h1),by unfold results;simp[hr]⟩
theorem UJ{rv:ResultVar}{d:D}(hr:fn.results = #[rv])(h:uO P y rv d):rW P fn y d:=fun C a w hs=>by
 obtain⟨v,h1,h2⟩:=h C a w hs;refine⟨v,h1,?_⟩;rw[Jv,hr];simp[h2]
theorem UK{w:World}{vs:List Value}(h:cM w L ds vs):cq w L (.dB ds) (.tuple vs.toArray):=.dB ds vs h.1 h.2
theorem cM.cons{w:World}{d:D}{v:Value}{vs:List Value}(h:cq w L d v)(hs:cM w L ds vs):cM w L (d::ds) (v::vs) :=
 ⟨by simp[hs.1],fun i h1 h2=>by
  cases i with
  | zero=>exact h
  | succ i=>exact hs.2 i _ _⟩
theorem cM.nil(w:World)(L:Nat->Prop):cM w L [] []:=⟨rfl,fun i h=>by simp at h⟩
theorem KT{E:ResultVar}{d1 d2:D}(hr:fn.results = #[r1,E])(h1:uO P y r1 d1)(h2:uO P y E d2):rW P fn y (.dB [d1,d2]):=fun C a w hs=>by
 obtain⟨v1,a1,b1⟩:=h1 C a w hs;obtain⟨v2,a2,b2⟩:=h2 C a w hs;refine⟨_,UK (.cons a1 (.cons a2 (.nil _ _))),?_⟩;rw[Jv,hr];simp[b1,b2]
theorem adO{E I:ResultVar}{d1 d2 O:D}(hr:fn.results = #[r1,E,I])(h1:uO P y r1 d1)(h2:uO P y E d2)(h3:uO P y I O):rW P fn y (.dB [d1,d2,O]):=fun C a w hs=>by
 obtain⟨v1,a1,b1⟩:=h1 C a w hs;obtain⟨v2,a2,b2⟩:=h2 C a w hs;obtain⟨v3,a3,b3⟩:=h3 C a w hs;refine⟨_,UK (.cons a1 (.cons a2 (.cons a3 (.nil _ _)))),?_⟩;rw[Jv,hr];simp[b1,b2,b3]
def Body(P:Program)(fn:Func)(post:D->List ag->Prop)(e:Exit)(y:St):Prop :=
 (e = .normal\/e = .ret)/\∃r S',S'.Sublist y.S/\rW P fn y r/\post r S'
def ue:Nat->List D->List (Nat×D)
 | _,[]=>[]
 | i,d::r=>(i,d)::ue (i+1) r
theorem Fi:∀(ds:List D) (i t:Nat),look t (ue i ds)=if i<=t then ds.getD (t-i) .bF else .bF
 | [],i,t=>by simp[ue,look]
 | d::r,i,t=>by
  rw[ue,eD,Fi r (i+1) t];by_cases h:i=t
  ·subst h;simp
  rw[if_neg h];by_cases h2:i<=t
  ·rw[if_pos h2,if_pos w4,show t-i=(t-(i+1))+1 from by omega];simp
  rw[if_neg h2,if_neg w4]
theorem bn {G:List (Nat×List Value)} {f:FuncId} {args:List D} {S:List ag} {post:D->List ag->Prop} (hf:P.funcs[f]?=some fn) (hb:fn.body=some c) (hn:fn.ntmps=n) (hl:args.length<=n)
  (h:∀X w0 S0,CD P ⟨X,w0,S0,G,[],fun _ _=>False⟩ c ⟨n,ue 0 args,S⟩ (Body P fn post)):VC P G f args S post:=fun X w vs hp=>by
 have Z:vs.length=args.length:=hp.args.1;let C:dJ:=⟨X,w,aj S,G,[],fun _ _=>False⟩
 have I:bB C ⟨n,ue 0 args,S⟩ {tmps:=vs.toArray++Array.replicate (fn.ntmps-vs.toArray.size) undef,defers:=[]} w:=by
  refine⟨rfl,by simp[hn];omega,fun t ht=>?_,hp.own,Fr.refl _ _,hp.ex,hp.eI⟩;simp only[Fi,Nat.zero_le,if_true,Nat.sub_zero];by_cases aa:t<args.length
  ·have e1:args.getD t .bF=args[t]:=(by simp[getD,aa])
   have e2:(vs.toArray++Array.replicate (fn.ntmps-vs.toArray.size) undef).getD t undef=vs[t]'w4:=by
    rw[Array.getD_eq_getD_getElem?,Array.getElem?_append_left iI];simp[show t<vs.length by omega]
   rw[e1,e2];exact hp.args.2 t aa w4
  have e1:args.getD t .bF = .bF:=(by simp[getD,getElem?_eq_none (show args.length<=t by omega)])
  rw[e1];exact .bF _
 refine calls_of_wp hf hb (wp_mono (h _ _ _ _ _ I) fun e a w' h=>?_);rcases h with ⟨y,h1,h2,r,S',h3,h4,h5⟩|⟨_,h⟩
 case inr=>exact h.elim
 obtain⟨v,q1,q2⟩:=h4 C a w' h1;have E:(aj S').Sublist (aj y.S):=Sublist.map _ h3;have key:a.defers=[]/\∃v,(results fn a.tmps).run P w' = .ok v w'/\∃U r S',Ending.returned v = .returned U/\post r S'/\Own w' (live X S') S'/\cq w' (live X S') r U/\Fr w (aj S) w' (aj S') :=
  ⟨h1.defers,v,q2,v,r,S',rfl,h5,h1.own.sub h3,q1.mono fun b _ hn=>⟨rfl,fun hl=>hn (hl.imp id fun q=>E.subset q)⟩,
   ⟨h1.fr.os,h1.fr.tape,h1.fr.output,h1.fr.size,fun b O hn=>⟨(h1.fr.block b O hn).1,fun q=>(h1.fr.block b O hn).2 (E.subset q)⟩⟩⟩
 rcases h2 with rfl|rfl<;>exact key
end
section
variable {fuel i t:Nat} {ld:Array Bool}
def kE(w1:World)(S1 T:List Nat)(w:World):Prop:=(∀b,b<w1.heap.size->b∉S1->w.heap[b]?=w1.heap[b]?)/\∀b∈T,w.heap[b]?=w1.heap[b]?
def AD(P:Program)(C:dJ)(ops:Array Oper)(S1 T:List Nat)(fuel:Nat)(ld:Array Bool)(x:St)(Q:Exit->St->Prop):Prop :=
 ∀w1 a w,bB C x a w->(∀b∈T,b∈S1)->(∀b∈S1,b<w1.heap.size)->Fr w1 S1 w (aj x.S)->kE w1 S1 T w->wpAnyH P .any ops (LQ C Q) (kE w1 S1 T) fuel ld a w
def dW(P:Program)(C:dJ)(ops:Array Oper)(S1 T:List Nat)(fuel:Nat)(ld:Array Bool)(x:St)(Q:Exit->St->Prop):Prop :=
 ∀a w,bB C x a w->aj x.S=S1->(∀b∈T,b∈S1)->wpAnyH P .any ops (LQ C Q) (kE w S1 T) fuel ld a w
def NP(Q:Exit->St->Prop):Prop:=∀c y t,Q (.panic c) y->Q (.panic c) (y.put t .bF)
variable {P:Program} {C:dJ} {Q:Exit->St->Prop} {x y:St} {ops:Array Oper} {l:List Oper} {o:Oper} {S1 T:List Nat}
theorem NP.body{fn:Func}{post:D->List ag->Prop}:NP (Body P fn post):=fun E y t hq=>by rcases hq.1 with h|h<;>cases h
def Tl(P:Program)(C:dJ)(ops:Array Oper)(l:List Oper)(Q:Exit->St->Prop):Exit->St->Prop
 | .normal,y=>OD P C ops l y Q
 | e,y=>Q e y
theorem kE.refl(E:World)(S1 T:List Nat):kE E S1 T E:=⟨fun _ _ _=>rfl,fun _ _=>rfl⟩
theorem dW.later(hS:aj x.S=S1)(h:AD P C ops S1 T fuel ld x Q):dW P C ops S1 T fuel ld x Q:=fun a w hs _ hT =>
 h w a w hs hT (fun b hb=>by
  rw[<-hS] at hb;obtain⟨B,hB,rfl⟩:=mem_map.1 hb;exact(hs.own.at_ B hB).1) (hS ▸ Fr.refl _ _) (kE.refl _ _ _)
def Safe(x:St)(T:List Nat):Rd->Prop
 | .none=>True
 | .kL=>True
 | .fP k=>∃B,x.S[k]?=some B/\B.b∈T
theorem AL(h:NP Q)(d:Option Nat)(v:Value):∀c a w,LQ C Q (.panic c) (a.put d v) w->LQ C Q (.panic c) a w:=fun c a w hq=>by
 rcases hq with ⟨y,h1,h2⟩|⟨h2,_⟩
 ·cases d with
  | none=>exact .inl ⟨y,h1,h2⟩
  | some t =>
   refine .inl ⟨y.put t .bF,⟨h1.defers,by have E:=h1.size;simp only[Act.put,Array.size_setIfInBounds] at E;exact E,fun q hq=>?_,h1.own,h1.fr,h1.ex,h1.eI⟩,h c y t h2⟩;have h3:=h1.env q hq;simp only[St.put,eD];by_cases e:t=q
   ·rw[if_pos e];exact .bF _
   rw[if_neg e];have:(a.put (some t) v).tmps.getD q undef=a.tmps.getD q undef:=(by simp[Act.put,Array.getD_eq_getD_getElem?,Array.getElem?_setIfInBounds,e])
   rw[this] at h3;exact h3
 cases h2
theorem dW.take {k:Rd} {d:D} (hi:ops[i]?=some o) (hs:Region.noSelect ops=true) (hf:Region.free .any ops ld i=true) (hr:(Region.ready .any ops ld).contains i=true) (hp:NP Q)
  (hw:bV ops x o true) (hd:o.dst=some t) (h:bS P C.G x o k d) (hk:Safe x T k) (K:dW P C ops S1 T fuel (ld.setIfInBounds i true) (x.put t d) Q):dW P C ops S1 T (fuel+1) ld x Q:=fun a w E hS hT=>by
 obtain⟨v,h1,h2⟩:=h C a w rfl E;refine wpAnyH_take hi hs hf hr (AL hp _ v) (.inl ⟨hw C a w E,fun w' I=>h2 w' ?_⟩) (kE.refl _ _ _) ?_
 ·cases k with
  | none=>trivial
  | kL=>exact fun b hb hn=>I.1 b hb (fun hm=>hn (.inr (hS ▸ hm)))
  | fP k =>
   obtain⟨B,hB,hm⟩:=hk;intro B' O;rw[hB] at O;obtain rfl:=Option.some.inj O;exact I.2 _ hm
 rw[hd];exact K _ _ (E.put h1) hS hT
theorem dW.aft (hi:ops[i]?=some o) (hs:Region.noSelect ops=true) (hf:Region.free .any ops ld i=true) (hr:(Region.ready .any ops ld).contains i=true) (hp:NP Q)
  (hw:bV ops x o false) (hd:o.dst=some t) (K:dW P C ops S1 T fuel (ld.setIfInBounds i true) (x.put t (.v (.tuple #[]))) Q):dW P C ops S1 T (fuel+1) ld x Q:=fun a w E hS hT=>by
 refine wpAnyH_take (v:=undef) hi hs hf hr (AL hp _ _) (.inr ⟨hw C a w E,rfl⟩) (kE.refl _ _ _) ?_;rw[hd];exact K _ _ (E.put (.v _)) hS hT
theorem AD.take {k:Rd} {d:D} (hi:ops[i]?=some o) (hs:Region.noSelect ops=true) (hf:Region.free .any ops ld i=true) (hr:(Region.ready .any ops ld).contains i=true) (hp:NP Q)
  (hw:bV ops x o true) (hd:o.dst=some t) (h:bS P C.G x o k d) (hk:Safe x T k) (qV:k≠.kL) (K:AD P C ops S1 T fuel (ld.setIfInBounds i true) (x.put t d) Q):AD P C ops S1 T (fuel+1) ld x Q:=fun Z a w E hT aa O fX=>by
 obtain⟨v,h1,h2⟩:=h C a w rfl E;refine wpAnyH_take hi hs hf hr (AL hp _ v) (.inl ⟨hw C a w E,fun w' U=>h2 w' ?_⟩) fX ?_
 ·cases k with
  | none=>trivial
  | kL=>exact absurd rfl qV
  | fP k =>
   obtain⟨B,hB,hm⟩:=hk;intro B' I;rw[hB] at I;obtain rfl:=Option.some.inj I;exact(U.2 _ hm).trans (fX.2 _ hm).symm
 rw[hd];exact K _ _ _ (E.put h1) hT aa O fX
theorem acj (hi:ops[i]?=some o) (hs:Region.noSelect ops=true) (hf:Region.free .any ops ld i=true) (hr:(Region.ready .any ops ld).contains i=true) (hp:NP Q)
  (hw:bV ops x o false) (hd:o.dst=some t) (K:AD P C ops S1 T fuel (ld.setIfInBounds i true) (x.put t (.v (.tuple #[]))) Q):AD P C ops S1 T (fuel+1) ld x Q:=fun O a w E hT aa I fX=>by
 refine wpAnyH_take (v:=undef) hi hs hf hr (AL hp _ _) (.inr ⟨hw C a w E,rfl⟩) fX ?_;rw[hd];exact K _ _ _ (E.put (.v _)) hT aa I fX
def gQ(P:Program)(C:dJ)(ops:Array Oper)(S1 T:List Nat)(fuel:Nat)(ld:Array Bool)(x:St)(Q:Exit->St->Prop)(i:Nat):Prop :=
 ∀w1 a w,bB C x a w->(∀b∈T,b∈S1)->(∀b∈S1,b<w1.heap.size)->Fr w1 S1 w (aj x.S)->kE w1 S1 T w ->
  wpOp P ops (LQ C Q) i (fun a' w'=>kE w1 S1 T w'/\wpAnyH P .any ops (LQ C Q) (kE w1 S1 T) fuel (ld.setIfInBounds i true) a' w') a w
theorem AD.all{I:List Nat}(hr:Region.ready .any ops ld=I)(hne:I≠[])(h:∀i∈I,gQ P C ops S1 T fuel ld x Q i):AD P C ops S1 T (fuel+1) ld x Q:=fun U a w E hT aa O fX =>
 wpAnyH_all hr hne fun i hi=>h i hi U a w E hT aa O fX
theorem bH(hr:Region.ready .any ops ld=[i])(h:gQ P C ops S1 T fuel ld x Q i):AD P C ops S1 T (fuel+1) ld x Q :=
 AD.all hr bp fun j hj=>by
  have:j=i:=(by simpa using hj)
  subst this;exact h
theorem lK{j:Nat}(hr:Region.ready .any ops ld=[i,j])(h:gQ P C ops S1 T fuel ld x Q i)(h':gQ P C ops S1 T fuel ld x Q j):AD P C ops S1 T (fuel+1) ld x Q :=
 AD.all hr bp fun k hk=>by
  simp only[mem_cons,not_mem_nil,or_false] at hk;rcases hk with rfl|rfl
  ·exact h
  exact h'
theorem Ga(hr:Region.ready .any ops ld=[])(h:Q .normal x):AD P C ops S1 T fuel ld x Q:=fun O a w E hT aa I fX=>wpAnyH_done hr (.inl ⟨x,E,h⟩) _
theorem gQ.gm {W:List Nat} {post:St->Prop} (hi:ops[i]?=some o) (hw:bV ops x o true) (h:fh P C.G x o W post) (hW:∀C a w,bB C x a w->∀b∈T,b∉W) (hWx:∀b∈W,b∈aj x.S)
  (k:∀y,post y->AD P C ops S1 T fuel (ld.setIfInBounds i true) y Q):gQ P C ops S1 T fuel ld x Q i:=fun Z a w I hT aa E fX=>by
 unfold wpOp;simp only[hi,hw C a w I,if_true];refine .inl (h C a w _ _ rfl I fun y a' w' hp nu hc hf=>?_);have O:Fr Z S1 w' (aj y.S):=⟨hf.os.trans E.os,hf.tape.trans E.tape,hf.output.trans E.output,Nat.le_trans E.size hf.size,fun b hb hn=>by
  obtain⟨q1,q2⟩:=E.block b hb hn;obtain⟨q3,q4⟩:=hf.block b (Nat.lt_of_lt_of_le hb E.size) q2;exact⟨q3.trans q1,q4⟩⟩
 have U:kE Z S1 T w':=⟨fun b hb hn=>(O.block b hb hn).1,fun b hb=>by
  have gw:=Nat.lt_of_lt_of_le (aa b (hT b hb)) E.size;exact(hc.2 b gw (hW C a w I b hb)).trans (fX.2 b hb)⟩
 exact⟨U,k y hp Z a' w' nu hT aa O U⟩
theorem QH{kd:Rd}{d:D}(hi:ops[i]?=some o)(hw:bV ops x o true)(hd:o.dst=some t)(h:bS P C.G x o kd d)(k:AD P C ops S1 T fuel (ld.setIfInBounds i true) (x.put t d) Q):gQ P C ops S1 T fuel ld x Q i :=
 gQ.gm hi hw (h.gm hd) (fun _ _ _ _ b _ hb=>by simp at hb) (fun b hb=>by simp at hb) fun y hy=>by subst hy;exact k
theorem ql(hi:ops[i]?=some o)(hw:bV ops x o false)(hd:o.dst=some t)(k:AD P C ops S1 T fuel (ld.setIfInBounds i true) (x.put t (.v (.tuple #[]))) Q):gQ P C ops S1 T fuel ld x Q i:=fun O a w E hT aa I fX=>by
 unfold wpOp;simp only[hi,hw C a w E,hd];exact⟨fX,k O _ w (E.put (.v _)) hT aa I fX⟩
theorem Mt(h:Wk x y)(hb:aj y.S=aj x.S)(k:AD P C ops S1 T fuel ld y Q):AD P C ops S1 T fuel ld x Q:=fun O a w E hT aa I fX=>k O a w (h C a w E) hT aa (hb ▸ I) fX
theorem FO(h:Wk x y)(hb:∀b∈aj y.S,b∈aj x.S)(k:AD P C ops S1 T fuel ld y Q):AD P C ops S1 T fuel ld x Q:=fun O a w I hT aa E fX =>
 k O a w (h C a w I) hT aa ⟨E.os,E.tape,E.output,E.size,fun b h1 h2=>⟨(E.block b h1 h2).1,fun h3=>(E.block b h1 h2).2 (hb b h3)⟩⟩ fX
theorem KU{id:Nat}{l:List Oper}(T:List Nat)(hm:P.follows .mixedOrders=true)(hT:∀b∈T,b∈aj x.S)(h:dW P C l.toArray (aj x.S) T l.toArray.size (Array.replicate l.toArray.size false) x Q):CD P C (.region id l.toArray true) x Q:=fun a w hs =>
 wp_region_held (S:=kE {w with drawn:=w.drawn+1} (aj x.S) T) hm (h a _ ⟨hs.defers,hs.size,fun t ht=>(hs.env t ht).mono fun b _ hn=>⟨rfl,hn⟩,⟨fun B hB=>by
  obtain⟨r0,cur,r1,r2,E,I⟩:=hs.own.at_ B hB;exact⟨r0,cur,r1,r2,E,fun i hi=>by
   obtain⟨u,hu,hq⟩:=I i hi;exact⟨u,hu,hq.mono fun b _ hn=>⟨rfl,hn⟩⟩⟩,hs.own.apart⟩,⟨hs.fr.os,hs.fr.tape,hs.fr.output,hs.fr.size,hs.fr.block⟩,hs.ex,hs.eI⟩ rfl hT)
end
section
variable {P:Program}
variable {t:TypeId} {k:IntKind} {a b:Int} {us:List Value}
theorem KV{op:BinOp}{r:Int}(h:(op = .add/\k.wrap (a+b)=r)\/(op = .sub/\k.wrap (a-b)=r)\/(op = .mul/\k.wrap (a*b)=r)):lO P op t (.int k a) (.int k b) (.int k r):=fun y z w=>by
 rcases h with ⟨rfl,h⟩|⟨rfl,h⟩|⟨rfl,h⟩<;>simp[eqGuard,binOp,Op.intArith,h]
theorem lI{r:Int}(h:k.wrap (a+b)=r):lO P .add t (.int k a) (.int k b) (.int k r):=KV (.inl ⟨rfl,h⟩)
theorem iL{r:Int}(h:k.wrap (a-b)=r):lO P .sub t (.int k a) (.int k b) (.int k r):=KV (.inr (.inl ⟨rfl,h⟩))
theorem KW{r:Int}(h:k.wrap (a*b)=r):lO P .mul t (.int k a) (.int k b) (.int k r):=KV (.inr (.inr ⟨rfl,h⟩))
theorem UL:lO P .lss t (.int k a) (.int k b) (.bool (decide (a<b))):=fun y z w=>by simp[eqGuard,binOp,Op.intCmp]
theorem UM:lO P .leq t (.int k a) (.int k b) (.bool (decide (a<=b))):=fun y z w=>by simp[eqGuard,binOp,Op.intCmp]
theorem UN:lO P .gtr t (.int k a) (.int k b) (.bool (decide (a>b))):=fun y z w=>by simp[eqGuard,binOp,Op.intCmp]
theorem UO:lO P .geq t (.int k a) (.int k b) (.bool (decide (a>=b))):=fun y z w=>by simp[eqGuard,binOp,Op.intCmp]
theorem UP:lO P .eql t (.int k a) (.int k b) (.bool (a==b)):=fun y z w=>by simp[eqGuard,binOp,Op.intCmp]
theorem UQ:lO P .neq t (.int k a) (.int k b) (.bool (a != b)):=fun y z w=>by simp[eqGuard,binOp,Op.intCmp]
theorem ahg{r:Int}(hb:b≠0)(h:k.wrap (a.tdiv b)=r):lO P .quo t (.int k a) (.int k b) (.int k r):=fun y z w=>by simp[eqGuard,binOp,Op.intDiv,hb,h]
theorem KX(hb:b≠0):lO P .rem t (.int k a) (.int k b) (.int k (a.tmod b)):=fun y z w=>by simp[eqGuard,binOp,Op.intDiv,hb]
theorem Ta{a b:ByteArray}:lO P .eql t (.string a) (.string b) (.bool (a.toList==b.toList)):=fun y z w=>by simp[eqGuard,binOp,Op.stringOp]
theorem Tb{a b:ByteArray}:lO P .neq t (.string a) (.string b) (.bool (!(a.toList==b.toList))):=fun y z w=>by simp[eqGuard,binOp,Op.stringOp]
theorem KY{a b:ByteArray}(h:a.size+b.size<=9223372036854775807):lO P .add t (.string a) (.string b) (.string (a++b)):=fun y z w=>by
 have:¬(((a.size+b.size:Nat):Int)>IntKind.i64.max):=by
  have:IntKind.i64.max=9223372036854775807:=rfl;omega
 simp only[eqGuard,binOp,Op.stringOp,Sem.run_bind];simp only[this,if_false];simp
theorem FK{a b:Bool}(E:P.underlying t=some .bool):lO P .eql t (.bool a) (.bool b) (.bool (a==b)):=fun y z w=>by
 have:binOp .eql t (.bool a) (.bool b)=(do pure (.bool (<-Op.equal t (.bool a) (.bool b)))):=rfl;simp only[eqGuard,this,Sem.run_bind];simp[run_equal_bool w t a b E]
theorem Tc{a b:Bool}(E:P.underlying t=some .bool):lO P .neq t (.bool a) (.bool b) (.bool (!(a==b))):=fun y z w=>by
 have:binOp .neq t (.bool a) (.bool b)=(do pure (.bool (!(<-Op.equal t (.bool a) (.bool b))))):=rfl;simp only[eqGuard,this,Sem.run_bind];simp[run_equal_bool w t a b E]
theorem cq.WX{w:World}{L:Nat->Prop}{v:Value}(h:cq w L (.agg (us.map .v)) v):v = .agg us.toArray:=by
 cases h with
 | agg _ vs hl hr =>
  congr 1;congr 1;refine ext_getElem yB fun i h1 h2=>?_;have:=hr i (by simpa using h2) h1;simp only[getElem_map] at this;exact this.lQ
section
variable {G:List (Nat×List Value)} {x:St} {o:Oper}
theorem adP {t':TypeId} {y z:Operand} {OM:List Value} {r:Bool} (ho:o.op = .binOp .neq t y z t') (hy:aD x y = .agg (us.map .v)) (hz:aD x z = .agg (OM.map .v)) (hg:P.eqGuardType P.depth t=false)
  (hE:∀w,(Op.equalIn 10000 t (.agg us.toArray) (.agg OM.toArray)).run P w = .ok r w):bS P G x o .none (.v (.bool !r)):=fun C a w _ h=>by
 have h1:=h.eval y;have h2:=h.eval z;rw[hy] at h1;rw[hz] at h2;refine⟨_,.v _,fun w' _=>?_⟩;unfold execOp;simp only[ho,h1.WX,h2.WX,Sem.run_bind,run_eqGuard_agg _ _ _ _ _ _ _ hg,Result.andThen_ok,run_neq_struct,hE,Sem.run_pure]
def wK(b:UInt8):D:=.v (.int .u8 (b.toNat:Int))
theorem abN{s e:TypeId}{y:Operand}{bs:List UInt8}{n:Nat}(ho:o.op = .convert s t y)(hy:aD x y = .list 1 (bs.map wK) n)(hs:P.underlying s=some (.slice e))(he:P.underlying e=some (.int .u8))(ht:P.underlying t=some .string) :
  bS P G x o .kL (.v (.string ⟨bs.toArray⟩)):=fun C a w _ h=>by
 have hr:=h.eval y;rw[hy] at hr;generalize hg:a.eval y=u at hr;generalize dz:bs.map wK=cs at hr;cases hr with
 | ni _ ad cap =>
  have:bs=[]:=(by simpa using dz)
  subst this;refine⟨_,.v _,fun w' _=>?_⟩;unfold execOp;simp only[ho,hg,Sem.run_bind,run_convert_bytes_string w' s t e ad 0 cap hs he ht];cases ad<;>simp[Conv.bytesToString,loadCells,loadCellsFrom]<;>rfl
 | list _ _ _ b I cap g hl q1 q2 hb hL hc O =>
  subst dz;simp only[length_map,Nat.mul_one] at hl hc;refine⟨_,.v _,fun w' hw=>?_⟩;unfold execOp;have E:=run_convert_bytes_back (P:=P) w' s t e ⟨b,I,none⟩ cap bs hs he ht (fun j hj=>by
   rw[Addr.add_mid];have U:=World.cell?_of_block (w:=w) (a:=⟨b,I+j,none⟩) (hw b hb hL);rw[U,hc j hj];have:=O j (by simpa using hj);simp only[getElem_map,wK] at this;rw[this.lQ])
  rw[hl] at E;simp only[ho,hg,Sem.run_bind,E,Result.andThen_ok,Sem.run_pure]
end
theorem ai0{b:Bool}:∀w,(Op.unary .not (.bool b)).run P w = .ok (.bool !b) w:=fun w=>rfl
theorem LS{r:Int}(h:k.wrap (0-a)=r):∀w,(Op.unary .neg (.int k a)).run P w = .ok (.int k r) w:=fun w=>by
 subst h;rfl
theorem tT{s:TypeId}{k':IntKind}{r:Int}{d:TypeDesc}(hs:∀w,(underlying s).run P w = .ok d w)(ht:∀w,(underlying t).run P w = .ok (.int k') w)(h:k'.wrap a=r):∀w,(convert s t (.int k a)).run P w = .ok (.int k' r) w:=fun w=>by
 subst h;simp[convert,hs,ht,Conv.intToInt]
theorem wrap_i64{x:Int}(h1:-9223372036854775808<=x)(h2:x<=9223372036854775807):IntKind.i64.wrap x=x:=IntWalk.i64_in _ w4
theorem ai1{ts:Array TypeId}{E:TypeId}:∀cs w,(builtin .min ts E cs #[.int k a,.int k b]).run P w = .ok (.value (.int k (if b<a then b else a))) w:=fun cs w=>by
 simp[builtin,Builtin.min_,Builtin.min2]
theorem oG:(∀{p:Prop} [Decidable p],(decide p=true)=p)/\(∀{p:Prop} [Decidable p],(decide p=false)↔¬p)/\(∀{a b:Int},(a==b)=true↔a=b)/\(∀{a b:Int},(a != b)=true↔a≠b)/\(∀{a b:Bool},(a==b)=true↔a=b)/\(∀{a b:Bool},(a != b)=true↔a≠b)
  /\ (∀{b:Bool},((!b)=true)=(b=false))/\(∀{b:Bool},((!b)=false)=(b=true))/\(∀{b:Bool},(¬b=true)=(b=false))/\(∀{b:Bool},(¬b=false)=(b=true))/\(∀{a b:Int},(a==b)=false↔¬a=b)/\(∀{a b:Int},(a != b)=false↔a=b)/\(∀{a b:Bool},(a==b)=false↔¬a=b)/\(∀{a b:Bool},(a != b)=false↔a=b)
  /\ (∀{a b:Bool},((a&&b)=true)=(a=true/\b=true))/\(∀{a b:Bool},((a||b)=true)=(a=true\/b=true))/\(∀{b:Bool},(!!b)=b)/\(∀{a b:Bool},(a&&b)=false↔a=false\/b=false)/\(∀{a b:Bool},(a||b)=false↔a=false/\b=false)/\(∀{a b:Int},(¬a<b)↔b<=a)/\(∀{a b:Int},(¬a<=b)↔b<a):=by
 refine⟨fun {p} _=>by simp,fun {p} _=>by simp,by simp,by simp,by simp,by simp,by simp,by simp,by simp,by simp,by simp,by simp,by simp,by simp,by simp,by simp,by simp,by simp,by simp,by simp,by simp⟩
end
variable {P:Program} {C:dJ} {G:List (Nat×List Value)} {Q:Exit->St->Prop} {x y:St} {ops:Array Oper} {l:List Oper} {o:Oper}
variable {t e:TypeId} {ps:List (Nat×Operand)} {pl:List (Nat×D)} {ds:List D} {sz i:Nat} {fo:Operand} {dh:Array Operand} {ts:Array TypeId} {Sf:List ag} {post:D->List ag->Prop} {α:Type} {lo hi:Option Operand}
theorem afu{z:Operand}{d:D}(ho:o.op = .move z)(hd:aD x z=d):bS P G x o .none d:=hd ▸ acL ho
theorem afv{z:Operand}{d:D}(ho:o.op = .assign z)(hd:aD x z=d):bS P G x o .none d:=hd ▸ abW ho
theorem ack{c y z:Operand}{t:Bool}{d:D}(ho:o.op = .pick c y z)(hc:aD x c = .v (.bool t))(h:t=true)(hd:aD x y=d):bS P G x o .none d:=by
 have:=QW (P:=P) (G:=G) ho hc;rw[if_pos h,hd] at this;exact this
theorem acm{c y z:Operand}{t:Bool}{d:D}(ho:o.op = .pick c y z)(hc:aD x c = .v (.bool t))(h:t=false)(hd:aD x z=d):bS P G x o .none d:=by
 have:=QW (P:=P) (G:=G) ho hc;rw[if_neg (by rw[h];simp),hd] at this;exact this
def nN(x:St):List Operand->List D->Prop
 | [],[]=>True
 | o::r,d::r'=>aD x o=d/\nN x r r'
 | _,_=>False
theorem nN.eq:∀{os:List Operand} {ds:List D},nN x os ds->os.map (aD x)=ds
 | [],[],_=>rfl
 | o::r,d::r',h=>by rw[map_cons,h.1,nN.eq h.2]
 | [],_::_,h=>h.elim
 | _::_,[],h=>h.elim
def jK(x:St):List (Nat×Operand)->List (Nat×D)->Prop
 | [],[]=>True
 | p::r,q::r'=>p.1=q.1/\aD x p.2=q.2/\jK x r r'
 | _,_=>False
theorem jK.eq:∀{ps:List (Nat×Operand)} {ds:List (Nat×D)},jK x ps ds->mC x ps.toArray=ds
 | [],[],_=>rfl
 | p::r,(i,d)::r',h=>by
  have:=jK.eq h.2.2;simp only[mC,map_cons] at this |-;rw[this,h.1,h.2.1]
 | [],_::_,h=>h.elim
 | _::_,[],h=>h.elim
def kV:D->Bool
 | .bF=>false
 | _=>true
theorem BY{ps:List (Nat×D)}(h:ps.all (fun p=>kV p.2)=true):∀p∈ps,p.2≠.bF:=fun p hp he=>by
 have:=all_eq_true.1 h p hp;rw[he] at this;cases this
theorem pQ {E:Array Field} {places:Array (Nat×Nat)} {z:Value} (ho:o.op = .build t ps.toArray) (hz:∀w,(zeroValue t).run P w = .ok z w)
  (I:∀w,(underlying t).run P w = .ok (.struct E) w) (hp:∀w,(E.mapM fun f=>do pure (f.offset,<-sizeOf f.type):Sem (Array (Nat×Nat))).run P w = .ok places w)
  (iv:jK x ps pl) (hj:pl.all (fun p=>kV p.2)=true) (hd:nc (places[·]?) (z.cells.toList.map .v) pl=some ds):bS P G x o .none (.agg ds):=by
 refine aci ho hz I hp ?_ ?_
 ·rw[iv.eq];exact BY hj
 rw[iv.eq];exact hd
theorem QT {n:Nat} {z:Value} (ho:o.op = .build t ps.toArray) (hz:∀w,(zeroValue t).run P w = .ok z w)
  (E:∀w,(underlying t).run P w = .ok (.array n e) w) (hs:∀w,(sizeOf e).run P w = .ok sz w)
  (iv:jK x ps pl) (hj:pl.all (fun p=>kV p.2)=true) (hd:nc (fun i=>some (i*sz,sz)) (z.cells.toList.map .v) pl=some ds):bS P G x o .none (.agg ds):=by
 refine ab0 ho hz E hs ?_ ?_
 ·rw[iv.eq];exact BY hj
 rw[iv.eq];exact hd
def cx(k:Nat):List D->List (Nat×D)
 | []=>[]
 | d::r=>(k,d)::cx (k+1) r
theorem Rn:∀(ds pre post:List D),ds.length<=post.length->dx (pre++post) pre.length ds=(pre++ds)++post.drop ds.length
 | [],pre,post,_=>by simp[dx]
 | d::ds,pre,[],h=>by simp at h
 | d::ds,pre,p::post,h=>by
  rw[dx,show(pre++p::post).set pre.length d=(pre++[d])++post by simp,show pre.length+1=(pre++[d]).length by simp,Rn ds (pre++[d]) post nS];simp
theorem UR{sz:Nat}:∀(pd:List D) (k:Nat) (pre post:List D),(pd.all fun d=>Nat.beq (cellsOf d).length sz)=true->pre.length=k*sz->post.length=pd.length*sz->nc (fun i=>some (i*sz,sz)) (pre++post) (cx k pd)=some (pre++pd.flatMap cellsOf)
 | [],k,pre,post,_,_,h=>by
  have:post=[]:=length_eq_zero_iff.1 nS;simp[cx,nc,this]
 | d::r,k,pre,post,ha,h1,h2=>by
  rw[all_cons,Bool.and_eq_true] at ha;have hd:(cellsOf d).length=sz:=Nat.eq_of_beq_eq_true ha.1;have hp:post.length=r.length*sz+sz:=(by rw[h2,length_cons,Nat.succ_mul])
  rw[cx,nc];simp only;rw[if_neg (by simp only[hd,length_append,h1,hp,ne_eq,not_true_eq_false,decide_false,Bool.false_or,decide_eq_true_eq];omega),<-h1,Rn _ _ _ w4,UR r (k+1) _ _ ha.2 (by rw[length_append,hd,h1,Nat.succ_mul]) (by rw[length_drop,hd];omega),flatMap_cons];simp
theorem Ro{pd zs:List D}(ha:(pd.all fun d=>Nat.beq (cellsOf d).length sz)=true)(hl:Nat.beq zs.length (pd.length*sz)=true)(jA:pd.flatMap cellsOf=ds):nc (fun i=>some (i*sz,sz)) zs (cx 0 pd)=some ds:=by
 have:=UR pd 0 [] zs ha bp (Nat.eq_of_beq_eq_true hl);rw[nil_append,nil_append,jA] at this;exact this
theorem ahh {tt len:Nat} {z:Value} {pI:List Value} (hw:bV ops x o true) (ho:o.op = .buildSlice t len ps.toArray) (j4:o.dst=some tt) (hz:∀w,(zeroValue e).run P w = .ok z w)
  (E:∀w,(underlying t).run P w = .ok (.slice e) w) (hs:∀w,(sizeOf e).run P w = .ok sz w) (hl:Nat.ble 1 (len*sz)=true) (iu:Nat.ble (len*sz) (2 ^ 24)=true) (eM:(Array.range (len*sz)).map (fun i=>z.cells[i % z.cells.size]!)=pI.toArray)
  (iv:jK x ps pl) (hj:pl.all (fun p=>kV p.2)=true) (hd:nc (fun i=>some (i*sz,sz)) (pI.map .v) pl=some ds)
  (k:∀b,OD P C ops l ⟨x.n,(tt,.v (.slice (some ⟨b,0,none⟩) len len))::x.env,⟨b,e,ds.length,ds⟩::x.S⟩ Q) (hne:isMap e=false:=by rfl):OD P C ops (o::l) x Q:=by
 refine OD.gm hw (Je (hne:=hne) (zs:=pI.map .v) (ds:=ds) ho j4 hz E hs (Nat.le_of_ble_eq_true hl) (Nat.le_of_ble_eq_true iu) ?_ ?_ ?_ ?_) ?_
 ·rw[eM];congr 1;rw[map_map];exact(map_id pI).symm
 ·intro d hd;obtain⟨u,_,rfl⟩:=mem_map.1 hd;exact⟨u,rfl⟩
 ·rw[iv.eq];exact BY hj
 ·rw[iv.eq];exact hd
 rintro _ ⟨b,rfl⟩;exact k b
theorem dF {z:Value} {t:Nat} (hw:bV ops x o true) (ho:o.op = .alloc e) (hd:o.dst=some t) (hz:∀w,(zeroValue e).run P w = .ok z w) (jA:z.cells.toList.map .v=ds)
  (k:∀b,OD P C ops l ⟨x.n,(t,.v (.pointer (some ⟨b,0,none⟩)))::x.env,⟨b,e,ds.length,ds⟩::x.S⟩ Q) (hne:isMap e=false:=by rfl):OD P C ops (o::l) x Q :=
 OD.gm hw (Fs (hne:=hne) ho hd hz jA) fun y ⟨b,hy⟩=>hy ▸ k b
theorem ai3 {z:Operand} {t:Nat} {d:D} (hw:bV ops x o true) (ho:o.op = .box e z) (hd:o.dst=some t) (hy:aD x z=d) (hj:kV d=true) (jA:cellsOf d=ds)
  (k:∀b,OD P C ops l ⟨x.n,(t,.v (.pointer (some ⟨b,0,none⟩)))::x.env,⟨b,e,ds.length,ds⟩::x.S⟩ Q) (hne:isMap e=false:=by rfl):OD P C ops (o::l) x Q :=
 OD.gm hw (ahd (hne:=hne) ho hd hy (fun h=>by rw[h] at hj;cases hj) jA) fun y ⟨b,hy⟩=>hy ▸ k b
theorem OD.store {t:TypeId} {k b o' n:Nat} {B:ag} {d:D} {cs':List D} {y z:Operand} (hw:bV ops x o true) (ho:o.op = .store t y z) (j4:o.dst=none) (hy:aD x y = .v (.pointer (some ⟨b,o',none⟩)))
  (hk:x.S[k]?=some B) (hb:B.b=b) (hz:aD x z=d) (hj:kV d=true) (h1:(cellsOf d).all one=true) (hn:∀w,(sizeOf t).run P w = .ok n w) (gz:(cellsOf d).length=n) (hl:Nat.ble (o'+n) B.cs.length=true) (dz:dx B.cs o' (cellsOf d)=cs')
  (K:OD P C ops l ⟨x.n,x.env,x.S.set k {B with cs:=cs'}⟩ Q) (hne:isMap B.e=false:=by rfl):OD P C ops (o::l) x Q :=
 OD.gm hw (Fu (hne:=hne) ho j4 hy hk hb hz (fun h=>by rw[h] at hj;cases hj) h1 hn gz (Nat.le_of_ble_eq_true hl) dz) fun y hy=>hy ▸ K
theorem fg {f t:Nat} {args:List D} {R:List ag} (hw:bV ops x o true) (ho:o.op = .call {callee:=.value fo,args:=dh,argTypes:=ts}) (hd:o.dst=some t)
  (hf:fo = .func f) (fH:∀args w,(callFunc f args).run P w = .ok (.enter f args) w) (hc:VC P C.G f args Sf post) (ha:nN x dh.toList args) (hp:x.S.Perm (Sf++R))
  (K:∀r S',post r S'->OD P C ops l ⟨x.n,(t,r)::x.env,S'++R⟩ Q):OD P C ops (o::l) x Q :=
 OD.gm hw (Cg ho hd hf fH ha.eq hp hc) fun y ⟨r,S',h,hy⟩=>hy ▸ K r S' h
theorem oK {f t:Nat} {args:List D} {r:D} (hw:bV ops x o true) (ho:o.op = .call {callee:=.value fo,args:=dh,argTypes:=ts}) (hd:o.dst=some t)
  (hf:fo = .func f) (fH:∀args w,(callFunc f args).run P w = .ok (.enter f args) w) (hc:VP P C.G f args r) (ha:nN x dh.toList args)
  (K:OD P C ops l (x.put t r) Q):OD P C ops (o::l) x Q :=
 fg hw ho hd hf fH hc ha (fx _) fun E S' ⟨h1,h2⟩=>by subst h1 h2;exact K
theorem my {f t:Nat} {args E all:List D} {R:List ag} (hw:bV ops x o true) (ho:o.op = .call {callee:=.value fo,args:=dh,argTypes:=ts}) (hd:o.dst=some t)
  (hf:aD x fo = .eK (.func f) E) (fH:∀args w,(callFunc f args).run P w = .ok (.enter f args) w) (hc:VC P C.G f all Sf post) (eL:args++E=all) (ha:nN x dh.toList args) (hp:x.S.Perm (Sf++R))
  (K:∀r S',post r S'->OD P C ops l ⟨x.n,(t,r)::x.env,S'++R⟩ Q):OD P C ops (o::l) x Q :=
 OD.gm hw (adN ho hd hf fH (by rw[ha.eq,eL]) hp hc) fun y ⟨r,S',h,hy⟩=>hy ▸ K r S' h
theorem OD.append {s y:Operand} {t e tt sz bytes n m b cap k:Nat} {z:Value} {B:ag} {cs:List D} (hw:bV ops x o true) (ho:o.op = .call {callee:=.builtin .append,args:=#[s,y],argTypes:=#[t,t]}) (hd:o.dst=some tt)
  (ht:P.underlying t=some (.slice e)) (hi:(P.info? e).map (fun i=>(i.zero,i.size,i.bytes))=some (some z,sz,bytes)) (eM:z.cells.size=sz) (dg:0<sz)
  (hs:aD x s = .v (.slice (some ⟨b,0,none⟩) n cap)) (hk:x.S[k]?=some B) (hb:B.b=b) (he:B.e=e) (I:B.size=cap*sz) (hl:B.cs.length=n*sz) (hn:n<=cap) (O:cap<=maxLen)
  (hy:aD x y = .list sz cs m) (jw:∀d∈cs,one d=true) (hm:0<m) (Z:n+m<=maxLen) (E:(n+m)*bytes<=140737488355328)
  (K:∀U aO,n+m<=aO->aO<=maxLen->OD P C ops l ⟨x.n,(tt,.v (.slice (some ⟨U,0,none⟩) (n+m) aO))::x.env,⟨U,e,aO*sz,B.cs++cs⟩::x.S.eraseIdx k⟩ Q) (hne:isMap B.e=false:=by rfl):OD P C ops (o::l) x Q :=
 OD.gm hw (Ju (hne:=hne) ho hd ht hi eM dg hs hk hb he I hl hn O hy jw hm Z E) fun y ⟨U,aO,h1,h2,hy⟩=>hy ▸ K U aO h1 h2
theorem ab1 {s y:Operand} {t e tt bytes m:Nat} {z:Value} {cs:List D} (hw:bV ops x o true) (ho:o.op = .call {callee:=.builtin .append,args:=#[s,y],argTypes:=#[t,t]}) (hd:o.dst=some tt)
  (ht:P.underlying t=some (.slice e)) (hi:(P.info? e).map (fun i=>(i.zero,i.size,i.bytes))=some (some z,sz,bytes)) (eM:z.cells.size=sz) (dg:0<sz)
  (hs:aD x s = .v (.slice none 0 0)) (hy:aD x y = .list sz cs m) (jw:∀d∈cs,one d=true) (hm:0<m) (O:m<=maxLen) (E:m*bytes<=140737488355328)
  (K:∀I aO,m<=aO->aO<=maxLen->OD P C ops l ⟨x.n,(tt,.v (.slice (some ⟨I,0,none⟩) m aO))::x.env,⟨I,e,aO*sz,cs⟩::x.S⟩ Q) (hne:isMap e=false:=by rfl):OD P C ops (o::l) x Q :=
 OD.gm hw (Jg (hne:=hne) ho hd ht hi eM dg hs hy jw hm O E) fun y ⟨I,aO,h1,h2,hy⟩=>hy ▸ K I aO h1 h2
theorem Td{t:Nat}{b:Bool}(hb:look t x.env = .v (.bool b))(h1:b=true->OD P C ops l x Q)(h2:b=false->OD P C ops l x Q):OD P C ops l x Q:=by
 cases h:b
 ·exact h2 h
 exact h1 h
theorem abG{z:Operand}{a':Addr}(ho:o.op = .nilCheck z)(hz:aD x z = .v (.pointer (some a'))):bS P G x o .none (.v (.pointer (some a'))):=fun C a w _ h =>
 ⟨_,.v _,fun w' _=>by unfold execOp;simp only[ho,h.flat hz];rfl⟩
theorem abD{z:Operand}{cs:List D}{off:Nat}(ho:o.op = .nilCheck z)(hz:aD x z = .fT cs off):bS P G x o .none (.fT cs off):=fun C a w _ h=>by
 have hr:=h.eval z;rw[hz] at hr;generalize hg:a.eval z=u at hr;cases hr with
 | fT _ _ b E g hb hL hc I=>exact⟨_,.fT cs off b E g hb hL hc I,fun w' _=>by unfold execOp;simp only[ho,hg];rfl⟩
theorem tU{fn:Fn}{E:Array Operand}(ho:o.op = .makeFunc fn #[] E)(hd:nN x E.toList ds):bS P G x o .none (.eK fn ds):=acO ho hd.eq
theorem cz{α:Type}{g:α->List D}{sz:Nat}(hg:∀a,(g a).length=sz):∀(ls:List α),(ls.flatMap g).length=ls.length*sz
 | []=>by simp
 | a::r=>by rw[flatMap_cons,length_append,hg,cz hg r,length_cons,Nat.add_mul];omega
theorem wm{α:Type}{g:α->List D}{sz:Nat}(hg:∀a,(g a).length=sz):∀(ls:List α) (i:Nat),(ls.flatMap g).drop (i*sz)=(ls.drop i).flatMap g
 | [],i=>by simp
 | a::r,0=>by simp
 | a::r,i+1=>by
  rw[flatMap_cons,drop_succ_cons,<-wm hg r i,Nat.add_mul,Nat.one_mul,Nat.add_comm,<-drop_drop];congr 1;rw[<-hg a,drop_left]
theorem vl{α:Type}{g:α->List D}{sz:Nat}(hg:∀a,(g a).length=sz):∀(ls:List α) (i:Nat),(ls.flatMap g).take (i*sz)=(ls.take i).flatMap g
 | [],i=>by simp
 | a::r,0=>by simp
 | a::r,i+1=>by
  rw[flatMap_cons,take_succ_cons,flatMap_cons,<-vl hg r i,Nat.add_mul,Nat.one_mul,Nat.add_comm,<-hg a,take_length_add_append]
theorem GW{g:α->List D}(hg:∀a,(g a).length=sz){ls:List α}(hi:i<ls.length):((ls.flatMap g).drop (i*sz)).take sz=g ls[i]:=by
 rw[wm hg,drop_eq_getElem_cons hi,flatMap_cons,<-hg ls[i],take_left]
theorem Am{g:α->List D}(hg:∀a,(g a).length=sz){ls:List α}{j:Nat}{d:D}(hi:i<ls.length)(hd:(g ls[i])[j]?=some d):(ls.flatMap g)[i*sz+j]?=some d:=by
 have h:=GW hg hi;have hj:=(List.getElem?_eq_some_iff.1 hd).1;rw[hg] at hj;rw[<-hd,<-h,getElem?_take_of_lt hj,getElem?_drop]
theorem Kk{g:α->List D}(hg:∀a,(g a).length=sz){ls:List α}{d:D}(hi:i<ls.length)(hd:(g ls[i])[0]?=some d):(ls.flatMap g)[i*sz]?=some d:=Am hg hi hd
theorem sH{g:α->List D}(hg:∀a,(g a).all one=true)(ls:List α):∀d∈ls.flatMap g,one d=true:=fun d hd=>by
 obtain⟨a,_,h⟩:=mem_flatMap.1 hd;exact all_eq_true.1 (hg a) d h
theorem acn {g:α->List D} {h':Nat} (hg:∀a,(g a).length=sz) {ls:List α} {y:Operand} (ho:o.op = .slice t y lo hi none) (hy:aD x y = .list sz (ls.flatMap g) ls.length) (ff:nG x lo 0 0) (eJ:nG x hi h' ls.length)
  (E:∀w,(underlying t).run P w = .ok (.slice e) w) (hs:∀w,(sizeOf e).run P w = .ok sz w) (h2:h'<=ls.length):bS P G x o .none (.list sz ((ls.take h').flatMap g) (ls.take h').length):=by
 have:=Jj (P:=P) (G:=G) ho hy ff eJ E hs (Nat.zero_le _) h2;rw[Nat.zero_mul,drop_zero,Nat.sub_zero,vl hg] at this;rw[length_take,Nat.min_eq_left h2];exact this
theorem aco {g:α->List D} {l':Nat} (hg:∀a,(g a).length=sz) {ls:List α} {y:Operand} (ho:o.op = .slice t y lo hi none) (hy:aD x y = .list sz (ls.flatMap g) ls.length) (ff:nG x lo l' 0) (eJ:nG x hi ls.length ls.length)
  (E:∀w,(underlying t).run P w = .ok (.slice e) w) (hs:∀w,(sizeOf e).run P w = .ok sz w) (h2:l'<=ls.length):bS P G x o .none (.list sz ((ls.drop l').flatMap g) (ls.drop l').length):=by
 have:=Jj (P:=P) (G:=G) ho hy ff eJ E hs h2 (Nat.le_refl _);rw[wm hg,take_of_length_le (by rw[cz hg,length_drop];exact Nat.le_refl _)] at this;rw[length_drop];exact this
end V
end Go.Proofs.YtbplamgacibdaaaGreatDoor
