/-
  NA: walks and plain facts, part 1.
-/
import Derived.WalkKit
import Derived.Deep.MidRow
import Derived.Deep.AppendLies
import Derived.OrdersHeld
import Derived.IntWalk
import Derived.Laws.Cover3
import Derived.ChangeKeysEq
import Derived.ProofKit
import Derived.OpenShut
import Derived.Lib.LaidTab
import Derived.Below
import Derived.Deep.Slices
import Derived.ArgAppend
import Derived.Lib.AppendStr
import Derived.MapKept
import Derived.RangeFuncLeaves
import Derived.RangeFuncOwn
import Derived.OrdersIn
import Derived.TacticsIn
import Derived.Shelf.Abstract
import Derived.RecoverIn
import Derived.WalkLawsBesides
import Derived.Lib.AppendZeros
import Derived.Laws.IdiomCopy
import Derived.Lib.Overlaps
import Derived.Lib.AppendZerosOnto
import Derived.Lib.BytesEntry
import Derived.Shelf.Strings.Builder1
import Derived.Shelf.Strings.Builder2
import Derived.Shelf.Small.Strs
import Derived.Shelf.Small.Wraps
import Derived.Shelf.Strings.BuilderF
import Derived.Shelf.Strings.BuilderK
import Derived.Shelf.Utf8.RuneCount
import Derived.Shelf.Strings.Builder2Cap
import Derived.Shelf.Strings.Search1
import Derived.Shelf.Strings.Search2
import Derived.Shelf.Strings.Search3
import Derived.Shelf.Strings.Count
import Derived.Shelf.LaysM
import Derived.Shelf.Strings.Shaped
import Derived.Shelf.Strings.Split
import Derived.Shelf.Strings.Replace
import Derived.Shelf.Strings.SplitShaped
import Derived.Shelf.Unicode.Decode
import Derived.Shelf.Strings.RuneCount
import Derived.Shelf.Unicode.DecodeSlow
import Derived.Shelf.Unicode.DecodeAny
import Derived.Shelf.Strings.BuilderCap
import Derived.Shelf.Slices.Turned
import Derived.Shelf.Slices.Reverse
import Derived.Ground.Names2Prog
import Derived.Shelf.Slices.Clone
import Derived.Shelf.Slices.SearchI
import Derived.Shelf.Slices.Delete
import Derived.Shelf.Slices.Cells
import Derived.Shelf.Slices.Empties
import Derived.Shelf.Bytes.SlSearch0
import Derived.Shelf.Bytes.SlEqualAll
import Derived.Shelf.Bytes.Small
import Derived.SizedLaws
import Derived.Lib.Bytealg
import Derived.Test.YtihmfhcjbmlnaaaGreatDoorRows
import Derived.Test.YtihmfhcjbmlnaaaGreatDoorProg
set_option linter.unusedVariables false
set_option linter.unusedSimpArgs false
set_option maxRecDepth 100000
set_option maxHeartbeats 4000000
namespace Go.Proofs.YtihmfhcjbmlnaaaGreatDoor
section
open List
variable {p:Prop}
theorem w4(h:p:=by omega):p:=h
theorem w5(h:p:=by first|assumption|omega):p:=h
theorem w6(h:p:=by repeat (first|exact trivial|refine⟨(by (repeat (first|exact j6|(apply lu;focus (first|rfl|(rw[wP];done)|(simp;done)))|(apply kE;focus rfl)));done),?_⟩)):p:=h
theorem w7(h:p:=by decide):p:=h
theorem w8(h:p:=by repeat (first|exact trivial|refine⟨(by (repeat (first|exact j6|(apply lu;focus (first|rfl|(simp;done)|(congr 2;omega)|(apply iZ;rw[<-Ul aa];unfold jO;first|(rw[Je (by assumption)];simp;done)|(rw[Jf (by assumption),take_of_length_le (l:=kj (uN l[i])) (by rw[zu];omega)];simp;done)|(rw[Jg (by assumption),<-HL];simp;done)|(rw[Zl (by assumption) (by assumption) (by assumption)];done))|(apply iZ;rfl)|(apply iZ;simp;done)))|(apply kE;focus rfl)));done),?_⟩)):p:=h
theorem w9(h:p:=by exact(ny (mk:=Op.indexAddr 30) rfl ot bP (by first|exact qj (j:=0) runUnderlying30 sizeOf36 rfl (by first|omega|decide)|exact qp (j:=0) runUnderlying30 sizeOf36 rfl (by first|omega|decide)))):p:=h
theorem qe(h:p:=by simp only[length_append,length_map,length_cons,length_nil];omega):p:=h
theorem FJ(h:p:=by repeat (first|exact trivial|refine⟨(by (repeat (first|exact j6|(apply lu;focus (first|rfl|(simp;done)|(congr 2;omega)|(apply iZ;first|rfl|(rw[replicate_succ',append_assoc]))|(apply iZ;rfl)|(apply iZ;simp;done)))|(apply kE;focus rfl)));done),?_⟩)):p:=h
theorem yo(h:p:=by have dy:=ee;have q1:=Im Q4 i;(try have q2:=Q4 _ (getElem_mem aa));(try simp only[length_append,length_cons,length_nil]);omega):p:=h
theorem rT(h:p:=by simp only[maxLen,length_append,length_map,length_cons,length_nil];omega):p:=h
theorem Au(h:p:=by exact(ny (mk:=Op.indexAddr 39) rfl ot bP (by first|exact qj runUnderlying39 sizeOf44 (j:=0) rfl iU|exact qp runUnderlying39 sizeOf44 (j:=0) rfl iU))):p:=h
theorem pI(h:p:=by simp only[maxLen,length_cons,length_nil] at *;omega):p:=h
theorem Ko(h:p:=by rw[<-Ul aa];unfold jO;first|(rw[Je (by assumption)];simp;done)|(rw[Jf (by assumption),take_of_length_le (l:=kj (uN l[i])) (by rw[zu];omega)];simp;done)|(rw[Jg (by assumption),<-HL];simp;done)|(rw[Zl (by assumption) (by assumption) (by assumption)];done)):p:=h
theorem pJ(h:p:=by simp only[length_cons,length_nil] at *;omega):p:=h
theorem Q5(h:p:=by first|exact(ez (mk:=Op.load 110) rfl ot (by exact kV (k:=0) (i:=(fx H l[i])) iw rfl rfl rfl isAgg110 iV rfl))|exact(ez (mk:=Op.load 110) rfl ot (by exact kV (k:=1) (i:=(fx H l[i])) iw rfl rfl rfl isAgg110 iV rfl))|exact(ez (mk:=Op.load 110) rfl ot (by exact kV (k:=2) (i:=(fx H l[i])) iw rfl rfl rfl isAgg110 iV rfl))):p:=h
theorem bC(h:p:=by simp):p:=h
theorem Kp(h:p:=by exact(ei 1 (h:=by first|exact .l (j:=((av t s.ah).1[k]'aa).toNat) (Int.toNat_of_nonneg iU).symm (by rw[<-yq];exact gp)|exact .r (j:=((av t s.ah).1[k]'aa).toNat) (Int.toNat_of_nonneg iU).symm (by rw[<-yq];exact gp)))):p:=h
theorem Kq(h:p:=by repeat (first|exact trivial|refine⟨(by (repeat (first|exact j6|(apply lu;focus (first|rfl|(simp;done)|(congr 2;omega)|(apply iZ;rfl)|(apply iZ;simp;done)))|(apply kE;focus rfl)));done),?_⟩)):p:=h
theorem yt(h:p:=by show _=p.kids.drop (if p.leaf=true then 2 else 3);rw[gJ];rfl):p:=h
theorem yu(h:p:=by show _=p.keys.drop (if p.leaf=true then 2 else 3);rw[gJ];rfl):p:=h
theorem w24(h:p:=by rw[getElem_set_self];show gO (⟨(nI p (bn (t.pg (aV t k h t.root)) k)),some ⟨bk,0,none⟩,ck,[⟨bk,83,ck*1,flatMap cK (p.keys.eraseIdx (bn (t.pg (aV t k h t.root)) k))⟩],some ⟨bi,0,none⟩,ci,[⟨bi,3,ci*1,flatMap cI (p.kids.eraseIdx (bn (t.pg (aV t k h t.root)) k))⟩]⟩:bD)=(gO (⟨{p with keys:=(p.keys.eraseIdx (bn (t.pg (aV t k h t.root)) k))},some ⟨bk,0,none⟩,ck,[⟨bk,83,ck*1,flatMap cK (p.keys.eraseIdx (bn (t.pg (aV t k h t.root)) k))⟩],some ⟨bi,0,none⟩,ci,[⟨bi,3,ci*1,flatMap cI p.kids⟩]⟩:bD)).set 2 _;unfold gO nI;simp only[];rw[length_eraseIdx_of_lt rU];rfl):p:=h
theorem ko(h:p:=by first|rfl|assumption):p:=h
theorem CO(h:p:=by have dy:=ee;(try simp only[length_append,length_cons,length_nil,length_take,zu]);omega):p:=h
theorem CP(h:p:=by simp only[flatten_cons,flatten_nil,length_append,length_cons,length_nil];omega):p:=h
theorem w28(h:p:=by rw[<-ho];show gO (⟨{p with keys:=(p.keys.eraseIdx (bn (t.pg (aV t k h t.root)) k))},some ⟨bk,0,none⟩,ck,[⟨bk,83,ck*1,flatMap cK (p.keys.eraseIdx (bn (t.pg (aV t k h t.root)) k))⟩],some ⟨bi,0,none⟩,ci,[⟨bi,3,ci*1,flatMap cI p.kids⟩]⟩:bD)=(gO (⟨p,some ⟨bk,0,none⟩,ck,[⟨bk,83,ck*1,flatMap cK p.keys⟩],some ⟨bi,0,none⟩,ci,[⟨bi,3,ci*1,flatMap cI p.kids⟩]⟩:bD)).set 1 _;unfold gO;rw[length_eraseIdx_of_lt ha];rfl):p:=h
theorem CQ(h:p:=by simp only[maxLen,length_append,length_replicate,length_cons,length_nil] at *;omega):p:=h
theorem CR(h:p:=by have dy:=ee;(try simp only[length_append,length_cons,length_nil]);omega):p:=h
theorem oW(h:p:=by first|rfl|simp[St.put]):p:=h
theorem w32(h:p:=by show 0+(aV t k h t.root).toNat*5+2+1<=(flatMap gO (L.set (aV t k h t.root).toNat (⟨{p with keys:=(p.keys.eraseIdx (bn (t.pg (aV t k h t.root)) k))},some ⟨bk,0,none⟩,ck,[⟨bk,83,ck*1,flatMap cK (p.keys.eraseIdx (bn (t.pg (aV t k h t.root)) k))⟩],some ⟨bi,0,none⟩,ci,[⟨bi,3,ci*1,flatMap cI p.kids⟩]⟩:bD))).length;rw[dg jL,length_set];omega):p:=h
theorem nh(h:p:=by rw[oK];omega):p:=h
theorem lU(h:p:=by first|rfl|simp):p:=h
theorem CS(h:p:=by simp only[maxLen,length_append,length_cons,length_nil] at *;omega):p:=h
theorem Q6(h:p:=by exact(ei 1 (h:=by first|exact .l (j:=((av t s.ah).1[k]'aa).toNat) (Int.toNat_of_nonneg iU).symm eY|exact .r (j:=((av t s.ah).1[k]'aa).toNat) (Int.toNat_of_nonneg iU).symm eY))):p:=h
theorem qD(h:p:=by rw[length_take];omega):p:=h
theorem jk(h:p:=by simp;omega):p:=h
theorem vw(h:p:=by rw[rN,j8,append_assoc];rfl):p:=h
theorem Kr(h:p:=by have:=length_filter_le (fun r=>decide (eu r=kk)) (ir.drop j);rw[<-vy,length_drop] at this;omega):p:=h
theorem w41(h:p:=by exact(ez (mk:=Op.load 30) rfl ot (kV (k:=3) (i:=((av t s.ah).1[k]'aa).toNat) (ls:=M) (d:=aS (some ⟨bw,0,none⟩) (M[((av t s.ah).1[k]'aa).toNat].r.set 0 (acc[k]'en)).length M[((av t s.ah).1[k]'aa).toNat].cap) En rfl rfl rfl isAgg30 gp (by rw[<-FK,length_set];rfl)))):p:=h
theorem Q7(h:p:=by exact(He (pl:=[(0,_),(1,_)]) (ds:=[_,_,_,_,_,_]) rfl zeroValue268 runUnderlying268 sizeOf36 ⟨rfl,ot,rfl,ot,trivial⟩ rfl rfl)):p:=h
theorem CT(h:p:=by first|exact fun _ hq=>hq|exact fun _ hq=>by cases hq.1):p:=h
theorem yw(h:p:=by first|exact BJ rfl iw (fun h=>by cases h) runUnderlying163 sizeOf83 w4|exact qq (fun _=>rfl) runUnderlying163 sizeOf83 w4|exact BK (fun h=>by cases h) (fun _=>rfl) runUnderlying163 sizeOf83 w4 w4|exact pU (fun h=>by cases h) (fun _=>rfl) runUnderlying163 sizeOf83 w4 w4):p:=h
theorem yx(h:p:=by first|exact BJ rfl fp (fun h=>by cases h) runUnderlying27 sizeOf3 w4|exact qq (fun _=>rfl) runUnderlying27 sizeOf3 w4|exact BK (fun h=>by cases h) (fun _=>rfl) runUnderlying27 sizeOf3 w4 w4|exact pU (fun h=>by cases h) (fun _=>rfl) runUnderlying27 sizeOf3 w4 w4):p:=h
theorem CU(h:p:=by first|exact BJ rfl iw (fun h=>by cases h) runUnderlying27 sizeOf3 w4|exact BJ rfl fp (fun h=>by cases h) runUnderlying27 sizeOf3 w4|exact qq (fun _=>rfl) runUnderlying27 sizeOf3 w4|exact pU (fun h=>by cases h) (fun _=>rfl) runUnderlying27 sizeOf3 w4 w4):p:=h
theorem vz(h:p:=by first|exact .l (j:=Int.toNat _) (Int.toNat_of_nonneg w7).symm w7|exact .r (j:=Int.toNat _) (Int.toNat_of_nonneg w7).symm w7):p:=h
theorem w48(h:p:=by first|exact rD (k:=0) (ds:=[_,_,_,_,_]) rfl rfl isAgg38 sizeOf38 rfl rfl|exact jM j7 isAgg38 sizeOf38 w5|exact jM wg isAgg38 sizeOf38 w5|exact jM kR isAgg38 sizeOf38 w5|exact jM fX isAgg38 sizeOf38 w5|exact jM qQ isAgg38 sizeOf38 w5|exact jM mU isAgg38 sizeOf38 w5|exact dM (k:=0) j7 rfl rfl rfl isAgg38 sizeOf38 w5|exact dM (k:=1) j7 rfl rfl rfl isAgg38 sizeOf38 w5|exact dM (k:=0) wg rfl rfl rfl isAgg38 sizeOf38 w5|exact dM (k:=1) wg rfl rfl rfl isAgg38 sizeOf38 w5|exact dM (k:=0) kR rfl rfl rfl isAgg38 sizeOf38 w5|exact dM (k:=1) kR rfl rfl rfl isAgg38 sizeOf38 w5|exact dM (k:=0) fX rfl rfl rfl isAgg38 sizeOf38 w5|exact dM (k:=1) fX rfl rfl rfl isAgg38 sizeOf38 w5|exact dM (k:=0) qQ rfl rfl rfl isAgg38 sizeOf38 w5|exact dM (k:=1) qQ rfl rfl rfl isAgg38 sizeOf38 w5|exact dM (k:=0) mU rfl rfl rfl isAgg38 sizeOf38 w5|exact dM (k:=1) mU rfl rfl rfl isAgg38 sizeOf38 w5|exact rL (ds:=[_,_,_,_,_]) isAgg38 sizeOf38 rfl rfl):p:=h
theorem Ks(h:p:=by first|exact BJ rfl iw (fun h=>by cases h) runUnderlying163 sizeOf83 w4|exact BJ rfl fp (fun h=>by cases h) runUnderlying163 sizeOf83 w4|exact qq (fun _=>rfl) runUnderlying163 sizeOf83 w4|exact pU (fun h=>by cases h) (fun _=>rfl) runUnderlying163 sizeOf83 w4 w4):p:=h
theorem w50(h:p:=by show(flatMap gO (L.set (aV t k h t.root).toNat (⟨{p with keys:=(p.keys.eraseIdx (bn (t.pg (aV t k h t.root)) k))},some ⟨bk,0,none⟩,ck,[⟨bk,83,ck*1,flatMap cK (p.keys.eraseIdx (bn (t.pg (aV t k h t.root)) k))⟩],some ⟨bi,0,none⟩,ci,[⟨bi,3,ci*1,flatMap cI p.kids⟩]⟩:bD))).set (0+(aV t k h t.root).toNat*5+2) _=_;rw[Nat.zero_add,Dz jL (a':=(⟨(nI p (bn (t.pg (aV t k h t.root)) k)),some ⟨bk,0,none⟩,ck,[⟨bk,83,ck*1,flatMap cK (p.keys.eraseIdx (bn (t.pg (aV t k h t.root)) k))⟩],some ⟨bi,0,none⟩,ci,[⟨bi,3,ci*1,flatMap cI (p.kids.eraseIdx (bn (t.pg (aV t k h t.root)) k))⟩]⟩:bD)) w7 (by rw[length_set];exact hj) w24,set_set]):p:=h
theorem Q8(h:p:=by repeat (first|exact trivial|refine⟨(by (repeat (first|exact j6|(apply lu;focus (first|rfl|(simp;done)|(congr 2;omega)|(apply iZ;first|exact Me aa w4 _|exact LV aa w4 _)|(apply iZ;simp[lF])|(apply iZ;simp;done)))|(apply kE;focus rfl)));done),?_⟩)):p:=h
theorem Kt(h:p:=by first|exact nC mU (fun h=>by cases h) runUnderlying32 sizeOf38 w4|exact qq (fun h=>by cases h) runUnderlying32 sizeOf38 w4|exact pU (fun _=>rfl) (fun h=>by cases h) runUnderlying32 sizeOf38 w4 w4):p:=h
theorem Q9(h:p:=by first|exact nC iw (fun h=>by cases h) runUnderlying163 sizeOf83 w4|exact qq (fun h=>by cases h) runUnderlying163 sizeOf83 w4|exact BK (fun _=>rfl) (fun h=>by cases h) runUnderlying163 sizeOf83 w4 w4|exact pU (fun _=>rfl) (fun h=>by cases h) runUnderlying163 sizeOf83 w4 w4):p:=h
theorem Ra(h:p:=by first|exact nC fp (fun h=>by cases h) runUnderlying27 sizeOf3 w4|exact qq (fun h=>by cases h) runUnderlying27 sizeOf3 w4|exact BK (fun _=>rfl) (fun h=>by cases h) runUnderlying27 sizeOf3 w4 w4|exact pU (fun _=>rfl) (fun h=>by cases h) runUnderlying27 sizeOf3 w4 w4):p:=h
theorem Rb(h:p:=by first|exact nC kG (fun h=>by cases h) runUnderlying31 sizeOf9 w4|exact nC mV (fun h=>by cases h) runUnderlying31 sizeOf9 w4|exact qq (fun h=>by cases h) runUnderlying31 sizeOf9 w4|exact pU (fun _=>rfl) (fun h=>by cases h) runUnderlying31 sizeOf9 w4 w4):p:=h
theorem tc(h:p:=by rw[<-Int.ofNat_sub w4];exact wrap_i64 w4 w4):p:=h
theorem Re(h:p:=by exact(eE (r:=.int .i64 ((((eG (l[(aC l s.table).toNat]'bp).an s.ah).1.1.length:Nat):Int)+(((eG (l[(aC l s.table).toNat]'bp).an s.ah).1.2.length:Nat):Int))) rfl ot ot (mB (wrap_i64 w4 w4)))):p:=h
theorem CV(h:p:=by exact(ei 1 (h:=by first|exact .l (j:=j-1) w4 aa|exact .r (j:=j-1) w4 aa))):p:=h
theorem w59(h:p:=by exact(eE (r:=.int .i64 (((((⟨⟨#[]⟩,1⟩:bq)::⟨⟨#[116,116]⟩,m1⟩::SP).length-1:Nat):Nat):Int)) rfl ot bP (je (by rw[show(((((⟨⟨#[]⟩,1⟩:bq)::⟨⟨#[116,116]⟩,m1⟩::SP).length:Nat):Int)-1)=(((((⟨⟨#[]⟩,1⟩:bq)::⟨⟨#[116,116]⟩,m1⟩::SP).length-1:Nat):Nat):Int) by omega];exact wrap_i64 w4 w4)))):p:=h
theorem w60(h:p:=by repeat (first|exact trivial|refine⟨(by (repeat (first|exact j6|(apply lu;focus (first|rfl|(simp;done)|(congr 2;omega)|(apply iZ;first|exact Vp aa w4|exact Um aa w4)|(apply iZ;rfl)|(apply iZ;simp;done)))|(apply kE;focus rfl)));done),?_⟩)):p:=h
theorem rV(h:p:=by first|omega|decide):p:=h
theorem w62(h:p:=by repeat (first|exact trivial|refine⟨(by (repeat (first|exact j6|(apply lu;focus (first|rfl|(congr 2;omega)|(simp;done)|(apply iZ;rw[<-No w4];simp)|(apply iZ;simp)|(apply iZ;simp;done)))|(apply kE;focus rfl)));done),?_⟩)):p:=h
theorem w63(h:p:=by first|exact nC iw (fun h=>by cases h) runUnderlying27 sizeOf3 w4|exact nC fp (fun h=>by cases h) runUnderlying27 sizeOf3 w4|exact qq (fun h=>by cases h) runUnderlying27 sizeOf3 w4|exact pU (fun _=>rfl) (fun h=>by cases h) runUnderlying27 sizeOf3 w4 w4):p:=h
theorem Rf(h:p:=by have:=HM s.names s.names.length;(try rw[rW]);simp only[length_append,length_map,length_cons,length_nil];omega):p:=h
theorem w65(h:p:=by exact(ez (mk:=Op.load 30) rfl ot (kV (k:=3) (i:=((av t s.ah).1[k]'aa).toNat) (ls:=M) (d:=aS (some ⟨bw,0,none⟩) M[((av t s.ah).1[k]'aa).toNat].r.length M[((av t s.ah).1[k]'aa).toNat].cap) En rfl rfl rfl isAgg30 gp (by rw[<-FK];rfl)))):p:=h
theorem w66(h:p:=by repeat (first|exact trivial|refine⟨(by (repeat (first|exact j6|(apply lu;focus (first|rfl|(simp;done)|(congr 2;omega)|(apply iZ;rw[Mf aa])|(apply iZ;rfl)|(apply iZ;simp;done)))|(apply kE;focus rfl)));done),?_⟩)):p:=h
theorem w67(h:p:=by repeat (first|exact trivial|refine⟨(by (repeat (first|exact j6|(apply lu;focus (first|rfl|(simp;done)|(congr 2;omega)|(apply iZ;rw[hT];rfl)|(apply iZ;rfl)|(apply iZ;simp;done)))|(apply kE;focus rfl)));done),?_⟩)):p:=h
theorem Rg(h:p:=by repeat (first|exact trivial|exact⟨aH,trivial⟩|exact⟨bQ,trivial⟩|refine⟨aH,?_⟩|refine⟨bQ,?_⟩)):p:=h
theorem w69(h:p:=by repeat (first|exact trivial|refine⟨(by (repeat (first|exact j6|(apply lu;focus (first|rfl|(simp;done)|(congr 2;omega)|(apply iZ;exact Bu cc aa)|(apply iZ;simp;done)))|(apply kE;focus rfl)));done),?_⟩)):p:=h
theorem w70(h:p:=by repeat (first|exact trivial|refine⟨(by (repeat (first|exact j6|(apply lu;focus (first|rfl|(simp;done)|(congr 2;omega)|(apply iZ;exact Bu kI aa)|(apply iZ;simp;done)))|(apply kE;focus rfl)));done),?_⟩)):p:=h
theorem w71(h:p:=by repeat (first|exact trivial|refine⟨(by (repeat (first|exact j6|(apply lu;focus (first|rfl|(rw[Vq,if_neg JD];rfl)|(rw[Vq,if_pos JD];rfl)|(simp;done)|(congr 2;omega)))|(apply kE;focus rfl)));done),?_⟩)):p:=h
theorem w72(h:p:=by repeat (first|exact trivial|refine⟨(by (repeat (first|exact j6|(apply lu;focus (first|rfl|(simp;done)|(congr 2;omega)|(apply iZ;exact Bu ke aa)|(apply iZ;simp;done)))|(apply kE;focus rfl)));done),?_⟩)):p:=h
theorem q9(h:p:=by rw[append_nil]):p:=h
theorem w74(h:p:=by repeat (first|exact trivial|refine⟨(by (repeat (first|exact j6|(apply lu;focus (first|rfl|(simp;done)|(congr 2;omega)|(apply iZ;exact Vr nN)|(apply iZ;simp;done)))|(apply kE;focus rfl)));done),?_⟩)):p:=h
theorem CW(h:p:=by rw[length_append,length_singleton];omega):p:=h
theorem w76(h:p:=by repeat (first|exact trivial|refine⟨(by (repeat (first|exact j6|(apply lu;focus (first|rfl|(rw[show(20*(k+1):Nat)=20*k+20 by omega];rfl)|(simp;done)|(congr 3;omega)))|(apply kE;focus rfl)));done),?_⟩)):p:=h
theorem w77(h:p:=by repeat (first|exact trivial|refine⟨(by (repeat (first|exact j6|(apply lu;focus (first|rfl|(simp;done)|(congr 2;omega)|(apply iZ;rw[ZR])|(apply iZ;simp;done)))|(apply kE;focus rfl)));done),?_⟩)):p:=h
theorem Rh(h:p:=by exact(uT rfl ot (uW (r:=((((i+j)/2):Nat):Int)) runUnderlying259 runUnderlying3 (wrap_i64 w4 w4)))):p:=h
theorem Ri(h:p:=by exact(uT rfl ot (uW (r:=((i+j:Nat):Int)) runUnderlying3 runUnderlying259 (IntWalk.u64_in _ w4)))):p:=h
theorem Rj(h:p:=by exact(eE rfl ot ot (mB (r:=((i+j:Nat):Int)) (by rw[<-Int.natCast_add];exact wrap_i64 w4 w4)))):p:=h
theorem w81(h:p:=by repeat (first|exact trivial|refine⟨(by (repeat (first|exact j6|(apply lu;focus (first|rfl|(simp;done)|(congr 2;omega)|(apply iZ;exact sH jz)))|(apply kE;focus rfl)));done),?_⟩)):p:=h
theorem vA(h:p:=by rw[y2,rN,j8];simp):p:=h
theorem vB(h:p:=by rw[g.an];exact W0):p:=h
theorem FL(h:p:=by exact(eE rfl ot bP (W4 w7 amy))):p:=h
theorem FM(h:p:=by first|rfl|(show(1:Int)+_=1+_;omega)|omega):p:=h
theorem Rk(h:p:=by rw[<-show(p.kids.drop 3)=(dh p).kids from yt];simp only[length_take,length_drop];omega):p:=h
theorem Rl(h:p:=by rw[<-show(p.kids.drop 2)=(dh p).kids from yt];simp only[length_take,length_drop];omega):p:=h
theorem Rm(h:p:=by rw[<-show(p.keys.drop 3)=(dh p).keys from yu];simp only[length_take,length_drop];omega):p:=h
theorem Rn(h:p:=by rw[<-show(p.keys.drop 2)=(dh p).keys from yu];simp only[length_take,length_drop];omega):p:=h
theorem w90(h:p:=by repeat (first|exact trivial|refine⟨(by (repeat (first|exact j6|(apply lu;focus (first|rfl|(simp;done)|(rw[<-jl,fV.next hL.rX])))|(apply kE;focus rfl)));done),?_⟩)):p:=h
theorem yy(h:p:=by rw[length_append];omega):p:=h
theorem w92(h:p:=by exact⟨⟨_,ot,(n8 (cj (g:=cV) (by rw[length_set];exact Av) Ku) (dg fX _) (fun B hB=>by rw[mem_singleton] at hB;rw[hB];exact mem_cons_self))⟩,trivial⟩):p:=h
theorem w93(h:p:=by exact⟨⟨_,ot,(ahQ Ro (fun B hB=>by repeat (first|exact hB|apply mem_append_right|apply mem_cons_of_mem)):View _ (.agg (tC t ad cap)) _)⟩,⟨_,ot,fN⟩,trivial⟩):p:=h
theorem w94(h:p:=by repeat (first|exact trivial|refine⟨(by (repeat (first|exact j6|(apply lu;focus (first|rfl|(rw[yz];done)|(rw[bg];done)))|(apply kE;focus rfl)));done),?_⟩)):p:=h
theorem Kv(h:p:=by show _=p.kids.take (if p.leaf=true then 2 else 3);rw[gJ];rfl):p:=h
theorem Kw(h:p:=by show 0+_*1+1<=_;rw[dg fp,length_set];omega):p:=h
theorem w97(h:p:=by repeat (first|exact trivial|refine⟨(by (repeat (first|exact j6|(apply lu;focus (first|rfl|(rw[fA];done)|(simp;done)))|(apply kE;focus rfl)));done),?_⟩)):p:=h
theorem w98(h:p:=by repeat (first|exact trivial|refine⟨(by (repeat (first|exact j6|(apply lu;focus (first|rfl|(rw[fk];done)|(simp;done)))|(apply kE;focus rfl)));done),?_⟩)):p:=h
theorem w99(h:p:=by repeat (first|exact trivial|refine⟨(by (repeat (first|exact j6|(apply lu;focus (first|rfl|(congr 2;omega)|(simp;done)))|(apply kE;focus rfl)));done),?_⟩)):p:=h
theorem JE(h:p:=by first|exact .l (j:=a) rfl Rp|exact .r (j:=a) rfl Rp):p:=h
theorem uu(h:p:=by rw[g.an];decide):p:=h
theorem PC(h:p:=by rw[show(((a+(t+1):Nat):Int)-1)=((a+t:Nat):Int) by omega];exact wrap_i64 w4 w4):p:=h
theorem qz(h:p:=by simpa using h):p:=h
theorem x5(h:p:=by rw[length_set];omega):p:=h
theorem ET(h:p:=by show(-1:Int)<=9223372036854775807;decide):p:=h
theorem ZS(h:p:=by rw[show(xP 0 (⟨#[0,255]⟩:ByteArray).data.toList l[i].s).size=(jx l[i].s.data.toList).length from FN];simp only[length_append,length_cons,length_nil];omega):p:=h
theorem zM(h:p:=by rw[length_set];exact gp):p:=h
theorem ZT(h:p:=by exact(ny (mk:=Op.indexAddr 39) rfl ot bP (by first|exact qj runUnderlying39 sizeOf44 (j:=1) rfl eY|exact qp runUnderlying39 sizeOf44 (j:=1) rfl eY))):p:=h
theorem ZU(h:p:=by exact(ny (mk:=Op.indexAddr 39) rfl ot bP (by first|exact qj (j:=0) runUnderlying39 sizeOf44 rfl rV|exact qp (j:=0) runUnderlying39 sizeOf44 rfl rV))):p:=h
theorem JF(h:p:=by exact(sM (ds:=[_,_]) rfl ⟨ot,ot,trivial⟩)):p:=h
theorem ZV(h:p:=by rw[Nat.zero_add];exact rF Eo L1 (⟨(L1[level]'fi).l++[i],some ⟨mo,0,none⟩,lT,[⟨mo,3,lT*1,flatMap cI ((L1[level]'fi).l++[i])⟩]⟩:ev) fi):p:=h
theorem ZW(h:p:=by exact⟨⟨_,ot,(Oj fQ x6 (fun B hB=>by repeat (first|exact hB|apply mem_append_right|apply mem_cons_of_mem)))⟩,⟨_,ot,fN⟩,trivial⟩):p:=h
theorem JG(h:p:=by first|rfl|(rw[replicate_succ',append_assoc])):p:=h
theorem uv(h:p:=by rw[<-ho];rfl):p:=h
theorem ZX(h:p:=by rw[take_succ_eq_append_getElem w4];intro x hx;rcases mem_append.1 hx with hx|hx;exact h0 x hx;simp only[mem_singleton] at hx;subst hx;assumption):p:=h
theorem ZY(h:p:=by first|exact .l (j:=(bE t.an s.set).toNat) (Int.toNat_of_nonneg w4).symm fP|exact .r (j:=(bE t.an s.set).toNat) (Int.toNat_of_nonneg w4).symm fP):p:=h
theorem wA(h:p:=by rw[D3];decide):p:=h
theorem ZZ(h:p:=by intro x0 iU;have iU:x0∈[b7,b6]:=iU;show x0∈(b7::b6::_:List Nat);simp only[mem_cons,not_mem_nil,or_false] at iU |-;omega):p:=h
theorem Z0(h:p:=by first|exact .l (j:=(aC l s.table).toNat) (Int.toNat_of_nonneg w4).symm bp|exact .r (j:=(aC l s.table).toNat) (Int.toNat_of_nonneg w4).symm bp):p:=h
theorem PF(h:p:=by first|exact .l (j:=a+t+1) rfl w4|exact .r (j:=a+t+1) rfl w4):p:=h
theorem PG(h:p:=by rw[show((j:Int)-1)=((j-1:Nat):Int) by omega];exact wrap_i64 w4 w4):p:=h
theorem Z1(h:p:=by rw[show(((bn (t.pg (aV t k h t.root)) k):Nat):Int)+1=(((bn (t.pg (aV t k h t.root)) k)+1:Nat):Int) from rfl];exact wrap_i64 w4 w4):p:=h
theorem PI(h:p:=by simp[gC,fL,xC xI,uc,xI,xC alc,Zm,OX]):p:=h
theorem JH(h:p:=by show 0+_*1+1<=_;rw[dg fp];omega):p:=h
theorem Z2(h:p:=by exact(ez (mk:=Op.load 30) rfl ot (kV (k:=2) (i:=((av t s.ah).1[k]'aa).toNat) (ls:=L) En rfl rfl rfl isAgg30 gp rfl))):p:=h
theorem wB(h:p:=by simp at aP;omega):p:=h
theorem PJ(h:p:=by unfold dr;rw[if_neg di,if_neg eP,if_neg fR,if_pos ik,nO]):p:=h
theorem x7(h:p:=by simp[maxLen];omega):p:=h
theorem PM(h:p:=by first|exact .l (j:=a+t) rfl w4|exact .r (j:=a+t) rfl w4):p:=h
theorem vg(h:p:=by rw[h4];decide):p:=h
theorem Z3(h:p:=by first|exact .l (j:=(st.length-(cn ops[i].k).toNat)+1) w4 w4|exact .r (j:=(st.length-(cn ops[i].k).toNat)+1) w4 w4):p:=h
theorem Z4(h:p:=by intro B hB;simp only[mem_cons,not_mem_nil,or_false] at hB;rcases hB with rfl|rfl|rfl<;>simp[gC,fL,uc,xI]):p:=h
theorem PN(h:p:=by rw[e9];exact mem_flatMap.2 ⟨_,getElem_mem d1,hx⟩):p:=h
theorem Z5(h:p:=by have:=congrArg length Rq;rw[length_append,length_singleton] at this;rw[length_cons,length_cons];omega):p:=h
theorem PO(h:p:=by first|exact .l (j:=a) rfl pK|exact .r (j:=a) rfl pK):p:=h
theorem Z6(h:p:=by first|exact .l (j:=i.toNat) (Int.toNat_of_nonneg hi.1).symm hj|exact .r (j:=i.toNat) (Int.toNat_of_nonneg hi.1).symm hj):p:=h
theorem Z7(h:p:=by first|exact .l (j:=(st.length-(cn ops[i].k).toNat)) w4 w4|exact .r (j:=(st.length-(cn ops[i].k).toNat)) w4 w4):p:=h
theorem Z8(h:p:=by have dy:=ee;(try simp only[length_append,length_cons,length_nil,length_map,length_take]);omega):p:=h
theorem PP(h:p:=by first|exact .l (j:=j) rfl w4|exact .r (j:=j) rfl w4):p:=h
theorem PR(h:p:=by unfold xJ;rw[Z9,aoi,if_pos (by simpa using da)];rfl):p:=h
theorem aaa(h:p:=by show take (Nat.min 1 (q.length+1-i)) (cK a)=_;rw[show Nat.min 1 (q.length+1-i)=1 from Nat.min_eq_left w4];rfl):p:=h
theorem aab(h:p:=by show take (Nat.min 1 (q.length+1-i)) (cI a)=_;rw[show Nat.min 1 (q.length+1-i)=1 from Nat.min_eq_left w4];rfl):p:=h
theorem aac(h:p:=by simp only[flatten_cons,flatten_nil,length_append,length_map,length_cons,length_nil];omega):p:=h
theorem aad(h:p:=by show(L.flatMap gO).set (0+(aV t k h t.root).toNat*5+1) _=_;rw[Nat.zero_add];exact Dz jL w7 hj w28):p:=h
theorem PS(h:p:=by exact(Hr rfl ot ot eqGuardType44 (x8 _ _ _ _))):p:=h
theorem EU(h:p:=by rw[length_set];exact hj):p:=h
theorem aae(h:p:=by first|exact qj runUnderlying29 sizeOf109 (j:=0) rfl Kx|exact qp runUnderlying29 sizeOf109 (j:=0) rfl Kx):p:=h
theorem aaf(h:p:=by first|exact .inl (agf (by simpa using Jh))|exact .inr (ahR (by simpa using Jh) (by simpa using iE))):p:=h
theorem wC(h:p:=by exact gD):p:=h
theorem wD(h:p:=by simpa using hx):p:=h
theorem aag(h:p:=by show(p.kids.eraseIdx (bn (t.pg (aV t k h t.root)) k)).length<=ci;rw[length_eraseIdx_of_lt rU];omega):p:=h
theorem PT(h:p:=by rw[<-Array.getElem?_toList,getElem?_eq_getElem hj]):p:=h
theorem aah(h:p:=by show(p.keys.eraseIdx (bn (t.pg (aV t k h t.root)) k)).length<=ck;rw[length_eraseIdx_of_lt ha];omega):p:=h
theorem vh(h:p:=by rw[y1];rfl):p:=h
theorem x9(h:p:=by simpa using bg):p:=h
theorem JI(h:p:=by rw[if_neg nh,if_pos (oK.2 h)]):p:=h
theorem JJ(h:p:=by rw[length_append];simp;omega):p:=h
theorem Cn(h:p:=by simpa[aq] using eT):p:=h
theorem Co(h:p:=by show 1<=10;decide):p:=h
theorem zN(h:p:=by unfold vj;simp):p:=h
theorem aai(h:p:=by exact(eE (r:=.int .i64 kk) rfl bP ot (mB (by rw[nP];exact wrap_i64 w4 w4)))):p:=h
theorem aaj(h:p:=by show 0+(aV t k h t.root).toNat*5+1+1<=(flatMap gO L).length;rw[dg jL];omega):p:=h
theorem Cp(h:p:=by simpa[aq] using hj):p:=h
theorem aak(h:p:=by rw[show bT (⟨_,_,iF,bj,rY,[]⟩:bu)=rY from append_nil _];exact Perm.refl _):p:=h
theorem zO(h:p:=by rw[jo];decide):p:=h
theorem JK(h:p:=by rw[length_dropLast,h];rfl):p:=h
theorem Cq(h:p:=by unfold wi;simp):p:=h
theorem PU(h:p:=by show _<=1000;exact Nat.le_of_ble_eq_true rfl):p:=h
theorem aal(h:p:=by rw[show(((a+t:Nat):Int)+1)=((a+t+1:Nat):Int) by omega];exact wrap_i64 w4 w4):p:=h
theorem zP(h:p:=by simpa using aP):p:=h
theorem EV(h:p:=by rw[Ex.pu];decide):p:=h
theorem Cr(h:p:=by exact fun _=>rfl):p:=h
theorem PV(h:p:=by rw[<-Int.natCast_add];exact wrap_i64 w4 w4):p:=h
theorem PW(h:p:=by rw[length_cons,length_cons];omega):p:=h
theorem PX(h:p:=by show w.heap.size<(w.heap.push _).size;simp):p:=h
theorem zQ(h:p:=by simpa using hl):p:=h
theorem PY(h:p:=by show(w.heap.push _)[w.heap.size]?=_;simp):p:=h
theorem zR(h:p:=by decide +kernel):p:=h
theorem aam(h:p:=by first|exact .l (j:=((i+j)/2)) rfl w4|exact .r (j:=((i+j)/2)) rfl w4):p:=h
theorem PZ(h:p:=by rw[dg xK,length_take];omega):p:=h
theorem aan(h:p:=by rw[HL];simp only[length_append,length_cons,length_nil];omega):p:=h
theorem wE(h:p:=by assumption):p:=h
theorem aao(h:p:=by exact(fw (l:=i+1) (h:=q.length+1) rfl ot ⟨_,ot⟩ trivial yx)):p:=h
theorem aap(h:p:=by exact(fw (l:=i+1) (h:=q.length+1) rfl ot ⟨_,ot⟩ trivial yw)):p:=h
theorem P0(h:p:=by rw[iG,DA,if_neg w4];exact kM):p:=h
theorem aaq(h:p:=by exact(eE rfl bP ot (zj (by show 1+nm.size<=_;omega)))):p:=h
theorem aar(h:p:=by rw[show bO ⟨p,ak,ck,sk,ai,ci,si⟩=sk++si from rfl,append_assoc]):p:=h
theorem JL(h:p:=by rw[length_map];omega):p:=h
theorem aas(h:p:=by simp only[maxLen,length_set,length_cons,length_nil] at *;omega):p:=h
theorem aat(h:p:=by show 0+level*1+1<=(flatMap gV L1).length;rw[dg Eo];omega):p:=h
theorem JM(h:p:=by simp only[maxLen];omega):p:=h
theorem JN(h:p:=by show i<cs.length;omega):p:=h
theorem z4(h:p:=by
  refine bA func13 rfl ntmps13 aO fun X0 w0 bz=>?_;have dy:=ee;have kZ:=g.fm;have pL:=Mg hm hw ht hG l g;have gj:=sQ (G:=G) l w4 nm;have nO:=vX (fun t:aA=>t.nm.toList==nm.toList) l;rw[show dD (fun t:aA=>t.nm.toList==nm.toList) l=aC l nm from rfl] at nO;refine cq ?_;refine dm [_] (fun b2=>?_);refine ap 54 [1,2] ?_;refine cW [1,2,6] (pL) ?_;refine ax [1,2,6,17] ?_ ?_<;>intro aP bH
  ·exact absurd aP (by simp at aP)
  refine cW [2,7] (gj) ?_;refine ax [2,7,24] ?_ ?_<;>intro bg cM
  ·have h0:aC l nm<0:=(by simpa using bg)
   have aZ:oM l nm=([],8):=if_pos h0;refine ay [4,5] ?_;refine kX (Wk.tY (t:=4) (sz:=1) lk) ?_;refine eD [] ?_;rw[aZ];exact⟨rfl,rfl⟩
  have h0:¬aC l nm<0:=(by simpa using bg)
  have bp:(aC l nm).toNat<l.length:=(by omega)
  have qf:=g.tb (l[(aC l nm).toNat]'bp) (getElem_mem bp);have jm:l.getD (aC l nm).toNat ⟨nm,[],[],nc⟩=(l[(aC l nm).toNat]'bp):=(by rw[getD_eq_getElem?_getD,getElem?_eq_getElem bp];rfl)
  have aZ:oM l nm=((er (l[(aC l nm).toNat]'bp).ix).map fun x=>rowAt (l[(aC l nm).toNat]'bp) x.2,0):=(by unfold oM;rw[if_neg h0,jm])
  have oX:=W5 (G:=G) qf.ix;rw[MN] at oX;unfold Tw.cT at oX;have yA:=W6 qf;have fP:=YH (l[(aC l nm).toNat]'bp) (l[(aC l nm).toNat]'bp).rows.length;have Rr:=qf.fm;refine az 3 ?_;refine bS (ei 5 (h:=by first|exact .l (j:=(aC l nm).toNat) (Int.toNat_of_nonneg w4).symm bp|exact .r (j:=(aC l nm).toNat) (Int.toNat_of_nonneg w4).symm bp)) ?_;refine aF 1 ?_;refine cD (ds:=[_,_,_,_,_]) au rfl rfl zeroValue76 rfl (fun b8=>?_);refine aN 0 [_,_,_,_,_] sizeOf76 ?_;refine ap 54 [8] ?_;refine cW [8,9] (oX) ?_;refine cq ?_;refine bL [8,9,11] ?_;refine ay [8,11,36,37,38] ?_;refine eZ [8,36,37] (fun aU _ (aR:Nat×List (List Vl)×Option Addr×Nat×List ag) aE=>match aR with|(i,acc,eJ,dW,Sx)=>(i<=(er (l[(aC l nm).toNat]'bp).ix).length)/\(acc=((er (l[(aC l nm).toNat]'bp).ix).take i).map fun x=>rowAt (l[(aC l nm).toNat]'bp) x.2)/\(bF 30 1 ((acc).flatMap eX) (acc).length eJ dW Sx)/\aE=(⟨54,(11,aS eJ (acc).length dW)::(38,ae (i:Nat))::aU,(⟨b8,76,5,cr (l[(aC l nm).toNat]'bp)⟩::⟨b2,25,1,[aj 5 cr (l)]⟩::Sx)⟩:St)) (fun (aR:Nat×List (List Vl)×Option Addr×Nat×List ag)=>match aR with|(i,acc,eJ,dW,Sx)=>(er (l[(aC l nm).toNat]'bp).ix).length-i) (0,([]:List (List Vl)),none,0,[]) ⟨(Nat.zero_le _),rfl,(bF.cast jt lU),rfl⟩ ?_;rintro⟨i,acc,eJ,dW,Sx⟩ _ ⟨hi,qW,eW,rfl⟩;refine ax [8,11,36,37,38,39] ?_ ?_<;>intro cl di
  ·have aa:i<(er (l[(aC l nm).toNat]'bp).ix).length:=(by omega)
   obtain⟨iU,eY,mq,CX⟩:=qf.jA _ (getElem_mem aa);have ni:rowAt (l[(aC l nm).toNat]'bp) ((er (l[(aC l nm).toNat]'bp).ix)[i]'aa).2=((l[(aC l nm).toNat]'bp).rows[((er (l[(aC l nm).toNat]'bp).ix)[i]'aa).2.toNat]'eY):=ju eY;have h4:=qu (qf.row _ eY mq).1;have fB:=Un (G:=G) ((l[(aC l nm).toNat]'bp).rows[((er (l[(aC l nm).toNat]'bp).ix)[i]'aa).2.toNat]'eY) w4;have pK:acc.length=i:=(by rw[qW,length_map,length_take];omega)
   refine az 2 ?_;refine cD (ds:=[_,_]) au rfl rfl zeroValue99 rfl (fun nQ=>?_);refine aN 0 [_,_] sizeOf99 ?_;refine ap 54 [8,11,13,36,37,38] ?_;refine dB 5 ?_;refine bS (ei 1 (h:=by first|exact .l (j:=((er (l[(aC l nm).toNat]'bp).ix)[i]'aa).2.toNat) (Int.toNat_of_nonneg iU).symm eY|exact .r (j:=((er (l[(aC l nm).toNat]'bp).ix)[i]'aa).2.toNat) (Int.toNat_of_nonneg iU).symm eY)) ?_;refine aF 1 ?_;refine dK call37 (fB) ?_;refine eR (cU 0 [_]) [.slice none 0 0] [_] zeroValue30 runUnderlying46 sizeOf30 (fun CY=>?_);refine gb 0 50 1 1 ?_;refine gi (ls:=(acc)) (new:=[((l[(aC l nm).toNat]'bp).rows[((er (l[(aC l nm).toNat]'bp).ix)[i]'aa).2.toNat]'eY)]) (Sq:=Sx) kR Vs au rfl rfl underlying46 LW rfl w7 ot eW (dL (A:=[_,_,_])) ot bC pI pJ (fun rZ zS P1 P2=>?_);refine cg (eM (S1:=[⟨rZ,30,zS*1,flatMap eX ((acc)++[((l[(aC l nm).toNat]'bp).rows[((er (l[(aC l nm).toNat]'bp).ix)[i]'aa).2.toNat]'eY)])⟩]) (A:=[_,_,_])) ?_;refine ap 54 [8,11,36,37,38] ?_;refine bM [8,11,36,37,38] ?_
   refine⟨((i+1),(acc++[((l[(aC l nm).toNat]'bp).rows[((er (l[(aC l nm).toNat]'bp).ix)[i]'aa).2.toNat]'eY)]),(some ⟨rZ,0,none⟩),zS,[⟨rZ,30,zS*1,flatMap eX ((acc)++[((l[(aC l nm).toNat]'bp).rows[((er (l[(aC l nm).toNat]'bp).ix)[i]'aa).2.toNat]'eY)])⟩]),_,cR,aL,w4,(by rw[qW,<-ni,<-sH aa,map_append];rfl),(bF.cast (cj P1 P2) lU),rfl⟩
  have lG:acc=(er (l[(aC l nm).toNat]'bp).ix).map fun x=>rowAt (l[(aC l nm).toNat]'bp) x.2:=(by rw[qW,take_of_length_le w4])
  refine ay [4,5] ?_;refine mS (t:=4) (Sq:=Sx) lk eW (dg kR _) (dL (A:=[_,_])) ?_;refine eD [] ?_;rw[aZ,<-lG];exact⟨rfl,rfl⟩
  ):p:=h
theorem z5(h:p:=by
  refine bV (i:=17) aD ?_;refine lq rfl au rfl rfl rfl call149 (TW p.kids (bn (t.pg (aV t k h t.root)) k) ci bi rU gq Ky w4) ⟨ot,ot,ot,trivial⟩ (nA (k:=5) rfl) jB ?_;rintro _ _ ⟨rfl,rfl⟩;refine gS (perm_middle (l₁:=[_,_,_,_,_])).symm ?_;refine dX 18 rfl Kz ?_;refine dX 19 rfl (j3 1) ?_;refine bV (i:=20) aD ?_;refine xo (k:=3) (cs':=flatMap gO (L.set (aV t k h t.root).toNat (⟨{p with keys:=(p.keys.eraseIdx (bn (t.pg (aV t k h t.root)) k))},some ⟨bk,0,none⟩,ck,[⟨bk,83,ck*1,flatMap cK (p.keys.eraseIdx (bn (t.pg (aV t k h t.root)) k))⟩],some ⟨bi,0,none⟩,ci,[⟨bi,3,ci*1,flatMap cI p.kids⟩]⟩:bD))) rfl au rfl rfl ot rfl rfl ot rfl rfl sizeOf163 rfl aaj aad jB ?_;refine gd ?_;refine aF 2 ?_;refine pn (k:=3) (cs':=flatMap gO (L.set (aV t k h t.root).toNat (⟨(nI p (bn (t.pg (aV t k h t.root)) k)),some ⟨bk,0,none⟩,ck,[⟨bk,83,ck*1,flatMap cK (p.keys.eraseIdx (bn (t.pg (aV t k h t.root)) k))⟩],some ⟨bi,0,none⟩,ci,[⟨bi,3,ci*1,flatMap cI (p.kids.eraseIdx (bn (t.pg (aV t k h t.root)) k))⟩]⟩:bD))) au rfl rfl ot rfl rfl ot rfl rfl sizeOf27 rfl w32 w50 ?_
  have yB:(⟨bk,83,ck*1,flatMap cK (p.keys.eraseIdx (bn (t.pg (aV t k h t.root)) k))⟩::⟨bi,3,ci*1,flatMap cI (p.kids.eraseIdx (bn (t.pg (aV t k h t.root)) k))⟩::((L.eraseIdx (aV t k h t.root).toNat).flatMap bO)).Perm ((L.set (aV t k h t.root).toNat (⟨(nI p (bn (t.pg (aV t k h t.root)) k)),some ⟨bk,0,none⟩,ck,[⟨bk,83,ck*1,flatMap cK (p.keys.eraseIdx (bn (t.pg (aV t k h t.root)) k))⟩],some ⟨bi,0,none⟩,ci,[⟨bi,3,ci*1,flatMap cI (p.kids.eraseIdx (bn (t.pg (aV t k h t.root)) k))⟩]⟩:bD)).flatMap bO):=(Bv bO hj (⟨(nI p (bn (t.pg (aV t k h t.root)) k)),some ⟨bk,0,none⟩,ck,[⟨bk,83,ck*1,flatMap cK (p.keys.eraseIdx (bn (t.pg (aV t k h t.root)) k))⟩],some ⟨bi,0,none⟩,ci,[⟨bi,3,ci*1,flatMap cI (p.kids.eraseIdx (bn (t.pg (aV t k h t.root)) k))⟩]⟩:bD)).symm;refine cg (Perm.cons _ (Perm.cons _ (Perm.cons _ (Perm.cons _ yB)))) ?_;refine ap 58 [4,7] ?_;refine az 1 ?_;refine aN 1 [_,_] sizeOf74 ?_;refine ap 58 [4,5] ?_
  refine eD ([⟨bx,165,cap*5,flatMap gO (L.set (aV t k h t.root).toNat (⟨(nI p (bn (t.pg (aV t k h t.root)) k)),some ⟨bk,0,none⟩,ck,[⟨bk,83,ck*1,flatMap cK (p.keys.eraseIdx (bn (t.pg (aV t k h t.root)) k))⟩],some ⟨bi,0,none⟩,ci,[⟨bi,3,ci*1,flatMap cI (p.kids.eraseIdx (bn (t.pg (aV t k h t.root)) k))⟩]⟩:bD))⟩]++(L.set (aV t k h t.root).toNat (⟨(nI p (bn (t.pg (aV t k h t.root)) k)),some ⟨bk,0,none⟩,ck,[⟨bk,83,ck*1,flatMap cK (p.keys.eraseIdx (bn (t.pg (aV t k h t.root)) k))⟩],some ⟨bi,0,none⟩,ci,[⟨bi,3,ci*1,flatMap cI (p.kids.eraseIdx (bn (t.pg (aV t k h t.root)) k))⟩]⟩:bD)).flatMap bO) ?_;unfold uw;rw[if_pos hz,if_pos jo];refine⟨_,rfl,L.set (aV t k h t.root).toNat (⟨(nI p (bn (t.pg (aV t k h t.root)) k)),some ⟨bk,0,none⟩,ck,[⟨bk,83,ck*1,flatMap cK (p.keys.eraseIdx (bn (t.pg (aV t k h t.root)) k))⟩],some ⟨bi,0,none⟩,ci,[⟨bi,3,ci*1,flatMap cI (p.kids.eraseIdx (bn (t.pg (aV t k h t.root)) k))⟩]⟩:bD),some ⟨bx,0,none⟩,cap,_,by rw[length_set];rfl,cj zM Aw,fun x hx=>?_,?_,rfl⟩
  ·rcases mem_or_eq_of_mem_set hx with hx|rfl
   ·exact bf x hx
   exact⟨cj aah vC,cj aag Ky⟩
  rw[map_set,hL];show _=t.af.set (aV t k h t.root).toNat (nI (t.pg (aV t k h t.root)) (bn (t.pg (aV t k h t.root)) k));rw[<-jl]):p:=h
theorem z6(h:p:=by
  have kv:=Ol hv;have kw:=Ol hw;unfold jO;rw[cons_append,cons_append];unfold fh cmpL gA gA gA gA at h;rcases uU v.k w.k with h1|h1|h1
  ·exact lD _ _ w4
  ·have ek:kb v=kb w:=UInt8.toNat_inj.1 w4;rw[ek,lR];rw[h1.1,if_neg bC] at h;have hk:=LX hv;have h4:v.k=0\/v.k=1\/v.k=2\/v.k=3:=(by omega)
   rcases uU v.n w.n with h2|h2|h2
   ·rcases h4 with e|e|e|e
    ·have:=zk hv e;have:=zk hw w4;simp_all
    ·have n1:=Om hv e;have n2:=Om hw w4;rw[Je e,Je w4];exact lD _ _ w4
    ·have u1:=On ov;have u2:=On ow;have b1:=ov.n2;have b2:=ow.n2;rw[Jf e,Jf w4];exact xQ _ _ _ _ (by rw[zu,zu]) (by rw[DM w4,DM w4];omega)
    have:=D4 hv e;have:=D4 hw w4;omega
   ·rw[h2.1,if_neg bC] at h;have h:compareBytes v.s.data.toList w.s.data.toList = -1:=by
     by_cases hz:compareBytes v.s.data.toList w.s.data.toList=0
     ·rw[hz] at h;simp at h
     rw[if_pos hz] at h;exact h
    rcases h4 with e|e|e|e
    ·rw[zk hv e,zk hw w4] at h;exact absurd h w7
    ·rw[D5 hv e,D5 hw w4] at h;exact absurd h w7
    ·rw[D6 hv e,D6 hw w4] at h;exact absurd h w7
    rw[Jg e,Jg w4,append_assoc,append_assoc];exact xL _ _ _ _ h
   rw[h2.1,if_pos w7] at h;exact absurd h w7
  rw[h1.1,if_pos w7] at h;exact absurd h w7):p:=h
theorem z7(h:p:=by
  refine bV (i:=15) aD ?_;refine rz (ls:=L) (new:=[(⟨(t.af[i]'aa),jC,jD,Sy,nR,nS,Sz⟩:bD)]) (Sq:=Sx) jL IR rfl au rfl rfl underlying72 ae0 rfl w7 ot eW (Vt (A:=[_,_,_])) ot bC pI pJ (fun KA ya aoj aok=>?_);refine gS (ahS (S3:=[⟨KA,165,ya*5,flatMap gO (L++[(⟨(t.af[i]'aa),jC,jD,Sy,nR,nS,Sz⟩:bD)])⟩]) (A:=[_,_,_])) ?_;refine gS (S':=⟨b5,165,5,cP (t.af[i]'aa)⟩::⟨b3,74,2,[aS eJ L.length dW,ae t.root]⟩::⟨b2,74,2,[aJ,ae 0]⟩::([⟨KA,165,ya*5,flatMap gO (L++[(⟨(t.af[i]'aa),jC,jD,Sy,nR,nS,Sz⟩:bD)])⟩]++(L++[(⟨(t.af[i]'aa),jC,jD,Sy,nR,nS,Sz⟩:bD)]).flatMap bO)) (kS fun oq=>by rw[W7];simp only[bO,map_append,map_cons,map_nil,sum_append,sum_cons,sum_nil];omega) ?_;refine gd ?_;refine aF 1 ?_;refine aN 1 [_,_] sizeOf72 ?_;refine ap 51 [2,3,13,14,15] ?_;refine bM [2,3,13,14,15] ?_;refine⟨((i+1),(L++[(⟨(t.af[i]'aa),jC,jD,Sy,nR,nS,Sz⟩:bD)]),(some ⟨KA,0,none⟩),ya,[⟨KA,165,ya*5,flatMap gO (L++[(⟨(t.af[i]'aa),jC,jD,Sy,nR,nS,Sz⟩:bD)])⟩]),_,cR,aL,w4,yC,lH,(cj aoj aok),rfl⟩):p:=h
theorem z8(h:p:=by
  refine r8 13 rfl ?_;refine r8 16 rfl ?_;refine mC (i:=14) (j:=17) aD ?_ ?_
  ·refine rA rfl (oH rfl rfl rfl lk ko) rfl ?_;refine mC (i:=15) (j:=17) aD ?_ ?_
   ·refine rA rfl (oH rfl rfl rfl lk ko) rfl ?_;refine bV (i:=17) aD ?_;refine rA rfl (oH rfl rfl rfl lk ko) rfl ?_;refine r8 18 rfl ?_;refine r8 19 rfl ?_;refine dX 20 rfl zT ?_;refine gd ?_;refine bL [3] ?_;refine ay [52] ?_;refine fu ?_;refine ay [2] ?_;refine fJ ?_;refine⟨vi ?_,rfl⟩;try simp only[xD] at *
    simp only[wj,qs];try simp_all
    try omega
   refine rA rfl (oH rfl rfl rfl lk ko) rfl ?_;refine r8 18 rfl ?_;refine bV (i:=15) aD ?_;refine rA rfl (oH rfl rfl rfl lk ko) rfl ?_;refine r8 19 rfl ?_;refine dX 20 rfl zT ?_;refine gd ?_;refine bL [3] ?_;refine ay [52] ?_;refine fu ?_;refine ay [2] ?_;refine fJ ?_;refine⟨vi ?_,rfl⟩;try simp only[xD] at *
   simp only[wj,qs];try simp_all
   try omega
  refine rA rfl (oH rfl rfl rfl lk ko) rfl ?_;refine r8 18 rfl ?_;refine bV (i:=14) aD ?_;refine rA rfl (oH rfl rfl rfl lk ko) rfl ?_;refine bV (i:=15) aD ?_;refine rA rfl (oH rfl rfl rfl lk ko) rfl ?_;refine r8 19 rfl ?_;refine dX 20 rfl zT ?_;refine gd ?_;refine bL [3] ?_;refine ay [52] ?_;refine fu ?_;refine ay [2] ?_;refine fJ ?_;refine⟨vi ?_,rfl⟩;try simp only[xD] at *
  simp only[wj,qs];try simp_all
  try omega):p:=h
theorem KB(h:p:=by
  refine⟨vb (HN fun hp=>?_),rfl⟩;have g1:=hp.fm;have g2:=hp.hlen;have g3:=hp.zU;have g4:=hp.zB;have g5:=hp.zV;have g6:=hp.leaf;have g7:=fun h=>(hp.node h).1;have g8:=fun h (e:p.keys.length=0)=>(hp.node h).2 (length_eq_zero_iff.1 e);clear hp;first|omega|(rw[amz g5] at aP;cases aP;done)|(have:=g6 ux;omega)|(have gJ:p.leaf=false:=(by simpa using wF);have:=g7 gJ;omega)|(have gJ:p.leaf=false:=(by simpa using wF);exact g8 gJ w4)):p:=h
theorem wQ(h:p:=by
  refine aN 0 [_,_,_] sizeOf36 ?_;refine eA 106 [6,7] [] ?_;rw[aZ];first|exact⟨rfl,rfl⟩|(refine⟨?_,rfl⟩;clear aZ fB r9 pM mr pL rf;generalize (fh a b==0)=z1 at *;generalize (decide (fh a b<0))=z2 at *;subst_vars;simp_all;done)):p:=h
theorem z12(h:p:=by
  rcases Np l s with ⟨e,h1,h2⟩|⟨_,hz⟩
  ·rw[h1];exact h2
  exfalso;have jm:l.getD (0:Int).toNat (iN s)=l[0]:=(by show l.getD 0 _=_;rw[getD_eq_getElem?_getD,getElem?_eq_getElem h0];rfl)
  have hb:∀w,(eG l[0].an w).2≠0->(av l[0] w).2≠0:=fun w hw=>by unfold av;rw[if_pos hw];exact hw
  unfold gz at hz;rw[if_neg k1,show aC l s.table=0 by rw[ht];exact Cs h,if_neg w7,jm] at hz;by_cases k3:s.kind=3
  ·rw[if_pos k3] at hz;have iH:Pc.dV l[0].an s.row≠0:=(by unfold iy at hf;rw[if_pos k3] at hf;simpa using hf)
   dsimp only at hz;unfold iB at hz;rw[if_pos iH] at hz;exact iH hz
  rw[if_neg k3] at hz;by_cases k4:s.kind=4
  ·rw[if_pos k4] at hz;dsimp only at hz;unfold oe at hz;by_cases n1:(s.names.any fun n=>decide (bE l[0].an n<0))=true
   ·rw[if_pos n1] at hz;exact absurd hz w7
   rw[if_neg n1] at hz;by_cases n2:rO l[0] s<0
   ·rw[if_pos n2] at hz;exact absurd hz w7
   rw[if_neg n2] at hz;have n3:(av l[0] s.ah).2≠0:=by
    refine hb _ ?_;unfold iy at hf;rw[if_neg k3,if_neg (fun q=>q.2.elim n1 fun q=>n2 (by rw[show rO l[0] s=bE l[0].an s.order from if_neg (fun e=>q.1 (vY.1 e))];exact q.2)),if_neg (fun q=>by have:=q.1;omega)] at hf;simpa using hf
   rw[if_pos n3] at hz;exact n3 hz
  rw[if_neg k4] at hz;by_cases k5:s.kind=5
  ·rw[if_pos k5] at hz;dsimp only at hz;unfold jb at hz;by_cases n1:bE l[0].an s.set<0
   ·rw[if_pos n1] at hz;exact absurd hz (by show ¬(8:Int)=0;decide)
   rw[if_neg n1] at hz;by_cases n2:(dZ l[0].an s.bG).2≠0
   ·rw[if_pos n2] at hz;exact n2 hz
   rw[if_neg n2] at hz;by_cases n3:(dZ l[0].an s.bG).1≠(l[0].an.getD (bE l[0].an s.set).toNat ⟨⟨#[]⟩,0⟩).k/\(dZ l[0].an s.bG).1≠0
   ·rw[if_pos n3] at hz;exact absurd hz (by show ¬(4:Int)=0;decide)
   rw[if_neg n3] at hz;have n4:(av l[0] s.ah).2≠0:=by
    refine hb _ ?_;unfold iy at hf;rw[if_neg k3,if_neg (fun q=>k4 q.1),if_neg (fun q=>q.2.elim n1 fun q=>q.elim n2 fun q=>n3 ⟨q.2,q.1⟩)] at hf;simpa using hf
   rw[if_pos n4] at hz;exact n4 hz
  rw[if_neg k5] at hz;dsimp only at hz;unfold n9 at hz;have n4:(av l[0] s.ah).2≠0:=by
   refine hb _ ?_;unfold iy at hf;rw[if_neg k3,if_neg (fun q=>k4 q.1),if_neg (fun q=>k5 q.1)] at hf;simpa using hf
  rw[if_pos n4] at hz;exact n4 hz):p:=h
theorem z13(h:p:=by
  have Rt:((bK[bK.length-1].k==6) || !(((dD (lQ key) (bK.take 2))==0)==nt))=true:=(by first|rw[OY,Bool.true_or]|rw[iu,Bool.or_true])
  have FO:(gI key (f+1) ops (lo,hi))=sW (fS [bK[(dD gU (bK.take 2)).toNat].v]).1 b1:=(by rw[Zn];unfold pC;rw[show((bK[bK.length-1].k==6)||((dD (lQ key) (bK.take 2))==0)!=nt)=true from Rt,<-iI];rfl)
  refine az 7 ?_;refine cz 141 (fun amA ald=>?_) (fun amA ald=>?_)
  ·refine bL [0,11,149] ?_;refine fu ?_;have vD:b1.2.length=0\/compareBytes (fS [bK[(dD gU (bK.take 2)).toNat].v]).1 b1.2<0:=(by first|exact .inl w4|exact .inr (by simpa using iE))
   have vE:(gI key (f+1) ops (lo,hi))=(b1.1,(fS [bK[(dD gU (bK.take 2)).toNat].v]).1):=(by rw[FO];unfold sW;rw[if_pos vD])
   refine dB 2 ?_;refine dK call93 (MO (fS [bK[(dD gU (bK.take 2)).toNat].v]).1 w4) ?_;refine aF 2 ?_;refine aN 0 [_,_] sizeOf83 ?_;refine eA 155 [] [⟨b0,_,_,_⟩] ?_;refine⟨rfl,?_⟩;first|rw[vE]|rw[aZ]
  refine aF 5 ?_;refine pS jq rfl rfl rfl call61 (W8 (fS [bK[(dD gU (bK.take 2)).toNat].v]).1 b1.2) ⟨ot,ot,trivial⟩ ?_;refine ap 155 [0,11,149] ?_;refine bX ?_ ?_<;>intro iE nJ
  ·have vD:b1.2.length=0\/compareBytes (fS [bK[(dD gU (bK.take 2)).toNat].v]).1 b1.2<0:=(by first|exact .inl w4|exact .inr (by simpa using iE))
   have vE:(gI key (f+1) ops (lo,hi))=(b1.1,(fS [bK[(dD gU (bK.take 2)).toNat].v]).1):=(by rw[FO];unfold sW;rw[if_pos vD])
   refine dB 2 ?_;refine dK call93 (MO (fS [bK[(dD gU (bK.take 2)).toNat].v]).1 w4) ?_;refine aF 2 ?_;refine aN 0 [_,_] sizeOf83 ?_;refine eA 155 [] [⟨b0,_,_,_⟩] ?_;refine⟨rfl,?_⟩;first|rw[vE]|rw[aZ]
  have vD:¬(b1.2.length=0\/compareBytes (fS [bK[(dD gU (bK.take 2)).toNat].v]).1 b1.2<0):=(by (have hcr:¬compareBytes (fS [bK[(dD gU (bK.take 2)).toNat].v]).1 b1.2<0:=by simpa using iE);omega)
  have vE:(gI key (f+1) ops (lo,hi))=b1:=(by rw[FO];unfold sW;rw[if_neg vD])
  refine eD [⟨b0,_,_,_⟩] ?_;refine⟨rfl,?_⟩;first|rw[vE]|rw[aZ]):p:=h
theorem z14(h:p:=by
  refine az 1 ?_;refine fF (Wk.eN (n:=19) (l':=[(0,_),(1,_)]) (S':=S) rfl oW gg) ?_;refine jX ?_;refine az 3 ?_;refine fF (Wk.eN (n:=19) (l':=[(0,_),(1,_),(7,_),(8,_)]) (S':=S) rfl oW gg) ?_;refine jX ?_;refine eZ [0,1,7] (fun aU _ (k:Nat) aE=>(k<=ls.length)/\(∀x∈ls.take k,p x=false)/\aE=(⟨19,(8,ae (k:Nat))::aU,S⟩:St)) (fun (k:Nat)=>ls.length-k) 0 ⟨Nat.zero_le _,bC,rfl⟩ ?_;rintro k _ ⟨hk,h0,rfl⟩;refine az 1 ?_;refine fF (Wk.eN (n:=19) (l':=[(0,_),(1,_),(7,_),(8,_),(9,_)]) (S':=S) rfl oW gg) ?_;refine jX ?_;refine bX ?_ ?_<;>intro aP bH
  ·refine az 2 ?_;refine fF (Wk.eN (n:=19) (l':=[(0,_),(1,_),(5,_),(7,_),(8,_)]) (S':=S) rfl oW gg) ?_;refine jX ?_;refine az 5 ?_;refine nB (f:=g) (args:=[_]) au rfl rfl (vZ rfl lk) fY (hp (ls[k]'w4) (getElem_mem _)) rfl ⟨vZ rfl lk,trivial⟩ (DN _) ?_;rintro _ S2 ⟨rfl,gY⟩;rw[gY];clear gY;refine fF (Wk.eN (n:=19) (l':=[(0,_),(1,_),(5,_),(7,_),(8,_),(16,_)]) (S':=S) rfl oW gg) ?_;refine jX ?_;refine bX ?_ ?_<;>intro bg cM
   ·refine az 2 ?_;refine fF (Wk.eN (n:=19) (l':=[(4,_)]) (S':=S) rfl oW gg) ?_;refine jX ?_;refine eD S ?_;refine⟨?_,rfl⟩;first|(rw[y9 w4 h0 wE])|(rw[xq w4 h0])
   refine dB 2 ?_;refine fF (Wk.eN (n:=19) (l':=[(0,_),(1,_),(7,_),(8,_)]) (S':=S) rfl oW gg) ?_;refine jX ?_;refine⟨k+1,_,cR,aL,w4,ZX,rfl⟩
  refine az 1 ?_;refine fF (Wk.eN (n:=19) (l':=[(4,_)]) (S':=S) rfl oW gg) ?_;refine jX ?_;refine eD S ?_;refine⟨?_,rfl⟩;first|(rw[y9 w4 h0 wE])|(rw[xq w4 h0])
  ):p:=h
theorem Ru(h:p:=by
  refine ay [2] ?_;refine fJ ?_;refine⟨vi ?_,rfl⟩;try simp only[xD] at *
  simp only[wj,qs];try simp_all
  try omega):p:=h
theorem z16(h:p:=by
  refine cW [1,3] (Vu hm hw s.names (by have:=hf.ok.2.2.1;omega) hf.n) ?_;refine ax [1,3,36] ?_ ?_<;>intro da eP
  ·refine ay [2] ?_;refine fJ ?_;refine⟨vi ?_,rfl⟩;unfold qU jQ;simp_all;all_goals (try (intros;(repeat' split)<;>first|rfl|omega))
  refine cW [1,4] (Hs hm hw s.ah (fun o h=>(hf.w o h).1)) ?_;refine ax [1,4,42] ?_ ?_<;>intro eo fR
  ·refine ay [2] ?_;refine fJ ?_;refine⟨vi ?_,rfl⟩;unfold qU jQ;simp_all;all_goals (try (intros;(repeat' split)<;>first|rfl|omega))
  refine ax [1,46] ?_ ?_<;>intro fH ik
  ·refine cW [2] (xE hm hw s.order hf.o) ?_;refine fJ ?_;refine⟨vi ?_,rfl⟩;unfold qU jQ;simp_all;all_goals (try (intros;(repeat' split)<;>first|rfl|omega))
  refine ay [2] ?_;refine fJ ?_;refine⟨vi ?_,rfl⟩;unfold qU jQ;simp_all;all_goals (try (intros;(repeat' split)<;>first|rfl|omega))):p:=h
theorem KC(h:p:=by
  refine ap 76 [11,12] ?_;refine ax [12,74] ?_ ?_<;>intro yc Ji
  ·refine dS [8,9] [] ?_;refine⟨?_,rfl⟩;unfold gk okF wG;simp_all
  refine dS [8,9] [] ?_;refine⟨?_,rfl⟩;unfold gk okF wG;simp_all):p:=h
theorem CZ(h:p:=by
  refine dS [8,9] [] ?_;refine⟨?_,rfl⟩;unfold gk okF wG;simp_all):p:=h
theorem Rv(h:p:=by
  refine⟨vi ?_,rfl⟩;try simp only[xD] at *
  simp only[wj,qs];try simp_all
  try omega):p:=h
theorem z20(h:p:=by
  refine fJ ?_;refine⟨vi ?_,rfl⟩;unfold qU jQ;simp_all;all_goals (try (intros;(repeat' split)<;>first|rfl|omega))):p:=h
theorem z21(h:p:=by
  refine⟨vi ?_,rfl⟩;unfold qU jQ;simp_all;all_goals (try (intros;(repeat' split)<;>first|rfl|omega))):p:=h
theorem z22(h:p:=by
  have key:∀k,k<=8->eC ((kj u).take k)=u/256 ^ (8-k):=by
   intro k;induction k with
   | zero=>intro _;show 0=u/256 ^ 8;exact(Nat.div_eq_of_lt h).symm
   | succ k ih =>
    intro hk;have hb:=ih w4;rw[<-No w4,sJ,hb];unfold zW;rw[UInt8.toNat_ofNat',show 8-k=(7-k)+1 by omega,show 8-(k+1)=7-k by omega,Nat.pow_succ,<-Nat.div_div_eq_div_mul];have:=Nat.div_add_mod (u/256 ^ (7-k)) 256;omega
  have:=key 8 (Nat.le_refl _);rw[take_of_length_le (by rw[zu];omega)] at this;rw[this];simp):p:=h
theorem z23(h:p:=by
  skip;refine nj 20 [0,2,3,8,9,59,64,69,74] ?_;refine aM 4 ?_ (h:=by exact(ez (mk:=Op.load 3) rfl ot (xR (g:=Ph.cs) (ls:=ps) (i:=k) (j:=1) wg isAgg3 aa rfl)));refine aM 4 ?_ (h:=by exact(ez (mk:=Op.load 3) rfl ot (xR (g:=Ph.cs) (ls:=ps) (i:=k) (j:=2) wg isAgg3 aa rfl)));refine aM 4 ?_ (h:=by exact(ez (mk:=Op.load 3) rfl ot (xR (g:=Ph.cs) (ls:=ps) (i:=k) (j:=3) wg isAgg3 aa rfl)));refine aM 4 ?_ (h:=by exact(ez (mk:=Op.load 57) rfl ot (xR (g:=Ph.cs) (ls:=ps) (i:=k) (j:=4) wg isAgg57 aa rfl)));refine kN ?_;refine aF 1 ?_;refine eH au rfl rfl rfl call18 (VC.lK (YI hm hw ht hG (⟨2,(ps[k]'aa).t,(ps[k]'aa).a,(ps[k]'aa).b,(ps[k]'aa).row,.mk 0 0 ⟨#[]⟩ [],.mk 0 0 ⟨#[]⟩ [],false⟩:Ph) ⟨(show(-9223372036854775808:Int)<=2/\(2:Int)<=9223372036854775807 by decide),uH.t,uH.a,uH.b,uH.row,YJ,YJ⟩) (args':=[.agg [ae 2,ae (ps[k]'aa).t,ae (ps[k]'aa).a,ae (ps[k]'aa).b,.list 3 ((ps[k]'aa).row.flatMap cV) (ps[k]'aa).row.length,ae 0,ae 0,dj,aJ,ae 0,ae 0,dj,aJ,aW false]]) ⟨kW ⟨aH,aH,aH,aH,aH,aH,aH,aH,bQ,aH,aH,aH,bQ,aH,trivial⟩,trivial⟩) ⟨ot,trivial⟩ (fj _) ?_;rintro _ _ ⟨s',rfl,rfl,aol,aom⟩;have hk9:s'.kind=3:=aom.trans (show(1:Int)+cN 2 6=3 by decide);have aon:¬s'.kind=1/\¬s'.kind=2:=(by omega)
  refine aN 0 [_,_,_,_,_,_,_,_,_,_,_,_] sizeOf34 ?_;refine ap 88 [0,2,3,8,9] ?_;refine⟨_,aL,s',aol,aon,rfl⟩):p:=h
theorem z24(h:p:=by
  refine cW [5,8,9,10] (dQ) ?_;refine cW [8,9,10,12] (gZ) ?_;refine cJ [4] ?_;refine aM 13 ?_ (h:=ZU);refine aM 2 ?_ (h:=PS);refine aM 3 ?_ (h:=by exact(ny (mk:=Op.indexAddr 39) rfl ot bP (by first|exact qj (j:=1) runUnderlying39 sizeOf44 rfl rV|exact qp (j:=1) runUnderlying39 sizeOf44 rfl rV)));refine aM 3 ?_ (h:=PS);refine bB ?_;refine eD [] ?_;exact⟨congrArg (fun b=>D.v (.bool b)) f2,rfl⟩):p:=h
theorem z25(h:p:=by
  refine cz 103 (fun EB ale=>?_) (fun EB ale=>?_)
  ·refine aF 3 ?_;refine pS jq rfl rfl rfl call61 (zv p.keys[i] p.high) ⟨ot,ot,trivial⟩ ?_;refine ap 132 [1,2,73,74,75,110] ?_;refine bX ?_ ?_<;>intro da eP
   ·have pD:¬xS p i:=fun hk=>by obtain⟨k1,k2,k3⟩:=hk aa;unfold bI at k2 k3;first|(rw[k1] at zX;cases zX;done)|(have:=k2 w4;omega)|(have:=k3 (Oo EB);have hx:=of_decide_eq_true da;omega)
    refine dS [4] [] ?_;refine⟨vb (HN fun hp=>?_),rfl⟩;exact pD (W9 hp i)
   have hK:xS p i:=fun _=>⟨by simpa using zX,fun h0=>by unfold bI;first|(exfalso;omega)|(have hx:=of_decide_eq_false Ct;omega),fun hne=>by first|exact absurd (len_nil EB) hne|(unfold bI;have hx:=of_decide_eq_false da;omega)⟩
   refine bM [1,2,73,74,75] ?_;refine⟨(i+1),_,cR,aL,w4,(fun j hj=>by rcases Nat.lt_or_ge j i with h|h;exact wR j h;obtain rfl:j=i:=w4;exact hK),rfl⟩
  refine ap 132 [1,2,73,74,75,110] ?_;refine gK ?_;have hK:xS p i:=fun _=>⟨by simpa using zX,fun h0=>by unfold bI;first|(exfalso;omega)|(have hx:=of_decide_eq_false Ct;omega),fun hne=>by first|exact absurd (len_nil EB) hne|(unfold bI;have hx:=of_decide_eq_false da;omega)⟩
  refine bM [1,2,73,74,75] ?_;refine⟨(i+1),_,cR,aL,w4,(fun j hj=>by rcases Nat.lt_or_ge j i with h|h;exact wR j h;obtain rfl:j=i:=w4;exact hK),rfl⟩):p:=h
theorem z26(h:p:=by
  refine eA 69 [4] [_] ?_;first|exact iC.cast (iC.mk (g:=cO) (e:=38) (sz:=5) (ls:=[(⟨1,wH n s,⟨#[]⟩⟩:aQ)]) (cj (ls:=[(⟨1,wH n s,⟨#[]⟩⟩:aQ)]) (Nat.le_refl _) (show 1<=maxLen by decide))) (by unfold oI u5;rw[if_neg w4])|exact iC.cast (iC.mk (g:=cO) (e:=38) (sz:=5) (ls:=[(⟨kk,wH n s,⟨#[]⟩⟩:aQ)]) (cj (ls:=[(⟨kk,wH n s,⟨#[]⟩⟩:aQ)]) (Nat.le_refl _) (show 1<=maxLen by decide))) (by unfold oI u5;rw[if_neg w4,show kk=1 by omega])|exact iC.cast (iC.mk (g:=cO) (e:=38) (sz:=5) (ls:=[(⟨kk,aX,u6 (j:Int)⟩:aQ)]) (cj (ls:=[(⟨kk,aX,u6 (j:Int)⟩:aQ)]) (Nat.le_refl _) (show 1<=maxLen by decide))) (by unfold oI zC;rw[if_pos w4,hj,show kk=2 by omega])):p:=h
theorem z27(h:p:=by
  have at_:∀(l:List ByteArray) (x:Int) (n:Int),1<=n->n<=l.length->l.getD (cN x n).toNat ⟨#[]⟩∈l:=fun l x n h1 h2=>by
   have hb:=iK x h1;have hl:(cN x n).toNat<l.length:=(by omega)
   rw[getD_eq_getElem?_getD,getElem?_eq_getElem hl];exact getElem_mem hl
  have nk:dH (oR t)=0:=Pa.EC _ (at_ bJ t 2 w7 w7);have FP:=iK k (show(1:Int)<=6 by decide);unfold mF;split
  ·exact Pa.LY nk
  split
  ·exact Pa.TX nk (by have:=iK a (show(1:Int)<=12 by decide);omega) (by have:=iK b (show(1:Int)<=9 by decide);omega) (TY _).2
  split
  ·have h9:=iK a (show(1:Int)<=9 by decide);have h3:=iK b (show(1:Int)<=3 by decide);refine Pa.DB nk ?_ (fun h=>?_) ((Pa.Zo _ (at_ gA b 4 w7 w7)).imp (fun h=>Pa.Oq h) id) (fun h=>by unfold zD;rw[if_pos h]) w4
   ·split
    ·exact⟨Nat.zero_le _,fun _ h=>by cases h⟩
    unfold xJ;split
    ·refine⟨Nat.le_trans (length_take_le _ _) w4,fun x hx=>Pa.Zp x (mem_of_mem_take hx)⟩
    exact⟨Nat.zero_le _,fun _ h=>by cases h⟩
   rw[if_pos qz]
  split
  ·exact Pa.TZ nk (Pa.B9 _ (at_ uI a 5 w7 w7)) tz
  have:cN k 6=1\/cN k 6=5:=(by omega)
  rcases this with h|h<;>rw[h]
  ·exact Pa.Vv nk
  exact Pa.T0 nk):p:=h
theorem z28(h:p:=by
  have vF:((bK[bK.length-1].k==6)||(((dD (lQ key) (bK.take 2))==0)==nt))=true:=(by first|rw[OZ,Bool.true_or]|rw[eo,Bool.or_true])
  refine cW [0,8,9,11,13,122] (W8 (fS [bK[(dD gU (bK.take 2)).toNat].v]).1 lo) ?_;refine bX ?_ ?_<;>intro fH ik
  ·have Ax:compareBytes (fS [bK[(dD gU (bK.take 2)).toNat].v]).1 lo>0:=(by simpa using fH)
   have FQ:((fS [bK[(dD gU (bK.take 2)).toNat].v]).1,hi)=(bif (bK[bK.length-1].k==6)||(((dD (lQ key) (bK.take 2))==0)==nt) then pE (fS [bK[(dD gU (bK.take 2)).toNat].v]).1 (lo,hi) else (lo,hi)):=(by rw[vF];show _=pE _ _;unfold pE;rw[if_pos Ax])
   refine dB 2 ?_;refine dK call93 (MO (fS [bK[(dD gU (bK.take 2)).toNat].v]).1 w4) ?_;refine aF 2 ?_;refine aN 1 [_,_] sizeOf83 ?_;refine ap 155 [0,8,9,11,13] ?_;refine⟨_,aL,((fS [bK[(dD gU (bK.take 2)).toNat].v]).1,hi),FQ,(by first|exact eT|exact fA),fk,rfl⟩
  have Ax:¬compareBytes (fS [bK[(dD gU (bK.take 2)).toNat].v]).1 lo>0:=(by simpa using fH)
  have FQ:(lo,hi)=(bif (bK[bK.length-1].k==6)||(((dD (lQ key) (bK.take 2))==0)==nt) then pE (fS [bK[(dD gU (bK.take 2)).toNat].v]).1 (lo,hi) else (lo,hi)):=(by rw[vF];show _=pE _ _;unfold pE;rw[if_neg Ax])
  refine eI ?_;refine⟨_,aL,(lo,hi),FQ,(by first|exact eT|exact fA),fk,rfl⟩):p:=h
theorem kO(h:p:=by
  refine eD [] ?_;rw[aZ];exact⟨rfl,rfl⟩):p:=h
theorem Rw(h:p:=by
  unfold bZ;rw[if_neg w4,if_neg (fun e=>e hg.2.2.2.2),if_neg];have h1:=Pa.Mh s.ah;have h2:=Pa.HM s.names s.names.length;unfold Pa.qV;rw[if_neg w4,if_neg w4,if_neg w4,if_pos hk];have h3:(Pa.xT s).length<=12:=by
   unfold Pa.xT;split
   ·decide
   split
   ·decide
   omega
  have h4:(Pa.zY s).length<=4:=by
   unfold Pa.zY;split
   ·decide
   rw[length_append,length_map];split<;>simp
  have h5:(Pa.EW s).length<=2:=by
   unfold Pa.EW;split<;>simp
  unfold Pa.Ca;simp only[length_append,length_map,length_cons,length_nil];omega):p:=h
theorem z31(h:p:=by
  refine⟨vi ?_,rfl⟩;first|exact hf.symm|(rw[hf,hx,Vw aa zZ (by first|assumption|decide)];done)|(rw[hf,fG,if_pos (by simpa using sb)];done)|(rw[hf,fG,if_neg (by simpa using sb)];done)):p:=h
theorem z32(h:p:=by
  have ff:u7 eL y=false:=(by unfold u7;simp_all[YK])
  refine CI.skip ?_;refine CI.region CT rfl ?_;refine bS (gW 1) ?_;refine bS (JO 0 [_,_]) ?_;refine eR (cU 0 [_]) [.slice none 0 0,.int .i64 0] [_,_] zeroValue99 runUnderlying95 sizeOf99 (fun KD=>?_);refine gb 0 40 2 1 ?_;refine gi (ls:=pre) (new:=[y]) (Sq:=So) YL alf au rfl rfl underlying95 aft rfl w7 ot ho (dL (A:=[_,_,_])) ot bC CS CS (fun yD JP aoo aop=>?_);refine cg (eM (S1:=[⟨yD,99,JP*2,flatMap cE (pre++[y])⟩]) (A:=[_,_,_])) ?_;refine aN 1 [_] sizeOf95 ?_;refine fF (Wk.eN (n:=43) (l':=[]) (S':=(⟨kr,99,2,[_,_]⟩::⟨b9,95,1,[_]⟩::⟨b5,83,1,[_]⟩::[⟨yD,99,JP*2,flatMap cE (pre++[y])⟩])) rfl rfl trivial) ?_;refine jX ?_;exact⟨_,Sublist.cons _ (Sublist.refl _),(fun x hx=>by rcases mem_append.1 hx with hx|hx;exact bf x hx;rw[mem_singleton] at hx;subst hx;exact ff),(some ⟨yD,0,none⟩),JP,[⟨yD,99,JP*2,flatMap cE (pre++[y])⟩],(cj aoo aop),rfl⟩):p:=h
theorem z33(h:p:=by
  refine az 1 ?_;refine nB (f:=112) (args:=[_]) (all:=[_,_,_]) (Sf:=[_,_]) (R:=[]) au rfl rfl ot call112 (O0 r k n d s ts 0 b2 b3 IH dQ gZ hs hd1 hd w7) rfl ⟨bP,trivial⟩ (Perm.refl _) ?_;rintro _ _ ⟨Rx,⟨avk,avl,rfl,aoq⟩,rfl⟩;refine cg (Vx (A:=[_,_])) ?_;refine aF 2 ?_;refine eR (cU 0 [_]) [.int .i64 0,.int .i64 0,.int .i64 0,.string ⟨#[]⟩,.string ⟨#[]⟩] [_,_,_,_,_] zeroValue38 runUnderlying32 sizeOf38 (fun C0=>?_);refine gb 0 58 5 1 ?_;refine gi (ls:=(iQ r ts n s 0)) (new:=[(⟨kk,aX,⟨#[]⟩⟩:aQ)]) (Sq:=Rx) mU Ot au rfl rfl underlying32 LZ rfl w7 ot aoq (dL (A:=[_,_])) ot bC CR CR (fun vG vk EX EY=>?_);refine cg (eM (S1:=[⟨vG,38,vk*5,flatMap cO ((iQ r ts n s 0)++[(⟨kk,aX,⟨#[]⟩⟩:aQ)])⟩]) (A:=[_,_])) ?_;refine eA 69 [4] [⟨vG,38,vk*5,flatMap cO ((iQ r ts n s 0)++[(⟨kk,aX,⟨#[]⟩⟩:aQ)])⟩] ?_;exact iC.cast (iC.mk (cj EX EY)) (by rw[za,nP,if_neg w4,if_neg w4,if_pos w4];rfl)):p:=h
theorem Ry(h:p:=by
  refine bA func14 rfl ntmps14 aO fun X0 w0 bz=>?_;have dy:=ee;have k8:=Ou (G:=G) hG [dz n] (by show 1<=maxLen;decide) (fun v hv=>by rw[mem_singleton] at hv;rw[hv];exact hn);rw[Ex.BL] at k8;unfold EZ wm at k8;dsimp only at k8;refine ay [0] ?_;refine cW [3] (k8) ?_;refine cJ [2] ?_;refine aM 1 ?_ (h:=by exact Ay);refine aM 0 ?_ (h:=by exact(eE rfl bP ot (zj (by show 3+(bY n).toArray.size<=_;rw[size_toArray,Ex.pu];omega))));refine bB ?_;refine eD [] ?_;exact⟨congrArg (fun b=>D.v (.string b)) (O1 _),rfl⟩
  ):p:=h
theorem KE(h:p:=by
  refine eD [] ?_;refine⟨?_,rfl⟩;unfold kI;first|(rw[if_pos bH];first|done|rfl)|(rw[if_neg bH,if_pos eK,hj];rcases j with _|_|j<;>first|rfl|omega)|(rw[if_neg bH,if_neg cM,if_pos di];first|done|rfl)|(rw[if_neg bH,if_neg cM,if_neg di,if_pos w4,show -v.n=0-v.n by omega];first|done|rfl)|(rw[if_neg bH,if_neg cM,if_neg di,if_neg w4];first|done|rfl)):p:=h
theorem z36(h:p:=by
  refine at_ rfl gD ?_;refine dX 14 rfl (ei 1 (h:=PF)) ?_;refine bV (i:=15) aD ?_;refine xo (k:=0) (cs':=((Mv P B Q x (t+1)).set (a+t+1) ((Mv P B Q x (t+1))[a+t])).flatMap cI) rfl au rfl rfl ot rfl rfl ot rfl rfl sizeOf3 rfl JH (by rw[Nat.zero_add];exact rF fp _ _ w4) jB ?_;refine gd ?_;refine aF 1 ?_;refine pn (k:=0) (cs':=(Mv P B Q x (t)).flatMap cI) au rfl rfl ot rfl rfl ot rfl rfl sizeOf3 rfl Kw (by rw[Nat.zero_add];exact(rF fp ((Mv P B Q x (t+1)).set (a+t+1) ((Mv P B Q x (t+1))[a+t])) ((Mv P B Q x (t+1))[a+t+1]) x5).trans (congrArg (flatMap cI) (alg Rz hP w4 w4))) ?_;refine ap 220 [0,14,17] ?_;refine fW [0,14,17] ?_;refine aM 1 ?_ (h:=by exact(eE rfl ot bP (je (r:=((a+t:Nat):Int)) PC)));refine bB ?_;refine⟨t,_,cR,aL,w4,w4,rfl⟩):p:=h
theorem z37(h:p:=by
  refine at_ rfl gD ?_;refine dX 14 rfl (ei 1 (h:=PM)) ?_;refine bV (i:=15) aD ?_;refine xo (k:=0) (cs':=((Mv P B Q x (t)).set (a+t) ((Mv P B Q x (t))[a+t+1])).flatMap cI) rfl au rfl rfl ot rfl rfl ot rfl rfl sizeOf3 rfl JH (by rw[Nat.zero_add];exact rF fp _ _ w4) jB ?_;refine gd ?_;refine aF 1 ?_;refine pn (k:=0) (cs':=(Mv P B Q x (t+1)).flatMap cI) au rfl rfl ot rfl rfl ot rfl rfl sizeOf3 rfl Kw (by rw[Nat.zero_add];exact(rF fp ((Mv P B Q x (t)).set (a+t) ((Mv P B Q x (t))[a+t+1])) ((Mv P B Q x (t))[a+t]) x5).trans (congrArg (flatMap cI) (alh Rz hP w4 w4))) ?_;refine ap 220 [0,10,13] ?_;refine fW [0,10,13] ?_;refine aM 1 ?_ (h:=by exact(eE rfl ot bP (mB (r:=((a+(t+1):Nat):Int)) (by rw[show(((a+t:Nat):Int)+1)=((a+(t+1):Nat):Int) by omega];exact wrap_i64 w4 w4))));refine bB ?_;refine⟨(t+1),_,cR,aL,w4,rfl⟩):p:=h
theorem z38(h:p:=by
  have g:=gn.g.tb _ (getElem_mem h0);have hf:iy l[0] (iR w)=false:=by
   unfold iy;rw[if_neg (by show ¬(4:Int)=3;decide),if_neg (fun q=>q.2.elim (fun h=>Bool.noConfusion (show false=true from h)) (fun h=>h.1 rfl)),if_neg (fun q=>absurd q.1 (by show ¬(4:Int)=5;decide)),g.an,show(iR w).ah=w from rfl,hb];rfl
  have ha:rP l[0] (iR w)=false:=by
   unfold rP;rw[g.an,show(iR w).ah=w from rfl,hb];have:¬(((lo.length:Nat):Int)+((hi.length:Nat):Int))=0:=(by omega)
   show((((lo.length:Nat):Int)+((hi.length:Nat):Int)==0)||_)=false;rw[beq_eq_false_iff_ne.2 this];rfl
  rw[BM h h0 (s:=iR w) rfl (IS (yY w hw) rfl (Nat.zero_le _) hl) (by show(3:Int)<=4;decide) (by show(4:Int)<=6;decide),if_neg (by rw[hf];decide)];unfold sX;rw[if_neg (by show ¬(4:Int)=3;decide),if_neg (by rw[ha];decide),if_pos (show(iR w).kind=4 from rfl),if_pos (show(iR w).kind=4 from rfl),g.an,show(iR w).ah=w from rfl,hb];show((⟨⟨#[]⟩,1⟩::⟨tB ⟨#[116]⟩,1⟩::jf l[0] lo hi 3:List bq),(0:Int))=_;rw[sY]):p:=h
theorem z39(h:p:=by
  refine at_ rfl gD ?_;refine dX 14 rfl (ei 1 (h:=PP)) ?_;refine bV (i:=15) aD ?_;refine xo (k:=0) (cs':=(nl.set j (nl[j-1]'td)).flatMap cI) rfl au rfl rfl ot rfl rfl ot rfl rfl sizeOf3 rfl JH (by rw[Nat.zero_add];exact rF fp _ _ rh) jB ?_;refine gd ?_;refine aF 1 ?_;refine pn (k:=0) (cs':=((nl.set j (nl[j-1]'td)).set (j-1) (nl[j]'rh)).flatMap cI) au rfl rfl ot rfl rfl ot rfl rfl sizeOf3 rfl Kw (by rw[Nat.zero_add];exact rF fp _ _ (by rw[length_set];exact td)) ?_;refine ap 53 [0,1,2,3,8,9] ?_;refine fW [0,1,2,3,8,9] ?_;refine aM 1 ?_ (h:=by exact(eE rfl ot bP (je (r:=((j-1:Nat):Int)) PG)));refine bB ?_;refine⟨((j-1),((nl.set j (nl[j-1]'td)).set (j-1) (nl[j]'rh))),_,cR,aL,(agh hj hja rh td (Io amB)),(by simpa using Cu),rfl⟩):p:=h
theorem z40(h:p:=by
  refine cz 71 (fun aor amC=>?_) (fun aor amC=>?_)
  ·refine bL [0,2,4,6,8,79] ?_;refine bX ?_ ?_<;>intro cl di
   ·have vl:(bK.length≠3\/(nt=true/\bK[bK.length-1].k≠7)\/(bK[bK.length-1].k≠6/\bK[bK.length-1].k≠7)):=(by first|omega|(simp_all;omega)|simp_all)
    have oS:kY key bK nt (lo,hi)=(lo,hi):=(by unfold kY;rw[xM yd,if_pos vl])
    rw[oS] at aZ;refine eD [⟨b0,_,_,_⟩] ?_;refine⟨rfl,?_⟩;first|rw[vE]|rw[aZ]
   have vl:¬(bK.length≠3\/(nt=true/\bK[bK.length-1].k≠7)\/(bK[bK.length-1].k≠6/\bK[bK.length-1].k≠7)):=(by first|omega|(simp_all;omega)|simp_all)
   refine eI ?_;refine⟨_,aL,vl,rfl⟩
  refine bL [0,2,4,6,8,79] ?_;refine gK ?_;have vl:¬(bK.length≠3\/(nt=true/\bK[bK.length-1].k≠7)\/(bK[bK.length-1].k≠6/\bK[bK.length-1].k≠7)):=(by first|omega|(simp_all;omega)|simp_all)
  refine eI ?_;refine⟨_,aL,vl,rfl⟩):p:=h
theorem KF(h:p:=by
  obtain⟨h0,h1,h2,h3⟩:=g.jA x hx;obtain⟨v,r,e,hl,hk,hs,bf,hc,P3⟩:=Ht g (i:=x.2) ⟨h0,h1,h2⟩;have hv:=IT hk hs;have hid:eu (rowAt t x.2)=v.n:=(by rw[e];rfl)
  rw[<-ju h1,P3] at h3;rw[hid];refine⟨?_,?_,by rw[e,length_cons,hl],?_⟩
  ·rw[h3];unfold bY;rw[<-hv]
  ·rw[e];exact hv
  rw[<-hv];exact bf):p:=h
theorem z42(h:p:=by
  have vl:(bK.length≠3\/(nt=true/\bK[bK.length-1].k≠7)\/(bK[bK.length-1].k≠6/\bK[bK.length-1].k≠7)):=(by first|omega|(simp_all;omega)|simp_all)
  have oS:kY key bK nt (lo,hi)=(lo,hi):=(by unfold kY;rw[xM yd,if_pos vl])
  rw[oS] at aZ;refine eD [⟨b0,_,_,_⟩] ?_;refine⟨rfl,?_⟩;first|rw[vE]|rw[aZ]):p:=h
theorem z43(h:p:=by
  skip;have aa:i<rs.length:=(by omega)
  obtain⟨FR,FT⟩:=sc (rs[i]'aa) (getElem_mem aa);have yE:0<(rs[i]'aa).length:=(by omega)
  have hid:=Ep yE;have FU:=zb (G:=G) hG ((rs[i]'aa)[0]).n (by rw[hid];exact FT);have C1:=C2 (rs[i]'aa) (getElem_mem aa) 1 m1;rw[<-hid,<-pN] at C1;refine cJ [7,10,12,13,94] ?_;refine aM 6 ?_ (h:=w9);refine cA (FU) ?_;refine cA (BN (G:=G) ((⟨⟨#[]⟩,1⟩:bq)::⟨⟨#[116,116]⟩,m1⟩::SP) PW (dI ⟨#[116]⟩ (bY ((rs[i]'aa)[0]).n))) ?_;refine bB ?_;refine bX ?_ ?_<;>intro fH ik
  ·exact absurd fH (by simp[C1])
  refine bM [7,10,12,13] ?_;refine⟨(i+1),_,cR,aL,w4,rfl⟩):p:=h
theorem z44(h:p:=by
  refine ay [0] ?_;refine ay [3] ?_;refine ax [3,4] ?_ ?_<;>intro aP bH
  ·refine fu ?_;refine dS [2] [] ?_;refine⟨vi ?_,rfl⟩;unfold cn;simp_all
  refine bM [3,4] ?_;refine bX ?_ ?_<;>intro bg cM
  ·refine dS [2] [] ?_;refine⟨vi ?_,rfl⟩;unfold cn;simp_all
  refine ax [3,7] ?_ ?_<;>intro cl di
  ·refine fu ?_;refine dS [2] [] ?_;refine⟨vi ?_,rfl⟩;unfold cn;simp_all
  refine bM [7] ?_;refine bX ?_ ?_<;>intro da eP
  ·refine dS [2] [] ?_;refine⟨vi ?_,rfl⟩;unfold cn;simp_all
  refine dS [2] [] ?_;refine⟨vi ?_,rfl⟩;unfold cn;simp_all
  ):p:=h
theorem z45(h:p:=by
  have pD:¬xS p i:=fun hk=>by obtain⟨k1,k2,k3⟩:=hk aa;unfold bI at k2 k3;first|(rw[k1] at zX;cases zX;done)|(have:=k2 w4;omega)|(have:=k3 (Oo EB);have hx:=of_decide_eq_true da;omega)
  refine dS [4] [] ?_;refine⟨vb (HN fun hp=>?_),rfl⟩;exact pD (W9 hp i)):p:=h
theorem z46(h:p:=by
  refine eD [] ?_;exact⟨rfl,rfl⟩
  ):p:=h
theorem z47(h:p:=by
  refine⟨vi ?_,rfl⟩;try simp only[xD] at *
  unfold bW;simp_all;try omega):p:=h
theorem z48(h:p:=by
  obtain⟨a1,a2,a3,a4,a5,a6,a7,a8,a9⟩:=Uo s h;have hm:(100:Nat)<=maxLen:=(by decide)
  have hz:∀v:Vl,(v.k=0/\v.n=0/\v.s.size=0)->v.Ok:=fun v h=>⟨by rw[h.1];decide,by rw[h.1];decide,by rw[h.2.1];decide,by rw[h.2.1];decide,by rw[h.2.2];decide⟩
  have hc:∀c∈s.an,c.n.size<=maxLen:=fun c hc=>by rw[length_eq_zero_iff.1 a3] at hc;cases hc
  have hf:Pa.dJ s:=⟨a1,Nat.le_trans a2 hm,hc,fun x hx=>Nat.le_trans (a4 x hx) hm,Nat.le_trans a5 hm,Nat.le_trans a6 hm,fun v hv=>⟨(hz v (a7 v hv)).n1,(hz v (a7 v hv)).n2⟩,fun o ho=>⟨Nat.le_trans (a8 o ho).2 hm,(hz _ (a8 o ho).1).n1,(hz _ (a8 o ho).1).n2⟩,fun o ho=>⟨Nat.le_trans (a9 o ho).2 hm,(hz _ (a9 o ho).1).n1,(hz _ (a9 o ho).1).n2⟩⟩
  exact⟨hf,fun v hv=>hz v (a7 v hv),fun o ho=>Nat.le_trans (a8 o ho).2 hm,fun o ho=>hz _ (a8 o ho).1,fun o ho=>Nat.le_trans (a9 o ho).2 hm,fun o ho=>hz _ (a9 o ho).1⟩):p:=h
theorem z49(h:p:=by
  unfold sR l6;rw[Bn];refine Bo fun x hx=>?_;obtain⟨h1,_,_,h4⟩:=qR g hx;rw[h1];rw[<-Bool.decide_and];refine decide_eq_decide.2 ⟨fun ⟨e1,e2⟩=>?_,fun q=>⟨fun e=>zw (uj hk h4 q) e,fun e=>by have:=uj hk h4 q;rw[e] at this;exact jK _ this⟩⟩;rcases Int.lt_trichotomy k (eu (rowAt t x.2)) with q|q|q
  ·exact q
  ·rw[q] at e2;exact absurd rfl e2
  exact absurd (uj h4 hk q) e1):p:=h
theorem z50(h:p:=by
  refine eD [⟨b0,_,_,_⟩] ?_;refine⟨rfl,?_⟩;first|rw[vE]|rw[aZ]):p:=h
theorem z51(h:p:=by
  refine at_ rfl gD ?_;refine dX 20 rfl (ei 1) ?_;refine bV (i:=21) aD ?_;refine xo (k:=0) (cs':=((lM l la lb i).set (la+i) ((lM l la lb i)[lb+i]'hb)).flatMap cI) rfl au rfl rfl ot rfl rfl ot rfl rfl sizeOf3 rfl JH (by rw[Nat.zero_add];exact rF fp _ _ ha) jB ?_;refine gd ?_;refine aF 1 ?_;refine pn (k:=0) (cs':=(lM l la lb (i+1)).flatMap cI) au rfl rfl ot rfl rfl ot rfl rfl sizeOf3 rfl Kw (by rw[Nat.zero_add];exact(rF fp ((lM l la lb i).set (la+i) ((lM l la lb i)[lb+i]'hb)) ((lM l la lb i)[la+i]'ha) (by rw[length_set];exact hb)).trans (by rw[lM,sw,oJ ha,oJ hb])) ?_;refine ap 38 [0,1,2,3,10] ?_;refine bM [0,1,2,3,10] ?_;refine⟨(i+1),_,cR,aL,w4,rfl⟩):p:=h
theorem RA(h:p:=by
  refine dS [4] [] ?_;refine⟨?_,rfl⟩;first|rfl|exact congrArg (fun b=>D.v (.bool b)) hb|exact congrArg (fun b=>D.v (.bool b)) f8):p:=h
theorem z53(h:p:=by
  unfold oN ie iz;rw[Nq g hk,find?_map,show((fun r=>decide (k<eu r)) ∘ fun x:K×Int=>rowAt t x.2)=fun x=>decide (k<eu (rowAt t x.2)) from rfl];cases h:(er t.ix).find? (fun x=>decide (k<eu (rowAt t x.2))) with
  | none=>rfl
  | some x =>
   have hx:=mem_of_find?_eq_some h;show(⟨dI t.nm x.1,m⟩:bq)=⟨dI t.nm (bY (eu (rowAt t x.2))),m⟩;rw[(qR g hx).1]):p:=h
theorem z54(h:p:=by
  have g:=gn.g.tb _ (getElem_mem h0);obtain⟨c1,c2⟩:=Ip k0 k1;have hf:iy l[0] (p8 k)=false:=by
   unfold iy;rw[if_pos (show(p8 k).kind=3 from rfl),g.an];show(Pc.dV cx [dz k,aX,aX,aX]!=0)=false;rw[c2];rfl
  rw[BM h h0 (s:=p8 k) rfl c1 (by show(3:Int)<=3;decide) (by show(3:Int)<=6;decide),if_neg (by rw[hf];decide)];unfold sX;rw[if_pos (show(p8 k).kind=3 from rfl)];have P3:de (p8 k).row=bY k:=(by show(fS [dz k]).1=_;rw[Ex.BL])
  show(((⟨⟨#[]⟩,1⟩::[⟨tB ⟨#[116]⟩,2⟩,⟨dI ⟨#[116]⟩ (de (p8 k).row),5⟩,oN l[0] (de (p8 k).row) 5]):List bq),(0:Int))=_;rw[P3,D7 g (tU k0 k1),Aa h h0,sY]):p:=h
theorem FV(h:p:=by
  refine dS [4] [] ?_;first|exact⟨rfl,rfl⟩|(refine⟨vi ?_,rfl⟩;unfold rQ;simp_all;done)|(refine⟨vi ?_,rfl⟩;unfold rQ;split<;>(try split)<;>simp_all<;>omega)):p:=h
theorem KG(h:p:=by
  unfold fh cmpL gA gA gA gA;rcases uU v.k w.k with h1|h1|h1<;>rcases uU v.n w.n with h2|h2|h2<;>rcases xy v.s.data.toList w.s.data.toList with h3|h3|h3
  all_goals (rw[h1.1,h2.1];first|rw[h3.1]|rw[h3])
  all_goals decide):p:=h
theorem Az(h:p:=by
  refine eA 90 [4] [] ?_;refine⟨vb ?_,rfl⟩;unfold dO jQ;simp_all;all_goals (try (intros;omega))):p:=h
theorem z58(h:p:=by
  have wS:p.1∈ts:=(by rw[<-hr.keys];exact mem_map_of_mem fC)
  refine⟨wS,?_⟩;rw[hr.at wS];have fb:∀(j:Nat) (p':Oper),k<=j->ops[j]?=some p'->p'.dst≠some p.1:=fun j p' hj KH jR=>by
   obtain⟨e1,vF,iI,lf⟩:=Iq (by simpa using C3) KH jR wS;have:=(zx hp Cv).1 e1 vF iI;omega
  have h5:=k0.later (q:=p.1) (fun p' C4=>by
   rw[<-iG] at C4;obtain⟨j,hj,rfl⟩:=mem_iff_getElem.1 C4;refine fb (k+1+j) _ w4 ?_;rw[<-Array.getElem?_toList,<-getElem?_drop,getElem?_eq_getElem hj])
  rw[h5,gQ,if_neg (fun e1:t=p.1=>fb k o (Nat.le_refl _) Cv (by rw[<-e1];exact hd))]):p:=h
theorem z59(h:p:=by
  refine⟨vb ?_,rfl⟩;unfold dO jQ;simp_all;all_goals (try (intros;omega))):p:=h
theorem KI(h:p:=by
  refine eD [] ?_;rw[aZ];exact⟨rfl,fun h=>by dsimp only at h;omega⟩):p:=h
theorem z61(h:p:=by
  refine eA 69 [4] [_] ?_;first|exact iC.cast (iC.mk (g:=cO) (e:=38) (sz:=5) (ls:=[(⟨kk,wH n s,⟨#[]⟩⟩:aQ)]) (cj (ls:=[(⟨kk,wH n s,⟨#[]⟩⟩:aQ)]) (Nat.le_refl _) (show 1<=maxLen by decide))) (by rw[za,nP,if_pos w4];unfold u5;rw[show kk=1 by omega])|exact iC.cast (iC.mk (g:=cO) (e:=38) (sz:=5) (ls:=[(⟨kk,aX,u6 (j:Int)⟩:aQ)]) (cj (ls:=[(⟨kk,aX,u6 (j:Int)⟩:aQ)]) (Nat.le_refl _) (show 1<=maxLen by decide))) (by rw[za,nP,if_neg w4,if_pos w4];unfold zC;rw[hj,show kk=2 by omega])):p:=h
theorem KJ(h:p:=by
  unfold fS;rw[if_neg bC,D8 (fun x hx=>by rw[mem_singleton] at hx;rw[hx];exact h),if_neg bC,if_neg];show ¬(eU [v]).length>100;unfold eU Cd.jO qA;simp[hk,kj]):p:=h
theorem KK(h:p:=by
  refine bL [2] ?_;refine fJ ?_;refine⟨vb ?_,rfl⟩;rw[Bool.eq_iff_iff];simp[zl];first|done|omega):p:=h
theorem z64(h:p:=by
  refine cg (eM (A:=[])) ?_;refine ap 29 [3,8,9,10] ?_;refine bM [3,8,9,10] ?_;refine⟨((i+1),aau,aav,S23),_,cR,(aL (h:=w60)),w4,(bF.cast aaw (by first|exact Vp aa w4|exact Um aa w4)),rfl⟩):p:=h
theorem RB(h:p:=by
  refine⟨vs ?_,rfl⟩;have C5:k=s.size\/6<=k:=(by omega)
  have P4:min k s.size=k:=Nat.min_eq_left hk;simp only[length_map,length_take,lA,P4] at *;unfold xU Cb;first|(rw[if_pos w4];done)|(rw[if_neg w4,Vy hk C5 h6])):p:=h
theorem z66(h:p:=by
  have hF:¬((bE t.an s.set)=0/\(gl t.an (rowAt t ((av t s.ah).1[k]'aa)) s.bG).1.k=0):=(by first|exact fun h=>(show ¬(gl t.an (rowAt t ((av t s.ah).1[k]'aa)) s.bG).1.k=0 from by simpa using iu) h.2|exact fun h=>absurd h.1 (by simpa using Ct))
  have kM:(jN t (bE t.an s.set) s.bG [] (av t s.ah).1)=jN t (bE t.an s.set) s.bG (acc++[(gl t.an (rowAt t ((av t s.ah).1[k]'aa)) s.bG).1]) ((av t s.ah).1.drop (k+1)):=(by rw[C6,iG,jN,if_neg hE,if_neg hF])
  refine eI ?_;refine⟨_,aL,kM,rfl⟩):p:=h
theorem KL(h:p:=by
  unfold fS;rw[if_neg bC,D8 (fun v hv=>by rw[mem_singleton] at hv;rw[hv];exact BZ x),if_neg bC];rw[if_neg (by unfold eU jO qA;simp[dz,kj])];rfl):p:=h
theorem tg(h:p:=by
  refine eD [] ?_;rw[aZ];exact⟨rfl,rfl⟩
  ):p:=h
theorem RC(h:p:=by
  have hl:fh (dz a) (dz b)<0:=(D9 _ _).2 (.inr ⟨rfl,.inl h⟩);have h3:=BO (BZ a) ha (BZ b) hb [] [] w4;rw[append_nil,append_nil] at h3;unfold bI bY eU;rw[flatMap_singleton,flatMap_singleton,h3];exact hl):p:=h
theorem z70(h:p:=by
  skip;obtain⟨hz,_⟩:=AA aP;obtain rfl:=length_eq_zero_iff.1 hz;refine dS [2] [] ?_;exact⟨none,0,rfl,.inl ⟨rfl,rfl,rfl,rfl,rfl⟩⟩):p:=h
theorem FW(h:p:=by
  refine aN 0 [_,_,_] sizeOf36 ?_;refine eA 35 [4,5] [] ?_;refine⟨?_,rfl⟩;unfold wI;simp_all[aX]):p:=h
theorem z72(h:p:=by
  refine dS [2] [] ?_;refine⟨vi ?_,rfl⟩;try simp only[T1] at *
  simp only[dH];first|(rw[if_pos w4];done)|(rw[if_neg w4];cases h1:qs s<;>cases h2:xN.any (jQ s)<;>simp_all)):p:=h
theorem KM(h:p:=by
  refine eD _ ?_;first|exact⟨rfl,_,O2,rfl⟩|exact⟨rfl,_,Ir s7 qE hp3,rfl⟩|exact⟨rfl,_,Ir s7 qE (Up s7 qE w4),rfl⟩):p:=h
theorem KN(h:p:=by
  rcases Hf v w with e|e|e
  ·rw[e];exact Er hv ov hw ow x y e
  ·exact absurd e h
  rw[e,Nr,Er hw ow hv ov y x (by rw[DE,e])];rfl):p:=h
theorem z75(h:p:=by
  rw[Uq g.ix _ _ EV];refine filter_congr fun x hx=>?_;obtain⟨h1,_,_,h4⟩:=qR g hx;rw[h1];congr 1
  ·exact decide_eq_decide.2 ⟨fun e=>Classical.byContradiction fun q=>e (uj h4 ha w4),fun q e=>by have:=(Ov h4 ha).1 e;omega⟩
  exact decide_eq_decide.2 ⟨fun e=>Classical.byContradiction fun q=>e (uj hc h4 w4),fun q e=>by have:=(Ov hc h4).1 e;omega⟩):p:=h
theorem z76(h:p:=by
  have hx:jw ops=0:=by
   unfold jw;rw[if_neg w4];have:=L0 [] hr;rw[append_nil] at this;rw[this];rfl
  have KO:dZ cx ops=(k,0):=(by unfold dZ;rw[if_neg (by simp[D3]),if_neg (by simp[hx])];exact hk)
  unfold eG;rw[if_neg (by simp[D3]),if_neg hp,KO,if_neg bC,if_neg (by show ¬(k≠1/\k≠0);omega)];rfl):p:=h
theorem RD(h:p:=by
  unfold cC;refine cq ?_;refine dm [_,_] (fun b2=>?_);refine ap 8 [1,2] ?_;refine dS [3] [⟨b,9,1,[aG nm]⟩] ?_;exact⟨rfl,rfl⟩
  ):p:=h
theorem AB(h:p:=by
  refine ay [2] ?_;refine fJ ?_;rw[aZ];exact⟨rfl,rfl⟩):p:=h
theorem z79(h:p:=by
  have hC:0<=p.kids[i]/\(p.leaf=false->p.kids[i]<many):=⟨by have hx:=of_decide_eq_false O3;omega,fun hl=>by first|(rw[hl] at Jj;cases Jj;done)|(have hx:=of_decide_eq_false fH;omega)⟩
  refine bM [1,2,113,114,115] ?_;refine⟨(i+1),_,cR,aL,w4,(fun j hj hl=>by rcases Nat.lt_or_ge j i with h|h;exact mr j h hl;obtain rfl:j=i:=w4;exact hC),rfl⟩):p:=h
theorem z80(h:p:=by
  have fG:j=a\/Rc cF Lt (nl[j-1]'td) (nl[j]'rh):=(by first|exact .inr (IU ha (ajB hj (by have q:=of_decide_eq_true s8;omega) rh td hq) w4)|exact .inl (by have q:=of_decide_eq_false s8;omega))
  refine bM [0,1,2,3,8] ?_;refine⟨((i+1),nl),_,cR,aL,(fun _=>ahT ht hj w4 w4 fG),w4,w4,w4,Cu,rfl⟩):p:=h
theorem KP(h:p:=by
  unfold bW at h;rw[if_neg w4,if_neg w4,if_pos hk] at h;split at h
  ·cases h
  exact Bp w4):p:=h
theorem KQ(h:p:=by
  have h2:=sI b [c];rw[singleton_append] at h2;rw[h2];have:eC [c]=c.toNat:=(by simp[eC])
  rw[this]):p:=h
theorem KR(h:p:=by
  unfold bW at h;rw[if_neg w4,if_neg w4,if_neg w4,if_pos hk] at h;split at h
  ·cases h
  omega):p:=h
theorem z84(h:p:=by
  unfold kK;by_cases h1:bZ s≠0
  ·rw[if_pos h1];exact .inl ⟨_,rfl,h1⟩
  rw[if_neg h1];by_cases h2:7<=s.kind
  ·rw[if_pos h2];exact .inl ⟨_,rfl,by decide⟩
  rw[if_neg h2];by_cases h3:(gz l s).2.2≠0
  ·rw[if_pos h3];exact .inl ⟨_,rfl,h3⟩
  rw[if_neg h3];exact .inr ⟨rfl,Classical.not_not.1 h3⟩):p:=h
theorem z85(h:p:=by
  refine aN 0 [_,_,_] sizeOf153 ?_;refine eA 14 [2] [] ?_;refine⟨?_,rfl⟩;unfold Cw;first|(rw[if_neg gX,if_neg jS,show((j:Nat):Int).toNat=j from rfl,getD_eq_getElem?_getD,getElem?_eq_getElem hj];rfl)|(rw[if_pos zP];rfl)|(rw[if_neg zP,if_pos x9];rfl)):p:=h
theorem z86(h:p:=by
  have pD:vs[i].k≠l[i].k/\(i=0\/vs[i].k≠0):=(by first|(simp at *;omega)|(constructor<;>simp_all<;>omega))
  have hf:mh i l[i] vs[i]=4:=(by unfold mh;rw[if_neg hz,if_pos pD])
  have aZ:dV l vs=4:=(by rw[hinv,Vz P5 aa (by rw[hf];decide),hf])
  refine ay [4] ?_;refine fJ ?_;rw[aZ];exact⟨rfl,rfl⟩):p:=h
theorem z87(h:p:=by exact absurd aP (by simp at aP)):p:=h
theorem z88(h:p:=by
  have zE:iy t s=((eG t.an s.ah).2 != 0):=(by unfold iy;rw[if_neg gX,if_neg (fun h=>jS h.1),if_neg (fun h=>h.2.elim (fun q=>rR q) (fun q=>q.elim (fun q=>q (by simpa using hb)) (fun q=>by first|exact q.1 (by simpa using jT)|exact q.2 (by rw[jm];simpa using iE))))])
  refine eI ?_;refine⟨_,aL,(),zE,rfl⟩):p:=h
theorem z89(h:p:=by
  have pD:¬(0<=p.kids[i]/\(p.leaf=false->p.kids[i]<many)):=fun hk=>by obtain⟨k1,k2⟩:=hk;first|(have hx:=of_decide_eq_true O3;omega)|(have:=k2 (by simpa using Jj);have hx:=of_decide_eq_true fH;omega)
  refine ay [4] ?_;refine fJ ?_;refine⟨vb (HN fun hp=>?_),rfl⟩;exact pD (ajC hp aa)):p:=h
theorem z90(h:p:=by
  refine ap 70 [1,2,11,35,36,37] ?_;refine bM [1,2,11,35,36,37] ?_;refine⟨((k+1),(acc++[(L[k]'aa).2]),(some ⟨tq,0,none⟩),uy,[⟨tq,3,uy*1,flatMap Tw.cI ((acc)++[(L[k]'aa).2])⟩]),_,cR,aL,w4,JJ,kM,(bF.cast (cj JQ JR) lU),rfl⟩):p:=h
theorem z91(h:p:=by
  have qv:¬(vs[i].k≠l[i].k/\(i=0\/vs[i].k≠0)):=(by first|(simp_all;done)|omega|(simp at *;omega))
  have hf:mh i l[i] vs[i]=0:=(by unfold mh;rw[if_neg hz,if_neg qv])
  have j8:=hinv.trans (agi P5 aa hf);refine bM [0,19,20,21] ?_;refine⟨(i+1),_,cR,aL,w4,j8,rfl⟩):p:=h
theorem z92(h:p:=by
  refine bM [1,3,33,34,35] ?_;refine⟨(i+1),_,cR,(aL (h:=w71)),w4,rfl⟩):p:=h
theorem z93(h:p:=by
  refine cJ [4] ?_;refine aM 5 ?_ (h:=Au);refine bB ?_;refine eD [] ?_;refine⟨?_,rfl⟩;first|rfl|exact congrArg (fun b=>D.v (.bool b)) KS):p:=h
theorem RE(h:p:=by
  refine aN 0 [_,_,_] sizeOf36 ?_;refine eA 42 [8,9] [⟨br,30,1,[aj 3 cV row]⟩,⟨bc,29,1,[aj 2 cC l]⟩] ?_;rw[aZ];exact⟨rfl,rfl⟩):p:=h
theorem KT(h:p:=by
  unfold bW at h;rw[if_neg w4,if_pos hk] at h;split at h
  ·cases h
  exact Bp w4):p:=h
theorem KU(h:p:=by
  refine cg (eM (A:=[])) ?_;refine eA 8 [2] S7 ?_;exact⟨_,_,rfl,sg⟩
  ):p:=h
theorem z97(h:p:=by
  refine gd ?_;refine pS jq rfl rfl rfl call35 (gj) ⟨ot,ot,trivial⟩ ?_;refine ap 31 [1,10,11,12,29] ?_;refine bX ?_ ?_<;>intro cl di
  ·exact absurd cl (by (simp at cl;omega))
  refine bM [1,10,11,12] ?_;refine⟨(i+1),_,cR,aL,w4,rfl⟩):p:=h
theorem z98(h:p:=by
  have zE:iy t s=((eG t.an s.ah).2 != 0):=(by unfold iy;rw[if_neg gX,if_neg (fun h=>h.2.elim (fun q=>by rw[ye] at q;cases q) (fun q=>by first|exact lV q|exact absurd q.2 (by simpa using eo))),if_neg (fun h=>by have:=h.1;omega)])
  refine eI ?_;refine⟨_,aL,(),zE,rfl⟩):p:=h
theorem z99(h:p:=by
  unfold l7;have e:l=l.take i++l[i]::l.drop (i+1):=(by rw[<-drop_eq_getElem_cons h,take_append_drop])
  have hf:l.find? (fun n=>n.th.toList==x.toList)=some l[i]:=by
   conv=>lhs;rw[e]
   exact HO (p:=fun n:bq=>n.th.toList==x.toList) hx h0
  rw[hf]):p:=h
theorem JS(h:p:=by
  obtain⟨k,n,s⟩:=v;obtain rfl:s=⟨#[]⟩:=Pa.Oq hs;obtain rfl:k=2:=hk;rfl):p:=h
theorem aax(h:p:=by
  refine⟨fun h=>?_,fun h=>?_,fun h=>?_⟩<;>have h:=congrArg ByteArray.toList h<;>rw[VA] at h
  ·rw[Ns,cons.injEq] at h;exact absurd h.1 w7
  ·rw[Nt,cons.injEq] at h;exact absurd h.1 w7
  rw[MP] at h;cases h):p:=h
theorem P6(h:p:=by
  skip;refine bL [1,33] ?_;refine fu ?_;refine ay [2] ?_;refine fJ ?_;exact⟨vi (TK w4).symm,rfl⟩):p:=h
theorem P7(h:p:=by
  refine aN 0 [_,_,_] sizeOf36 ?_;refine eA 29 [2] [] ?_;refine⟨?_,rfl⟩;unfold rG aX;simp_all):p:=h
theorem aay(h:p:=by
  have hC:¬((dZ t.an s.bG).1≠(t.an.getD (bE t.an s.set).toNat ⟨⟨#[]⟩,0⟩).k/\(dZ t.an s.bG).1≠0):=(by rw[jm];first|exact fun h=>h.2 (by simpa using cl)|exact fun h=>h.1 Cc)
  refine eI ?_;refine⟨_,aL,hC,rfl⟩):p:=h
theorem z105(h:p:=by
  unfold jF xV;have:(fun x:K×Int=>!u7 eL x)=fun x=>decide (¬bI eL x.1):=(by funext x;simp[u7,h0])
  rw[this,Hu (Ur g.val f)];unfold l6 er;rw[filter_filter];congr 1;funext x;rw[Bool.and_comm]):p:=h
theorem aaz(h:p:=by
  have pM:¬(0<=s.iA/\s.iA<lz.length):=(by first|exact fun h=>nJ h.2|(intro h;omega))
  refine eI ?_;refine⟨_,aL,lz,(by unfold wo E0;rw[<-oY,Int.toNat_natCast,<-hM,<-aaA,if_neg pM]),aaB,w4,rfl⟩):p:=h
theorem z107(h:p:=by
  refine eA 135 [4,5] [] ?_;rw[aZ];exact⟨[],none,0,[],rfl,jt,(fun o h=>by cases h),rfl,rfl⟩):p:=h
theorem aaC(h:p:=by
  have O4:¬(f.length<=100/\eL.length<=100):=(by simp_all;omega)
  refine ay [6,7] ?_;refine kX (Wk.tY (t:=6) (sz:=2) lk) ?_;refine RF ?_;exact⟨by unfold zF;rw[if_pos hz,if_neg O4];rfl,rfl⟩):p:=h
theorem z109(h:p:=by
  unfold l7;rw[find?_cons];by_cases h:d.th=x
  ·rw[if_pos h,h,show(x.toList==x.toList)=true from BEq.rfl]
  rw[if_neg h,show(d.th.toList==x.toList)=false from Bool.eq_false_iff.2 fun e=>h (vY.1 e)]):p:=h
theorem aos(h:p:=by
  refine bM [0,1,5] ?_;refine⟨(i+1),_,cR,aL,w4,(fun n hn=>by rw[take_succ_eq_append_getElem aa] at hn;rcases mem_append.1 hn with hn|hn;exact h0 n hn;rw[mem_singleton] at hn;subst hn;exact bg),rfl⟩):p:=h
theorem aaD(h:p:=by
  unfold kY Ab;rw[vC,FX,hx,BL,h3,if_neg,if_neg w4];simp only[Nat.reduceSub];rcases h67 with h|h
  ·have:¬not=true:=fun e=>by have:=hn e;omega
   simp[h,this]
  simp[h]):p:=h
theorem P8(h:p:=by
  unfold dI;rw[show((⟨#[107]⟩:ByteArray)++⟨#[116]⟩)++⟨#[58]⟩=⟨#[107,116,58]⟩ by decide +kernel]):p:=h
theorem aaE(h:p:=by
  have ji:¬((jZ a b i).k≠2/\(jZ a b i).k≠0):=(by simp_all)
  refine bM [0,4,5,6,73,74] ?_;refine⟨(i+1),_,cR,aL,w4,(MQ (p:=fun v=>¬(v.k≠2/\v.k≠0)) fb ji),rfl⟩):p:=h
theorem aaF(h:p:=by
  have ji:¬((jZ a b i).k≠1/\(jZ a b i).k≠0):=(by simp_all)
  refine bM [2,3,4,6,14,15] ?_;refine⟨(i+1),_,cR,aL,w4,(MQ (p:=fun v=>¬(v.k≠1/\v.k≠0)) fb ji),rfl⟩):p:=h
theorem aaG(h:p:=by
  unfold fh cmpL gA gA gA gA;rcases uU a.k b.k with ⟨h1,h2⟩|⟨h1,h2⟩|⟨h1,h2⟩<;>rcases uU a.n b.n with ⟨k1,k2⟩|⟨k1,k2⟩|⟨k1,k2⟩<;>simp only[h1,k1]<;>(repeat' split)<;>omega):p:=h
theorem z116(h:p:=by
  refine bB ?_;refine cJ [6,7] ?_;refine aM 6 ?_ (h:=by exact(eE rfl ot ot (HP underlying4)));refine bB ?_;refine eD [] ?_;refine⟨?_,rfl⟩;unfold rH;simp_all):p:=h
theorem z117(h:p:=by
  unfold oM;rw[h,if_neg w4,Int.toNat_natCast,getD_eq_getElem?_getD,getElem?_eq_getElem hi];rfl):p:=h
theorem aaH(h:p:=by
  have amD:¬((jZ a b i).k=1/\(jZ a b i).n=d):=(by simp_all)
  refine bM [2,3,4,6,30,31] ?_;refine⟨(i+1),_,cR,aL,w4,(MQ (p:=fun v=>¬(v.k=1/\v.n=d)) O5 amD),rfl⟩):p:=h
theorem z119(h:p:=by
  match l,h,h0 with
  | x::r,h,_=>rw[map_cons] at h;injection h
  ):p:=h
theorem aaI(h:p:=by refine⟨_,(aL (h:=by repeat (first|exact trivial|refine⟨(by (repeat (first|exact j6|(apply lu;focus (first|rfl|(rw[en];done)|(simp;done)))|(apply kE;focus rfl)));done),?_⟩))),rfl⟩):p:=h
theorem aaJ(h:p:=by refine⟨_,(aL (h:=by repeat (first|exact trivial|refine⟨(by (repeat (first|exact j6|(apply lu;focus (first|rfl|(rw[jm];done)|(simp;done)))|(apply kE;focus rfl)));done),?_⟩))),rfl⟩):p:=h
theorem aaK(h:p:=by
  skip;obtain⟨hz,_⟩:=AA aP;obtain rfl:=length_eq_zero_iff.1 hz;refine ay [2] ?_;refine kX (Wk.tY (t:=2) (sz:=1) lk) ?_;refine eD [] ?_;exact⟨rfl,rfl⟩):p:=h
theorem wJ(h:p:=by exact absurd bg (by simp at bg)):p:=h
theorem z124(h:p:=by
  refine dS [4] [] ?_;first|exact⟨vi (HQ hn).symm,rfl⟩|exact⟨vi (Hv hz x9).symm,rfl⟩|exact⟨vi (Nu hz x9).symm,rfl⟩):p:=h
theorem aaL(h:p:=by
  rw[<-iG] at fC;obtain⟨j,hj,rfl⟩:=mem_iff_getElem.1 fC;refine lV (k+1+j) _ w4 ?_;rw[<-Array.getElem?_toList,<-getElem?_drop,getElem?_eq_getElem hj]):p:=h
theorem JT(h:p:=by rw[qk,if_neg nh,if_neg nh]):p:=h
theorem z127(h:p:=by
  refine ay [4] ?_;refine fJ ?_;refine⟨vi ?_,rfl⟩;unfold bn;first|(rw[E1] at hud;cases gJ:p.leaf<;>simp_all;done)|(simp_all;done)|(simp_all;omega)):p:=h
theorem P9(h:p:=by
  refine dS [2,3] [] ?_;first|(rw[aZ];exact⟨none,0,rfl,jt⟩)):p:=h
theorem JU(h:p:=by
  unfold de;rw[show(v::r).take 1=[v] from rfl,Ea hc hk]):p:=h
theorem z130(h:p:=by refine⟨_,aL,_,(by unfold zeroV;simp_all),rfl⟩):p:=h
theorem z131(h:p:=by
  have:=IV h;have e:(0:UInt8).toNat=0:=rfl;omega):p:=h
theorem Qa(h:p:=by
  refine dS [2] [] ?_;exact⟨by first|rw[aZ]|rw[aZ];rfl,rfl⟩):p:=h
theorem Qb(h:p:=by
  have:=DO g.ix [] [];rw[MN] at this;unfold iz;rwa [length_map]):p:=h
theorem aaM(h:p:=by
  have g6:=po.leaf;have g7:=fun h=>(po.node h).1;cases gJ:(t.af[i]'aa).leaf with
  | true=>have:=g6 gJ;omega
  | false=>have:=g7 gJ;omega):p:=h
theorem JV(h:p:=by exact Vl.ext' hk (by show v.n=0;omega) (Bp w4)):p:=h
theorem aaN(h:p:=by
  rw[map_set,hn];have:l[i].nm=(l.map aA.nm)[i]'(by rw[length_map];exact hi):=(by rw[getElem_map])
  rw[this,set_getElem_self]):p:=h
theorem JW(h:p:=by
  refine eD [] ?_;rw[fG];exact⟨rfl,rfl⟩
  ):p:=h
theorem z138(h:p:=by
  unfold ie;rw[find?_cons];by_cases h:k<eu r
  ·rw[if_pos h,decide_eq_true h]
  rw[if_neg h,decide_eq_false h]):p:=h
theorem z139(h:p:=by refine⟨_,aL,_,jk,rfl⟩):p:=h
theorem Qc(h:p:=by
  refine dS [2] [] ?_;rw[fG];exact⟨rfl,rfl⟩):p:=h
theorem z141(h:p:=by refine⟨((((i+j)/2)+1),j),_,cR,aL,w4,w4,w4,(.inr ⟨by omega,by omega,by exact wP⟩),fD,rfl⟩):p:=h
theorem aaO(h:p:=by
  refine⟨_,mem_append_right _ mem_cons_self,?_⟩;show ie t.nm c (iz t)=_;unfold ie;rw[h,hn]):p:=h
theorem z143(h:p:=by
  obtain⟨t',h3,h4⟩:=(zx hp KH).2;rw[jR] at h3;obtain rfl:=Option.some.inj h3;exact h4 k o hj Cv hd):p:=h
theorem aaP(h:p:=by
  unfold oc;rw[mk_data,getD_eq_getElem?_getD,getElem?_eq_getElem w4];exact getElem_mem _):p:=h
theorem z145(h:p:=by
  rw[rS] at ri;rcases mem_cons.1 ri with rfl|ri
  ·exact .inl (vR _ _)
  exact m.YM x ri):p:=h
theorem z146(h:p:=by
  refine⟨rfl,fun B hB=>?_⟩;rcases mem_cons.1 hB with rfl|hB
  ·exact xI y
  exact hj.gC B hB):p:=h
theorem aaQ(h:p:=by
  have fG:dV l=1:=if_pos w4;refine ay [2] ?_;refine fJ ?_;rw[fG];exact⟨rfl,rfl⟩):p:=h
theorem z148(h:p:=by
  refine dS [4] [] ?_;refine⟨?_,rfl⟩;first|rfl|exact congrArg (fun b=>D.v (.bool b)) KS):p:=h
theorem aaR(h:p:=by
  refine eD [⟨br,30,1,[aj 3 cV row]⟩,⟨bc,29,1,[aj 2 cC l]⟩] ?_;rw[aZ];exact⟨rfl,rfl⟩
  ):p:=h
theorem aaS(h:p:=by
  refine bM [8] ?_;refine eD [] ?_;refine⟨?_,rfl⟩;first|rfl|exact congrArg (fun b=>D.v (.bool b)) g2):p:=h
theorem aaT(h:p:=by refine⟨(i,((i+j)/2)),_,cR,aL,w4,w4,w4,eK,(.inr ⟨by omega,by omega,C7⟩),rfl⟩):p:=h
theorem z152(h:p:=by
  refine eI ?_;have amE:l1=l:=ahU Qd w4;rw[amE];refine⟨_,aL,rfl⟩):p:=h
theorem Qe(h:p:=by
  refine dB 2 ?_;refine nB (f:=155) (args:=[_,_]) (all:=[_,_]) (Sf:=[]) au rfl rfl ot call155 (Ce a 2) rfl ⟨ot,bP,trivial⟩ (fj _) ?_;rintro _ _ ⟨rfl,rfl⟩;refine aF 1 ?_;refine cz 68 (fun aot amF=>?_) (fun aot amF=>?_)
  ·refine aF 2 ?_;refine nB (f:=155) (args:=[_,_]) (all:=[_,_]) (Sf:=[]) jq rfl rfl ot call155 (Ce b 2) rfl ⟨ot,bP,trivial⟩ (fj _) ?_;rintro _ _ ⟨rfl,rfl⟩;exact KC
  refine ap 76 [11,12] ?_;refine ay [12,74] ?_;refine fu ?_;exact CZ):p:=h
theorem z154(h:p:=by
  refine aF 1 ?_;first|refine mT (k:=0) (cs':=[.list 1 [] 0,_]) rfl ⟨bQ,aH,trivial⟩ rfl ?_|skip
  first|refine mT (k:=1) (cs':=[.list 1 [] 0,_]) rfl ⟨bQ,aH,trivial⟩ rfl ?_|skip
  first|refine mT (k:=1) (cs':=[.list 5 [] 0]) rfl ⟨bQ,trivial⟩ rfl ?_|skip
  first|refine mT (k:=2) (cs':=[.list 5 [] 0]) rfl ⟨bQ,trivial⟩ rfl ?_|skip
  refine ap 46 [4,5,6] ?_;exact kO):p:=h
theorem aaU(h:p:=by
  refine bA func19 rfl ntmps19 aO fun X0 w0 bz=>?_;have dy:=ee;refine ay [0,1] ?_;refine ay [0,1,5] ?_;refine eZ [0,1] (fun aU _ (i:Nat) aE=>(i<=l.length)/\(∀n∈l.take i,(n.th.toList==x.toList)=false)/\aE=(⟨24,(5,ae (i:Nat))::aU,[]⟩:St)) (fun (i:Nat)=>l.length-i) 0 ⟨(Nat.zero_le _),(fun n hn=>by cases hn),rfl⟩ ?_;rintro i _ ⟨hi,h0,rfl⟩;refine ax [0,1,5,9] ?_ ?_<;>intro aP bH
  ·have aa:i<l.length:=(by omega)
   refine ax [0,1,5,18] ?_ ?_<;>intro bg cM
   ·have aZ:=VB aa h0 bg;refine ay [4] ?_;exact kO
   exact aos
  have aZ:l7 l x=0:=Us (by rwa [take_of_length_le w4] at h0);refine ay [4] ?_;exact tg):p:=h
theorem z156(h:p:=by
  refine cL ?_;refine vH 11 10 [5,7,31] ?_;refine cA (jU G n 40 dQ gZ w7) ?_;refine cA (VD ⟨n,cN n 40-20,s⟩ gM) ?_;refine rj ?_;refine kN ?_;refine⟨rfl,fun b7=>?_⟩;refine aN 0 [_,_,_] sizeOf36 ?_;refine ap 69 [5,7] ?_;refine az 2 ?_;refine dK call41 (IW (rG ⟨n,cN n 40-20,s⟩).s 4 w4) ?_;refine aF 1 ?_;refine aN 0 [_,_,_] sizeOf9 ?_;refine ap 69 [5,7] ?_;refine az 3 ?_;refine eR (cU 0 [_]) [.int .i64 0,.int .i64 0,.int .i64 0,.string ⟨#[]⟩,.string ⟨#[]⟩] [_,_,_,_,_] zeroValue38 runUnderlying32 sizeOf38 (fun FY=>?_);exact z26):p:=h
theorem z157(h:p:=by
  refine bA func15 rfl ntmps15 aO fun X0 w0 bz=>?_;refine cq ?_;refine cD (ds:=[_,_,_,_,_,_,_,_,_,_,_,_]) au rfl rfl zeroValue34 rfl (fun b4=>?_);refine ap 8 [0,1,4] ?_;refine az 3 ?_;refine aN 0 [_,_,_,_,_,_,_,_,_,_,_,_] sizeOf34 ?_;refine ap 8 [4] ?_;exact z46):p:=h
theorem aaV(h:p:=by
  refine dB 2 ?_;refine nB (f:=155) (args:=[_,_]) (all:=[_,_]) (Sf:=[]) au rfl rfl ot call155 (Ce a 1) rfl ⟨ot,bP,trivial⟩ (fj _) ?_;rintro _ _ ⟨rfl,rfl⟩;refine aF 1 ?_;refine cz 40 (fun Qf O6=>?_) (fun Qf O6=>?_)
  ·refine aF 2 ?_;refine nB (f:=155) (args:=[_,_]) (all:=[_,_]) (Sf:=[]) jq rfl rfl ot call155 (Ce b 1) rfl ⟨ot,bP,trivial⟩ (fj _) ?_;rintro _ _ ⟨rfl,rfl⟩;exact KC
  refine ap 76 [11,12] ?_;refine ay [12,74] ?_;refine fu ?_;exact CZ):p:=h
theorem z159(h:p:=by
  refine bV (i:=10) aD ?_;refine sj call93 (nY (t.af[i]'aa).high w4) ?_;refine dX 13 rfl (nZ (pl:=[(0,_),(1,_),(2,_),(3,_),(4,_)]) (ds:=[_,_,_,_,_]) rfl zeroValue165 runUnderlying165 Ty ⟨rfl,ot,rfl,ot,rfl,ot,rfl,ot,rfl,ot,trivial⟩ rfl rfl) ?_;refine bV (i:=14) aD ?_;refine oZ (cU 0 [_]) [.bool false,.slice none 0 0,.slice none 0 0,.slice none 0 0,.int .i64 0] [_,_,_,_,_] zeroValue165 runUnderlying72 sizeOf165 (fun C8=>?_);refine o8 0 46 5 1 ?_;exact z7):p:=h
theorem z160(h:p:=by
  refine gd ?_;refine bL [3] ?_;refine ax [52] ?_ ?_<;>intro fH ik
  ·exact Ru
  exact Ru):p:=h
theorem JX(h:p:=by
  refine ay [4,5,6] ?_;refine kX (Wk.tY (t:=4) (sz:=1) lk) ?_;refine kX (Wk.tY (t:=5) (sz:=1) lk) ?_;exact kO):p:=h
theorem z162(h:p:=by
  refine dB 3 ?_;refine nB (f:=155) (args:=[_,_]) (all:=[_,_]) (Sf:=[]) au rfl rfl ot call155 (Ce a b) rfl ⟨ot,ot,trivial⟩ (fj _) ?_;rintro _ _ ⟨rfl,rfl⟩;refine aF 1 ?_;refine cz 57 (fun wK ED=>?_) (fun wK ED=>?_)
  ·refine ap 76 [11,12] ?_;refine ay [12,74] ?_;refine gK ?_;exact CZ
  exact KC):p:=h
theorem aaW(h:p:=by
  have nq:=BN (G:=G) ([(⟨⟨#[]⟩,1⟩:bq),⟨⟨#[116,116]⟩,(if s.kind=4 then 3 else 5)⟩]) (by show 2<=1000000;decide) ⟨#[116,116]⟩;rw[Nv] at nq;refine fW [7,10,12,71] ?_;refine cA (nq) ?_;refine bB ?_;refine bX ?_ ?_<;>intro da eP
  ·exact RA
  exact absurd da (by (rw[<-pN];decide))):p:=h
theorem z164(h:p:=by
  have aZ:gE l s=([⟨⟨#[]⟩,1⟩],0):=(by first|exact aZ|(unfold gE;rw[if_neg (fun e=>e pO),if_neg vI,if_neg fD,if_neg h0,jm,if_pos eo]))
  refine ay [4,5] ?_;refine mS (t:=4) (Sq:=E2) lk JY (dg qQ _) (dL (A:=[_,_,_])) ?_;exact kO):p:=h
theorem aaX(h:p:=by
  refine ou 7 rfl ?_;refine ou 8 rfl ?_;refine ou 9 rfl ?_;refine ew.later rfl ?_;refine bV (i:=10) aD ?_;refine rA rfl (oH rfl rfl rfl lk ko) rfl ?_;refine dX 11 rfl zT ?_;refine dX 12 rfl eV ?_;exact z8):p:=h
theorem JZ(h:p:=by
  skip;refine bL [1,2,39] ?_;refine fu ?_;refine ay [4] ?_;refine fJ ?_;exact KB):p:=h
theorem z167(h:p:=by
  have cl:(dD (lQ key) (bK.take 2))<0\/(dD gU (bK.take 2))<0:=(by first|omega|(simp_all;omega)|simp_all)
  have oS:kY key bK nt (lo,hi)=(lo,hi):=(by unfold kY;rw[xM yd,if_neg vl,if_pos cl])
  rw[oS] at aZ;exact z50):p:=h
theorem z168(h:p:=by
  refine ay [2] ?_;refine fJ ?_;exact z47):p:=h
theorem E3(h:p:=by
  refine aF 4 ?_;refine dK call191 (DP _) ?_;exact wQ):p:=h
theorem aaY(h:p:=by
  have aZ:iy t s=true:=(by first|exact pD|(unfold iy;rw[if_neg gX,if_neg (fun h=>jS h.1),if_pos ⟨qg,.inr (.inr ⟨by simpa using jT,by rw[jm];simpa using iE⟩)⟩]))
  refine ay [4] ?_;exact kO):p:=h
theorem z171(h:p:=by
  refine cq ?_;refine cD (ds:=[_,_,_]) au rfl rfl zeroValue153 rfl (fun b2=>?_);refine ap 5 [0,2] ?_;refine az 2 ?_;refine aN 0 [_,_,_] sizeOf153 ?_;refine ap 5 [2] ?_;exact z46):p:=h
theorem aaZ(h:p:=by
  refine ax [52] ?_ ?_<;>intro fH ik
  ·refine dS [2] [] ?_;exact Rv
  refine dS [2] [] ?_;exact Rv):p:=h
theorem z173(h:p:=by
  refine bA func61 rfl ntmps61 aO fun X0 w0 bz=>?_;refine ay [0,1] ?_;refine az 2 ?_;refine bS (aeu rfl ot ot func100 aD aD aD aD) ?_;refine ap 8 [4] ?_;exact z46):p:=h
theorem Cx(h:p:=by
  refine ay [2] ?_;refine fJ ?_;exact z31):p:=h
theorem z175(h:p:=by
  refine ay [0] ?_;refine cJ [2] ?_;refine aM 1 ?_ (h:=aaq);refine bB ?_;exact z46):p:=h
theorem aa0(h:p:=by
  have hf:pF (l.take i) l[i]=2:=(by unfold pF;rw[if_neg iV,if_pos w4])
  have aZ:gG l=2:=(by rw[hinv,MR aa (by rw[hf];decide),hf])
  exact AB):p:=h
theorem J0(h:p:=by
  refine bM [6,7,8,10,11,53] ?_;refine fu ?_;exact RA):p:=h
theorem E4(h:p:=by
  refine dS [2] [] ?_;exact z47):p:=h
theorem aa1(h:p:=by
  refine cg (eM (A:=[])) ?_;refine ap 8 [2] ?_;refine mS (t:=2) (Sq:=S7) lk sg (dg qS _) (dL (A:=[])) ?_;exact z46):p:=h
theorem aa2(h:p:=by
  skip;refine bL [1,14] ?_;refine bX ?_ ?_<;>intro cl di
  ·refine ay [2] ?_;exact z20
  exact z16):p:=h
theorem Ac(h:p:=by
  refine ay [4,5] ?_;exact KI):p:=h
theorem z182(h:p:=by
  skip;refine aF 5 ?_;refine cz 17 (fun Ad zG=>?_) (fun Ad zG=>?_)
  ·exact KK
  exact KK):p:=h
theorem z183(h:p:=by
  refine ax [5,7,8,25] ?_ ?_<;>intro bg cM
  ·exact wJ
  exact z24):p:=h
theorem aa3(h:p:=by
  skip;refine bL [1,2,71] ?_;refine fu ?_;refine ay [4] ?_;refine fJ ?_;exact KB):p:=h
theorem aa4(h:p:=by
  refine bV (i:=15) aD ?_;refine Dv rfl jq rfl rfl rfl call151 (Xa t.s 152 zH call152 VE hs) ⟨ot,vS,trivial⟩ ?_;refine dX 19 rfl AE ?_;refine dX 20 rfl Cy ?_;exact z160):p:=h
end
namespace V
open List
open Go.RowKit
section
variable {L X:Nat->Prop} {w':World} {b i k n off o' cap sz j m h' tt bytes:Nat} {I:Array Field} {v u:Value} {e t:TypeId} {y fo:Operand} {a:Act} {cur:Array Value} {lo hi:Option Operand} {ts:Array TypeId} {ad:Option Addr} {ps:Array (Nat×Operand)} {dR:Array Operand}
inductive D where
 | v (x:Value)
 | list (sz:Nat) (cs:List D) (len:Nat)
 | gm (cs:List D) (off:Nat)
 | agg (cs:List D)
 | dF (cs:List D)
 | fg (f:Fn) (cs:List D)
 | lW (l:Nat) (os:List (Nat×Obj))
 | cy
 deriving Inhabited
variable {ds cs':List D} {l:List (Nat×D)}
inductive cG (w:World) (L:Nat->Prop):D->Value->Prop
 | v (x:Value):cG w L (.v x) x
 | nK (sz:Nat) (ad:Option Addr) (cap:Nat):cG w L (.list sz [] 0) (.slice ad 0 cap)
 | list (sz:Nat) (cs:List D) (len b o cap:Nat) (f:Nat->Value) (hl:cs.length=len*sz) (h1:len<=cap) (h2:cap<=maxLen) (hb:b<w.heap.size) (hL:¬L b)
   (hc:∀i,i<cs.length->w.cell? ⟨b,o+i,none⟩=some (f i)) (hr:∀i (h:i<cs.length),cG w L cs[i] (f i)):cG w L (.list sz cs len) (.slice (some ⟨b,o,none⟩) len cap)
 | gm (cs:List D) (off b o:Nat) (f:Nat->Value) (hb:b<w.heap.size) (hL:¬L b)
   (hc:∀i,i<cs.length->w.cell? ⟨b,o+i,none⟩=some (f i)) (hr:∀i (h:i<cs.length),cG w L cs[i] (f i)):cG w L (.gm cs off) (.pointer (some ⟨b,o+off,none⟩))
 | agg (cs:List D) (vs:List Value) (hl:vs.length=cs.length) (hr:∀i (h:i<cs.length) (h':i<vs.length),cG w L cs[i] vs[i]):cG w L (.agg cs) (.agg vs.toArray)
 | dF (cs:List D) (vs:List Value) (hl:vs.length=cs.length) (hr:∀i (h:i<cs.length) (h':i<vs.length),cG w L cs[i] vs[i]):cG w L (.dF cs) (.tuple vs.toArray)
 | fg (fn:Fn) (cs:List D) (vs:List Value) (hl:vs.length=cs.length) (hr:∀i (h:i<cs.length) (h':i<vs.length),cG w L cs[i] vs[i]):cG w L (.fg fn cs) (.func fn #[] vs.toArray)
 | lW (l:Nat) (os:List (Nat×Obj)) (h:∀z∈os,z.1<w.heap.size/\¬L z.1/\w.heap[z.1]?=some z.2):cG w L (.lW l os) (.func (.yield l) #[] #[])
 | cy (x:Value):cG w L .cy x
theorem cG.nil{w:World}(sz:Nat):cG w L (.list sz [] 0) (.slice none 0 0):=.nK sz none 0
theorem tP{w:World}(hb:b<w.heap.size)(h:w'.heap[b]?=w.heap[b]?):b<w'.heap.size:=by
 rcases Nat.lt_or_ge b w'.heap.size with h'|h'
 ·exact h'
 rw[Array.getElem?_eq_none h',Array.getElem?_eq_getElem hb] at h;cases h
theorem cG.mono{w:World}{I:Nat->Prop}{d:D}(h:cG w L d v)(H:∀b,b<w.heap.size->¬L b->w'.heap[b]?=w.heap[b]?/\¬I b):cG w' I d v:=by
 induction h with
 | v x=>exact .v x
 | nK sz ad cap=>exact .nK sz ad cap
 | list sz cs len b o cap f hl h1 h2 hb hL hc hr ih =>
  have E:=H b hb hL;exact .list sz cs len b o cap f hl h1 h2 (tP hb E.1) E.2 (fun i hi=>(World.cell?_of_block (w:=w) (a:=⟨b,o+i,none⟩) E.1).trans (hc i hi)) ih
 | gm cs off b o f hb hL hc hr ih =>
  have E:=H b hb hL;exact .gm cs off b o f (tP hb E.1) E.2 (fun i hi=>(World.cell?_of_block (w:=w) (a:=⟨b,o+i,none⟩) E.1).trans (hc i hi)) ih
 | agg cs vs hl hr ih=>exact .agg cs vs hl ih
 | dF cs vs hl hr ih=>exact .dF cs vs hl ih
 | fg fn cs vs hl hr ih=>exact .fg fn cs vs hl ih
 | lW l os h =>
  refine .lW l os fun z hz=>?_;obtain⟨h1,h2,h3⟩:=h z hz;have E:=H z.1 h1 h2;exact⟨tP h1 E.1,E.2,E.1.trans h3⟩
 | cy x=>exact .cy x
structure ag where
 b:Nat
 e:TypeId
 size:Nat
 cs:List D
 deriving Inhabited
variable {S S' Sf R:List ag} {B:ag} {post:D->List ag->Prop}
def B0:TypeId:=1000003
def Xb:TypeId:=1000004
def isMap(e:TypeId):Bool:=Nat.beq e B0||Nat.beq e Xb
def EE(cur:Array Value):Obj:=.map (cur.mapIdx fun i k=>⟨k,.agg #[],i⟩) cur.size
def YN:Value->Nat
 | .int _ n=>n.toNat
 | _=>0
def aa5:List Value->List MapEntry
 | k::v::b::r=>⟨k,v,YN b⟩::aa5 r
 | _=>[]
def ali(cur:Array Value):Obj:=match cur.toList with
 | c::r=>.map (aa5 r).toArray (YN c)
 | []=>.map #[] 0
def ob(e:TypeId)(cur:Array Value):Obj:=bif isMap e then (bif Nat.beq e Xb then ali cur else EE cur) else .cells cur e (0,0)
theorem lO(he:isMap e=false)(cur:Array Value):ob e cur = .cells cur e (0,0):=by rw[ob,he];rfl
theorem YO(cur:Array Value):ob B0 cur=EE cur:=rfl
def O7(w:World)(L:Nat->Prop)(B:ag):Prop :=
 B.b<w.heap.size/\∃cur:Array Value,w.heap[B.b]?=some (ob B.e cur)/\cur.size=B.size/\B.cs.length<=B.size/\∀i (h:i<B.cs.length),∃u,cur[i]?=some u/\cG w L B.cs[i] u
def ud:Value->Bool
 | .tuple _=>false
 | _=>true
def ql(w:World)(b i:Nat):Value->Prop
 | .tuple vs=>∃t fz,w.heap[b]?=some (.cells vs t fz)
 | v=>w.cell? ⟨b,i,none⟩=some v
theorem ql.cell{w:World}(h:ql w b i v)(hv:ud v=true):w.cell? ⟨b,i,none⟩=some v:=by
 cases v<;>first|exact h|cases hv
theorem ql.of{w:World}(h:w.cell? ⟨b,i,none⟩=some v)(hv:ud v=true):ql w b i v:=by
 cases v<;>first|exact h|cases hv
theorem ql.on{w:World}(hb:w'.heap[b]?=w.heap[b]?)(h:ql w b i v):ql w' b i v:=by
 by_cases hv:ud v=true
 ·exact .of ((World.cell?_of_block (w:=w) (a:=⟨b,i,none⟩) hb).trans (h.cell hv)) hv
 cases v<;>first|exact absurd rfl hv|(obtain⟨t,fz,h⟩:=h;exact⟨t,fz,hb.trans h⟩)
theorem ql.lt{w:World}(h:ql w b i v):b<w.heap.size:=by
 by_cases hv:ud v=true
 ·exact World.block_lt_of_cell? w _ (h.cell hv)
 cases v<;>first|exact absurd rfl hv|(obtain⟨t,fz,h⟩:=h;exact(Array.getElem?_eq_some_iff.1 h).1)
theorem VF{vs:List Value}(h:vs.all ud=true)(hi:vs[i]?=some v):ud v=true:=all_eq_true.1 h v (mem_of_getElem? hi)
structure ey where
 X:Nat->Prop
 w0:World
 S0:List Nat
 G:List (Nat×List Value)
 df:List Deferred
 FZ:Act->World->Prop
variable {C:ey}
structure St where
 n:Nat
 env:List (Nat×D)
 S:List ag
def look(t:Nat):List (Nat×D)->D
 | []=>.cy
 | (i,d)::r=>bif Nat.beq i t then d else look t r
theorem gQ(t i:Nat)(d:D)(l:List (Nat×D)):look t ((i,d)::l)=if i=t then d else look t l:=by
 rw[look];by_cases e:i=t
 ·subst e;simp
 have:Nat.beq i t=false:=by
  cases h:Nat.beq i t with
  | false=>rfl
  | true=>exact absurd (Nat.eq_of_beq_eq_true h) e
 rw[this,if_neg e];rfl
def aq(S:List ag):List Nat:=S.map (·.b)
def live(X:Nat->Prop)(S:List ag)(b:Nat):Prop:=X b\/b∈aq S
structure Fr (w:World) (S:List Nat) (w':World) (S':List Nat):Prop where
 os:w'.os=w.os
 tape:w'.tape=w.tape
 output:w'.output=w.output
 size:w.heap.size<=w'.heap.size
 block:∀b,b<w.heap.size->b∉S->w'.heap[b]?=w.heap[b]?/\b∉S'
theorem Fr.refl(w:World)(S:List Nat):Fr w S w S:=⟨rfl,rfl,rfl,Nat.le_refl _,fun _ _ h=>⟨rfl,h⟩⟩
theorem Fr.trans{w1 w2 w3:World}{S1 S2 S3:List Nat}(h:Fr w1 S1 w2 S2)(k:Fr w2 S2 w3 S3):Fr w1 S1 w3 S3 :=
 ⟨k.os.trans h.os,k.tape.trans h.tape,k.output.trans h.output,Nat.le_trans h.size k.size,fun b hb hn =>
  have h1:=h.block b hb hn;have h2:=k.block b (Nat.lt_of_lt_of_le hb h.size) h1.2
  ⟨h2.1.trans h1.1,h2.2⟩⟩
structure Own (w:World) (L:Nat->Prop) (S:List ag):Prop where
 at_:∀B∈S,O7 w L B
 apart:(aq S).Nodup
structure cf (C:ey) (x:St) (a:Act) (w:World):Prop where
 defers:a.defers=C.df
 size:a.tmps.size=x.n
 env:∀t,t<x.n->cG w (live C.X x.S) (look t x.env) (a.tmps.getD t undef)
 own:Own w (live C.X x.S) x.S
 fr:Fr C.w0 C.S0 w (aq x.S)
 ex:∀b,C.X b->b<C.w0.heap.size/\b∉C.S0
 fE:∀g∈C.G,(g.1<C.w0.heap.size/\g.1∉C.S0/\¬C.X g.1)/\∀i v,g.2[i]?=some v->ql C.w0 g.1 i v
def St.put(x:St)(t:Nat)(d:D):St:=⟨x.n,(t,d)::x.env,x.S⟩
theorem cf.put{C:ey}{x:St}{a:Act}{w:World}(h:cf C x a w){t:Nat}{d:D}{v:Value}(hd:cG w (live C.X x.S) d v):cf C (x.put t d) (a.put (some t) v) w:=by
 refine⟨h.defers,by simp[Act.put,St.put,h.size],fun i hi=>?_,h.own,h.fr,h.ex,h.fE⟩;have hs:=h.size;simp only[St.put,gQ,Act.put] at hi |-;by_cases e:t=i
 ·subst e;rw[if_pos rfl];have:(a.tmps.setIfInBounds t v).getD t undef=v:=by
   simp[Array.getElem?_setIfInBounds,hs,hi]
  rw[this];exact hd
 rw[if_neg e];have:(a.tmps.setIfInBounds t v).getD i undef=a.tmps.getD i undef:=by
  simp[Array.getElem?_setIfInBounds_ne e]
 rw[this];exact h.env i hi
def Wk(x y:St):Prop:=∀C a w,cf C x a w->cf C y a w
theorem Wk.refl(x:St):Wk x x:=fun _ _ _ h=>h
theorem Wk.trans{x y z:St}(h:Wk x y)(k:Wk y z):Wk x z:=fun C a w s=>k C a w (h C a w s)
theorem Own.sub{w:World}(h:Own w (live X S) S)(hs:S'.Sublist S):Own w (live X S') S' :=
 have E:(aq S').Sublist (aq S):=Sublist.map _ hs
 ⟨fun B hB=>by
  obtain⟨h0,cur,h1,h2,h3,h4⟩:=h.at_ B (hs.subset hB);refine⟨h0,cur,h1,h2,h3,fun i hi=>?_⟩;obtain⟨u,hu,hr⟩:=h4 i hi;exact⟨u,hu,hr.mono fun b _ hn=>⟨rfl,fun hl=>hn (hl.imp id fun q=>E.subset q)⟩⟩,h.apart.sublist E⟩
theorem Wk.drop(n:Nat)(l:List (Nat×D))(S S':List ag)(hs:S'.Sublist S):Wk ⟨n,l,S⟩ ⟨n,l,S'⟩:=fun C a w h =>
 have E:(aq S').Sublist (aq S):=Sublist.map _ hs
 ⟨h.defers,h.size,fun t ht=>(h.env t ht).mono fun b _ hn=>⟨rfl,fun hl=>hn (hl.imp id fun q=>E.subset q)⟩,h.own.sub hs,
  ⟨h.fr.os,h.fr.tape,h.fr.output,h.fr.size,fun b hb hn=>⟨(h.fr.block b hb hn).1,fun q=>(h.fr.block b hb hn).2 (E.subset q)⟩⟩,h.ex,h.fE⟩
theorem cG.mi{w:World}{x y:Value}(h:cG w L (.v x) y):y=x:=by cases h;rfl
def aK(x:St):Operand->D
 | .tmp t=>bif Nat.blt t x.n then look t x.env else .cy
 | .const v=>.v v
 | .global g=>.v (.pointer (some ⟨g,0,none⟩))
 | .func f=>.fg (.func f) []
theorem cf.eval{C:ey}{x:St}{a:Act}{w:World}(h:cf C x a w)(o:Operand):cG w (live C.X x.S) (aK x o) (a.eval o):=by
 cases o with
 | tmp t =>
  simp only[aK,Act.eval];cases ht:Nat.blt t x.n with
  | true=>exact h.env t (Nat.le_of_ble_eq_true ht)
  | false=>exact .cy _
 | const v=>exact .v _
 | global g=>exact .v _
 | func f=>exact .fg (.func f) [] [] rfl (fun i h=>by simp at h)
theorem cf.flat{x:St}{w:World}(h:cf C x a w){o:Operand}(ho:aK x o = .v u):a.eval o=u:=by
 have:=h.eval o;rw[ho] at this;exact this.mi
theorem cf.gh{x:St}{w:World}(h:cf C x a w)(hk:x.S[k]?=some B):O7 w (live C.X x.S) B:=h.own.at_ B (mem_of_getElem? hk)
theorem VG(hk:S[k]?=some B):live X S B.b:=.inr (mem_map.2 ⟨B,mem_of_getElem? hk,rfl⟩)
theorem cf.aC{x:St}{w:World}(h:cf C x a w){g:Nat×List Value}(hg:g∈C.G)(hi:g.2[i]?=some v):ql w g.1 i v:=by
 obtain⟨⟨h1,h2,h3⟩,h4⟩:=h.fE g hg;exact(h4 i v hi).on (h.fr.block g.1 h1 h2).1
inductive Rd where
 | none
 | gh (k:Nat)
 | kP
def Same(C:ey)(x:St)(w w':World):Rd->Prop
 | .none=>True
 | .gh k=>∀B,x.S[k]?=some B->w'.heap[B.b]?=w.heap[B.b]?
 | .kP=>∀b,b<w.heap.size->¬live C.X x.S b->w'.heap[b]?=w.heap[b]?
theorem Same.self(C:ey)(x:St)(w:World):∀k,Same C x w w k
 | .none=>trivial
 | .gh _=>fun _ _=>rfl
 | .kP=>fun _ _ _=>rfl
def cu(P:Program)(G:List (Nat×List Value))(x:St)(o:Oper)(k:Rd)(d:D):Prop :=
 ∀C a w,C.G=G->cf C x a w->∃v,cG w (live C.X x.S) d v/\∀w',Same C x w w' k->(execOp a.eval o).run P w' = .ok (.value v) w'
variable {P:Program} {G:List (Nat×List Value)} {x:St} {o:Oper}
theorem afu(ho:o.op = .move y):cu P G x o .none (aK x y):=fun C a w _ h =>
 ⟨a.eval y,h.eval y,fun w' _=>by unfold execOp;simp[ho]⟩
theorem aeJ(ho:o.op = .assign y):cu P G x o .none (aK x y):=fun C a w _ h =>
 ⟨a.eval y,h.eval y,fun w' _=>by unfold execOp;simp[ho]⟩
theorem T2{c z:Operand}{t:Bool}(ho:o.op = .pick c y z)(hc:aK x c = .v (.bool t)):cu P G x o .none (if t then aK x y else aK x z):=fun C a w _ h=>by
 refine⟨if t then a.eval y else a.eval z,by cases t<;>simp[h.eval],fun w' _=>?_⟩;unfold execOp;simp only[ho,h.flat hc,asBool];cases t<;>simp
def mD(P:Program)(op:BinOp)(t:TypeId)(u u' r:Value):Prop:=∀(y z:Operand) w,(do eqGuard op t y z u u';Go.binOp op t u u':Sem Value).run P w = .ok r w
theorem eE{op:BinOp}{t':TypeId}{z:Operand}{u' r:Value}(ho:o.op = .binOp op t y z t')(hy:aK x y = .v u)(hz:aK x z = .v u')(hb:mD P op t u u' r):cu P G x o .none (.v r):=fun C a w _ h =>
 ⟨r,.v _,fun w' _=>by
  unfold execOp;have:=hb y z w';simp only[Sem.run_bind] at this;simp only[ho,h.flat hy,h.flat hz,Sem.run_bind,this,Result.andThen_ok,Sem.run_pure]⟩
theorem HR{op:UnOp}{r:Value}(ho:o.op = .unOp op t y)(hy:aK x y = .v u)(hb:∀w,(Op.unary op u).run P w = .ok r w):cu P G x o .none (.v r):=fun C a w _ h =>
 ⟨r,.v _,fun w' _=>by
  unfold execOp;simp only[ho,h.flat hy,Sem.run_bind,hb w',Result.andThen_ok,Sem.run_pure]⟩
theorem uT{s:TypeId}{r:Value}(ho:o.op = .convert s t y)(hy:aK x y = .v u)(hb:∀w,(Go.convert s t u).run P w = .ok r w):cu P G x o .none (.v r):=fun C a w _ h =>
 ⟨r,.v _,fun w' _=>by
  unfold execOp;simp only[ho,h.flat hy,Sem.run_bind,hb w',Result.andThen_ok,Sem.run_pure]⟩
theorem Tz{s:TypeId}{f:Field}{w:World}(O:∀w,(underlying s).run P w = .ok (.struct I) w)(hf:I[i]?=some f)(hn:∀w,(sizeOf f.type).run P w = .ok (n+1) w)(E:f.offset=off) :
  (Instr.fieldAt s (.pointer (some ⟨b,o',none⟩)) i).run P w = .ok (.pointer (some ⟨b,o'+off,none⟩)) w:=by
 subst E;simp[Instr.fieldAt,O,hf,Instr.sureAddr,fieldPlace,hn,Addr.add_mid]
theorem ae1 {s:TypeId} {f:Field} (ho:o.op = .fieldAddr s y i) (hy:aK x y = .v (.pointer (some ⟨b,o',none⟩)))
  (O:∀w,(underlying s).run P w = .ok (.struct I) w) (hf:I[i]?=some f) (hn:∀w,(sizeOf f.type).run P w = .ok (n+1) w) (E:f.offset=off):cu P G x o .none (.v (.pointer (some ⟨b,o'+off,none⟩))):=fun C a w _ h =>
 ⟨_,.v _,fun w' _=>by
  unfold execOp;simp only[ho,h.flat hy,Sem.run_bind,Tz O hf hn E,Result.andThen_ok,Sem.run_pure]⟩
theorem aeK {s:TypeId} {cs:List D} {f:Field} {O:Array Field} (ho:o.op = .fieldAddr s y i) (hy:aK x y = .gm cs o')
  (U:∀w,(underlying s).run P w = .ok (.struct O) w) (hf:O[i]?=some f) (hn:∀w,(sizeOf f.type).run P w = .ok (n+1) w) (E:f.offset=off):cu P G x o .none (.gm cs (o'+off)):=fun C a w _ h=>by
 have hr:=h.eval y;rw[hy] at hr;generalize hg:a.eval y=u at hr;cases hr with
 | gm _ _ b I g hb hL hc hr =>
  refine⟨_,.gm cs (o'+off) b I g hb hL hc hr,fun w' _=>?_⟩;unfold execOp;simp only[ho,hg,Sem.run_bind,Tz U hf hn E,Result.andThen_ok,Sem.run_pure,Nat.add_assoc]
theorem aev{cs:List D}{d:D}(ho:o.op = .extract y i)(hy:aK x y = .dF cs)(hd:cs[i]?=some d):cu P G x o .none d:=fun C a w _ h=>by
 have hr:=h.eval y;rw[hy] at hr;generalize hg:a.eval y=u at hr;cases hr with
 | dF _ vs hl hr =>
  obtain⟨aa,he⟩:=List.getElem?_eq_some_iff.1 hd;refine⟨vs[i]'w4,?_,fun w' _=>?_⟩
  ·rw[<-he];exact hr _ aa w4
  unfold execOp;simp[ho,hg,Instr.extract,getElem?_eq_getElem (show i<vs.length by omega)]
theorem Hw{w:World}(ha:∀w,(isAgg t).run P w = .ok false w)(hc:w.cell? ⟨b,o',none⟩=some v) :
  (Instr.loadAt t (.pointer (some ⟨b,o',none⟩))).run P w = .ok v w:=by
 simp[Instr.loadAt,Instr.sureAddr,loadVar,ha,hc]
theorem Mi {vs:List Value} {w:World} (ha:∀w,(isAgg t).run P w = .ok true w) (hn:∀w,(sizeOf t).run P w = .ok n w) (hl:vs.length=n)
  (hc:∀j (h:j<vs.length),w.cell? ⟨b,o'+j,none⟩=some vs[j]) :
  (Instr.loadAt t (.pointer (some ⟨b,o',none⟩))).run P w = .ok (.agg vs.toArray) w:=by
 have:=run_loadCells_list (P:=P) w ⟨b,o',none⟩ vs (fun j v hv=>by
  obtain⟨h1,h2⟩:=List.getElem?_eq_some_iff.1 hv;rw[Addr.add_mid,hc j h1,h2])
 rw[hl] at this;simp[Instr.loadAt,Instr.sureAddr,loadVar,ha,hn,this]
theorem pT{w:World}(E:w.heap[b]?=some (.cells cur e (0,0)))(I:cur[i]?=some u):w.cell? ⟨b,i,none⟩=some u:=by
 unfold World.cell?;simp[E,I]
theorem Hg {d:D} (ho:o.op = .load t y) (hy:aK x y = .v (.pointer (some ⟨b,o',none⟩)))
  (hk:x.S[k]?=some B) (hb:B.b=b) (ha:∀w,(isAgg t).run P w = .ok false w) (hd:B.cs[o']?=some d) (hne:isMap B.e=false:=by rfl):cu P G x o (.gh k) d:=fun C a w _ h=>by
 obtain⟨_,cur,h1,h2,h3,h4⟩:=h.gh hk;rw[lO hne] at h1;obtain⟨aa,he⟩:=List.getElem?_eq_some_iff.1 hd;obtain⟨u,hu,hr⟩:=h4 o' aa;refine⟨u,by rw[<-he];exact hr,fun w' hw=>?_⟩;have E:w'.heap[B.b]?=_:=(hw B hk).trans h1;unfold execOp;subst hb;simp only[ho,h.flat hy,Sem.run_bind,Hw ha (pT E hu),Result.andThen_ok,Sem.run_pure]
theorem Dw (ho:o.op = .load t y) (hy:aK x y = .v (.pointer (some ⟨b,o',none⟩)))
  (hk:x.S[k]?=some B) (hb:B.b=b) (ha:∀w,(isAgg t).run P w = .ok true w) (hn:∀w,(sizeOf t).run P w = .ok n w) (hl:ds.length=n) (hd:(B.cs.drop o').take n=ds) (hne:isMap B.e=false:=by rfl):cu P G x o (.gh k) (.agg ds):=fun C a w _ h=>by
 obtain⟨_,cur,h1,h2,h3,h4⟩:=h.gh hk;rw[lO hne] at h1;have hlen:o'+n<=B.cs.length\/n=0:=by
  have:=congrArg length hd;simp only[length_take,length_drop] at this;omega
 have E:∀j,j<n->∃u,cur[o'+j]?=some u/\∀(h:j<ds.length),cG w (live C.X x.S) ds[j] u:=fun j hj=>by
  obtain⟨u,hu,hr⟩:=h4 (o'+j) w4;refine⟨u,hu,fun h=>?_⟩;subst hd;simpa using hr
 refine⟨.agg ((range n).map fun j=>cur.getD (o'+j) undef).toArray,.agg _ _ (by simp[hl]) (fun i q1 q2=>?_),fun w' hw=>?_⟩
 ·obtain⟨u,hu,hr⟩:=E i w4;simp only[getElem_map,getElem_range,Array.getD_eq_getD_getElem?,hu,Option.getD_some];exact hr q1
 have I:w'.heap[B.b]?=_:=(hw B hk).trans h1;unfold execOp;subst hb;have:=Mi (P:=P) (w:=w') (b:=B.b) (o':=o') (vs:=(range n).map fun j=>cur.getD (o'+j) undef) ha hn bC (fun j hj=>by
  simp only[length_map,length_range] at hj;obtain⟨u,hu,_⟩:=E j hj;simp only[getElem_map,getElem_range,Array.getD_eq_getD_getElem?,hu,Option.getD_some];exact pT I hu)
 simp only[ho,h.flat hy,Sem.run_bind,this,Result.andThen_ok,Sem.run_pure]
theorem G9 {cs:List D} {d:D} (ho:o.op = .load t y) (hy:aK x y = .gm cs o')
  (ha:∀w,(isAgg t).run P w = .ok false w) (hd:cs[o']?=some d):cu P G x o .kP d:=fun C a w _ h=>by
 have hr:=h.eval y;rw[hy] at hr;generalize hg:a.eval y=u at hr;cases hr with
 | gm _ _ b E g hb hL hc hr =>
  obtain⟨aa,he⟩:=List.getElem?_eq_some_iff.1 hd;refine⟨g o',by rw[<-he];exact hr o' aa,fun w' hw=>?_⟩;have I:=World.cell?_of_block (w:=w) (a:=⟨b,E+o',none⟩) (hw b hb hL);unfold execOp;simp only[ho,hg,Sem.run_bind,Hw ha (I.trans (hc o' aa)),Result.andThen_ok,Sem.run_pure]
theorem LG {cs:List D} (ho:o.op = .load t y) (hy:aK x y = .gm cs o')
  (ha:∀w,(isAgg t).run P w = .ok true w) (hn:∀w,(sizeOf t).run P w = .ok n w) (hl:ds.length=n) (hd:(cs.drop o').take n=ds):cu P G x o .kP (.agg ds):=fun C a w _ h=>by
 have hr:=h.eval y;rw[hy] at hr;generalize hg:a.eval y=u at hr;cases hr with
 | gm _ _ b E g hb hL hc hr =>
  have hlen:o'+n<=cs.length\/n=0:=by
   have:=congrArg length hd;simp only[length_take,length_drop] at this;omega
  refine⟨.agg ((range n).map fun j=>g (o'+j)).toArray,.agg _ _ (by simp[hl]) (fun i q1 q2=>?_),fun w' hw=>?_⟩
  ·simp only[getElem_map,getElem_range];have:=hr (o'+i) w4;subst hd;simpa using this
  have:=Mi (P:=P) (w:=w') (b:=b) (o':=E+o') (vs:=(range n).map fun j=>g (o'+j)) ha hn bC (fun j hj=>by
   simp only[length_map,length_range] at hj;simp only[getElem_map,getElem_range];have I:=World.cell?_of_block (w:=w) (a:=⟨b,E+o'+j,none⟩) (hw b hb hL);rw[I,Nat.add_assoc];exact hc _ w4)
  unfold execOp;simp only[ho,hg,Sem.run_bind,this,Result.andThen_ok,Sem.run_pure]
theorem ae2 {vs:List Value} (ho:o.op = .load t y) (hy:aK x y = .v (.pointer (some ⟨b,o',none⟩)))
  (hg:(b,vs)∈G) (ha:∀w,(isAgg t).run P w = .ok false w) (hd:vs[o']?=some v) (tr:ud v=true:=by rfl):cu P G x o .kP (.v v):=fun C a w hG h=>by
 subst hG;refine⟨v,.v _,fun w' hw=>?_⟩;have h1:=(h.aC hg hd).cell tr;obtain⟨⟨q1,q2,q3⟩,_⟩:=h.fE _ hg;have hb:b<w.heap.size:=Nat.lt_of_lt_of_le q1 h.fr.size;have hn:¬live C.X x.S b:=fun hl=>hl.elim q3 (h.fr.block b q1 q2).2;have E:=World.cell?_of_block (w:=w) (a:=⟨b,o',none⟩) (hw b hb hn);unfold execOp;simp only[ho,h.flat hy,Sem.run_bind,Hw ha (E.trans h1),Result.andThen_ok,Sem.run_pure]
theorem Xc{len:Nat}{k:IntKind}{i:Int}{w:World}(E:∀w,(underlying t).run P w = .ok (.slice e) w)(hs:∀w,(sizeOf e).run P w = .ok sz w)(hi:i=j)(hj:j<len) :
  (Instr.indexAt t (.slice (some ⟨b,o',none⟩) len cap) (.int k i)).run P w = .ok (.pointer (some ⟨b,o'+j*sz,none⟩)) w:=by
 subst hi;simp[Instr.indexAt,asIntOf,E,hs,hj,Addr.add_mid]
theorem Ut {len:Nat} {cs:List D} {k:IntKind} {i:Int} {z:Operand} (ho:o.op = .indexAddr t y z) (hy:aK x y = .list sz cs len) (hz:aK x z = .v (.int k i))
  (I:∀w,(underlying t).run P w = .ok (.slice e) w) (hs:∀w,(sizeOf e).run P w = .ok sz w) (hi:i=j) (hj:j<len):cu P G x o .none (.gm cs (j*sz)):=fun C a w _ h=>by
 have hr:=h.eval y;rw[hy] at hr;generalize hg:a.eval y=u at hr;cases hr with
 | nK=>omega
 | list _ _ _ b E cap g hl h1 h2 hb hL hc hr =>
  refine⟨_,.gm cs (j*sz) b E g hb hL hc hr,fun w' _=>?_⟩;unfold execOp;simp only[ho,hg,h.flat hz,Sem.run_bind,Xc I hs hi hj,Result.andThen_ok,Sem.run_pure]
theorem T3 {len:Nat} {k:IntKind} {i:Int} {z:Operand} (ho:o.op = .indexAddr t y z) (hy:aK x y = .v (.slice (some ⟨b,o',none⟩) len cap)) (hz:aK x z = .v (.int k i))
  (E:∀w,(underlying t).run P w = .ok (.slice e) w) (hs:∀w,(sizeOf e).run P w = .ok sz w) (hi:i=j) (hj:j<len):cu P G x o .none (.v (.pointer (some ⟨b,o'+j*sz,none⟩))):=fun C a w _ h =>
 ⟨_,.v _,fun w' _=>by
  unfold execOp;simp only[ho,h.flat hy,h.flat hz,Sem.run_bind,Xc E hs hi hj,Result.andThen_ok,Sem.run_pure]⟩
theorem ahV{len:Nat}{k:IntKind}{i:Int}{w:World}(E:∀w,(underlying t).run P w = .ok (.array len e) w)(hs:∀w,(sizeOf e).run P w = .ok sz w)(hi:i=j)(hj:j<len) :
  (Instr.indexAt t (.pointer (some ⟨b,o',none⟩)) (.int k i)).run P w = .ok (.pointer (some ⟨b,o'+j*sz,none⟩)) w:=by
 subst hi;simp[Instr.indexAt,asIntOf,E,hs,hj,Addr.add_mid,Instr.sureAddr]
theorem afv {len:Nat} {k:IntKind} {i:Int} {z:Operand} (ho:o.op = .indexAddr t y z) (hy:aK x y = .v (.pointer (some ⟨b,o',none⟩))) (hz:aK x z = .v (.int k i))
  (E:∀w,(underlying t).run P w = .ok (.array len e) w) (hs:∀w,(sizeOf e).run P w = .ok sz w) (hi:i=j) (hj:j<len):cu P G x o .none (.v (.pointer (some ⟨b,o'+j*sz,none⟩))):=fun C a w _ h =>
 ⟨_,.v _,fun w' _=>by
  unfold execOp;simp only[ho,h.flat hy,h.flat hz,Sem.run_bind,ahV E hs hi hj,Result.andThen_ok,Sem.run_pure]⟩
theorem L4 {s:ByteArray} {c:UInt8} {k:IntKind} {i:Int} {z:Operand} (ho:o.op = .index t y z) (hy:aK x y = .v (.string s)) (hz:aK x z = .v (.int k i))
  (E:∀w,(underlying t).run P w = .ok .string w) (hi:i=j) (hj:s[j]?=some c):cu P G x o .none (.v (.int .u8 c.toNat)):=fun C a w _ h =>
 ⟨_,.v _,fun w' _=>by
  subst hi;unfold execOp;simp[ho,h.flat hy,h.flat hz,Instr.index,asIntOf,E,hj]⟩
theorem afw {len:Nat} {cs:List D} {d:D} {k:IntKind} {i:Int} {z:Operand} (ho:o.op = .index t y z) (hy:aK x y = .agg cs) (hz:aK x z = .v (.int k i))
  (E:∀w,(underlying t).run P w = .ok (.array len e) w) (hs:∀w,(sizeOf e).run P w = .ok sz w) (ha:∀w,(isAgg e).run P w = .ok false w) (hi:i=j) (hj:j<len) (hd:cs[j*sz]?=some d):cu P G x o .none d:=fun C a w _ h=>by
 have hr:=h.eval y;rw[hy] at hr;generalize hg:a.eval y=u at hr;subst hi;cases hr with
 | agg _ vs hl hr =>
  obtain⟨aa,he⟩:=List.getElem?_eq_some_iff.1 hd;refine⟨vs[j*sz]'w4,?_,fun w' _=>?_⟩
  ·rw[<-he];exact hr _ aa w4
  unfold execOp;simp[ho,hg,h.flat hz,Instr.index,asIntOf,E,hj,part,ha,hs,getElem?_eq_getElem (show j*sz<vs.length by omega)]
def oO(x:St)(y:Option Operand)(n:Nat)(aou:Nat):Prop :=
 match y with
 | some y=>∃(k:IntKind) (i:Int),aK x y = .v (.int k i)/\i=n
 | none=>n=aou
theorem uV{w:World}(h:cf C x a w){y:Option Operand}{E:Nat}(hb:oO x y n E):(∃k,y.map a.eval=some (.int k n))\/(y.map a.eval=none/\n=E):=by
 cases y with
 | none=>exact .inr ⟨rfl,hb⟩
 | some y =>
  obtain⟨k,i,h1,h2⟩:=hb;exact .inl ⟨k,by rw[Option.map_some,h.flat h1,h2]⟩
theorem Hh{k:IntKind}{code:BoundsCode}{w:World}(h:n<=m):(Instr.sliceBound (.int k n) m code).run P w = .ok n w:=by
 unfold Instr.sliceBound;simp[asIntOf,h]
theorem yX{il:Bool}{len l h:Nat}{lo hi:Option Value}{w:World}(fA:(∃k,lo=some (.int k l))\/(lo=none/\l=0))(fk:(∃k,hi=some (.int k h))\/(hi=none/\h=len))(h1:l<=h)(h2:h<=cap) :
  (Instr.sliceBounds il len cap lo hi none).run P w = .ok (l,h,cap) w:=by
 unfold Instr.sliceBounds;rcases fA with ⟨k,rfl⟩|⟨rfl,rfl⟩<;>rcases fk with ⟨k',rfl⟩|⟨rfl,rfl⟩<;>simp[Hh,h1,h2]
theorem LJ {len l:Nat} {cs:List D} (ho:o.op = .slice t y lo hi none) (hy:aK x y = .list sz cs len) (fA:oO x lo l 0) (fk:oO x hi h' len)
  (U:∀w,(underlying t).run P w = .ok (.slice e) w) (hs:∀w,(sizeOf e).run P w = .ok sz w) (h1:l<=h') (h2:h'<=len):cu P G x o .none (.list sz ((cs.drop (l*sz)).take ((h'-l)*sz)) (h'-l)):=fun C a w _ h=>by
 have hr:=h.eval y;rw[hy] at hr;generalize hg:a.eval y=u at hr;have b1:=uV h fA;have b2:=uV h fk;cases hr with
 | nK _ ad cap =>
  have e1:l=0:=(by omega)
  have e2:h'=0:=(by omega)
  subst e1 e2;refine⟨.slice (if cap=0 then ad else ad.map (·.add (0*sz))) 0 cap,by simpa using cG.nK sz _ _,fun w' _=>?_⟩;unfold execOp;simp[ho,hg,Instr.sliceAt,Instr.slice,U,yX b1 b2 (Nat.le_refl _) (Nat.zero_le _),hs]
 | list _ _ _ b E cap g hl q1 q2 hb hL hc hr =>
  have hlen:((cs.drop (l*sz)).take ((h'-l)*sz)).length=(h'-l)*sz:=by
   rw[length_take,length_drop,hl,<-Nat.sub_mul];exact Nat.min_eq_left (Nat.mul_le_mul_right _ w4)
  have O:∀i,i<(h'-l)*sz->l*sz+i<cs.length:=fun i hi=>by
   rw[hl];have:l*sz+(h'-l)*sz<=len*sz:=(by rw[<-Nat.add_mul];exact Nat.mul_le_mul_right _ w4)
   omega
  by_cases I:cap=l
  ·have e2:h'=l:=(by omega)
   refine⟨.slice (some ⟨b,E,none⟩) (h'-l) (cap-l),?_,fun w' _=>?_⟩
   ·refine .list sz _ _ b E _ g hlen w4 w4 hb hL (fun i hi=>?_) (fun i hi=>?_)<;>(rw[hlen,e2] at hi;simp at hi)
   have b3:=fun w=>yX (P:=P) (il:=true) (w:=w) b1 b2 h1 (Nat.le_trans h2 q1);unfold execOp;simp only[ho,hg,Instr.sliceAt,Instr.slice,U,Sem.run_bind,Result.andThen_ok,Option.map_none,b3,hs,Sem.run_pure,if_pos I]
  refine⟨.slice (some ⟨b,E+l*sz,none⟩) (h'-l) (cap-l),?_,fun w' _=>?_⟩
  ·refine .list sz _ _ b (E+l*sz) _ (fun i=>g (l*sz+i)) hlen w4 w4 hb hL (fun i hi=>?_) (fun i hi=>?_)
   ·rw[Nat.add_assoc];exact hc _ (O i (by rw[hlen] at hi;exact hi))
   simp only[getElem_take,getElem_drop];exact hr _ _
  have b3:=fun w=>yX (P:=P) (il:=true) (w:=w) b1 b2 h1 (Nat.le_trans h2 q1);unfold execOp;simp only[ho,hg,Instr.sliceAt,Instr.slice,U,Sem.run_bind,Result.andThen_ok,Option.map_none,b3,hs,Sem.run_pure,if_neg I,Option.map_some,Addr.add_mid]
theorem TG {len:Nat} (ho:o.op = .slice t y lo hi none) (hy:aK x y = .v (.slice (some ⟨b,o',none⟩) len cap)) (fA:oO x lo 0 0) (fk:oO x hi h' len)
  (E:∀w,(underlying t).run P w = .ok (.slice e) w) (hs:∀w,(sizeOf e).run P w = .ok sz w) (h2:h'<=cap):cu P G x o .none (.v (.slice (some ⟨b,o',none⟩) h' cap)):=fun C a w _ h =>
 ⟨_,.v _,fun w' _=>by
  have b1:=uV h fA;have b2:=uV h fk;unfold execOp;simp[ho,h.flat hy,Instr.sliceAt,Instr.slice,E,yX b1 b2 (Nat.zero_le _) h2,hs,Addr.add_mid]⟩
theorem aeL {s:ByteArray} {l:Nat} (ho:o.op = .slice t y lo hi none) (hy:aK x y = .v (.string s)) (fA:oO x lo l 0) (fk:oO x hi h' s.size)
  (E:∀w,(underlying t).run P w = .ok .string w) (h1:l<=h') (h2:h'<=s.size):cu P G x o .none (.v (.string (s.extract l h'))):=fun C a w _ h =>
 ⟨_,.v _,fun w' _=>by
  have b1:=uV h fA;have b2:=uV h fk;unfold execOp;simp[ho,h.flat hy,Instr.sliceAt,Instr.slice,E,yX b1 b2 h1 h2]⟩
theorem agj{len:Nat}{cs:List D}(ho:o.op = .call {callee:=.builtin .len,args:=#[y],argTypes:=ts})(ht:ts = #[t])(hy:aK x y = .list sz cs len)(E:∀w,(underlying t).run P w = .ok (.slice e) w):cu P G x o .none (.v (.int .i64 len)):=fun C a w _ h=>by
 have hr:=h.eval y;rw[hy] at hr;generalize hg:a.eval y=u at hr;subst ht;refine⟨_,.v _,fun w' _=>?_⟩;cases hr<;>(unfold execOp;simp[ho,hg,resolve,invoke,builtin,Builtin.len_,E,goInt])
theorem T4{len:Nat}(ho:o.op = .call {callee:=.builtin .len,args:=#[y],argTypes:=ts})(ht:ts = #[t])(hy:aK x y = .v (.slice ad len cap))(E:∀w,(underlying t).run P w = .ok (.slice e) w):cu P G x o .none (.v (.int .i64 len)):=fun C a w _ h=>by
 subst ht;refine⟨_,.v _,fun w' _=>?_⟩;unfold execOp;simp[ho,h.flat hy,resolve,invoke,builtin,Builtin.len_,E,goInt]
theorem Hi {s:ByteArray} (ho:o.op = .call {callee:=.builtin .len,args:=#[y],argTypes:=ts}) (ht:ts = #[t]) (hy:aK x y = .v (.string s))
  (E:∀w,(underlying t).run P w = .ok .string w):cu P G x o .none (.v (.int .i64 s.size)):=fun C a w _ h=>by
 subst ht;refine⟨_,.v _,fun w' _=>?_⟩;unfold execOp;simp[ho,h.flat hy,resolve,invoke,builtin,Builtin.len_,E,goInt]
theorem aeM {b:Builtin} {u' r:Value} {z:Operand} (ho:o.op = .call {callee:=.builtin b,args:=#[y,z],argTypes:=ts}) (hy:aK x y = .v u) (hz:aK x z = .v u')
  (hb:∀cs w,(Go.builtin b ts o.type cs #[u,u']).run P w = .ok (.value r) w):cu P G x o .none (.v r):=fun C a w _ h =>
 ⟨_,.v _,fun w' _=>by
  unfold execOp;simp[ho,h.flat hy,h.flat hz,resolve,invoke,hb]⟩
theorem afx{fn:Fn}{E:Array Operand}(ho:o.op = .makeFunc fn #[] E)(hd:E.toList.map (aK x)=ds):cu P G x o .none (.fg fn ds):=fun C a w _ h=>by
 subst hd;refine⟨.func fn #[] (E.toList.map a.eval).toArray,.fg _ _ _ bC (fun i q1 q2=>?_),fun w' _=>?_⟩
 ·simp only[getElem_map];exact h.eval _
 unfold execOp;simp[ho,Instr.makeFunc];rw[<-Array.toList_map,Array.toArray_toList]
def nT(W:List Nat)(w w':World):Prop:=w.heap.size<=w'.heap.size/\∀b,b<w.heap.size->b∉W->w'.heap[b]?=w.heap[b]?
def gL(P:Program)(G:List (Nat×List Value))(x:St)(o:Oper)(W:List Nat)(post:St->Prop):Prop :=
 ∀(C:ey) (a:Act) (w:World) (K:Act->World->Prop) (Q:Exit->Act->World->Prop),C.G=G->cf C x a w->(∀y a' w',post y->cf C y a' w'->nT W w w'->Fr w (aq x.S) w' (aq y.S)->K a' w')->o.wp P a w K Q
theorem nT.refl(W:List Nat)(w:World):nT W w w:=⟨Nat.le_refl _,fun _ _ _=>rfl⟩
theorem cu.gN{k:Rd}{d:D}{t:Nat}(h:cu P G x o k d)(hd:o.dst=some t):gL P G x o [] (fun y=>y=x.put t d):=fun C a w K Q hG hs hK=>by
 obtain⟨v,hr,qX⟩:=h C a w hG hs;unfold Oper.wp;rw[qX w (Same.self C x w k),Oper.upon_value,hd];exact hK _ _ _ rfl (hs.put hr) (nT.refl _ _) (Fr.refl _ _)
def cellsOf:D->List D
 | .agg cs=>cs
 | .v (.agg cs)=>cs.toList.map .v
 | d=>[d]
def cX(w:World)(L:Nat->Prop)(ds:List D)(vs:List Value):Prop:=vs.length=ds.length/\∀i (h:i<ds.length) (h':i<vs.length),cG w L ds[i] vs[i]
theorem cX.mono{w w':World}{L E:Nat->Prop}{ds:List D}{vs:List Value}(h:cX w L ds vs)(H:∀b,b<w.heap.size->¬L b->w'.heap[b]?=w.heap[b]?/\¬E b):cX w' E ds vs :=
 ⟨h.1,fun i h1 h2=>(h.2 i h1 h2).mono H⟩
def one:D->Bool
 | .v x=>x.oneCell'
 | .list ..|.gm ..|.fg ..=>true
 | _=>false
theorem cG.DQ{w:World}{d:D}(h:cG w L d v)(hd:one d=true):v.oneCell'=true:=by
 cases h<;>first|exact hd|rfl|exact absurd hd (by simp[one])
theorem cG.cells{w:World}{L:Nat->Prop}{d:D}{v:Value}(h:cG w L d v)(hd:d≠.cy):cX w L (cellsOf d) v.cells.toList:=by
 have E:∀(d:D) (v:Value),v.cells = #[v]->cellsOf d=[d]->cG w L d v->cX w L (cellsOf d) v.cells.toList:=fun d v h1 h2 h3=>by
  rw[h1,h2];refine⟨rfl,fun i q1 q2=>?_⟩;have:i=0:=(by simpa using q1)
  subst this;exact h3
 cases h with
 | v =>
  cases v with
  | agg cs =>
   refine⟨by simp[cellsOf,Value.cells],fun i q1 q2=>?_⟩;simp only[cellsOf,getElem_map,Value.cells];exact .v _
  | _=>exact E _ _ rfl rfl (.v _)
 | nK sz ad cap=>exact E _ _ rfl rfl (.nK sz ad cap)
 | list sz cs len b o cap f hl h1 h2 hb hL hc hr=>exact E _ _ rfl rfl (.list sz cs len b o cap f hl h1 h2 hb hL hc hr)
 | gm cs off b o f hb hL hc hr=>exact E _ _ rfl rfl (.gm cs off b o f hb hL hc hr)
 | agg cs vs hl hr=>exact⟨by simp[cellsOf,Value.cells,hl],fun i q1 q2=>hr i q1 q2⟩
 | dF cs vs hl hr=>exact E _ _ rfl rfl (.dF cs vs hl hr)
 | fg fn cs vs hl hr=>exact E _ _ rfl rfl (.fg fn cs vs hl hr)
 | lW l os h=>exact E _ _ rfl rfl (.lW l os h)
 | cy=>exact absurd rfl hd
theorem getElem?_push_lt{w:World}{ob:Obj}(h:b<w.heap.size):(w.alloc ob).heap[b]?=w.heap[b]?:=Below.heap_alloc w ob b h
theorem cf.Zq {w:World} (h:cf C x a w) {t:Nat} {cells:Array Value} {size:Nat} (hr:cX w (live C.X x.S) ds cells.toList) (I:cells.size=size) {d:D}
  (hd:∀L,cG (w.alloc (ob e cells)) L d v) :
  cf C ⟨x.n,(t,d)::x.env,⟨w.heap.size,e,size,ds⟩::x.S⟩ (a.put (some t) v) (w.alloc (ob e cells)):=by
 have aa:∀b,live C.X x.S b->b<w.heap.size:=fun b hb=>by
  rcases hb with hb|hb
  ·exact Nat.lt_of_lt_of_le (h.ex b hb).1 h.fr.size
  obtain⟨B,hB,rfl⟩:=mem_map.1 hb;exact(h.own.at_ B hB).1
 have H:∀b,b<w.heap.size->¬live C.X x.S b->(w.alloc (ob e cells)).heap[b]?=w.heap[b]?/\¬live C.X (⟨w.heap.size,e,size,ds⟩::x.S) b:=fun b hb hn =>
  ⟨getElem?_push_lt hb,fun hl=>by
   rcases hl with hl|hl
   ·exact hn (.inl hl)
   simp only[aq,map_cons,mem_cons] at hl;rcases hl with hl|hl
   ·omega
   exact hn (.inr hl)⟩
 have base:cf C ⟨x.n,x.env,⟨w.heap.size,e,size,ds⟩::x.S⟩ a (w.alloc (ob e cells)):=by
  refine⟨h.defers,h.size,fun t ht=>(h.env t ht).mono H,⟨fun B hB=>?_,?_⟩,?_,h.ex,h.fE⟩
  ·rcases mem_cons.1 hB with rfl|hB
   ·refine⟨by simp,cells,heap_alloc_new w _,I,?_,fun i hi=>?_⟩
    ·have:=hr.1;simp at this;simp only;omega
    have E:i<cells.toList.length:=(by rw[hr.1];exact hi)
    refine⟨cells.toList[i],?_,(hr.2 i hi E).mono H⟩;simp at E;simp[E]
   obtain⟨h0,cur,h1,h2,h3,h4⟩:=h.own.at_ B hB;refine⟨by simp;omega,cur,(getElem?_push_lt h0).trans h1,h2,h3,fun i hi=>?_⟩;obtain⟨u,hu,hq⟩:=h4 i hi;exact⟨u,hu,hq.mono H⟩
  ·show(w.heap.size::aq x.S).Nodup;exact nodup_cons.2 ⟨fun hm=>Nat.lt_irrefl _ (aa _ (.inr hm)),h.own.apart⟩
  refine⟨h.fr.os,h.fr.tape,h.fr.output,by simp;have:=h.fr.size;omega,fun b hb hn=>?_⟩;obtain⟨q1,q2⟩:=h.fr.block b hb hn;have O:=Nat.lt_of_lt_of_le hb h.fr.size;refine⟨(getElem?_push_lt O).trans q1,fun hm=>?_⟩;simp only[aq,map_cons,mem_cons] at hm;rcases hm with hm|hm
  ·omega
  exact q2 hm
 exact base.put (hd _)
theorem cf.new {w:World} (h:cf C x a w) {t:Nat} {cells:Array Value} {size:Nat} (hr:cX w (live C.X x.S) ds cells.toList) (E:cells.size=size) {d:D}
  (hd:∀L,cG (w.alloc (.cells cells e)) L d v) (hne:isMap e=false:=by rfl) :
  cf C ⟨x.n,(t,d)::x.env,⟨w.heap.size,e,size,ds⟩::x.S⟩ (a.put (some t) v) (w.alloc (.cells cells e)):=by
 have:=cf.Zq h (e:=e) hr E (t:=t) (d:=d) (v:=v) (fun L=>by rw[lO hne];exact hd L);rw[lO hne] at this;exact this
theorem nT.alloc(w:World)(ob:Obj):nT [] w (w.alloc ob):=⟨by simp,fun b hb _=>getElem?_push_lt hb⟩
theorem Fr.alloc(w:World)(ob:Obj)(S:List Nat):Fr w S (w.alloc ob) (w.heap.size::S) :=
 ⟨rfl,rfl,rfl,by simp,fun b hb hn=>⟨getElem?_push_lt hb,fun hm=>by
  rcases mem_cons.1 hm with hm|hm
  ·omega
  exact hn hm⟩⟩
def zy(x:St)(t:Nat)(e:TypeId)(ds:List D)(y:St):Prop:=∃b,y=⟨x.n,(t,.v (.pointer (some ⟨b,0,none⟩)))::x.env,⟨b,e,ds.length,ds⟩::x.S⟩
theorem Hx{z:Value}{t:Nat}(ho:o.op = .alloc e)(hd:o.dst=some t)(hz:∀w,(zeroValue e).run P w = .ok z w)(ku:z.cells.toList.map .v=ds)(hne:isMap e=false:=by rfl):gL P G x o [] (zy x t e ds):=fun C a w K Q hG h hK=>by
 subst ku;unfold Oper.wp;have:(execOp a.eval o).run P w = .ok (.value (.pointer (some ⟨w.heap.size,0,none⟩))) (w.alloc (.cells z.cells e)):=by
  unfold execOp;simp[ho,Instr.alloc,hz,newVar,newRow]
 rw[this,Oper.upon_value,hd];refine hK _ _ _ ⟨w.heap.size,rfl⟩ (h.new (ds:=z.cells.toList.map .v) ⟨by simp,fun i q1 q2=>?_⟩ bC (fun L=>.v _) hne) (nT.alloc _ _) (Fr.alloc _ _ _);simp only[getElem_map];exact .v _
theorem ajD{t:Nat}{d:D}(ho:o.op = .box e y)(hd:o.dst=some t)(hy:aK x y=d)(hj:d≠.cy)(ku:cellsOf d=ds)(hne:isMap e=false:=by rfl):gL P G x o [] (zy x t e ds):=fun C a w K Q hG h hK=>by
 subst ku;unfold Oper.wp;have:(execOp a.eval o).run P w = .ok (.value (.pointer (some ⟨w.heap.size,0,none⟩))) (w.alloc (.cells (a.eval y).cells e)):=by
  unfold execOp;simp[ho,Instr.box,newVar,newRow]
 rw[this,Oper.upon_value,hd];have hr:=h.eval y;rw[hy] at hr;have hc:=hr.cells hj;refine hK _ _ _ ⟨w.heap.size,rfl⟩ (h.new (ds:=cellsOf d) hc (by have:=hc.1;simpa using this) (fun L=>.v _) hne) (nT.alloc _ _) (Fr.alloc _ _ _)
def dY(cs:List D)(off:Nat):List D->List D
 | []=>cs
 | d::r=>dY (cs.set off d) (off+1) r
def og(place:Nat->Option (Nat×Nat))(cells:List D):List (Nat×D)->Option (List D)
 | []=>some cells
 | (i,d)::rest =>
  match place i with
  | none=>none
  | some (off,size)=>if (cellsOf d).length≠size||off+(cellsOf d).length>cells.length then none else og place (dY cells off (cellsOf d)) rest
theorem cX.set{w:World}{L:Nat->Prop}{ds:List D}{vs:List Value}(h:cX w L ds vs)(i:Nat){d:D}{v:Value}(hd:cG w L d v):cX w L (ds.set i d) (vs.set i v) :=
 ⟨by simp[h.1],fun j h1 h2=>by
  rw[getElem_set,getElem_set];split
  ·exact hd
  exact h.2 j _ _⟩
theorem cX.tail{w:World}{d:D}{vs:List Value}(h:cX w L (d::ds) (v::vs)):cG w L d v/\cX w L ds vs :=
 ⟨h.2 0 bC bC,by simpa using h.1,fun i h1 h2=>h.2 (i+1) (by simpa using h1) (by simpa using h2)⟩
theorem Mj{β:Type}(f:β->Value->Nat->β):∀(r:List Value) (k:Nat) (z:β),(r.zipIdx (k+1)).foldl (fun c (x:Value×Nat)=>f c x.1 x.2) z=(r.zipIdx k).foldl (fun c (x:Value×Nat)=>f c x.1 (x.2+1)) z
 | [],_,_=>rfl
 | v::r,k,z=>by
  simp only[zipIdx_cons,foldl_cons];exact Mj f r (k+1) _
theorem cX.dY{w:World}{L:Nat->Prop}:∀(ds:List D) (vs:List Value) (cs:List D) (cells:List Value) (off:Nat),cX w L ds vs->cX w L cs cells->cX w L (dY cs off ds) (vs.zipIdx.foldl (fun cs (c,j)=>cs.set (off+j) c) cells)
 | [],[],cs,cells,off,_,h=>h
 | [],_::_,_,_,_,h,_=>by simp[cX] at h
 | _::_,[],_,_,_,h,_=>by simp[cX] at h
 | d::ds,v::vs,cs,cells,off,h,hc=>by
  obtain⟨h0,h1⟩:=h.tail;have ih:=cX.dY ds vs (cs.set off d) (cells.set off v) (off+1) h1 (hc.set off h0);have e:(v::vs).zipIdx.foldl (fun cs (x:Value×Nat)=>cs.set (off+x.2) x.1) cells=vs.zipIdx.foldl (fun cs (x:Value×Nat)=>cs.set (off+1+x.2) x.1) (cells.set off v):=by
   rw[zipIdx_cons,foldl_cons,Nat.add_zero,Mj (fun (c:List Value) v n=>c.set (off+n) v)];congr 1;funext a b;rw[Nat.add_assoc,Nat.add_comm 1]
  rw[e];exact ih
theorem Hy:∀(l:List (Value×Nat)) (cells:Array Value) (off:Nat),(l.foldl (fun cs (x:Value×Nat)=>cs.setIfInBounds (off+x.2) x.1) cells).toList=l.foldl (fun cs (x:Value×Nat)=>cs.set (off+x.2) x.1) cells.toList
 | [],_,_=>rfl
 | (v,j)::l,cells,off=>by
  simp only[foldl_cons];rw[Hy l];simp
theorem HS{w:World}{L:Nat->Prop}(place:Nat->Option (Nat×Nat)):∀(E:List (Nat×D)) (vm:List (Nat×Value)) (cs:List D) (cells:Array Value) (ds:List D),
  E.length=vm.length->(∀i (h:i<E.length) (h':i<vm.length),E[i].1=vm[i].1/\E[i].2≠.cy/\cG w L E[i].2 vm[i].2)->cX w L cs cells.toList->og place cs E=some ds ->
  ∃I,Instr.fill place cells vm=some I/\cX w L ds I.toList
 | [],[],cs,cells,ds,_,_,hc,hf=>by
  simp only[og,Option.some.injEq] at hf;subst hf;exact⟨cells,rfl,hc⟩
 | [],_::_,_,_,_,h,_,_,_=>by simp at h
 | _::_,[],_,_,_,h,_,_,_=>by simp at h
 | (i,d)::E,(j,v)::vm,cs,cells,ds,hl,hp,hc,hf=>by
  obtain⟨h1,h2,h3⟩:=hp 0 bC bC;simp only[getElem_cons_zero] at h1 h2 h3;subst h1;have O:=h3.cells h2;have fP:v.cells.size=(cellsOf d).length:=(by have:=O.1;simpa using this)
  have U:cells.size=cs.length:=(by have:=hc.1;simpa using this)
  unfold og at hf;unfold Instr.fill;cases fC:place i with
  | none=>rw[fC] at hf;simp at hf
  | some os =>
   obtain⟨off,size⟩:=os;simp only[fC] at hf |-;rw[fP,U];split at hf
   ·cases hf
   rename_i hn;rw[if_neg hn];refine HS place E vm _ _ ds zQ (fun i h h'=>hp (i+1) qz (by simpa using h')) ?_ hf;have:=cX.dY (w:=w) (L:=L) (cellsOf d) v.cells.toList cs cells.toList off O hc;rw[<-Hy] at this;have e:v.cells.zipIdx.foldl (fun cs (x:Value×Nat)=>cs.setIfInBounds (off+x.2) x.1) cells=v.cells.toList.zipIdx.foldl (fun cs (x:Value×Nat)=>cs.setIfInBounds (off+x.2) x.1) cells:=by
    rw[<-Array.foldl_toList,Array.toList_zipIdx]
   rw[e];exact this
theorem cX.vm(w:World)(L:Nat->Prop)(vs:List Value):cX w L (vs.map .v) vs:=⟨by simp,fun i h1 h2=>by simp only[getElem_map];exact .v _⟩
def nE(x:St)(ps:Array (Nat×Operand)):List (Nat×D):=ps.toList.map fun p=>(p.1,aK x p.2)
theorem Mk{w:World}(h:cf C x a w)(ps:Array (Nat×Operand))(hj:∀p∈nE x ps,p.2≠.cy):(nE x ps).length=((ps.map fun p=>(p.1,a.eval p.2)).toList).length /\
  ∀i (h1:i<(nE x ps).length) (h2:i<((ps.map fun p=>(p.1,a.eval p.2)).toList).length),(nE x ps)[i].1=((ps.map fun p=>(p.1,a.eval p.2)).toList)[i].1/\(nE x ps)[i].2≠.cy/\cG w (live C.X x.S) (nE x ps)[i].2 ((ps.map fun p=>(p.1,a.eval p.2)).toList)[i].2:=by
 refine⟨by simp[nE],fun i h1 h2=>⟨?_,hj _ (getElem_mem h1),?_⟩⟩
 ·simp[nE]
 simp only[nE,getElem_map,Array.toList_map];exact h.eval _
theorem ae3 {E:Array Field} {places:Array (Nat×Nat)} {z:Value} (ho:o.op = .build t ps) (hz:∀w,(zeroValue t).run P w = .ok z w)
  (I:∀w,(underlying t).run P w = .ok (.struct E) w) (hp:∀w,(E.mapM fun f=>do pure (f.offset,<-sizeOf f.type):Sem (Array (Nat×Nat))).run P w = .ok places w)
  (hj:∀p∈nE x ps,p.2≠.cy) (hd:og (places[·]?) (z.cells.toList.map .v) (nE x ps)=some ds):cu P G x o .none (.agg ds):=fun C a w _ h=>by
 obtain⟨q1,q2⟩:=Mk h ps hj;obtain⟨Es,h1,h2⟩:=HS (w:=w) (L:=live C.X x.S) (places[·]?) (nE x ps) ((ps.map fun p=>(p.1,a.eval p.2)).toList) _ z.cells ds q1 q2 (cX.vm _ _ _) hd;refine⟨.agg Es.toList.toArray,.agg _ _ h2.1 h2.2,fun w' _=>?_⟩;unfold execOp;simp only[ho,Instr.build,hz,I,hp,Sem.run_bind,Result.andThen_ok,h1,Sem.run_pure,Array.toArray_toList]
theorem aeN {z:Value} (ho:o.op = .build t ps) (hz:∀w,(zeroValue t).run P w = .ok z w)
  (E:∀w,(underlying t).run P w = .ok (.array n e) w) (hs:∀w,(sizeOf e).run P w = .ok sz w)
  (hj:∀p∈nE x ps,p.2≠.cy) (hd:og (fun i=>some (i*sz,sz)) (z.cells.toList.map .v) (nE x ps)=some ds):cu P G x o .none (.agg ds):=fun C a w _ h=>by
 obtain⟨q1,q2⟩:=Mk h ps hj;obtain⟨Es,h1,h2⟩:=HS (w:=w) (L:=live C.X x.S) (fun i=>some (i*sz,sz)) (nE x ps) ((ps.map fun p=>(p.1,a.eval p.2)).toList) _ z.cells ds q1 q2 (cX.vm _ _ _) hd;refine⟨.agg Es.toList.toArray,.agg _ _ h2.1 h2.2,fun w' _=>?_⟩;unfold execOp;simp only[ho,Instr.build,hz,E,hs,Sem.run_bind,Result.andThen_ok,h1,Sem.run_pure,Array.toArray_toList]
def ajE(x:St)(t:Nat)(e:TypeId)(len:Nat)(ds:List D)(y:St):Prop:=∃b,y=⟨x.n,(t,.v (.slice (some ⟨b,0,none⟩) len len))::x.env,⟨b,e,ds.length,ds⟩::x.S⟩
theorem LF {len:Nat} {z:Value} {zs:List D} (ho:o.op = .buildSlice t len ps) (kL:o.dst=some tt) (hz:∀w,(zeroValue e).run P w = .ok z w)
  (I:∀w,(underlying t).run P w = .ok (.slice e) w) (hs:∀w,(sizeOf e).run P w = .ok sz w) (hl:0<len*sz) (hU:len*sz<=2 ^ 24) (fK:(Array.range (len*sz)).map (fun i=>z.cells[i % z.cells.size]!)=(zs.map (fun d=>match d with|.v u=>u|_=>undef)).toArray) (O:∀d∈zs,∃u,d = .v u)
  (hj:∀p∈nE x ps,p.2≠.cy) (hd:og (fun i=>some (i*sz,sz)) zs (nE x ps)=some ds) (hne:isMap e=false:=by rfl):gL P G x o [] (ajE x tt e len ds):=fun C a w K Q hG h hK=>by
 obtain⟨q1,q2⟩:=Mk h ps hj;have U:cX w (live C.X x.S) zs ((zs.map (fun d=>match d with|.v u=>u|_=>undef)).toArray).toList:=by
  refine⟨by simp,fun i h1 h2=>?_⟩;obtain⟨u,I⟩:=O _ (getElem_mem h1);simp only[getElem_map,I];exact .v _
 obtain⟨Es,h1,h2⟩:=HS (w:=w) (L:=live C.X x.S) (fun i=>some (i*sz,sz)) (nE x ps) ((ps.map fun p=>(p.1,a.eval p.2)).toList) _ _ ds q1 q2 U hd;unfold Oper.wp;have:(execOp a.eval o).run P w = .ok (.value (.slice (some ⟨w.heap.size,0,none⟩) len len)) (w.alloc (.cells Es e)):=by
  unfold execOp;have E:¬len*sz=0:=(by omega)
  have Z:¬len*sz>2 ^ 24:=(by omega)
  simp only[ho,Instr.buildSlice,hz,I,hs,Sem.run_bind,Result.andThen_ok,Sem.run_pure,if_neg E,if_neg Z,fK,h1];simp[newRow]
 rw[this,Oper.upon_value,kL];exact hK _ _ _ ⟨w.heap.size,rfl⟩ (h.new (ds:=ds) h2 (by have:=h2.1;simpa using this) (fun L=>.v _) hne) (nT.alloc _ _) (Fr.alloc _ _ _)
theorem TA(b:Nat):∀(vs:List Value) (o':Nat) (w:World) (cur:Array Value) (e:TypeId),w.heap[b]?=some (.cells cur e (0,0))->o'+vs.length<=cur.size ->
  (w.setCells b o' vs).heap[b]?=some (.cells (vs.zipIdx.foldl (fun cs (x:Value×Nat)=>cs.setIfInBounds (o'+x.2) x.1) cur) e (0,0))/\(∀k,k≠b->(w.setCells b o' vs).heap[k]?=w.heap[k]?)/\(w.setCells b o' vs).heap.size=w.heap.size /\
  (w.setCells b o' vs).os=w.os/\(w.setCells b o' vs).tape=w.tape/\(w.setCells b o' vs).output=w.output
 | [],o',w,cur,e,h,_=>⟨h,fun _ _=>rfl,rfl,rfl,rfl,rfl⟩
 | v::r,o',w,cur,e,h,hl=>by
  have h0:(w.setCell ⟨b,o',none⟩ v).heap[b]?=some (.cells (cur.setIfInBounds o' v) e (0,0)):=by
   simp[World.setCell,Array.getElem?_modify,h]
  obtain⟨i1,i2,i3,i4,i5,i6⟩:=TA b r (o'+1) (w.setCell ⟨b,o',none⟩ v) (cur.setIfInBounds o' v) e h0 (by simp at hl |-;omega);refine⟨?_,fun k hk=>?_,?_,i4,i5,i6⟩
  ·rw[World.setCells,i1,zipIdx_cons,foldl_cons,Nat.add_zero,Mj (fun (c:Array Value) v n=>c.setIfInBounds (o'+n) v)];congr 3;funext a b;rw[Nat.add_assoc,Nat.add_comm 1]
  ·rw[World.setCells,i2 k hk,Below.heap_setCell _ _ _ _ hk]
  rw[World.setCells,i3];simp
theorem Bl:∀(ds cs:List D) (off:Nat),(dY cs off ds).length=cs.length
 | [],cs,off=>rfl
 | d::ds,cs,off=>by rw[dY,Bl ds];simp
theorem cf.store{w:World}(h:cf C x a w){vs:List Value}(hk:x.S[k]?=some B)(hr:cX w (live C.X x.S) ds vs)(hl:o'+ds.length<=B.cs.length)(hne:isMap B.e=false:=by rfl) :
  cf C ⟨x.n,x.env,x.S.set k {B with cs:=dY B.cs o' ds}⟩ a (w.setCells B.b o' vs)/\nT [B.b] w (w.setCells B.b o' vs)/\Fr w (aq x.S) (w.setCells B.b o' vs) (aq (x.S.set k {B with cs:=dY B.cs o' ds})):=by
 obtain⟨h0,cur,h1,h2,h3,h4⟩:=h.gh hk;rw[lO hne] at h1;have so:vs.length=ds.length:=hr.1;obtain⟨i1,i2,i3,i4,i5,i6⟩:=TA B.b vs o' w cur B.e h1 w4;have eT:k<x.S.length:=(List.getElem?_eq_some_iff.1 hk).1;have yF:x.S[k]=B:=(List.getElem?_eq_some_iff.1 hk).2;have E:aq (x.S.set k {B with cs:=dY B.cs o' ds})=aq x.S:=by
  unfold aq;rw[map_set];apply ext_getElem bC;intro i q1 q2;rw[getElem_set];split
  ·rename_i e;subst e;simp[yF]
  rfl
 have I:live C.X (x.S.set k {B with cs:=dY B.cs o' ds})=live C.X x.S:=(by funext b;simp only[live,E])
 have hB:live C.X x.S B.b:=VG hk;have H:∀b,b<w.heap.size->¬live C.X x.S b->(w.setCells B.b o' vs).heap[b]?=w.heap[b]?/\¬live C.X x.S b:=fun b _ hn=>⟨i2 b (fun e=>hn (e ▸ hB)),hn⟩
 refine⟨⟨h.defers,h.size,fun t ht=>?_,⟨fun B' RG=>?_,?_⟩,?_,h.ex,h.fE⟩,⟨by rw[i3];exact Nat.le_refl _,fun b _ hn=>i2 b (by simpa using hn)⟩,?_⟩
 ·simp only[I];exact(h.env t ht).mono H
 ·simp only[I];obtain⟨j,hj,O⟩:=mem_iff_getElem.1 RG;rw[length_set] at hj;rw[getElem_set] at O;by_cases e:k=j
  ·rw[if_pos e] at O;subst O;refine⟨by rw[i3];exact h0,_,i1.trans (by rw[lO hne]),?_,by simp only[Bl];exact h3,fun i hi=>?_⟩
   ·have:=Hy vs.zipIdx cur o';have hlen:=congrArg length this;have aov:∀(l:List (Value×Nat)) (c:List Value),(l.foldl (fun cs (x:Value×Nat)=>cs.set (o'+x.2) x.1) c).length=c.length:=by
     intro l;induction l with
     | nil=>intro c;rfl
     | cons p l ih=>intro c;rw[foldl_cons,ih];simp
    rw[aov] at hlen;simp only[Array.length_toList] at hlen;rw[hlen,h2]
   have dP:cX w (live C.X x.S) B.cs (cur.toList.take B.cs.length):=by
    refine⟨by simp;omega,fun i q1 q2=>?_⟩;obtain⟨u,hu,hq⟩:=h4 i q1;have:(cur.toList.take B.cs.length)[i]=u:=by
     rw[getElem_take];rw[<-Array.getElem?_toList,List.getElem?_eq_some_iff] at hu;exact hu.2
    rw[this];exact hq
   have U:=cX.dY ds vs B.cs (cur.toList.take B.cs.length) o' hr dP;have Zr:∀(l:List (Value×Nat)) (c:List Value),(∀p∈l,o'+p.2<B.cs.length)->l.foldl (fun cs (x:Value×Nat)=>cs.set (o'+x.2) x.1) (c.take B.cs.length)=(l.foldl (fun cs (x:Value×Nat)=>cs.set (o'+x.2) x.1) c).take B.cs.length:=by
    intro l;induction l with
    | nil=>intro c _;rfl
    | cons p l ih =>
     intro c hp;rw[foldl_cons,foldl_cons,<-ih _ (fun q hq=>hp q (mem_cons_of_mem _ hq)),take_set]
   rw[Zr vs.zipIdx cur.toList (fun p hp=>by have:=mem_zipIdx hp;omega),<-Hy] at U;simp only at hi;have KV:=hi;rw[<-U.1] at KV;have hq:=U.2 i hi KV;rw[getElem_take] at hq;refine⟨_,?_,hq.mono H⟩;rw[<-Array.getElem?_toList,getElem?_eq_getElem]
  rw[if_neg e] at O;subst O;have hne:x.S[j].b≠B.b:=fun he=>by
   have hn:=h.own.apart;have F0:(aq x.S)[j]'Cp=(aq x.S)[k]'Cn:=(by simp[aq,he,yF])
   have hp:=pairwise_iff_getElem.1 hn;rcases Nat.lt_trichotomy j k with Z|Z|Z
   ·exact hp j k Cp Cn Z F0
   ·exact e Z.symm
   exact hp k j Cn Cp Z F0.symm
  obtain⟨r0,nL,r1,r2,r3,r4⟩:=h.own.at_ x.S[j] (getElem_mem hj);refine⟨by rw[i3];exact r0,nL,(i2 _ hne).trans r1,r2,r3,fun i hi=>?_⟩;obtain⟨u,hu,hq⟩:=r4 i hi;exact⟨u,hu,hq.mono H⟩
 ·simp only[E];exact h.own.apart
 ·refine⟨i4.trans h.fr.os,i5.trans h.fr.tape,i6.trans h.fr.output,by rw[i3];exact h.fr.size,fun b hb hn=>?_⟩;obtain⟨q1,q2⟩:=h.fr.block b hb hn;refine⟨(i2 b (fun e=>q2 (e ▸ mem_map.2 ⟨B,mem_of_getElem? hk,rfl⟩))).trans q1,?_⟩;simp only[E];exact q2
 rw[E];exact⟨i4,i5,i6,by rw[i3];exact Nat.le_refl _,fun b hb hn=>⟨i2 b (fun e=>hn (e ▸ mem_map.2 ⟨B,mem_of_getElem? hk,rfl⟩)),hn⟩⟩
theorem Hz {d:D} {z:Operand} (ho:o.op = .store t y z) (kL:o.dst=none) (hy:aK x y = .v (.pointer (some ⟨b,o',none⟩)))
  (hk:x.S[k]?=some B) (hb:B.b=b) (hz:aK x z=d) (hj:d≠.cy) (h1:(cellsOf d).all one=true) (hn:∀w,(sizeOf t).run P w = .ok n w) (iv:(cellsOf d).length=n) (hl:o'+n<=B.cs.length) (dP:dY B.cs o' (cellsOf d)=cs') (hne:isMap B.e=false:=by rfl) :
  gL P G x o [b] (fun y=>y=⟨x.n,x.env,x.S.set k {B with cs:=cs'}⟩):=fun C a w K Q hG h hK=>by
 subst dP hb;have hr:=h.eval z;rw[hz] at hr;have hc:=hr.cells hj;obtain⟨s1,s2,s3⟩:=h.store hk hc (o':=o') w4 hne;obtain⟨h0,cur,q1,q2,q3,q4⟩:=h.gh hk;rw[lO hne] at q1;have U:(a.eval z).cells.toList.length=n:=(by rw[hc.1,iv])
 have E:=run_storeCells_cells (P:=P) B.b o' (a.eval z).cells.toList 0 w (fun j hj=>by
   have:(o'+0+j)<cur.size:=(by omega)
   rw[pT q1 (u:=cur[o'+0+j]) (by simp[this])];rfl)
  (fun j hj=>by unfold World.frozen?;simp[q1]) (fun v hv=>by
   obtain⟨j,hj,rfl⟩:=mem_iff_getElem.1 hv;have O:j<(cellsOf d).length:=(by rw[<-hc.1];exact hj)
   exact(hc.2 j O hj).DQ (all_eq_true.1 h1 _ (getElem_mem O)))
 have I:(execOp a.eval o).run P w = .ok .skip (w.setCells B.b o' (a.eval z).cells.toList):=by
  unfold execOp;have Z:(a.eval z).cells.size=n:=(by simpa using U)
  simp only[Nat.add_zero] at E;simp[ho,h.flat hy,Instr.storeAt,Instr.sureAddr,storeVar,hn,Z,E]
 unfold Oper.wp;rw[I,Oper.upon_skip,kL];exact hK _ _ _ rfl s1 s2 s3
structure KW (G:List (Nat×List Value)) (X:Nat->Prop) (w:World) (S:List ag) (args:List D) (vs:List Value):Prop where
 ex:∀b,X b->b<w.heap.size/\b∉aq S
 fE:∀g∈G,(g.1<w.heap.size/\g.1∉aq S/\¬X g.1)/\∀i v,g.2[i]?=some v->ql w g.1 i v
 own:Own w (live X S) S
 args:cX w (live X S) args vs
def VC(P:Program)(G:List (Nat×List Value))(f:FuncId)(args:List D)(S:List ag)(post:D->List ag->Prop):Prop :=
 ∀(X:Nat->Prop) (w:World) (vs:List Value),KW G X w S args vs->Calls P f vs.toArray w fun e w'=>∃v r S',e = .returned v/\post r S'/\Own w' (live X S') S'/\cG w' (live X S') r v/\Fr w (aq S) w' (aq S')
theorem VC.mono{f:FuncId}{args:List D}{S:List ag}{post E:D->List ag->Prop}(h:VC P G f args S post)(k:∀r S',post r S'->E r S'):VC P G f args S E:=fun X w vs hp =>
 (h X w vs hp).mono fun e w' ⟨v,r,S',h1,h2,h3⟩=>⟨v,r,S',h1,k r S' h2,h3⟩
abbrev VP(P:Program)(G:List (Nat×List Value))(f:FuncId)(args:List D)(r:D):Prop:=VC P G f args [] fun r' S'=>r'=r/\S'=[]
theorem Bq(hp:S.Perm (Sf++R)):live X S=live (fun b=>X b\/b∈aq R) Sf:=by
 funext b;have:(aq S).Perm (aq Sf++aq R):=(by have:=hp.map ag.b;simpa[aq] using this)
 have:=this.mem_iff (a:=b);simp only[live,mem_append] at *;rw[this];exact propext ⟨fun h=>by rcases h with h|h|h<;>simp[h],fun h=>by rcases h with (h|h)|h<;>simp[h]⟩
theorem cf.call{w:World}(h:cf C x a w)(hG:C.G=G){f:FuncId}{args:List D}{vs:List Value}(hc:VC P G f args Sf post)(hp:x.S.Perm (Sf++R))(hr:cX w (live C.X x.S) args vs) :
  Calls P f vs.toArray w fun e w'=>∃v r S',e = .returned v/\post r S'/\cG w' (live C.X (S'++R)) r v/\cf C ⟨x.n,x.env,S'++R⟩ a w'/\nT (aq Sf) w w'/\Fr w (aq x.S) w' (aq (S'++R)):=by
 have hb:(aq x.S).Perm (aq Sf++aq R):=(by have:=hp.map ag.b;simpa[aq] using this)
 have hL:=Bq (X:=C.X) hp;have hnd:(aq Sf++aq R).Nodup:=hb.nodup_iff.1 h.own.apart;obtain⟨n1,n2,n3⟩:=nodup_append.1 hnd;have O:∀b,b∈aq R->b<w.heap.size:=fun b F1=>by
  obtain⟨B,hB,rfl⟩:=mem_map.1 F1;exact(h.own.at_ B (hp.symm.subset (mem_append_right _ hB))).1
 have U:KW G (fun b=>C.X b\/b∈aq R) w Sf args vs:=by
  refine⟨fun b hx=>?_,fun g hg=>?_,⟨fun B hB=>?_,n1⟩,?_⟩
  ·rcases hx with hx|hx
   ·obtain⟨q1,q2⟩:=h.ex b hx;exact⟨Nat.lt_of_lt_of_le q1 h.fr.size,fun hm=>(h.fr.block b q1 q2).2 (hb.symm.subset (mem_append_left _ hm))⟩
   exact⟨O b hx,fun hm=>n3 b hm b hx rfl⟩
  ·rw[<-hG] at hg;obtain⟨⟨q1,q2,q3⟩,q4⟩:=h.fE g hg;have q5:=(h.fr.block g.1 q1 q2).2;refine⟨⟨Nat.lt_of_lt_of_le q1 h.fr.size,fun hm=>q5 (hb.symm.subset (mem_append_left _ hm)),fun hx=>?_⟩,fun i v hi=>h.aC hg hi⟩;rcases hx with hx|hx
   ·exact q3 hx
   exact q5 (hb.symm.subset (mem_append_right _ hx))
  ·rw[<-hL];exact h.own.at_ B (hp.symm.subset (mem_append_left _ hB))
  rw[<-hL];exact hr
 refine(hc _ w vs U).mono fun e w' ⟨v,r,S',h1,h2,h3,h4,h5⟩=>⟨v,r,S',h1,h2,?_,?_,⟨h5.size,fun b I hn=>(h5.block b I hn).1⟩,?_⟩
 ·have:live C.X (S'++R)=live (fun b=>C.X b\/b∈aq R) S':=Bq (Perm.refl _);rw[this];exact h4
 ·have Z:live C.X (S'++R)=live (fun b=>C.X b\/b∈aq R) S':=Bq (Perm.refl _);have H:∀b,b<w.heap.size->¬live C.X x.S b->w'.heap[b]?=w.heap[b]?/\¬live C.X (S'++R) b:=fun b aa hn=>by
   rw[hL] at hn;have E:b∉aq Sf:=fun hm=>hn (.inr hm);obtain⟨q1,q2⟩:=h5.block b aa E;refine⟨q1,fun hl=>?_⟩;rw[Z] at hl;rcases hl with hl|hl
   ·exact hn (.inl hl)
   exact q2 hl
  refine⟨h.defers,h.size,fun t ht=>(h.env t ht).mono H,⟨fun B hB=>?_,?_⟩,?_,h.ex,h.fE⟩
  ·rcases mem_append.1 hB with hB|hB
   ·have:=h3.at_ B hB;rw[<-Z] at this;exact this
   obtain⟨r0,cur,r1,r2,r3,r4⟩:=h.own.at_ B (hp.symm.subset (mem_append_right _ hB));have F2:B.b∈aq R:=mem_map.2 ⟨B,hB,rfl⟩;have E:B.b∉aq Sf:=fun hm=>n3 B.b hm B.b F2 rfl;have hh:=(h5.block B.b r0 E).1;refine⟨tP r0 hh,cur,hh.trans r1,r2,r3,fun i hi=>?_⟩;obtain⟨u,hu,hq⟩:=r4 i hi;exact⟨u,hu,hq.mono H⟩
  ·show(aq (S'++R)).Nodup;have:aq (S'++R)=aq S'++aq R:=(by simp[aq])
   rw[this];refine nodup_append.2 ⟨h3.apart,n2,fun b iI c bg he=>?_⟩;subst he;have E:b∉aq Sf:=fun hm=>n3 b hm b bg rfl;exact(h5.block b (O b bg) E).2 iI
  refine⟨h5.os.trans h.fr.os,h5.tape.trans h.fr.tape,h5.output.trans h.fr.output,Nat.le_trans h.fr.size h5.size,fun b I hn=>?_⟩;obtain⟨q1,q2⟩:=h.fr.block b I hn;have dQ:b∉aq Sf:=fun hm=>q2 (hb.symm.subset (mem_append_left _ hm));have gZ:b∉aq R:=fun hm=>q2 (hb.symm.subset (mem_append_right _ hm));obtain⟨q3,q4⟩:=h5.block b (Nat.lt_of_lt_of_le I h.fr.size) dQ;refine⟨q3.trans q1,fun hm=>?_⟩;have:aq (S'++R)=aq S'++aq R:=(by simp[aq])
  rw[this] at hm;rcases mem_append.1 hm with hm|hm
  ·exact q4 hm
  exact gZ hm
 refine⟨h5.os,h5.tape,h5.output,h5.size,fun b I hn=>?_⟩;have dQ:b∉aq Sf:=fun hm=>hn (hb.symm.subset (mem_append_left _ hm));have gZ:b∉aq R:=fun hm=>hn (hb.symm.subset (mem_append_right _ hm));obtain⟨q3,q4⟩:=h5.block b I dQ;refine⟨q3,fun hm=>?_⟩;have:aq (S'++R)=aq S'++aq R:=(by simp[aq])
 rw[this] at hm;rcases mem_append.1 hm with hm|hm
 ·exact q4 hm
 exact gZ hm
theorem cX.Qg{w:World}(h:cf C x a w)(dR:List Operand):cX w (live C.X x.S) (dR.map (aK x)) (dR.map a.eval) :=
 ⟨by simp,fun i h1 h2=>by simp only[getElem_map];exact h.eval _⟩
theorem cX.append{w:World}{E:List D}{vs I:List Value}(h:cX w L ds vs)(h':cX w L E I):cX w L (ds++E) (vs++I) :=
 ⟨by simp[h.1,h'.1],fun i h1 h2=>by
  by_cases hi:i<ds.length
  ·rw[getElem_append_left hi,getElem_append_left (by rw[h.1];exact hi)];exact h.2 i _ _
  rw[getElem_append_right w4,getElem_append_right (by rw[h.1];omega)];have:=h.1;simp only[this];exact h'.2 _ _ _⟩
def called(x:St)(t:Nat)(R:List ag)(post:D->List ag->Prop)(y:St):Prop:=∃r S',post r S'/\y=⟨x.n,(t,r)::x.env,S'++R⟩
theorem DR {f t:Nat} {args:List D} (ho:o.op = .call {callee:=.value fo,args:=dR,argTypes:=ts}) (hd:o.dst=some t)
  (hf:fo = .func f) (fY:∀args w,(callFunc f args).run P w = .ok (.enter f args) w) (ha:dR.toList.map (aK x)=args) (hp:x.S.Perm (Sf++R)) (hc:VC P G f args Sf post) :
  gL P G x o (aq Sf) (called x t R post):=fun C a w K Q hG h hK=>by
 subst hf ha;have hr:=cX.Qg h dR.toList;have E:(execOp a.eval o).run P w = .ok (.enter f (dR.toList.map a.eval).toArray) w:=by
  unfold execOp;have e:dR.map a.eval=(dR.toList.map a.eval).toArray:=by
   rw[<-Array.toList_map,Array.toArray_toList]
  simp only[ho,resolve,Act.eval,Deferred.ofValue,Sem.run_bind,Sem.run_pure,Result.andThen_ok,invoke,e];simp[fY]
 unfold Oper.wp;rw[E,Oper.upon_enter,hd];refine(h.call hG hc hp hr).mono fun e w' ⟨v,r,S',h1,h2,h3,h4,h5,h6⟩=>?_;subst h1;exact hK _ _ _ ⟨r,S',h2,rfl⟩ (h4.put h3) h5 h6
theorem Uu {f t:Nat} {args E:List D} (ho:o.op = .call {callee:=.value fo,args:=dR,argTypes:=ts}) (hd:o.dst=some t)
  (hf:aK x fo = .fg (.func f) E) (fY:∀args w,(callFunc f args).run P w = .ok (.enter f args) w) (ha:dR.toList.map (aK x)++E=args) (hp:x.S.Perm (Sf++R)) (hc:VC P G f args Sf post) :
  gL P G x o (aq Sf) (called x t R post):=fun C a w K Q hG h hK=>by
 subst ha;have hr:=cX.Qg h dR.toList;have gj:=h.eval fo;rw[hf] at gj;generalize hg:a.eval fo=u at gj;cases gj with
 | fg _ _ vs hl hcr =>
  have I:(execOp a.eval o).run P w = .ok (.enter f (dR.toList.map a.eval++vs).toArray) w:=by
   unfold execOp;have e:dR.map a.eval++vs.toArray=(dR.toList.map a.eval++vs).toArray:=by
    rw[<-append_toArray,<-Array.toList_map,Array.toArray_toList]
   simp only[ho,resolve,hg,Deferred.ofValue,Sem.run_bind,Sem.run_pure,Result.andThen_ok,invoke];simp[fY]
  unfold Oper.wp;rw[I,Oper.upon_enter,hd];refine(h.call hG hc hp (hr.append ⟨hl,hcr⟩)).mono fun e w' ⟨v,r,S',h1,h2,h3,h4,h5,h6⟩=>?_;subst h1;exact hK _ _ _ ⟨r,S',h2,rfl⟩ (h4.put h3) h5 h6
theorem xu(hk:S[k]?=some B):S.Perm (B::S.eraseIdx k):=by
 obtain⟨h1,h2⟩:=List.getElem?_eq_some_iff.1 hk;subst h2;clear hk;induction S generalizing k with
 | nil=>simp at h1
 | cons A S ih =>
  cases k with
  | zero=>exact Perm.refl _
  | succ k =>
   have E:k<S.length:=(by simpa using h1)
   rw[eraseIdx_cons_succ];exact((ih E).cons A).trans (Perm.swap _ _ _)
theorem fj(S:List ag):S.Perm ([]++S):=Perm.refl _
theorem nA(hk:S[k]?=some B):S.Perm ([B]++S.eraseIdx k):=xu hk
theorem MS{k':Nat}{B':ag}(hk:S[k]?=some B)(E:(S.eraseIdx k)[k']?=some B'):S.Perm ([B,B']++(S.eraseIdx k).eraseIdx k'):=(xu hk).trans ((xu E).cons B)
theorem cG.zI{w:World}(h:Own w (live X S) S)(O:∀b,X b->b∉aq S)(hk:S[k]?=some B)(hl:B.cs.length=n*sz)(h1:n<=cap)(h2:cap<=maxLen)(hne:isMap B.e=false:=by rfl) :
  cG w (live X (S.eraseIdx k)) (.list sz B.cs n) (.slice (some ⟨B.b,0,none⟩) n cap):=by
 have hm:=mem_of_getElem? hk;obtain⟨r0,cur,r1,r2,r3,I⟩:=h.at_ B hm;rw[lO hne] at r1;have E:(aq (S.eraseIdx k)).Sublist (aq S):=Sublist.map _ (eraseIdx_sublist S k);have hL:¬live X (S.eraseIdx k) B.b:=fun hl=>by
  rcases hl with hl|hl
  ·exact O _ hl (mem_map.2 ⟨B,hm,rfl⟩)
  have hp:(aq S).Perm (B.b::aq (S.eraseIdx k)):=(by have:=(xu hk).map ag.b;simpa[aq] using this)
  have hnd:=hp.nodup_iff.1 h.apart;exact(nodup_cons.1 hnd).1 hl
 refine .list sz B.cs n B.b 0 cap (fun i=>cur.getD i undef) hl h1 h2 r0 hL (fun i hi=>?_) (fun i hi=>?_)
 ·obtain⟨u,hu,_⟩:=I i hi;rw[Nat.zero_add,pT r1 hu];simp[hu]
 obtain⟨u,hu,hq⟩:=I i hi;simp only[Array.getD_eq_getD_getElem?,hu,Option.getD_some];exact hq.mono fun b _ hn=>⟨rfl,fun hl=>hn (hl.imp id fun q=>E.subset q)⟩
theorem cf.C9{w:World}(h:cf C x a w):∀b,C.X b->b∉aq x.S:=fun b hb=>(h.fr.block b (h.ex b hb).1 (h.ex b hb).2).2
theorem Wk.J1{t:Nat}{cs:List D}(hk:S[k]?=some B)(ht:look t l = .v (.slice (some ⟨B.b,0,none⟩) m cap))(dP:B.cs=cs)(hl:cs.length=m*sz)(h1:m<=cap)(h2:cap<=maxLen)(hne:isMap B.e=false:=by rfl) :
  Wk ⟨n,l,S⟩ ⟨n,(t,.list sz cs m)::l,S.eraseIdx k⟩:=fun C a w h=>by
 subst dP;have hd:=Wk.drop n l S (S.eraseIdx k) (eraseIdx_sublist S k) C a w h;refine⟨hd.defers,hd.size,fun i hi=>?_,hd.own,hd.fr,hd.ex,hd.fE⟩;simp only[gQ];by_cases e:t=i
 ·subst e;rw[if_pos rfl];have hv:=h.env t hi;simp only[ht] at hv;rw[hv.mi];exact cG.zI h.own h.C9 hk hl h1 h2 hne
 rw[if_neg e];exact hd.env i hi
theorem Wk.tY{t:Nat}(ht:look t l = .v (.slice none 0 0)):Wk ⟨n,l,S⟩ ⟨n,(t,.list sz [] 0)::l,S⟩:=fun C a w h=>by
 refine⟨h.defers,h.size,fun i hi=>?_,h.own,h.fr,h.ex,h.fE⟩;simp only[gQ];by_cases e:t=i
 ·subst e;rw[if_pos rfl];have hv:=h.env t hi;simp only[ht] at hv;rw[hv.mi];exact .nil sz
 rw[if_neg e];exact h.env i hi
theorem Wk.alj {A:ag} {cs:List D} (hk:S[k]?=some B) (hj:(S.eraseIdx k)[j]?=some A) (hi:A.cs[i]?=some (.v (.slice (some ⟨B.b,0,none⟩) m cap))) (dP:B.cs=cs) (hl:cs.length=m*sz) (h1:m<=cap) (h2:cap<=maxLen)
  (U:A.cs.set i (.list sz cs m)=cs') (hS:(S.eraseIdx k).set j {A with cs:=cs'}=S') (hne:isMap B.e=false:=by rfl):Wk ⟨n,l,S⟩ ⟨n,l,S'⟩:=fun C a w h=>by
 subst dP U hS;have hd:=Wk.drop n l S (S.eraseIdx k) (eraseIdx_sublist S k) C a w h;have Z:=cG.zI h.own h.C9 hk hl h1 h2 hne;have jz:=(List.getElem?_eq_some_iff.1 hj).1;have hjA:=(List.getElem?_eq_some_iff.1 hj).2;have E:aq ((S.eraseIdx k).set j {A with cs:=A.cs.set i (.list sz B.cs m)})=aq (S.eraseIdx k):=by
  unfold aq;rw[map_set];apply ext_getElem bC;intro i q1 q2;rw[getElem_set];split
  ·rename_i e;subst e;simp[hjA]
  rfl
 have I:live C.X ((S.eraseIdx k).set j {A with cs:=A.cs.set i (.list sz B.cs m)})=live C.X (S.eraseIdx k):=(by funext b;simp only[live,E])
 refine⟨hd.defers,hd.size,fun t ht=>?_,⟨fun B' RG=>?_,?_⟩,?_,hd.ex,hd.fE⟩
 ·simp only[I];exact hd.env t ht
 ·simp only[I];obtain⟨p,hp,jl⟩:=mem_iff_getElem.1 RG;rw[length_set] at hp;rw[getElem_set] at jl;by_cases e:j=p
  ·rw[if_pos e] at jl;subst jl;obtain⟨r0,cur,r1,r2,r3,r4⟩:=hd.own.at_ A (mem_of_getElem? hj);refine⟨r0,cur,r1,r2,by simpa using r3,fun q hq=>?_⟩;simp only[length_set] at hq;obtain⟨u,hu,O⟩:=r4 q hq;refine⟨u,hu,?_⟩;rw[getElem_set];split
   ·rename_i he;subst he;have:=(List.getElem?_eq_some_iff.1 hi).2;rw[this] at O;rw[O.mi];exact Z
   exact O
  rw[if_neg e] at jl;subst jl;exact hd.own.at_ _ (getElem_mem hp)
 ·simp only[E];exact hd.own.apart
 simp only[E];exact hd.fr
def Xd(x:St)(t:Nat)(e:TypeId)(sz len:Nat)(cs:List D)(S:List ag)(y:St):Prop :=
 ∃b cap,len<=cap/\cap<=maxLen/\y=⟨x.n,(t,.v (.slice (some ⟨b,0,none⟩) len cap))::x.env,⟨b,e,cap*sz,cs⟩::S⟩
theorem cf.grown {w:World} (h:cf C x a w) {t g e:Nat} {row:Option Nat} {cs:List D}
  (hS:S.Sublist x.S) (I:∀k,row=some k->k∈aq x.S/\k∉aq S) (E:w.grownBy w' row) (hg:row=some g\/g=w.heap.size) (aa:g<w'.heap.size)
  (E5:w'.heap[g]?=some (.cells cur e (0,0))) (mL:cur.size=cap*sz) (hl:cs.length<=cap*sz) (hr:∀i (h:i<cs.length),∃u,cur[i]?=some u/\cG w (live C.X x.S) cs[i] u) (hne:isMap e=false:=by rfl) :
  cf C ⟨x.n,(t,.v (.slice (some ⟨g,0,none⟩) m cap))::x.env,⟨g,e,cap*sz,cs⟩::S⟩ (a.put (some t) (.slice (some ⟨g,0,none⟩) m cap)) w'/\nT row.toList w w'/\Fr w (aq x.S) w' (aq (⟨g,e,cap*sz,cs⟩::S)):=by
 have O:(aq S).Sublist (aq x.S):=Sublist.map _ hS;have Z:∀b,live C.X x.S b->b<w.heap.size:=fun b hb=>by
  rcases hb with hb|hb
  ·exact Nat.lt_of_lt_of_le (h.ex b hb).1 h.fr.size
  obtain⟨B,hB,rfl⟩:=mem_map.1 hb;exact(h.own.at_ B hB).1
 have hgS:g∉aq S:=by
  rcases hg with hg|hg
  ·exact(I g hg).2
  intro hm;have:=Z g (.inr (O.subset hm));omega
 have hgX:¬C.X g:=fun hx=>by
  rcases hg with hg|hg
  ·exact h.C9 g hx (I g hg).1
  have:=Z g (.inl hx);omega
 have U:g<w.heap.size->g∈aq x.S:=fun aa=>by
  rcases hg with hg|hg
  ·exact(I g hg).1
  omega
 have H:∀b,b<w.heap.size->¬live C.X x.S b->w'.heap[b]?=w.heap[b]?/\¬live C.X (⟨g,e,cap*sz,cs⟩::S) b:=fun b hb hn=>by
  refine⟨E.block b hb (fun hm=>hn (.inr (I b hm.symm).1)),fun hl=>?_⟩;rcases hl with hl|hl
  ·exact hn (.inl hl)
  simp only[aq,map_cons,mem_cons] at hl;rcases hl with hl|hl
  ·subst hl;exact hn (.inr (U hb))
  exact hn (.inr (O.subset hl))
 have base:cf C ⟨x.n,x.env,⟨g,e,cap*sz,cs⟩::S⟩ a w':=by
  refine⟨h.defers,h.size,fun t ht=>(h.env t ht).mono H,⟨fun B hB=>?_,?_⟩,?_,h.ex,h.fE⟩
  ·rcases mem_cons.1 hB with rfl|hB
   ·refine⟨aa,cur,E5.trans (by rw[lO hne]),mL,hl,fun i hi=>?_⟩;obtain⟨u,hu,hq⟩:=hr i hi;exact⟨u,hu,hq.mono H⟩
   obtain⟨r0,nL,r1,r2,r3,r4⟩:=h.own.at_ B (hS.subset hB);have F2:B.b∈aq S:=mem_map.2 ⟨B,hB,rfl⟩;have hh:=E.block B.b r0 (fun hm=>(I B.b hm.symm).2 F2);refine⟨tP r0 hh,nL,hh.trans r1,r2,r3,fun i hi=>?_⟩;obtain⟨u,hu,hq⟩:=r4 i hi;exact⟨u,hu,hq.mono H⟩
  ·show(g::aq S).Nodup;exact nodup_cons.2 ⟨hgS,h.own.apart.sublist O⟩
  refine⟨E.os.trans h.fr.os,E.tape.trans h.fr.tape,E.output.trans h.fr.output,Nat.le_trans h.fr.size E.size,fun b hb hn=>?_⟩;obtain⟨q1,q2⟩:=h.fr.block b hb hn;have lg:=Nat.lt_of_lt_of_le hb h.fr.size;refine⟨(E.block b lg (fun hm=>q2 (I b hm.symm).1)).trans q1,fun hm=>?_⟩;simp only[aq,map_cons,mem_cons] at hm;rcases hm with hm|hm
  ·subst hm;exact q2 (U lg)
  exact q2 (O.subset hm)
 refine⟨base.put (.v _),⟨E.size,fun b hb hn=>E.block b hb (fun hm=>hn (by rw[<-hm];simp))⟩,⟨E.os,E.tape,E.output,E.size,fun b hb hn=>?_⟩⟩;refine⟨E.block b hb (fun hm=>hn (I b hm.symm).1),fun hm=>?_⟩;simp only[aq,map_cons,mem_cons] at hm;rcases hm with hm|hm
 ·subst hm;exact hn (U hb)
 exact hn (O.subset hm)
theorem DC {s:Operand} {t:Nat} {I:Value} {w:World} (ho:o.op = .call {callee:=.builtin .append,args:=#[s,y],argTypes:=#[t,t]}) (hs:a.eval s=v) (hy:a.eval y=u)
  (E:(Builtin.append_ #[t,t] o.type #[v,u]).run P w = .ok I w'):(execOp a.eval o).run P w = .ok (.value I) w':=by
 unfold execOp;simp[ho,resolve,invoke,builtin,hs,hy,E]
theorem BQ{e:Nat}{z:Value}(hi:(P.info? e).map (fun i=>(i.zero,i.size,i.bytes))=some (some z,sz,bytes)):∃i,P.info? e=some i/\i.zero=some z/\i.size=sz/\i.bytes=bytes:=by
 cases h:P.info? e with
 | none=>simp[h] at hi
 | some i=>simp[h] at hi;exact⟨i,rfl,hi⟩
theorem T5 {s:Operand} {t e:Nat} {z:Value} {cs:List D} (ho:o.op = .call {callee:=.builtin .append,args:=#[s,y],argTypes:=#[t,t]}) (hd:o.dst=some tt)
  (ht:P.underlying t=some (.slice e)) (hi:(P.info? e).map (fun i=>(i.zero,i.size,i.bytes))=some (some z,sz,bytes)) (fK:z.cells.size=sz) (mL:0<sz)
  (hs:aK x s = .v (.slice (some ⟨b,0,none⟩) n cap)) (hk:x.S[k]?=some B) (hb:B.b=b) (he:B.e=e) (auI:B.size=cap*sz) (hl:B.cs.length=n*sz) (hn:n<=cap) (U:cap<=maxLen)
  (hy:aK x y = .list sz cs m) (ji:∀d∈cs,one d=true) (hm:0<m) (lX:n+m<=maxLen) (I:(n+m)*bytes<=140737488355328) (hne:isMap B.e=false:=by rfl) :
  gL P G x o [b] (Xd x tt e sz (n+m) (B.cs++cs) (x.S.eraseIdx k)):=fun C a w K Q hG h hK=>by
 subst hb he;obtain⟨i,mM,nr,rm,su⟩:=BQ hi;obtain⟨r0,cur,r1,r2,r3,r4⟩:=h.gh hk;rw[lO hne] at r1;have hr:=h.eval y;rw[hy] at hr;generalize hg:a.eval y=u at hr;cases hr with
 | nK=>omega
 | list _ _ _ b' o' bj f nU q1 q2 lg hL hc Z =>
  have fQ:w.ownsRow 0 B.e sz (.slice (some ⟨B.b,0,none⟩) n cap) n (cur.toList.take (n*sz)) :=
   ⟨by simp;omega,.inr ⟨B.b,cap,cur,rfl,Nat.zero_le _,r1,hn,U,by omega,rfl⟩⟩
  obtain⟨v',w',qX,h2,h3,_,h5⟩:=run_append_own_at (P:=P) w 0 t o.type B.e i z sz bytes ht mM nr rm su fK mL _ n _ fQ ⟨b',o',none⟩ m bj ((range cs.length).map f) (by simp[nU]) (fun j u hu=>by
    rw[Addr.add_mid];obtain⟨hj,he⟩:=List.getElem?_eq_some_iff.1 hu;simp only[length_map,length_range] at hj;rw[hc j hj,<-he];simp) (fun u hu=>by
    obtain⟨j,hj,rfl⟩:=mem_map.1 hu;have mu:=mem_range.1 hj;exact(Z j mu).DQ (ji _ (getElem_mem mu))) lX I (Nat.zero_le _)
  obtain⟨g,E,rfl,_,aa⟩:=h2.form w4;have h6:(Value.slice (some ⟨B.b,0,none⟩) n cap).ownBlock=some g\/g=w.heap.size:=by
   rcases h5 with h5|h5
   ·exact .inl (by rw[<-h5];rfl)
   right;simpa[Value.ownBlock] using h5
  obtain⟨_,h2⟩:=h2;rcases h2 with ⟨h2,_⟩|⟨g',bj,nL,e1,_,e2,e3,e4,e5,e6⟩
  ·cases h2
  have F3:g=g'/\E=bj:=(by simpa using e1)
  obtain⟨rfl,rfl⟩:=F3;have hlen:(B.cs++cs).length=(n+m)*sz:=(by rw[length_append,hl,nU,Nat.add_mul])
  have RH:(n+m)*sz<=E*sz:=Nat.mul_le_mul_right _ e3;have E5:∀i,i<(n+m)*sz->nL[i]?=(cur.toList.take (n*sz)++(range cs.length).map f)[i]?:=fun i hi=>by
   rw[<-e6,getElem?_take_of_lt hi,Array.getElem?_toList]
  obtain⟨s1,s2,s3⟩:=h.grown (t:=tt) (m:=n+m) (e:=B.e) (sz:=sz) (S:=x.S.eraseIdx k) (cs:=B.cs++cs) (row:=some B.b) (g:=g) (cap:=E) (eraseIdx_sublist _ _) (fun k' tu=>by
    have:B.b=k':=(by simpa using tu)
    subst this;refine⟨mem_map.2 ⟨B,mem_of_getElem? hk,rfl⟩,fun hm=>?_⟩;have hp:(aq x.S).Perm (B.b::aq (x.S.eraseIdx k)):=(by have:=(xu hk).map ag.b;simpa[aq] using this)
    exact(nodup_cons.1 (hp.nodup_iff.1 h.own.apart)).1 hm) h3 h6 aa e2 e5 w4 (fun i hi=>by
    rw[hlen] at hi;rw[E5 i hi];by_cases mN:i<n*sz
    ·obtain⟨u,hu,hq⟩:=r4 i w4;refine⟨u,?_,?_⟩
     ·rw[getElem?_append_left jk,getElem?_take_of_lt mN,Array.getElem?_toList,hu]
     rw[getElem_append_left w4];exact hq
    have O:i-n*sz<cs.length:=(by rw[nU];rw[Nat.add_mul] at hi;omega)
    refine⟨f (i-n*sz),?_,?_⟩
    ·rw[getElem?_append_right jk];have:(cur.toList.take (n*sz)).length=n*sz:=(by simp;omega)
     rw[this];simp[O]
    rw[getElem_append_right w4];have:=Z (i-n*sz) O;simp only[hl];exact this) hne
  unfold Oper.wp;rw[DC (P:=P) ho (h.flat hs) hg qX,Oper.upon_value,hd];exact hK _ _ _ ⟨g,E,e3,e4,rfl⟩ s1 s2 s3
theorem TB {s:Operand} {t e:Nat} {z:Value} {cs:List D} (ho:o.op = .call {callee:=.builtin .append,args:=#[s,y],argTypes:=#[t,t]}) (hd:o.dst=some tt)
  (ht:P.underlying t=some (.slice e)) (hi:(P.info? e).map (fun i=>(i.zero,i.size,i.bytes))=some (some z,sz,bytes)) (fK:z.cells.size=sz) (Z:0<sz)
  (hs:aK x s = .v (.slice none 0 0)) (hy:aK x y = .list sz cs m) (ji:∀d∈cs,one d=true) (hm:0<m) (lX:m<=maxLen) (I:m*bytes<=140737488355328) (hne:isMap e=false:=by rfl) :
  gL P G x o [] (Xd x tt e sz m cs x.S):=fun C a w K Q hG h hK=>by
 obtain⟨i,mM,nr,rm,su⟩:=BQ hi;have hr:=h.eval y;rw[hy] at hr;generalize hg:a.eval y=u at hr;cases hr with
 | nK=>omega
 | list _ _ _ b' o' bj f nU q1 q2 lg hL hc O =>
  have fQ:w.ownsRow 0 e sz (.slice none 0 0) 0 []:=⟨by simp,.inl ⟨rfl,rfl⟩⟩
  obtain⟨v',w',qX,h2,h3,_,h5⟩:=run_append_own_at (P:=P) w 0 t o.type e i z sz bytes ht mM nr rm su fK Z _ 0 _ fQ ⟨b',o',none⟩ m bj ((range cs.length).map f) (by simp[nU]) (fun j u hu=>by
    rw[Addr.add_mid];obtain⟨hj,he⟩:=List.getElem?_eq_some_iff.1 hu;simp only[length_map,length_range] at hj;rw[hc j hj,<-he];simp) (fun u hu=>by
    obtain⟨j,hj,rfl⟩:=mem_map.1 hu;have U:=mem_range.1 hj;exact(O j U).DQ (ji _ (getElem_mem U))) (by rw[Nat.zero_add];exact lX) (by rw[Nat.zero_add];exact I) (Nat.zero_le _)
  simp only[Nat.zero_add,nil_append] at h2;obtain⟨g,E,rfl,_,aa⟩:=h2.form w4;have h6:(none:Option Nat)=some g\/g=w.heap.size:=by
   rcases h5 with h5|h5
   ·simp[Value.ownBlock] at h5
   right;simpa[Value.ownBlock] using h5
  obtain⟨_,h2⟩:=h2;rcases h2 with ⟨h2,_⟩|⟨g',bj,nL,e1,_,e2,e3,e4,e5,e6⟩
  ·cases h2
  have F3:g=g'/\E=bj:=(by simpa using e1)
  obtain⟨rfl,rfl⟩:=F3;have RH:m*sz<=E*sz:=Nat.mul_le_mul_right _ e3;obtain⟨s1,s2,s3⟩:=h.grown (t:=tt) (m:=m) (e:=e) (sz:=sz) (S:=x.S) (cs:=cs) (row:=none) (g:=g) (cap:=E) (Sublist.refl _) (fun k' tu=>by cases tu) h3 h6 aa e2 e5 w4 (fun i hi=>by
    refine⟨f i,?_,O i hi⟩;have:nL[i]?=((range cs.length).map f)[i]?:=(by rw[<-e6,getElem?_take_of_lt w4,Array.getElem?_toList])
    rw[this];simp[hi]) hne
  unfold Oper.wp;rw[DC (P:=P) ho (h.flat hs) hg qX,Oper.upon_value,hd];exact hK _ _ _ ⟨g,E,e3,e4,rfl⟩ s1 s2 s3
theorem TC {s:Operand} {t e:Nat} {cs:List D} (ho:o.op = .call {callee:=.builtin .append,args:=#[s,y],argTypes:=#[t,t]})
  (I:∀w,(underlying t).run P w = .ok (.slice e) w) (E:∀w,(sizeOf e).run P w = .ok sz w) (hs:aK x s = .v (.slice ad n cap)) (hn:n<=cap) (hy:aK x y = .list sz cs 0):cu P G x o .none (.v (.slice ad n cap)):=fun C a w _ h=>by
 refine⟨_,.v _,fun w' _=>?_⟩;have hr:=h.eval y;rw[hy] at hr;generalize hg:a.eval y=u at hr;refine DC (P:=P) ho (h.flat hs) hg ?_;have O:n+0<=cap:=hn;cases hr with
 | nK _ iF bj=>cases iF<;>cases ad<;>simp[Builtin.append_,I,E,Builtin.lenOf,Builtin.firstCells,storeCells,loadCells,loadCellsFrom,hn,Nat.not_lt.2 hn]
 | list _ _ _ b' o' bj f nU q1 q2 lg hL hc U=>cases ad<;>simp[Builtin.append_,I,E,Builtin.lenOf,Builtin.firstCells,storeCells,loadCells,loadCellsFrom,hn,Nat.not_lt.2 hn]
end
variable {g t n id:Nat} {E b:Bool} {l':List (Nat×D)} {S':List ag} {c e:Code} {ds:List D} {fn:Func} {L:Nat->Prop} {r1 r2:ResultVar}
def LQ(C:ey)(Q:Exit->St->Prop):Exit->Act->World->Prop:=fun e a w=>(∃y,cf C y a w/\Q e y)\/(e = .ret/\C.FZ a w)
def CD(P:Program)(C:ey)(c:Code)(x:St)(Q:Exit->St->Prop):Prop:=∀a w,cf C x a w->c.wp P (LQ C Q) a w
def OD(P:Program)(C:ey)(ops:Array Oper)(l:List Oper)(x:St)(Q:Exit->St->Prop):Prop:=∀a w,cf C x a w->wpList P ops (LQ C Q) l a w
variable {P:Program} {C:ey} {Q:Exit->St->Prop} {x y:St} {ops:Array Oper} {l:List Oper} {o:Oper}
def cH(ops:Array Oper)(x:St)(o:Oper)(b:Bool):Prop:=∀C a w,cf C x a w->Region.wanted o (yielded ops a.tmps)=b
theorem tO(h:o.guard=none):cH ops x o true:=fun C a w _=>by simp[Region.wanted,h]
theorem VH(h:o.guard=some (g,E))(hg:(ops[g]?).bind (·.dst)=some t)(ht:t<x.n)(hb:look t x.env = .v (.bool b)):cH ops x o (b==E):=fun C a w hs=>by
 have hv:=hs.env t ht;rw[hb] at hv;have hv:=hv.mi;have I:=hs.size;have:a.tmps[t]?=some (.bool b):=by
  rw[Array.getD_eq_getD_getElem?,Array.getElem?_eq_getElem w4] at hv;rw[Array.getElem?_eq_getElem w4];simpa using hv
 simp only[Region.wanted,h,yielded,hg,Option.bind_some,this];cases b<;>cases E<;>rfl
theorem j6{d:D}{r:List (Nat×D)}:look t ((t,d)::r)=d:=by rw[gQ,if_pos rfl]
theorem lu{d d':D}{r:List (Nat×D)}(h:d=d'):look t ((t,d)::r)=d':=by rw[gQ,if_pos rfl,h]
theorem kE{i:Nat}{d d':D}{r:List (Nat×D)}(h:Nat.beq i t=false)(k:look t r=d'):look t ((i,d)::r)=d':=by rw[look,h];exact k
theorem bP{v:Value}{x:St}:aK x (.const v) = .v v:=rfl
theorem vS{f:FuncId}{x:St}:aK x (.func f) = .fg (.func f) []:=rfl
theorem zc{x:St}:aK x (.global g) = .v (.pointer (some ⟨g,0,none⟩)):=rfl
theorem vZ{d:D}{x:St}(h:Nat.blt t x.n=true)(k:look t x.env=d):aK x (.tmp t)=d:=by simp only[aK,h,k];rfl
theorem lk{l:List (Nat×D)}{d:D}(h:look t l=d:=by (repeat (first|exact j6|(apply kE;focus rfl)|exact look_nil));first|done|fail):look t l=d:=h
theorem ot{d:D}{x:St}(h:Nat.blt t x.n=true:=by exact rfl)(k:look t x.env=d:=by (repeat (first|exact j6|(apply kE;focus rfl)|exact look_nil));first|done|fail):aK x (.tmp t)=d:=vZ h k
def pA(l:List (Nat×D)):List (Nat×D)->Prop
 | []=>True
 | (i,d)::r=>look i l=d/\pA l r
theorem pA.look{l:List (Nat×D)}:∀{l':List (Nat×D)},pA l l'->∀t,V.look t l'=V.look t l\/V.look t l' = .cy
 | [],_,t=>.inr rfl
 | (i,d)::r,h,t=>by
  rw[gQ];by_cases e:i=t
  ·subst e;rw[if_pos rfl];exact .inl h.1.symm
  rw[if_neg e];exact h.2.look t
theorem Wk.l8{l:List (Nat×D)}{S:List ag}(h:pA l l'):Wk ⟨n,l,S⟩ ⟨n,l',S⟩:=fun C a w hs =>
 ⟨hs.defers,hs.size,fun t ht=>by
  rcases h.look t with e|e
  ·simp only[e];exact hs.env t ht
  simp only[e];exact .cy _,hs.own,hs.fr,hs.ex,hs.fE⟩
theorem Wk.eN{x:St}(hn:x.n=n)(hS:x.S=S')(h:pA x.env l'):Wk x ⟨n,l',S'⟩:=by
 obtain⟨n0,l0,S0⟩:=x;simp only at hn hS h;subst hn hS;exact Wk.l8 h
theorem Wk.asS{x:St}(hn:x.n=n)(hS:S'.Sublist x.S)(h:pA x.env l'):Wk x ⟨n,l',S'⟩:=by
 obtain⟨n0,l0,S0⟩:=x;simp only at hn hS h;subst hn;exact(Wk.drop n0 l0 S0 S' hS).trans (Wk.l8 h)
theorem v7{ops:Array Oper}{x:St}{o:Oper}(h:o.guard=some (g,E))(hg:(ops[g]?).bind (·.dst)=some t)(ht:Nat.blt t x.n=true)(hb:look t x.env = .v (.bool b))(hw:b=E):cH ops x o true:=by
 have:=VH h hg (Nat.le_of_ble_eq_true ht) hb;rw[hw] at this;simpa using this
theorem oH{ops:Array Oper}{x:St}{o:Oper}(h:o.guard=some (g,E))(hg:(ops[g]?).bind (·.dst)=some t)(ht:Nat.blt t x.n=true)(hb:look t x.env = .v (.bool b))(hw:b = !E):cH ops x o false:=by
 have:=VH h hg (Nat.le_of_ble_eq_true ht) hb;rw[hw] at this;cases E<;>simpa using this
theorem Nw{ops:Array Oper}{x:St}{o:Oper}{b:Bool}(h:o.guard=some (g,E))(hg:(ops[g]?).bind (·.dst)=some t)(ht:Nat.blt t x.n=true)(hb:look t x.env = .v (.tuple #[])):cH ops x o false:=fun C a w hs=>by
 have hv:=hs.env t (Nat.le_of_ble_eq_true ht);rw[hb] at hv;have hv:=hv.mi;have I:=hs.size;have KX:t<x.n:=Nat.le_of_ble_eq_true ht;have:a.tmps[t]?=some (.tuple #[]):=by
  rw[Array.getD_eq_getD_getElem?,Array.getElem?_eq_getElem w4] at hv;rw[Array.getElem?_eq_getElem w4];simpa using hv
 simp only[Region.wanted,h,yielded,hg,Option.bind_some,this];cases E<;>rfl
theorem jX(h:Q .normal x):OD P C ops [] x Q:=fun a w hs=>.inl ⟨x,hs,h⟩
theorem OD.gN{W:List Nat}{post:St->Prop}(hw:cH ops x o true)(h:gL P C.G x o W post)(k:∀y,post y->OD P C ops l y Q):OD P C ops (o::l) x Q:=fun a w hs=>by
 unfold wpList;rw[if_pos (hw C a w hs)];exact .inl (h C a w _ _ rfl hs fun y a' w' hp E _ _=>k y hp a' w' E)
theorem qM{kd:Rd}{d:D}(hw:cH ops x o true)(hd:o.dst=some t)(h:cu P C.G x o kd d)(k:OD P C ops l (x.put t d) Q):OD P C ops (o::l) x Q :=
 OD.gN hw (h.gN hd) fun y hy=>by subst hy;exact k
theorem Xe(hw:cH ops x o false)(hd:o.dst=some t)(k:OD P C ops l (x.put t (.v (.tuple #[]))) Q):OD P C ops (o::l) x Q:=fun a w hs=>by
 unfold wpList;rw[if_neg (by rw[hw C a w hs];simp),hd];exact k _ _ (hs.put (.v _))
theorem fF(h:Wk x y)(k:OD P C ops l y Q):OD P C ops l x Q:=fun a w hs=>k a w (h C a w hs)
theorem kX(h:Wk x y)(k:CD P C c y Q):CD P C c x Q:=fun a w hs=>k a w (h C a w hs)
theorem CD.mono{Q':Exit->St->Prop}(h:CD P C c x Q)(k:∀e y,Q e y->Q' e y):CD P C c x Q':=fun a w hs =>
 wp_mono (h a w hs) fun e a' w' h=>h.imp (fun ⟨y,h1,h2⟩=>⟨y,h1,k e y h2⟩) id
theorem eI(h:Q .normal x):CD P C .skip x Q:=fun a w hs=>wp_skip (.inl ⟨x,hs,h⟩)
theorem rI(h:Q .ret x):CD P C .ret x Q:=fun a w hs=>wp_ret (.inl ⟨x,hs,h⟩)
theorem qm(h:Q (.exit id) x):CD P C (.exit id) x Q:=fun a w hs=>wp_exit (.inl ⟨x,hs,h⟩)
def E6(P:Program)(C:ey)(c:Code)(Q:Exit->St->Prop):Exit->St->Prop
 | .normal,y=>CD P C c y Q
 | e,y=>Q e y
theorem cL{d:Code}(h:CD P C c x (E6 P C d Q)):CD P C (.seq c d) x Q:=fun a w hs =>
 wp_seq (wp_mono (h a w hs) fun e a' w' h=>by
  rcases h with ⟨y,h1,h2⟩|⟨rfl,h⟩
  ·cases e<;>first|exact h2 a' w' h1|exact .inl ⟨y,h1,h2⟩
  exact .inr ⟨rfl,h⟩)
theorem DF{l:List Oper}(h:OD P C l.toArray l x Q):CD P C (.region id l.toArray false) x Q:=fun a w hs=>wp_region_lit (h a w hs)
theorem ajF{c:Operand}{d:Code}(hc:aK x c = .v (.bool b))(ht:b=true->CD P C d x Q)(hf:b=false->CD P C e x Q):CD P C (.cond c d e) x Q:=fun a w hs =>
 wp_cond_split (hs.flat hc) (fun h=>ht h a w hs) (fun h=>hf h a w hs)
theorem ahW{c:Operand}{d:Code}(hc:aK x c = .v (.bool b))(hb:b=true)(ht:CD P C d x Q):CD P C (.cond c d e) x Q:=fun a w hs =>
 wp_cond_true (by rw[hs.flat hc,hb]) (ht a w hs)
theorem ahX{c:Operand}{d:Code}(hc:aK x c = .v (.bool b))(hb:b=false)(hf:CD P C e x Q):CD P C (.cond c d e) x Q:=fun a w hs =>
 wp_cond_false (by rw[hs.flat hc,hb]) (hf a w hs)
def RI(Inv:St->Prop)(Q:Exit->St->Prop):Exit->St->Prop
 | .normal,y=>∃z,Wk y z/\Inv z
 | e,y=>Q e y
theorem ue{d:Code}(E:St->Prop)(h1:CD P C c x (RI E Q))(h2:∀z,E z->CD P C d z Q):CD P C (.seq c d) x Q :=
 cL (CD.mono h1 fun e y h=>by cases e<;>first|(obtain⟨z,hw,hz⟩:=h;exact kX hw (h2 z hz))|exact h)
def Eb(id:Nat)(Q:Exit->St->Prop):Exit->St->Prop
 | .exit vJ,y=>bif Nat.beq vJ id then Q .normal y else Q (.exit vJ) y
 | e,y=>Q e y
theorem kU(h:CD P C c x (Eb id Q)):CD P C (.block id c) x Q:=fun a w hs =>
 wp_block (wp_mono (h a w hs) fun e a' w' h=>by
  rcases h with ⟨y,h1,h2⟩|⟨rfl,h⟩
  case inr=>exact .inr ⟨rfl,h⟩
  cases e with
  | exit vJ =>
   simp only[Eb] at h2;simp only[Exit.inBlock];by_cases he:vJ=id
   ·subst he;rw[if_pos rfl];simp at h2;exact .inl ⟨y,h1,h2⟩
   rw[if_neg he];have:Nat.beq vJ id=false:=by
    cases h:Nat.beq vJ id with
    | false=>rfl
    | true=>exact absurd (Nat.eq_of_beq_eq_true h) he
   rw[this] at h2;exact .inl ⟨y,h1,h2⟩
  | _=>exact .inl ⟨y,h1,h2⟩)
theorem least(p:Nat->Prop)(h:∃n,p n):∃n,p n/\∀m,p m->n<=m:=by
 obtain⟨n,hn⟩:=h;induction n using Nat.strongRecOn with
 | _ n ih =>
  by_cases hq:∃m,m<n/\p m
  ·obtain⟨m,hm,hp⟩:=hq;exact ih m hm hp
  exact⟨n,hn,fun m hm=>Nat.le_of_not_lt fun aa=>hq ⟨m,aa,hm⟩⟩
def EF{ι:Type}(I:ι->St->Prop)(μ:ι->Nat)(i:ι)(Q:Exit->St->Prop):Exit->St->Prop
 | .normal,y=>∃j z,μ j < μ i/\Wk y z/\I j z
 | e,y=>Q e y
open Classical in
theorem Nx{ι:Type}(I:ι->St->Prop)(μ:ι->Nat)(i:ι)(h0:I i x)(round:∀i y,I i y->CD P C c y (EF I μ i Q)):CD P C (.loop c) x Q:=fun a w hs=>by
 let p:Act->World->Nat->Prop:=fun a w n=>∃i y,μ i=n/\I i y/\cf C y a w
 let m:Act->World->Nat:=fun a w=>if h:∃n,p a w n then Classical.choose (least _ h) else 0
 refine wp_loop (fun a w=>∃n,p a w n) m ⟨_,i,x,rfl,h0,hs⟩ fun a w O=>?_;have hm:m a w=Classical.choose (least _ O):=dif_pos O;obtain⟨⟨i,y,h1,h2,h3⟩,_⟩:=Classical.choose_spec (least _ O);rw[<-hm] at h1;refine wp_mono (round i y h2 a w h3) fun e a' w' h=>?_;rcases h with ⟨z,q1,q2⟩|⟨rfl,h⟩
 case inr=>exact .inr ⟨rfl,h⟩
 cases e with
 | normal =>
  obtain⟨j,z',r1,r2,r3⟩:=q2;have hp:p a' w' (μ j):=⟨j,z',rfl,r3,r2 C a' w' q1⟩
  have E:∃n,p a' w' n:=⟨_,hp⟩
  have U:m a' w'=Classical.choose (least _ E):=dif_pos E;refine⟨E,?_⟩;have:=(Classical.choose_spec (least _ E)).2 _ hp;rw[U];omega
 | _=>exact .inl ⟨z,q1,q2⟩
def J2(tmps:Array Value):ResultVar->Sem Value
 | .tmp t=>pure (tmps.getD t undef)
 | .cell a t=>do loadVar t (<-asAddr (tmps.getD a undef))
theorem L5(fn:Func)(tmps:Array Value):results fn tmps=(do let vs <-fn.results.mapM (J2 tmps);pure (if h:vs.size=1 then vs[0] else .tuple vs)):=rfl
def uJ(P:Program)(y:St)(rv:ResultVar)(d:D):Prop :=
 ∀C a w,cf C y a w->∃v,cG w (live C.X y.S) d v/\(J2 a.tmps rv).run P w = .ok v w
theorem BR{d:D}(ht:t<y.n)(hd:look t y.env=d):uJ P y (.tmp t) d:=fun C a w h=>⟨_,hd ▸ h.env t ht,rfl⟩
theorem sN{c k b:Nat}{B:ag}{d:D}(hc:c<y.n)(hd:look c y.env = .v (.pointer (some ⟨b,0,none⟩)))(hk:y.S[k]?=some B)(hb:B.b=b)(ha:∀w,(isAgg t).run P w = .ok false w)(dP:B.cs=[d])(hne:isMap B.e=false:=by rfl):uJ P y (.cell c t) d:=fun C a w h=>by
 subst hb;have he:=h.env c hc;rw[hd] at he;obtain⟨_,cur,h1,h2,h3,h4⟩:=h.gh hk;rw[lO hne] at h1;obtain⟨u,hu,hr⟩:=h4 0 (by simp[dP]);refine⟨u,by simpa[dP] using hr,?_⟩;simp only[J2,he.mi,asAddr,Sem.run_bind,Sem.run_pure,Result.andThen_ok];have:=Hw (P:=P) (t:=t) (w:=w) ha (pT h1 hu);simpa[Instr.loadAt,Instr.sureAddr] using this
theorem sK{c k b:Nat}{B:ag}(hc:c<y.n)(hd:look c y.env = .v (.pointer (some ⟨b,0,none⟩)))(hk:y.S[k]?=some B)(hb:B.b=b)(ha:∀w,(isAgg t).run P w = .ok true w)(hn:∀w,(sizeOf t).run P w = .ok n w)(dP:B.cs=ds)(hl:ds.length=n)(hne:isMap B.e=false:=by rfl):uJ P y (.cell c t) (.agg ds):=fun C a w h=>by
 subst hb dP;have he:=h.env c hc;rw[hd] at he;obtain⟨_,cur,h1,h2,h3,h4⟩:=h.gh hk;rw[lO hne] at h1;refine⟨.agg ((range n).map fun j=>cur.getD j undef).toArray,.agg _ _ (by simp[hl]) (fun i q1 q2=>?_),?_⟩
 ·obtain⟨u,hu,hr⟩:=h4 i q1;simp only[getElem_map,getElem_range,Array.getD_eq_getD_getElem?,hu,Option.getD_some];exact hr
 simp only[J2,he.mi,asAddr,Sem.run_bind,Sem.run_pure,Result.andThen_ok];have:=Mi (P:=P) (t:=t) (w:=w) (b:=B.b) (o':=0) (vs:=(range n).map fun j=>cur.getD j undef) ha hn bC (fun j hj=>by
  simp only[length_map,length_range] at hj;obtain⟨u,hu,_⟩:=h4 j w4;simp only[getElem_map,getElem_range,Array.getD_eq_getD_getElem?,hu,Option.getD_some,Nat.zero_add];exact pT h1 hu)
 simpa[Instr.loadAt,Instr.sureAddr] using this
def tv(P:Program)(fn:Func)(y:St)(r:D):Prop:=∀C a w,cf C y a w->∃v,cG w (live C.X y.S) r v/\(results fn a.tmps).run P w = .ok v w
theorem sO(hr:fn.results = #[]):tv P fn y (.dF []):=fun C a w h =>
 ⟨.tuple #[],.dF [] [] rfl (fun i h1 _=>by simp at h1),by unfold results;simp[hr]⟩
theorem Xf{rv:ResultVar}{d:D}(hr:fn.results = #[rv])(h:uJ P y rv d):tv P fn y d:=fun C a w hs=>by
 obtain⟨v,h1,h2⟩:=h C a w hs;refine⟨v,h1,?_⟩;rw[L5,hr];simp[h2]
theorem Xg{w:World}{vs:List Value}(h:cX w L ds vs):cG w L (.dF ds) (.tuple vs.toArray):=.dF ds vs h.1 h.2
theorem cX.cons{w:World}{d:D}{v:Value}{vs:List Value}(h:cG w L d v)(hs:cX w L ds vs):cX w L (d::ds) (v::vs) :=
 ⟨by simp[hs.1],fun i h1 h2=>by
  cases i with
  | zero=>exact h
  | succ i=>exact hs.2 i _ _⟩
theorem cX.nil(w:World)(L:Nat->Prop):cX w L [] []:=⟨rfl,fun i h=>by simp at h⟩
theorem Ec{d1 d2:D}(hr:fn.results = #[r1,r2])(h1:uJ P y r1 d1)(h2:uJ P y r2 d2):tv P fn y (.dF [d1,d2]):=fun C a w hs=>by
 obtain⟨v1,a1,b1⟩:=h1 C a w hs;obtain⟨v2,a2,b2⟩:=h2 C a w hs;refine⟨_,Xg (.cons a1 (.cons a2 (.nil _ _))),?_⟩;rw[L5,hr];simp[b1,b2]
theorem agk{r3:ResultVar}{d1 d2 d3:D}(hr:fn.results = #[r1,r2,r3])(h1:uJ P y r1 d1)(h2:uJ P y r2 d2)(h3:uJ P y r3 d3):tv P fn y (.dF [d1,d2,d3]):=fun C a w hs=>by
 obtain⟨v1,a1,b1⟩:=h1 C a w hs;obtain⟨v2,a2,b2⟩:=h2 C a w hs;obtain⟨v3,a3,b3⟩:=h3 C a w hs;refine⟨_,Xg (.cons a1 (.cons a2 (.cons a3 (.nil _ _)))),?_⟩;rw[L5,hr];simp[b1,b2,b3]
def Body(P:Program)(fn:Func)(post:D->List ag->Prop)(e:Exit)(y:St):Prop :=
 (e = .normal\/e = .ret)/\∃r S',S'.Sublist y.S/\tv P fn y r/\post r S'
def u9:Nat->List D->List (Nat×D)
 | _,[]=>[]
 | i,d::r=>(i,d)::u9 (i+1) r
theorem Hj:∀(ds:List D) (i t:Nat),look t (u9 i ds)=if i<=t then ds.getD (t-i) .cy else .cy
 | [],i,t=>by simp[u9,look]
 | d::r,i,t=>by
  rw[u9,gQ,Hj r (i+1) t];by_cases h:i=t
  ·subst h;simp
  rw[if_neg h];by_cases h2:i<=t
  ·rw[if_pos h2,if_pos w4,show t-i=(t-(i+1))+1 from by omega];simp
  rw[if_neg h2,if_neg w4]
theorem bA {G:List (Nat×List Value)} {f:FuncId} {args:List D} {S:List ag} {post:D->List ag->Prop} (hf:P.funcs[f]?=some fn) (hb:fn.body=some c) (hn:fn.ntmps=n) (hl:args.length<=n)
  (h:∀X w0 S0,CD P ⟨X,w0,S0,G,[],fun _ _=>False⟩ c ⟨n,u9 0 args,S⟩ (Body P fn post)):VC P G f args S post:=fun X w vs hp=>by
 have Z:vs.length=args.length:=hp.args.1;let C:ey:=⟨X,w,aq S,G,[],fun _ _=>False⟩
 have I:cf C ⟨n,u9 0 args,S⟩ {tmps:=vs.toArray++Array.replicate (fn.ntmps-vs.toArray.size) undef,defers:=[]} w:=by
  refine⟨rfl,by simp[hn];omega,fun t ht=>?_,hp.own,Fr.refl _ _,hp.ex,hp.fE⟩;simp only[Hj,Nat.zero_le,if_true,Nat.sub_zero];by_cases aa:t<args.length
  ·have e1:args.getD t .cy=args[t]:=(by simp[getD,aa])
   have e2:(vs.toArray++Array.replicate (fn.ntmps-vs.toArray.size) undef).getD t undef=vs[t]'w4:=by
    rw[Array.getD_eq_getD_getElem?,Array.getElem?_append_left jk];simp[show t<vs.length by omega]
   rw[e1,e2];exact hp.args.2 t aa w4
  have e1:args.getD t .cy = .cy:=(by simp[getD,getElem?_eq_none (show args.length<=t by omega)])
  rw[e1];exact .cy _
 refine calls_of_wp hf hb (wp_mono (h _ _ _ _ _ I) fun e a w' h=>?_);rcases h with ⟨y,h1,h2,r,S',h3,h4,h5⟩|⟨_,h⟩
 case inr=>exact h.elim
 obtain⟨v,q1,q2⟩:=h4 C a w' h1;have E:(aq S').Sublist (aq y.S):=Sublist.map _ h3;have key:a.defers=[]/\∃v,(results fn a.tmps).run P w' = .ok v w'/\∃U r S',Ending.returned v = .returned U/\post r S'/\Own w' (live X S') S'/\cG w' (live X S') r U/\Fr w (aq S) w' (aq S') :=
  ⟨h1.defers,v,q2,v,r,S',rfl,h5,h1.own.sub h3,q1.mono fun b _ hn=>⟨rfl,fun hl=>hn (hl.imp id fun q=>E.subset q)⟩,
   ⟨h1.fr.os,h1.fr.tape,h1.fr.output,h1.fr.size,fun b O hn=>⟨(h1.fr.block b O hn).1,fun q=>(h1.fr.block b O hn).2 (E.subset q)⟩⟩⟩
 rcases h2 with rfl|rfl<;>exact key
end V
end Go.Proofs.YtihmfhcjbmlnaaaGreatDoor
