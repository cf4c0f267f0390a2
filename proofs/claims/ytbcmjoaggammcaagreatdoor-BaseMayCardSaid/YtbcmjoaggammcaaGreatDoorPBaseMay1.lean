/-
  What the proof of BaseMay leans on, part 1 of 8: walks of the program's functions at the level of values, and plain facts of what they compute.
-/
import Derived.WalkKit
import Derived.Deep.MidRow
import Derived.Deep.AppendLies
import Derived.OrdersHeld
import Derived.IntWalk
import Derived.Laws.Cover3
import Derived.ChangeKeysEq
import Derived.ProofKit
import Derived.OpenShut
import Derived.Lib.LaidTab
import Derived.Below
import Derived.Deep.Slices
import Derived.ArgAppend
import Derived.Lib.AppendStr
import Derived.MapKept
import Derived.RangeFuncLeaves
import Derived.RangeFuncOwn
import Derived.OrdersIn
import Derived.TacticsIn
import Derived.Shelf.Abstract
import Derived.RecoverIn
import Derived.WalkLawsBesides
import Derived.Lib.AppendZeros
import Derived.Laws.IdiomCopy
import Derived.Lib.Overlaps
import Derived.Lib.AppendZerosOnto
import Derived.Lib.BytesEntry
import Derived.Shelf.Strings.Builder1
import Derived.Shelf.Strings.Builder2
import Derived.Shelf.Small.Strs
import Derived.Shelf.Small.Wraps
import Derived.Shelf.Strings.BuilderF
import Derived.Shelf.Strings.BuilderK
import Derived.Shelf.Utf8.RuneCount
import Derived.Shelf.Strings.Builder2Cap
import Derived.Shelf.Strings.Search1
import Derived.Shelf.Strings.Search2
import Derived.Shelf.Strings.Search3
import Derived.Shelf.Strings.Count
import Derived.Shelf.LaysM
import Derived.Shelf.Strings.Shaped
import Derived.Shelf.Strings.Split
import Derived.Shelf.Strings.Replace
import Derived.Shelf.Strings.SplitShaped
import Derived.Shelf.Unicode.Decode
import Derived.Shelf.Strings.RuneCount
import Derived.Shelf.Unicode.DecodeSlow
import Derived.Shelf.Unicode.DecodeAny
import Derived.Shelf.Strings.BuilderCap
import Derived.Shelf.Slices.Turned
import Derived.Shelf.Slices.Reverse
import Derived.Ground.Names2Prog
import Derived.Shelf.Slices.Clone
import Derived.Shelf.Slices.SearchI
import Derived.Shelf.Slices.Delete
import Derived.Shelf.Slices.Cells
import Derived.Shelf.Slices.Empties
import Derived.Shelf.Bytes.SlSearch0
import Derived.Shelf.Bytes.SlEqualAll
import Derived.Shelf.Bytes.Small
import Derived.SizedLaws
import Derived.Lib.Bytealg
import Derived.Test.YtbcmjoaggammcaaGreatDoorRows
import Derived.Test.YtbcmjoaggammcaaGreatDoorProg
set_option linter.unusedVariables false
set_option linter.unusedSimpArgs false
set_option maxRecDepth 100000
set_option maxHeartbeats 4000000
namespace Go.Proofs.YtbcmjoaggammcaaGreatDoor
open List
variable {p:Prop}
theorem w4(h:p:=by omega):p:=h
theorem w5(h:p:=by first|assumption|omega):p:=h
theorem w6(h:p:=by (repeat (first|exact fw|(apply fP;focus (first|rfl|(simp;done)|(congr 2;omega)|(apply eE;rw[←Ol aa];unfold pn;first|(rw[E5 (by assumption)];simp;done)|(rw[E6 (by assumption),take_of_length_le (l:=lF (uN l[i])) (by rw[wc];omega)];simp;done)|(rw[E7 (by assumption),←AH];simp;done)|(rw[TS (by assumption) (by assumption) (by assumption)];done))|(apply eE;rfl)|(apply eE;simp;done)))|(apply fA;focus rfl)));done):p:=h
theorem w7(h:p:=by decide):p:=h
theorem w8(h:p:=by have dy:maxLen=9223372036854775807:=rfl;have q1:=Eu Lp i;(try have q2:=Lp _ (getElem_mem aa));(try simp only[length_append,length_cons,length_nil]);omega):p:=h
theorem w9(h:p:=by simp only[length_append,length_map,length_cons,length_nil];omega):p:=h
theorem pE(h:p:=by simp only[maxLen,length_append,length_map,length_cons,length_nil];omega):p:=h
theorem mZ(h:p:=by simp only[maxLen,length_cons,length_nil] at *;omega):p:=h
theorem F1(h:p:=by rw[←Ol aa];unfold pn;first|(rw[E5 (by assumption)];simp;done)|(rw[E6 (by assumption),take_of_length_le (l:=lF (uN l[i])) (by rw[wc];omega)];simp;done)|(rw[E7 (by assumption),←AH];simp;done)|(rw[TS (by assumption) (by assumption) (by assumption)];done)):p:=h
theorem nc(h:p:=by simp only[length_cons,length_nil] at *;omega):p:=h
theorem zC(h:p:=by have dy:maxLen=9223372036854775807:=rfl;(try simp only[length_append,length_cons,length_nil,length_take,wc]);omega):p:=h
theorem vj(h:p:=by show _=p.kids.take (if p.leaf=true then 2 else 3);rw[fF];rfl):p:=h
theorem vk(h:p:=by show _=p.kids.drop (if p.leaf=true then 2 else 3);rw[fF];rfl):p:=h
theorem vl(h:p:=by show _=p.keys.drop (if p.leaf=true then 2 else 3);rw[fF];rfl):p:=h
theorem zD(h:p:=by (repeat (first|exact fw|(apply fP;focus (first|rfl|(rw[xn];done)|(simp;done)))|(apply fA;focus rfl)));done):p:=h
theorem bq(h:p:=by simp):p:=h
theorem zE(h:p:=by exact(perm_middle (l₁:=[_,_,_])).symm.trans (Perm.cons _ (Perm.cons _ (Perm.cons _ (Perm.cons _ oG))))):p:=h
theorem ji(h:p:=by first|rfl|assumption):p:=h
theorem zF(h:p:=by have dy:maxLen=9223372036854775807:=rfl;(try simp only[length_append,length_cons,length_nil]);omega):p:=h
theorem F2(h:p:=by (repeat (first|exact fw|(apply fP;focus (first|rfl|(simp;done)|(congr 2;omega)|(apply eE;rfl)|(apply eE;simp;done)))|(apply fA;focus rfl)));done):p:=h
theorem zG(h:p:=by simp only[flatten_cons,flatten_nil,length_append,length_cons,length_nil];omega):p:=h
theorem mE(h:p:=by first|rfl|simp[St.put]):p:=h
theorem Lq(h:p:=by show da (L.flatMap gO) (0+i.toNat*5) (gO (⟨bp p L.length,cm,cn,bW,bK,bL,bA⟩:aA))=_;rw[Nat.zero_add];exact ox ga L (⟨bp p L.length,cm,cn,bW,bK,bL,bA⟩:aA) hj):p:=h
theorem zH(h:p:=by simp only[maxLen,length_set,length_cons,length_nil] at *;omega):p:=h
theorem kJ(h:p:=by first|rfl|simp):p:=h
theorem gU(h:p:=by simp;omega):p:=h
theorem oH(h:p:=by rw[length_take];omega):p:=h
theorem zI(h:p:=by simp only[length_set,length_cons,length_nil] at *;omega):p:=h
theorem sA(h:p:=by rw[pp,jb,append_assoc];rfl):p:=h
theorem Lr(h:p:=by first|exact s8 (j:=0) runUnderlying27 sizeOf30 rfl (by first|omega|decide)|exact tv (j:=0) runUnderlying27 sizeOf30 rfl (by first|omega|decide)):p:=h
theorem qZ(h:p:=by rw[length_set];exact fT):p:=h
theorem Ls(h:p:=by have:=HV s.names s.names.length;(try rw[tX]);simp only[length_append,length_map,length_cons,length_nil];omega):p:=h
theorem oI(h:p:=by rw[append_nil]):p:=h
theorem F3(h:p:=by simp only[maxLen,length_append,length_cons,length_nil] at *;omega):p:=h
theorem sB(h:p:=by rw[y2,pp,jb];simp):p:=h
theorem Ce(h:p:=by first|rfl|(show(1:Int)+_=1+_;omega)|omega):p:=h
theorem vm(h:p:=by rw[length_append];omega):p:=h
theorem Cf(h:p:=by rw[length_append,length_singleton];omega):p:=h
theorem qk(h:p:=by rw[tw];omega):p:=h
theorem F4(h:p:=by show 0+_*1+1≤_;rw[cq ey,length_set];omega):p:=h
theorem tY(h:p:=by first|exact yu rfl gb (fun h=>by cases h) runUnderlying90 sizeOf49 w4|exact oA (fun _=>rfl) runUnderlying90 sizeOf49 w4|exact yw (fun h=>by cases h) (fun _=>rfl) runUnderlying90 sizeOf49 w4 w4|exact nL (fun h=>by cases h) (fun _=>rfl) runUnderlying90 sizeOf49 w4 w4):p:=h
theorem tZ(h:p:=by first|exact yu rfl ey (fun h=>by cases h) runUnderlying91 sizeOf3 w4|exact oA (fun _=>rfl) runUnderlying91 sizeOf3 w4|exact yw (fun h=>by cases h) (fun _=>rfl) runUnderlying91 sizeOf3 w4 w4|exact nL (fun h=>by cases h) (fun _=>rfl) runUnderlying91 sizeOf3 w4 w4):p:=h
theorem zJ(h:p:=by rw[length_append,length_set];exact(show IntKind.wrap .i64 (((L.length+[(⟨bu p,dg,dh,cD,di,dj,cG⟩:aA)].length:Nat):Int)-1)=_ from by rw[show(((L.length+[(⟨bu p,dg,dh,cD,di,dj,cG⟩:aA)].length:Nat):Int)-1)=(L.length:Int) from by simp];exact wrap_i64 w4 w4)):p:=h
theorem zK(h:p:=by first|exact yu rfl gb (fun h=>by cases h) runUnderlying91 sizeOf3 w4|exact yu rfl ey (fun h=>by cases h) runUnderlying91 sizeOf3 w4|exact oA (fun _=>rfl) runUnderlying91 sizeOf3 w4|exact nL (fun h=>by cases h) (fun _=>rfl) runUnderlying91 sizeOf3 w4 w4):p:=h
theorem zL(h:p:=by first|exact ow gb (fun h=>by cases h) runUnderlying91 sizeOf3 w4|exact ow ey (fun h=>by cases h) runUnderlying91 sizeOf3 w4|exact oA (fun h=>by cases h) runUnderlying91 sizeOf3 w4|exact nL (fun _=>rfl) (fun h=>by cases h) runUnderlying91 sizeOf3 w4 w4):p:=h
theorem F5(h:p:=by first|exact yu rfl gb (fun h=>by cases h) runUnderlying90 sizeOf49 w4|exact yu rfl ey (fun h=>by cases h) runUnderlying90 sizeOf49 w4|exact oA (fun _=>rfl) runUnderlying90 sizeOf49 w4|exact nL (fun h=>by cases h) (fun _=>rfl) runUnderlying90 sizeOf49 w4 w4):p:=h
theorem F6(h:p:=by first|exact ow mO (fun h=>by cases h) runUnderlying40 sizeOf61 w4|exact oA (fun h=>by cases h) runUnderlying40 sizeOf61 w4|exact nL (fun _=>rfl) (fun h=>by cases h) runUnderlying40 sizeOf61 w4 w4):p:=h
theorem Lu(h:p:=by first|exact ow gb (fun h=>by cases h) runUnderlying90 sizeOf49 w4|exact oA (fun h=>by cases h) runUnderlying90 sizeOf49 w4|exact yw (fun _=>rfl) (fun h=>by cases h) runUnderlying90 sizeOf49 w4 w4|exact nL (fun _=>rfl) (fun h=>by cases h) runUnderlying90 sizeOf49 w4 w4):p:=h
theorem Lv(h:p:=by first|exact ow ey (fun h=>by cases h) runUnderlying91 sizeOf3 w4|exact oA (fun h=>by cases h) runUnderlying91 sizeOf3 w4|exact yw (fun _=>rfl) (fun h=>by cases h) runUnderlying91 sizeOf3 w4 w4|exact nL (fun _=>rfl) (fun h=>by cases h) runUnderlying91 sizeOf3 w4 w4):p:=h
theorem Lw(h:p:=by first|exact ow ja (fun h=>by cases h) runUnderlying39 sizeOf9 w4|exact ow lm (fun h=>by cases h) runUnderlying39 sizeOf9 w4|exact oA (fun h=>by cases h) runUnderlying39 sizeOf9 w4|exact nL (fun _=>rfl) (fun h=>by cases h) runUnderlying39 sizeOf9 w4 w4):p:=h
theorem Lx(h:p:=by (repeat (first|exact fw|(apply fP;focus (first|rfl|(simp;done)|(congr 2;omega)|(apply eE;first|exact Hq aa w4 _|exact G9 aa w4 _)|(apply eE;simp[jD])|(apply eE;simp;done)))|(apply fA;focus rfl)));done):p:=h
theorem ql(h:p:=by rw[←Int.ofNat_sub w4];exact wrap_i64 w4 w4):p:=h
theorem Ly(h:p:=by rw[←show(p.kids.take 3)=(bp p L.length).kids from vj];simp only[length_take,length_drop];omega):p:=h
theorem Lz(h:p:=by rw[←show(p.kids.take 2)=(bp p L.length).kids from vj];simp only[length_take,length_drop];omega):p:=h
theorem zM(h:p:=by rw[←Int.natCast_add];exact wrap_i64 w4 w4):p:=h
theorem LA(h:p:=by rw[←show(p.kids.drop 3)=(bu p).kids from vk];simp only[length_take,length_drop];omega):p:=h
theorem LC(h:p:=by rw[←show(p.kids.drop 2)=(bu p).kids from vk];simp only[length_take,length_drop];omega):p:=h
theorem LF(h:p:=by rw[←show(p.keys.drop 3)=(bu p).keys from vl];simp only[length_take,length_drop];omega):p:=h
theorem LG(h:p:=by rw[←show(p.keys.drop 2)=(bu p).keys from vl];simp only[length_take,length_drop];omega):p:=h
theorem LH(h:p:=by rw[show(((a+(t+1):Nat):Int)-1)=((a+t:Nat):Int) by omega];exact wrap_i64 w4 w4):p:=h
theorem vn(h:p:=by rw[length_set];omega):p:=h
theorem Cg(h:p:=by show(-1:Int)≤9223372036854775807;decide):p:=h
theorem xo(h:p:=by rw[length_set];exact hj):p:=h
theorem oJ(h:p:=by simpa using h):p:=h
theorem q8(h:p:=by rw[←ho];rfl):p:=h
theorem vo(h:p:=by rw[←xp];exact fT):p:=h
theorem LI(h:p:=by show 0+i.toNat*5+5≤(flatMap gO L).length;rw[cq ga];omega):p:=h
theorem LJ(h:p:=by rw[show((j:Int)-1)=((j-1:Nat):Int) by omega];exact wrap_i64 w4 w4):p:=h
theorem xq(h:p:=by rw[g.av];exact acB):p:=h
theorem LK(h:p:=by exact iO (k:=2) (i:=(eG H l[i])) gb rfl rfl rfl isAgg114 gC rfl):p:=h
theorem LL(h:p:=by exact iO (k:=1) (i:=(eG H l[i])) gb rfl rfl rfl isAgg114 gC rfl):p:=h
theorem LM(h:p:=by exact iO (k:=0) (i:=(eG H l[i])) gb rfl rfl rfl isAgg114 gC rfl):p:=h
theorem F7(h:p:=by show 0+_*1+1≤_;rw[cq ey];omega):p:=h
theorem ua(h:p:=by simp at az;omega):p:=h
theorem LN(h:p:=by unfold jf;rw[if_neg bz,if_neg bY,if_neg de,if_pos eo,sC]):p:=h
theorem vp(h:p:=by simp[maxLen];omega):p:=h
theorem LO(h:p:=by rw[dY];exact mem_flatMap.2 ⟨_,getElem_mem d1,hx⟩):p:=h
theorem zN(h:p:=by rw[length_set];rfl):p:=h
theorem uc(h:p:=by rw[u3];simp):p:=h
theorem LP(h:p:=by first|exact fun _ hq=>hq|exact fun _ hq=>by cases hq.1):p:=h
theorem xu(h:p:=by rw[g.av];decide):p:=h
theorem sD(h:p:=by rw[y1];rfl):p:=h
theorem vq(h:p:=by simpa using aG):p:=h
theorem vr(h:p:=by rw[xn];omega):p:=h
theorem F8(h:p:=by rw[length_append];simp;omega):p:=h
theorem zO(h:p:=by simpa[ap] using dS):p:=h
theorem zP(h:p:=by show 1≤10;decide):p:=h
theorem zQ(h:p:=by simpa[ap] using hj):p:=h
theorem xw(h:p:=by rw[iJ];decide):p:=h
theorem LS(h:p:=by show _≤1000;exact Nat.le_of_ble_eq_true rfl):p:=h
theorem xx(h:p:=by simpa using az):p:=h
theorem F9(h:p:=by rw[length_set];exact Ch):p:=h
theorem zR(h:p:=by exact fun _=>rfl):p:=h
theorem LU(h:p:=by show w.heap.size<(w.heap.push _).size;simp):p:=h
theorem LV(h:p:=by show(w.heap.push _)[w.heap.size]?=_;simp):p:=h
theorem LW(h:p:=by rw[cq uJ,length_take];omega):p:=h
theorem tL(h:p:=by assumption):p:=h
theorem By(h:p:=by rw[IC];decide):p:=h
theorem Fw(h:p:=by rw[length_map];omega):p:=h
theorem y9(h:p:=by rw[h4];decide):p:=h
theorem Fx(h:p:=by simp only[maxLen];omega):p:=h
theorem Fy(h:p:=by show i<cs.length;omega):p:=h
theorem z4(h:p:=by
  refine AD.one (i:=9) ay ?_;refine at_ rfl (cJ (mk:=Op.load 9) rfl ot (by exact pZ (g:=cS) (ls:=eI) (i:=tj) (d:=.v (.string tn)) ja isAgg9 q9 (by show some (D.v (.string (eI[tj]'q9)))=some (D.v (.string tn));rw[Un]))) ?_;refine cr 10 rfl (nq (pl:=[(0,_),(1,_),(9,_)]) (ds:=[_,_,_,_,_,_,_,_,_,_,_,_]) rfl zeroValue42 runUnderlying42 NH ⟨rfl,ot,rfl,ot,rfl,bJ,trivial⟩ rfl rfl) ?_;refine AD.one (i:=12) ay ?_;refine dN 0 [_,_,_,_,_,_,_,_,_,_,_,_] sizeOf42 ?_;refine VE [(1,_),(2,_),(3,_)] [⟨b3,42,12,[_,_,_,_,_,_,_,_,_,_,_,_]⟩,⟨b2,42,12,[_,_,_,_,_,_,_,_,_,_,_,_]⟩,⟨b1,78,14,[_,_,_,_,_,_,_,_,_,_,_,_,_,_]⟩] ?_;refine AD.done ay ?_;exact⟨rfl,_,trivial,Wk.refl _⟩):p:=h
theorem z5(h:p:=by
  refine CD.perm (dV (A:=[_,_,_,_,_,_,_,_])) ?_;refine fK 6 (ap (take 1 _)) ?_ (fun _ h=>(Sublist.map _ (take_sublist _ _)).subset h);refine ax 0 rfl bj ?_;refine ax 1 rfl bj ?_;first|refine ax 2 rfl (DF (n:=st.length) (k:=(take (st.length-(bP ops[i].k).toNat) st).length) (cs:=st.flatMap cV) rfl ot rfl ⟨_,_,ot,by rw[length_take];omega⟩ runUnderlying27 sizeOf30 oH nD) ?_|refine ax 2 rfl (DF (n:=st.length) (k:=(take (st.length-(bP ops[i].k).toNat) st).length) (cs:=st.flatMap cV) rfl ot rfl ⟨_,_,ot,by rw[length_take];omega⟩ runUnderlying27 sizeOf30 oH (bI (e:=30) (g:=cV) (ls:=st) wJ wu)) ?_
  refine ax 3 rfl (cJ (mk:=Op.load 30) rfl ot (by first|exact pX (k:=0) (ds:=[_,_,_]) rfl rfl isAgg30 sizeOf30 rfl rfl|exact jN mO isAgg30 sizeOf30 w5|exact jN fh isAgg30 sizeOf30 w5|exact dJ (k:=0) mO rfl rfl rfl isAgg30 sizeOf30 w5|exact dJ (k:=1) mO rfl rfl rfl isAgg30 sizeOf30 w5|exact dJ (k:=2) mO rfl rfl rfl isAgg30 sizeOf30 w5|exact dJ (k:=3) mO rfl rfl rfl isAgg30 sizeOf30 w5|exact dJ (k:=4) mO rfl rfl rfl isAgg30 sizeOf30 w5|exact dJ (k:=5) mO rfl rfl rfl isAgg30 sizeOf30 w5|exact dJ (k:=6) mO rfl rfl rfl isAgg30 sizeOf30 w5|exact dJ (k:=7) mO rfl rfl rfl isAgg30 sizeOf30 w5|exact dJ (k:=0) fh rfl rfl rfl isAgg30 sizeOf30 w5|exact dJ (k:=1) fh rfl rfl rfl isAgg30 sizeOf30 w5|exact dJ (k:=2) fh rfl rfl rfl isAgg30 sizeOf30 w5|exact dJ (k:=3) fh rfl rfl rfl isAgg30 sizeOf30 w5|exact dJ (k:=4) fh rfl rfl rfl isAgg30 sizeOf30 w5|exact dJ (k:=5) fh rfl rfl rfl isAgg30 sizeOf30 w5|exact dJ (k:=6) fh rfl rfl rfl isAgg30 sizeOf30 w5|exact dJ (k:=7) fh rfl rfl rfl isAgg30 sizeOf30 w5|exact qb (ds:=[_,_,_]) isAgg30 sizeOf30 rfl rfl)) ?_;refine dm.later rfl ?_;refine AD.one (i:=4) ay ?_;refine jj (bZ 0 [_]) [.int .i64 0,.int .i64 0,.string ⟨#[]⟩] [_,_,_] zeroValue30 runUnderlying27 sizeOf30 (fun zS=>?_);refine jk 0 58 3 1 ?_;refine AD.one (i:=5) ay ?_
  refine bg.dZ (ls:=(take (st.length-(bP ops[i].k).toNat) (st))) (new:=[(fR l row ops[i] (fb bQ ops[i].k st) (eW bQ ops[i].k st)).1]) (Sq:=Bz) fh ER rfl an rfl rfl underlying27 YC rfl w7 ot Bf (dx (A:=[_,_,_,_,_,_,_,_])) ot bq vp gU (fun sE rV BA BB=>?_);refine AD.perm (dV (S1:=[⟨sE,30,rV*3,flatMap cV ((take (st.length-(bP ops[i].k).toNat) (st))++[(fR l row ops[i] (fb bQ ops[i].k st) (eW bQ ops[i].k st)).1])⟩]) (A:=[_,_,_,_,_,_,_,_])) ?_;refine eA ?_;refine bf [1,4,6,7,16,17,18] ?_;refine cj [1,4,6,7,16,17,18] ?_;refine⟨((i+1),(st.take (st.length-(bP ops[i].k).toNat)++[(fR l row ops[i] (fb bQ ops[i].k st) (eW bQ ops[i].k st)).1]),(some ⟨sE,0,none⟩),rV,[⟨sE,30,rV*3,flatMap cV ((take (st.length-(bP ops[i].k).toNat) (st))++[(fR l row ops[i] (fb bQ ops[i].k st) (eW bQ ops[i].k st)).1])⟩]),_,cx,(aM (h:=by repeat (first|exact trivial|refine⟨F2,?_⟩))),w4,(by rw[sF];omega),nE,(hinv.trans (Q4 aa hz)),ag4,(bw.cast (bI BA BB) (by rfl)),rfl⟩):p:=h
theorem z6(h:p:=by
  refine cN [0,4,5,6,73,74] ?_;refine aQ 2 ?_ (h:=by exact(DI (pl:=[(0,_),(1,_)]) (ds:=[_,_,_,_,_,_]) rfl zeroValue252 runUnderlying252 sizeOf30 ⟨rfl,ot,rfl,ot,trivial⟩ rfl rfl));refine bH ?_;refine eB [0,4,5,6,73] (fun aW _ (i:Nat) aK=>(i≤2)∧(∀j,j<i→¬((iC a b j).k≠2∧(iC a b j).k≠0))∧aK=(⟨106,(74,.v (.int .i64 (i:Nat)))::aW,[⟨b6,30,3,[.v (.int .i64 0),.v (.int .i64 0),.v (.string ⟨#[]⟩)]⟩,⟨b5,30,3,[.v (.int .i64 b.k),.v (.int .i64 b.n),.v (.string b.s)]⟩,⟨b4,30,3,[.v (.int .i64 a.k),.v (.int .i64 a.n),.v (.string a.s)]⟩]⟩:St)) (fun (i:Nat)=>2-i) 0 ⟨(Nat.zero_le _),(fun j hj=>absurd hj (Nat.not_lt_zero _)),rfl⟩ ?_;rintro i _ ⟨hi,fa,rfl⟩;have LX:k=8∨k=9∨k=10:=(by omega)
  refine ae [0,4,5,6,73,74,75] ?_;refine aq (fun tM rO=>?_) (fun tM rO=>?_)
  ·have aa:i<2:=(by omega)
   refine bX ?_;refine bN (G2 (j:=i) rfl ot ot runUnderlying252 sizeOf30 isAgg30 rfl aa (Hr a b aa)) ?_;refine OD.alloc (ds:=[_,_,_]) an rfl rfl zeroValue30 rfl (fun kK=>?_);refine aN 0 [_,_,_] sizeOf30 ?_;refine aj 106 [0,4,5,6,11,73,74] ?_;refine aC 4 ?_;refine bS 80 (fun Kr E8=>?_) (fun Kr E8=>?_)
   ·refine bf [0,4,5,6,73,74,84] ?_;refine aq (fun pu tF=>?_) (fun pu tF=>?_)
    ·have aT:ic k a b=(bQ,4):=acC nY LX aa (by simp_all) (by simp_all);refine aC 1 ?_;refine aN 1 [_,_,_] sizeOf30 ?_;refine aj 106 [6,7] ?_;refine aJ [] ?_;rw[aT];first|exact⟨rfl,rfl⟩|(refine⟨?_,rfl⟩;clear aT eY xy mF jP nZ nf;generalize (fk a b==0)=z1 at *;generalize (decide (fk a b<0))=z2 at *;subst_vars;simp_all;done)
    have ie:¬((iC a b i).k≠2∧(iC a b i).k≠0):=(by simp_all)
    refine cj [0,4,5,6,73,74] ?_;refine⟨(i+1),_,cx,aM,w4,(D8 (p:=fun v=>¬(v.k≠2∧v.k≠0)) fa ie),rfl⟩
   refine bf [0,4,5,6,73,74,84] ?_;refine fL ?_;have ie:¬((iC a b i).k≠2∧(iC a b i).k≠0):=(by simp_all)
   refine cj [0,4,5,6,73,74] ?_;refine⟨(i+1),_,cx,aM,w4,(D8 (p:=fun v=>¬(v.k≠2∧v.k≠0)) fa ie),rfl⟩
  have Ci:=ID (p:=fun v=>¬(v.k≠2∧v.k≠0)) fa w4;have LY:=Om nY LX (fun h=>h.elim Ci.1 Ci.2);refine cL [0,4,5,6,89] (nf) ?_;refine aq (fun za JQ=>?_) (fun za JQ=>?_)
  ·have aT:ic k a b=(bQ,0):=(by rw[LY,if_pos za])
   refine aC 1 ?_;refine aN 0 [_,_,_] sizeOf30 ?_;refine aj 106 [6,7] ?_;refine aJ [] ?_;rw[aT];first|exact⟨rfl,rfl⟩|(refine⟨?_,rfl⟩;clear aT eY xy mF jP nZ nf;generalize (fk a b==0)=z1 at *;generalize (decide (fk a b<0))=z2 at *;subst_vars;simp_all;done)
  refine cL [6,12,13] (xy) ?_;refine ae [6,12,101] ?_;refine aq (fun BC JR=>?_) (fun BC JR=>?_)
  ·have aT:ic k a b=(bQ,5):=(by rw[LY,if_neg (by rw[za];simp),if_neg (by simpa using BC)])
   refine aC 1 ?_;refine aN 0 [_,_,_] sizeOf30 ?_;refine aj 106 [6,7] ?_;refine aJ [] ?_;rw[aT];first|exact⟨rfl,rfl⟩|(refine⟨?_,rfl⟩;clear aT eY xy mF jP nZ nf;generalize (fk a b==0)=z1 at *;generalize (decide (fk a b<0))=z2 at *;subst_vars;simp_all;done)
  have aT:ic k a b=(⟨2,(oZ k a.n b.n).1,⟨#[]⟩⟩,0):=(by rw[LY,if_neg (by rw[za];simp),if_pos (by simpa using BC)])
  refine aC 2 ?_;refine aN 0 [_,_,_] sizeOf30 ?_;refine aj 106 [6,7] ?_;refine aJ [] ?_;rw[aT];first|exact⟨rfl,rfl⟩|(refine⟨?_,rfl⟩;clear aT eY xy mF jP nZ nf;generalize (fk a b==0)=z1 at *;generalize (decide (fk a b<0))=z2 at *;subst_vars;simp_all;done)):p:=h
theorem z7(h:p:=by
  refine aN 0 [_,_,_] sizeOf30 ?_;refine aj 106 [6,7] ?_;refine aJ [] ?_;rw[aT];first|exact⟨rfl,rfl⟩|(refine⟨?_,rfl⟩;clear aT eY xy mF jP nZ nf;generalize (fk a b==0)=z1 at *;generalize (decide (fk a b<0))=z2 at *;subst_vars;simp_all;done)):p:=h
theorem z8(h:p:=by
  refine AD.one (i:=17) ay ?_;refine bg.call rfl an rfl rfl rfl call129 (NY p.kids (aL (t.pg (aI t k h t.root)) k) ci bi pF fp Ga w4) ⟨ot,ot,ot,trivial⟩ (jX (k:=5) rfl) ig ?_;rintro _ _ ⟨rfl,rfl⟩;refine AD.perm (perm_middle (l₁:=[_,_,_,_,_])).symm ?_;refine cr 18 rfl lG ?_;refine cr 19 rfl (c8 1) ?_;refine AD.one (i:=20) ay ?_;refine bg.storeAt (k:=3) (cs':=flatMap gO (L.set (aI t k h t.root).toNat (⟨{p with keys:=(p.keys.eraseIdx (aL (t.pg (aI t k h t.root)) k))},some ⟨bk,0,none⟩,ck,[⟨bk,49,ck*1,flatMap cK (p.keys.eraseIdx (aL (t.pg (aI t k h t.root)) k))⟩],some ⟨bi,0,none⟩,ci,[⟨bi,3,ci*1,flatMap cI p.kids⟩]⟩:aA))) rfl an rfl rfl ot rfl rfl ot rfl rfl sizeOf90 rfl (by show 0+(aI t k h t.root).toNat*5+1+1≤(flatMap gO L).length;rw[cq ga];omega) (by show(L.flatMap gO).set (0+(aI t k h t.root).toNat*5+1) _=_;rw[Nat.zero_add];exact vL ga w7 hj (by rw[←ho];show gO (⟨{p with keys:=(p.keys.eraseIdx (aL (t.pg (aI t k h t.root)) k))},some ⟨bk,0,none⟩,ck,[⟨bk,49,ck*1,flatMap cK (p.keys.eraseIdx (aL (t.pg (aI t k h t.root)) k))⟩],some ⟨bi,0,none⟩,ci,[⟨bi,3,ci*1,flatMap cI p.kids⟩]⟩:aA)=(gO (⟨p,some ⟨bk,0,none⟩,ck,[⟨bk,49,ck*1,flatMap cK p.keys⟩],some ⟨bi,0,none⟩,ci,[⟨bi,3,ci*1,flatMap cI p.kids⟩]⟩:aA)).set 1 _;unfold gO;rw[length_eraseIdx_of_lt ha];rfl)) ig ?_;refine eA ?_;refine aD 2 ?_
  refine OD.storeAt (k:=3) (cs':=flatMap gO (L.set (aI t k h t.root).toNat (⟨(ke p (aL (t.pg (aI t k h t.root)) k)),some ⟨bk,0,none⟩,ck,[⟨bk,49,ck*1,flatMap cK (p.keys.eraseIdx (aL (t.pg (aI t k h t.root)) k))⟩],some ⟨bi,0,none⟩,ci,[⟨bi,3,ci*1,flatMap cI (p.kids.eraseIdx (aL (t.pg (aI t k h t.root)) k))⟩]⟩:aA))) an rfl rfl ot rfl rfl ot rfl rfl sizeOf91 rfl (by show 0+(aI t k h t.root).toNat*5+2+1≤(flatMap gO (L.set (aI t k h t.root).toNat (⟨{p with keys:=(p.keys.eraseIdx (aL (t.pg (aI t k h t.root)) k))},some ⟨bk,0,none⟩,ck,[⟨bk,49,ck*1,flatMap cK (p.keys.eraseIdx (aL (t.pg (aI t k h t.root)) k))⟩],some ⟨bi,0,none⟩,ci,[⟨bi,3,ci*1,flatMap cI p.kids⟩]⟩:aA))).length;rw[cq ga,length_set];omega) (by show(flatMap gO (L.set (aI t k h t.root).toNat (⟨{p with keys:=(p.keys.eraseIdx (aL (t.pg (aI t k h t.root)) k))},some ⟨bk,0,none⟩,ck,[⟨bk,49,ck*1,flatMap cK (p.keys.eraseIdx (aL (t.pg (aI t k h t.root)) k))⟩],some ⟨bi,0,none⟩,ci,[⟨bi,3,ci*1,flatMap cI p.kids⟩]⟩:aA))).set (0+(aI t k h t.root).toNat*5+2) _=_;rw[Nat.zero_add,vL ga (a':=(⟨(ke p (aL (t.pg (aI t k h t.root)) k)),some ⟨bk,0,none⟩,ck,[⟨bk,49,ck*1,flatMap cK (p.keys.eraseIdx (aL (t.pg (aI t k h t.root)) k))⟩],some ⟨bi,0,none⟩,ci,[⟨bi,3,ci*1,flatMap cI (p.kids.eraseIdx (aL (t.pg (aI t k h t.root)) k))⟩]⟩:aA)) w7 xo (by rw[getElem_set_self];show gO (⟨(ke p (aL (t.pg (aI t k h t.root)) k)),some ⟨bk,0,none⟩,ck,[⟨bk,49,ck*1,flatMap cK (p.keys.eraseIdx (aL (t.pg (aI t k h t.root)) k))⟩],some ⟨bi,0,none⟩,ci,[⟨bi,3,ci*1,flatMap cI (p.kids.eraseIdx (aL (t.pg (aI t k h t.root)) k))⟩]⟩:aA)=(gO (⟨{p with keys:=(p.keys.eraseIdx (aL (t.pg (aI t k h t.root)) k))},some ⟨bk,0,none⟩,ck,[⟨bk,49,ck*1,flatMap cK (p.keys.eraseIdx (aL (t.pg (aI t k h t.root)) k))⟩],some ⟨bi,0,none⟩,ci,[⟨bi,3,ci*1,flatMap cI p.kids⟩]⟩:aA)).set 2 _;unfold gO ke;simp only[];rw[length_eraseIdx_of_lt pF];rfl),set_set]) ?_
  have vt:(⟨bk,49,ck*1,flatMap cK (p.keys.eraseIdx (aL (t.pg (aI t k h t.root)) k))⟩::⟨bi,3,ci*1,flatMap cI (p.kids.eraseIdx (aL (t.pg (aI t k h t.root)) k))⟩::((L.eraseIdx (aI t k h t.root).toNat).flatMap bO)).Perm ((L.set (aI t k h t.root).toNat (⟨(ke p (aL (t.pg (aI t k h t.root)) k)),some ⟨bk,0,none⟩,ck,[⟨bk,49,ck*1,flatMap cK (p.keys.eraseIdx (aL (t.pg (aI t k h t.root)) k))⟩],some ⟨bi,0,none⟩,ci,[⟨bi,3,ci*1,flatMap cI (p.kids.eraseIdx (aL (t.pg (aI t k h t.root)) k))⟩]⟩:aA)).flatMap bO):=(qC bO hj (⟨(ke p (aL (t.pg (aI t k h t.root)) k)),some ⟨bk,0,none⟩,ck,[⟨bk,49,ck*1,flatMap cK (p.keys.eraseIdx (aL (t.pg (aI t k h t.root)) k))⟩],some ⟨bi,0,none⟩,ci,[⟨bi,3,ci*1,flatMap cI (p.kids.eraseIdx (aL (t.pg (aI t k h t.root)) k))⟩]⟩:aA)).symm;refine OD.perm (Perm.cons _ (Perm.cons _ (Perm.cons _ (Perm.cons _ vt)))) ?_;refine aj 58 [4,7] ?_;refine aC 1 ?_;refine aN 1 [_,_] sizeOf46 ?_;refine aj 58 [4,5] ?_
  refine aJ ([⟨bx,93,cap*5,flatMap gO (L.set (aI t k h t.root).toNat (⟨(ke p (aL (t.pg (aI t k h t.root)) k)),some ⟨bk,0,none⟩,ck,[⟨bk,49,ck*1,flatMap cK (p.keys.eraseIdx (aL (t.pg (aI t k h t.root)) k))⟩],some ⟨bi,0,none⟩,ci,[⟨bi,3,ci*1,flatMap cI (p.kids.eraseIdx (aL (t.pg (aI t k h t.root)) k))⟩]⟩:aA))⟩]++(L.set (aI t k h t.root).toNat (⟨(ke p (aL (t.pg (aI t k h t.root)) k)),some ⟨bk,0,none⟩,ck,[⟨bk,49,ck*1,flatMap cK (p.keys.eraseIdx (aL (t.pg (aI t k h t.root)) k))⟩],some ⟨bi,0,none⟩,ci,[⟨bi,3,ci*1,flatMap cI (p.kids.eraseIdx (aL (t.pg (aI t k h t.root)) k))⟩]⟩:aA)).flatMap bO) ?_;unfold qP;rw[if_pos hz,if_pos iJ];refine⟨_,rfl,L.set (aI t k h t.root).toNat (⟨(ke p (aL (t.pg (aI t k h t.root)) k)),some ⟨bk,0,none⟩,ck,[⟨bk,49,ck*1,flatMap cK (p.keys.eraseIdx (aL (t.pg (aI t k h t.root)) k))⟩],some ⟨bi,0,none⟩,ci,[⟨bi,3,ci*1,flatMap cI (p.kids.eraseIdx (aL (t.pg (aI t k h t.root)) k))⟩]⟩:aA),some ⟨bx,0,none⟩,cap,_,by rw[length_set];rfl,bI qZ rf,fun x hx=>?_,?_,rfl⟩
  ·rcases mem_or_eq_of_mem_set hx with hx|rfl
   ·exact aS x hx
   exact⟨bI (by show(p.keys.eraseIdx (aL (t.pg (aI t k h t.root)) k)).length≤ck;rw[length_eraseIdx_of_lt ha];omega) xz,bI (by show(p.kids.eraseIdx (aL (t.pg (aI t k h t.root)) k)).length≤ci;rw[length_eraseIdx_of_lt pF];omega) Ga⟩
  rw[map_set,hL];show _=t.af.set (aI t k h t.root).toNat (ke (t.pg (aI t k h t.root)) (aL (t.pg (aI t k h t.root)) k));rw[←gG]):p:=h
theorem z10(h:p:=by
  refine AD.one (i:=12) ay ?_;refine dN 0 [_,_,_,_,_,_,_,_,_,_,_,_] sizeOf42 ?_;refine VE [(1,_),(2,_),(3,_)] [⟨b3,42,12,[_,_,_,_,_,_,_,_,_,_,_,_]⟩,⟨b2,42,12,[_,_,_,_,_,_,_,_,_,_,_,_]⟩,⟨b1,78,14,[_,_,_,_,_,_,_,_,_,_,_,_,_,_]⟩] ?_;refine AD.done ay ?_;exact⟨rfl,_,trivial,Wk.refl _⟩):p:=h
theorem LZ(h:p:=by
  refine AD.one (i:=15) ay ?_;refine bg.dZ (ls:=L) (new:=[(⟨(t.af[i]'aa),ij,ik,Sy,lH,lI,Sz⟩:aA)]) (Sq:=Sx) ga uK rfl an rfl rfl underlying44 YD rfl w7 ot dU (Pv (A:=[_,_,_])) ot bq mZ nc (fun Gb Fz ag5 ag6=>?_);refine AD.perm (aaW (S3:=[⟨Gb,93,Fz*5,flatMap gO (L++[(⟨(t.af[i]'aa),ij,ik,Sy,lH,lI,Sz⟩:aA)])⟩]) (A:=[_,_,_])) ?_;refine AD.perm (S':=⟨b5,93,5,cP (t.af[i]'aa)⟩::⟨b3,46,2,[.v (.slice dK L.length cY),.v (.int .i64 t.root)]⟩::⟨b2,46,2,[.v (.slice none 0 0),.v (.int .i64 0)]⟩::([⟨Gb,93,Fz*5,flatMap gO (L++[(⟨(t.af[i]'aa),ij,ik,Sy,lH,lI,Sz⟩:aA)])⟩]++(L++[(⟨(t.af[i]'aa),ij,ik,Sy,lH,lI,Sz⟩:aA)]).flatMap bO)) (iv fun iU=>by rw[Q5];simp only[bO,map_append,map_cons,map_nil,sum_append,sum_cons,sum_nil];omega) ?_;refine eA ?_;refine aD 1 ?_;refine aN 1 [_,_] sizeOf44 ?_;refine aj 51 [2,3,13,14,15] ?_;refine cj [2,3,13,14,15] ?_;refine⟨((i+1),(L++[(⟨(t.af[i]'aa),ij,ik,Sy,lH,lI,Sz⟩:aA)]),(some ⟨Gb,0,none⟩),Fz,[⟨Gb,93,Fz*5,flatMap gO (L++[(⟨(t.af[i]'aa),ij,ik,Sy,lH,lI,Sz⟩:aA)])⟩]),_,cx,aM,w4,vu,jE,(bI ag5 ag6),rfl⟩):p:=h
theorem z12(h:p:=by
  refine CD.perm (dV (A:=[_,_])) ?_;refine dL 2 ?_;first|refine bN (DF (n:=st.length) (k:=(take (st.length-(bP ops[i].k).toNat) st).length) (cs:=st.flatMap cI) rfl ot rfl ⟨_,_,ot,by rw[length_take];omega⟩ runUnderlying91 sizeOf3 oH nD) ?_|refine OD.still an rfl (DF (n:=st.length) (k:=(take (st.length-(bP ops[i].k).toNat) st).length) (cs:=st.flatMap cI) rfl ot rfl ⟨_,_,ot,by rw[length_take];omega⟩ runUnderlying91 sizeOf3 oH (bI (e:=3) (g:=cI) (ls:=st) wJ wu)) ?_
  refine aD 1 ?_;refine ee (bZ 0 [_]) [.int .i64 0] [_] zeroValue3 runUnderlying91 sizeOf3 (fun zS=>?_);refine fG 0 58 1 1 ?_;refine OD.dZ (ls:=(take (st.length-(bP ops[i].k).toNat) (st))) (new:=[(iR l ops[i] (fb 0 ops[i].k st) (eW 0 ops[i].k st)).1]) (Sq:=Bz) ey nr an rfl rfl underlying91 Zv rfl w7 ot Bf (dx (A:=[_,_])) ot bq vp gU (fun sE rV BA BB=>?_);refine OD.perm (dV (S1:=[⟨sE,3,rV*1,flatMap cI ((take (st.length-(bP ops[i].k).toNat) (st))++[(iR l ops[i] (fb 0 ops[i].k st) (eW 0 ops[i].k st)).1])⟩]) (A:=[_,_])) ?_;refine aj 64 [1,6,7,16,17,18] ?_;refine cj [1,6,7,16,17,18] ?_;refine⟨((i+1),(st.take (st.length-(bP ops[i].k).toNat)++[(iR l ops[i] (fb 0 ops[i].k st) (eW 0 ops[i].k st)).1]),(some ⟨sE,0,none⟩),rV,[⟨sE,3,rV*1,flatMap cI ((take (st.length-(bP ops[i].k).toNat) (st))++[(iR l ops[i] (fb 0 ops[i].k st) (eW 0 ops[i].k st)).1])⟩]),_,cx,(aM (h:=by repeat (first|exact trivial|refine⟨F2,?_⟩))),w4,(by rw[sF];omega),nE,(hinv.trans (Q4 aa hz)),(bw.cast (bI BA BB) (by rfl)),rfl⟩):p:=h
theorem VF(h:p:=by
  refine pG 13 rfl ?_;refine pG 16 rfl ?_;refine AD.two (i:=14) (j:=17) ay ?_ ?_
  ·refine bg.skip rfl (mj rfl rfl rfl lk ji) rfl ?_;refine AD.two (i:=15) (j:=17) ay ?_ ?_
   ·refine bg.skip rfl (mj rfl rfl rfl lk ji) rfl ?_;refine AD.one (i:=17) ay ?_;refine bg.skip rfl (mj rfl rfl rfl lk ji) rfl ?_;refine pG 18 rfl ?_;refine pG 19 rfl ?_;refine cr 20 rfl u4 ?_;refine eA ?_;refine bf [3] ?_;refine ae [52] ?_;refine eC ?_;refine ae [2] ?_;refine eJ ?_;refine⟨vi ?_,rfl⟩;try simp only[uF] at *
    simp only[tD,nO];try simp_all
    try omega
   refine bg.skip rfl (mj rfl rfl rfl lk ji) rfl ?_;refine pG 18 rfl ?_;refine AD.one (i:=15) ay ?_;refine bg.skip rfl (mj rfl rfl rfl lk ji) rfl ?_;refine pG 19 rfl ?_;refine cr 20 rfl u4 ?_;refine eA ?_;refine bf [3] ?_;refine ae [52] ?_;refine eC ?_;refine ae [2] ?_;refine eJ ?_;refine⟨vi ?_,rfl⟩;try simp only[uF] at *
   simp only[tD,nO];try simp_all
   try omega
  refine bg.skip rfl (mj rfl rfl rfl lk ji) rfl ?_;refine pG 18 rfl ?_;refine AD.one (i:=14) ay ?_;refine bg.skip rfl (mj rfl rfl rfl lk ji) rfl ?_;refine AD.one (i:=15) ay ?_;refine bg.skip rfl (mj rfl rfl rfl lk ji) rfl ?_;refine pG 19 rfl ?_;refine cr 20 rfl u4 ?_;refine eA ?_;refine bf [3] ?_;refine ae [52] ?_;refine eC ?_;refine ae [2] ?_;refine eJ ?_;refine⟨vi ?_,rfl⟩;try simp only[uF] at *
  simp only[tD,nO];try simp_all
  try omega):p:=h
theorem vv(h:p:=by
  refine⟨vi ?_,rfl⟩;first|exact hf.symm|(rw[hf,hx,Pw aa qh (by first|assumption|decide)];done)|(rw[hf,ff,if_pos (by simpa using kY)];done)|(rw[hf,ff,if_neg (by simpa using kY)];done)):p:=h
theorem Gc(h:p:=by
  refine⟨vb (D9 fun hp=>?_),rfl⟩;have g1:=hp.eK;have g2:=hp.hlen;have g3:=hp.wK;have g4:=hp.wv;have g5:=hp.wL;have g6:=hp.leaf;have g7:=fun h=>(hp.node h).1;have g8:=fun h (e:p.keys.length=0)=>(hp.node h).2 (length_eq_zero_iff.1 e);clear hp;first|omega|(rw[afC g5] at az;cases az;done)|(have:=g6 qQ;omega)|(have fF:p.leaf=false:=(by simpa using tN);have:=g7 fF;omega)|(have fF:p.leaf=false:=(by simpa using tN);exact g8 fF w4)):p:=h
theorem Ge(h:p:=by
  have rh:¬h<bP l[i].k:=(by simpa using eL)
  have aS:e9 h l[i]=0:=(by unfold e9;rw[if_neg dI,if_neg uc,if_neg uS,if_neg jQ,if_neg rh])
  refine gW [3,11,12,13] ?_;refine cU (yx l[i].k) ?_;refine bH ?_;refine cj [3,11,12,13] ?_;refine⟨((i+1),(h+(1-bP l[i].k))),_,cx,aM,w4,(by rw[hx];exact Px aa aS),w4,(by have:=s9 l[i].k;omega),rfl⟩):p:=h
theorem VG(h:p:=by
  have L0:((bn[bn.length-1].k==6) || !(((dM (lS key) (bn.take 2))==0)==nt))=true:=(by first|rw[JS,Bool.true_or]|rw[eS,Bool.or_true])
  have Cj:(fV key (f+1) ops (lo,hi))=rP (fS [bn[(dM gE (bn.take 2)).toNat].v]).1 b1:=(by rw[TT];unfold u5;rw[show((bn[bn.length-1].k==6)||((dM (lS key) (bn.take 2))==0)!=nt)=true from L0,←iV];rfl)
  refine aC 7 ?_;refine bS 141 (fun afD aek=>?_) (fun afD aek=>?_)
  ·refine bf [0,11,149] ?_;refine eC ?_;have sG:b1.2.length=0∨compareBytes (fS [bn[(dM gE (bn.take 2)).toNat].v]).1 b1.2<0:=(by first|exact .inl w4|exact .inr (by simpa using eL))
   have sH:(fV key (f+1) ops (lo,hi))=(b1.1,(fS [bn[(dM gE (bn.take 2)).toNat].v]).1):=(by rw[Cj];unfold rP;rw[if_pos sG])
   refine dL 2 ?_;refine dR call59 (HW (fS [bn[(dM gE (bn.take 2)).toNat].v]).1 w4) ?_;refine aD 2 ?_;refine aN 0 [_,_] sizeOf49 ?_;refine aj 155 [] ?_;refine aJ [⟨b0,_,_,_⟩] ?_;refine⟨rfl,?_⟩;first|rw[sH]|rw[aT]
  refine aD 5 ?_;refine OD.gI gL rfl rfl rfl call35 (Q6 (fS [bn[(dM gE (bn.take 2)).toNat].v]).1 b1.2) ⟨ot,ot,trivial⟩ ?_;refine aj 155 [0,11,149] ?_;refine aq (fun eL gg=>?_) (fun eL gg=>?_)
  ·have sG:b1.2.length=0∨compareBytes (fS [bn[(dM gE (bn.take 2)).toNat].v]).1 b1.2<0:=(by first|exact .inl w4|exact .inr (by simpa using eL))
   have sH:(fV key (f+1) ops (lo,hi))=(b1.1,(fS [bn[(dM gE (bn.take 2)).toNat].v]).1):=(by rw[Cj];unfold rP;rw[if_pos sG])
   refine dL 2 ?_;refine dR call59 (HW (fS [bn[(dM gE (bn.take 2)).toNat].v]).1 w4) ?_;refine aD 2 ?_;refine aN 0 [_,_] sizeOf49 ?_;refine aj 155 [] ?_;refine aJ [⟨b0,_,_,_⟩] ?_;refine⟨rfl,?_⟩;first|rw[sH]|rw[aT]
  have sG:¬(b1.2.length=0∨compareBytes (fS [bn[(dM gE (bn.take 2)).toNat].v]).1 b1.2<0):=(by (have VH:¬compareBytes (fS [bn[(dM gE (bn.take 2)).toNat].v]).1 b1.2<0:=by simpa using eL);omega)
  have sH:(fV key (f+1) ops (lo,hi))=b1:=(by rw[Cj];unfold rP;rw[if_neg sG])
  refine aJ [⟨b0,_,_,_⟩] ?_;refine⟨rfl,?_⟩;first|rw[sH]|rw[aT]):p:=h
theorem VJ(h:p:=by
  refine aC 1 ?_;refine OD.wk (Wk.dN (n:=19) (l':=[(0,_),(1,_)]) (S':=S) rfl mE fg) ?_;refine OD.nil ?_;refine aC 3 ?_;refine OD.wk (Wk.dN (n:=19) (l':=[(0,_),(1,_),(7,_),(8,_)]) (S':=S) rfl mE fg) ?_;refine OD.nil ?_;refine eB [0,1,7] (fun aW _ (k:Nat) aK=>(k≤ls.length)∧(∀x∈ls.take k,p x=false)∧aK=(⟨19,(8,.v (.int .i64 (k:Nat)))::aW,S⟩:St)) (fun (k:Nat)=>ls.length-k) 0 ⟨Nat.zero_le _,bq,rfl⟩ ?_;rintro k _ ⟨hk,h0,rfl⟩;refine aC 1 ?_;refine OD.wk (Wk.dN (n:=19) (l':=[(0,_),(1,_),(7,_),(8,_),(9,_)]) (S':=S) rfl mE fg) ?_;refine OD.nil ?_;refine aq (fun az aH=>?_) (fun az aH=>?_)
  ·refine aC 2 ?_;refine OD.wk (Wk.dN (n:=19) (l':=[(0,_),(1,_),(5,_),(7,_),(8,_)]) (S':=S) rfl mE fg) ?_;refine OD.nil ?_;refine aC 5 ?_;refine OD.j4 (f:=g) (args:=[_]) an rfl rfl (tc rfl lk) fi (hp (ls[k]'w4) (getElem_mem _)) rfl ⟨tc rfl lk,trivial⟩ (HX _) ?_;rintro _ S2 ⟨rfl,iq⟩;rw[iq];clear iq;refine OD.wk (Wk.dN (n:=19) (l':=[(0,_),(1,_),(5,_),(7,_),(8,_),(16,_)]) (S':=S) rfl mE fg) ?_;refine OD.nil ?_;refine aq (fun aG aV=>?_) (fun aG aV=>?_)
   ·refine aC 2 ?_;refine OD.wk (Wk.dN (n:=19) (l':=[(4,_)]) (S':=S) rfl mE fg) ?_;refine OD.nil ?_;refine aJ S ?_;refine⟨?_,rfl⟩;first|(rw[vQ w4 h0 tL])|(rw[uz w4 h0])
   refine dL 2 ?_;refine OD.wk (Wk.dN (n:=19) (l':=[(0,_),(1,_),(7,_),(8,_)]) (S':=S) rfl mE fg) ?_;refine OD.nil ?_;refine⟨k+1,_,cx,aM,w4,(by rw[take_succ_eq_append_getElem w4];intro x hx;rcases mem_append.1 hx with hx|hx;exact h0 x hx;simp only[mem_singleton] at hx;subst hx;assumption),rfl⟩
  refine aC 1 ?_;refine OD.wk (Wk.dN (n:=19) (l':=[(4,_)]) (S':=S) rfl mE fg) ?_;refine OD.nil ?_;refine aJ S ?_;refine⟨?_,rfl⟩;first|(rw[vQ w4 h0 tL])|(rw[uz w4 h0])
  ):p:=h
theorem L1(h:p:=by
  refine ae [2] ?_;refine eJ ?_;refine⟨vi ?_,rfl⟩;try simp only[uF] at *
  simp only[tD,nO];try simp_all
  try omega):p:=h
theorem z20(h:p:=by
  refine cL [1,3] (Py hm hw s.names (by have:=hf.ok.2.2.1;omega) hf.n) ?_;refine ae [1,3,36] ?_;refine aq (fun bC bY=>?_) (fun bC bY=>?_)
  ·refine ae [2] ?_;refine eJ ?_;refine⟨vi ?_,rfl⟩;unfold oC iW;simp_all;all_goals (try (intros;(repeat' split)<;>first|rfl|omega))
  refine cL [1,4] (DR hm hw s.ah (fun o h=>(hf.w o h).1)) ?_;refine ae [1,4,42] ?_;refine aq (fun cy de=>?_) (fun cy de=>?_)
  ·refine ae [2] ?_;refine eJ ?_;refine⟨vi ?_,rfl⟩;unfold oC iW;simp_all;all_goals (try (intros;(repeat' split)<;>first|rfl|omega))
  refine ae [1,46] ?_;refine aq (fun dO eo=>?_) (fun dO eo=>?_)
  ·refine cL [2] (td hm hw s.order hf.o) ?_;refine eJ ?_;refine⟨vi ?_,rfl⟩;unfold oC iW;simp_all;all_goals (try (intros;(repeat' split)<;>first|rfl|omega))
  refine ae [2] ?_;refine eJ ?_;refine⟨vi ?_,rfl⟩;unfold oC iW;simp_all;all_goals (try (intros;(repeat' split)<;>first|rfl|omega))):p:=h
theorem z21(h:p:=by
  refine aj 76 [11,12] ?_;refine ae [12,74] ?_;refine aq (fun pu tF=>?_) (fun pu tF=>?_)
  ·refine ae [8,9] ?_;refine aJ [] ?_;refine⟨?_,rfl⟩;unfold iR okF wM;simp_all
  refine ae [8,9] ?_;refine aJ [] ?_;refine⟨?_,rfl⟩;unfold iR okF wM;simp_all):p:=h
theorem z22(h:p:=by
  refine ae [8,9] ?_;refine aJ [] ?_;refine⟨?_,rfl⟩;unfold iR okF wM;simp_all):p:=h
theorem L4(h:p:=by
  refine⟨vi ?_,rfl⟩;try simp only[uF] at *
  simp only[tD,nO];try simp_all
  try omega):p:=h
theorem z24(h:p:=by
  refine eJ ?_;refine⟨vi ?_,rfl⟩;unfold oC iW;simp_all;all_goals (try (intros;(repeat' split)<;>first|rfl|omega))):p:=h
theorem VK(h:p:=by
  refine⟨vi ?_,rfl⟩;unfold oC iW;simp_all;all_goals (try (intros;(repeat' split)<;>first|rfl|omega))):p:=h
theorem VL(h:p:=by
  skip;refine l8 20 [0,2,3,8,9,59,64,69,74] ?_;refine aQ 4 ?_ (h:=by exact(cJ (mk:=Op.load 3) rfl ot (uT (g:=Ph.cs) (ls:=ps) (i:=k) (j:=1) yH isAgg3 aa rfl)));refine aQ 4 ?_ (h:=by exact(cJ (mk:=Op.load 3) rfl ot (uT (g:=Ph.cs) (ls:=ps) (i:=k) (j:=2) yH isAgg3 aa rfl)));refine aQ 4 ?_ (h:=by exact(cJ (mk:=Op.load 3) rfl ot (uT (g:=Ph.cs) (ls:=ps) (i:=k) (j:=3) yH isAgg3 aa rfl)));refine aQ 4 ?_ (h:=by exact(cJ (mk:=Op.load 73) rfl ot (uT (g:=Ph.cs) (ls:=ps) (i:=k) (j:=4) yH isAgg73 aa rfl)));refine jR ?_;refine aD 1 ?_;refine OD.call an rfl rfl rfl call25 (VC.VM (S5 hm hw ht hG (⟨2,(ps[k]'aa).t,(ps[k]'aa).a,(ps[k]'aa).b,(ps[k]'aa).row,.mk 0 0 ⟨#[]⟩ [],.mk 0 0 ⟨#[]⟩ [],false⟩:Ph) ⟨(show(-9223372036854775808:Int)≤2∧(2:Int)≤9223372036854775807 by decide),ri.t,ri.a,ri.b,ri.row,S6,S6⟩) (args':=[.agg [.v (.int .i64 2),.v (.int .i64 (ps[k]'aa).t),.v (.int .i64 (ps[k]'aa).a),.v (.int .i64 (ps[k]'aa).b),.list 3 ((ps[k]'aa).row.flatMap cV) (ps[k]'aa).row.length,.v (.int .i64 0),.v (.int .i64 0),.v (.string ⟨#[]⟩),.v (.slice none 0 0),.v (.int .i64 0),.v (.int .i64 0),.v (.string ⟨#[]⟩),.v (.slice none 0 0),.v (.bool false)]]) ⟨Jo ⟨eR,eR,eR,eR,eR,eR,eR,eR,gd,eR,eR,eR,gd,eR,trivial⟩,trivial⟩) ⟨ot,trivial⟩ (eN _) ?_;rintro _ _ ⟨s',rfl,rfl,ag7,ag8⟩;have hk9:s'.kind=3:=ag8.trans (show(1:Int)+dX 2 6=3 by decide)
  have ag9:¬s'.kind=1∧¬s'.kind=2:=(by omega)
  refine aN 0 [_,_,_,_,_,_,_,_,_,_,_,_] sizeOf42 ?_;refine aj 88 [0,2,3,8,9] ?_;refine⟨_,aM,s',ag7,ag9,rfl⟩):p:=h
theorem VN(h:p:=by
  refine bS 103 (fun Bg ael=>?_) (fun Bg ael=>?_)
  ·refine aD 3 ?_;refine OD.gI gL rfl rfl rfl call35 (we p.keys[i] p.high) ⟨ot,ot,trivial⟩ ?_;refine aj 132 [1,2,73,74,75,110] ?_;refine aq (fun bC bY=>?_) (fun bC bY=>?_)
   ·have nU:¬uU p i:=fun hk=>by obtain⟨k1,k2,k3⟩:=hk aa;unfold bF at k2 k3;first|(rw[k1] at wN;cases wN;done)|(have:=k2 w4;omega)|(have:=k3 (Jp Bg);have hx:=of_decide_eq_true bC;omega)
    refine ae [4] ?_;refine aJ [] ?_;refine⟨vb (D9 fun hp=>?_),rfl⟩;exact nU (Q7 hp i)
   have hK:uU p i:=fun _=>⟨by simpa using wN,fun h0=>by unfold bF;first|(exfalso;omega)|(have hx:=of_decide_eq_false zb;omega),fun hne=>by first|exact absurd (len_nil Bg) hne|(unfold bF;have hx:=of_decide_eq_false bC;omega)⟩
   refine cj [1,2,73,74,75] ?_;refine⟨(i+1),_,cx,aM,w4,(fun j hj=>by rcases Nat.lt_or_ge j i with h|h;exact xA j h;obtain rfl:j=i:=w4;exact hK),rfl⟩
  refine aj 132 [1,2,73,74,75,110] ?_;refine fL ?_;have hK:uU p i:=fun _=>⟨by simpa using wN,fun h0=>by unfold bF;first|(exfalso;omega)|(have hx:=of_decide_eq_false zb;omega),fun hne=>by first|exact absurd (len_nil Bg) hne|(unfold bF;have hx:=of_decide_eq_false bC;omega)⟩
  refine cj [1,2,73,74,75] ?_;refine⟨(i+1),_,cx,aM,w4,(fun j hj=>by rcases Nat.lt_or_ge j i with h|h;exact xA j h;obtain rfl:j=i:=w4;exact hK),rfl⟩):p:=h
theorem z28(h:p:=by
  refine aj 69 [4] ?_;refine aJ [_] ?_;first|exact gh.cast (gh.mk (g:=cO) (e:=61) (sz:=5) (ls:=[(⟨1,tO n s,⟨#[]⟩⟩:aX)]) (bI (ls:=[(⟨1,tO n s,⟨#[]⟩⟩:aX)]) (Nat.le_refl _) (show 1≤maxLen by decide))) (by unfold mo rQ;rw[if_neg w4])|exact gh.cast (gh.mk (g:=cO) (e:=61) (sz:=5) (ls:=[(⟨kk,tO n s,⟨#[]⟩⟩:aX)]) (bI (ls:=[(⟨kk,tO n s,⟨#[]⟩⟩:aX)]) (Nat.le_refl _) (show 1≤maxLen by decide))) (by unfold mo rQ;rw[if_neg w4,show kk=1 by omega])|exact gh.cast (gh.mk (g:=cO) (e:=61) (sz:=5) (ls:=[(⟨kk,bQ,rR (j:Int)⟩:aX)]) (bI (ls:=[(⟨kk,bQ,rR (j:Int)⟩:aX)]) (Nat.le_refl _) (show 1≤maxLen by decide))) (by unfold mo wz;rw[if_pos w4,hj,show kk=2 by omega])):p:=h
theorem VO(h:p:=by
  have sI:((bn[bn.length-1].k==6)||(((dM (lS key) (bn.take 2))==0)==nt))=true:=(by first|rw[JT,Bool.true_or]|rw[cy,Bool.or_true])
  refine cL [0,8,9,11,13,122] (Q6 (fS [bn[(dM gE (bn.take 2)).toNat].v]).1 lo) ?_;refine aq (fun dO eo=>?_) (fun dO eo=>?_)
  ·have xB:compareBytes (fS [bn[(dM gE (bn.take 2)).toNat].v]).1 lo>0:=(by simpa using dO)
   have Ck:((fS [bn[(dM gE (bn.take 2)).toNat].v]).1,hi)=(bif (bn[bn.length-1].k==6)||(((dM (lS key) (bn.take 2))==0)==nt) then nV (fS [bn[(dM gE (bn.take 2)).toNat].v]).1 (lo,hi) else (lo,hi)):=(by rw[sI];show _=nV _ _;unfold nV;rw[if_pos xB])
   refine dL 2 ?_;refine dR call59 (HW (fS [bn[(dM gE (bn.take 2)).toNat].v]).1 w4) ?_;refine aD 2 ?_;refine aN 1 [_,_] sizeOf49 ?_;refine aj 155 [0,8,9,11,13] ?_;refine⟨_,aM,((fS [bn[(dM gE (bn.take 2)).toNat].v]).1,hi),Ck,(by first|exact dS|exact eT),eu,rfl⟩
  have xB:¬compareBytes (fS [bn[(dM gE (bn.take 2)).toNat].v]).1 lo>0:=(by simpa using dO)
  have Ck:(lo,hi)=(bif (bn[bn.length-1].k==6)||(((dM (lS key) (bn.take 2))==0)==nt) then nV (fS [bn[(dM gE (bn.take 2)).toNat].v]).1 (lo,hi) else (lo,hi)):=(by rw[sI];show _=nV _ _;unfold nV;rw[if_neg xB])
  refine CD.skip ?_;refine⟨_,aM,(lo,hi),Ck,(by first|exact dS|exact eT),eu,rfl⟩):p:=h
theorem VQ(h:p:=by
  refine aC 1 ?_;refine OD.j4 (f:=104) (args:=[_]) (all:=[_,_,_]) (Sf:=[_,_]) (R:=[]) an rfl rfl ot call104 (JU r k n d s ts 0 b2 b3 IH gi iK hs hd1 hd w7) rfl ⟨bJ,trivial⟩ (Perm.refl _) ?_;rintro _ _ ⟨L5,⟨anL,anM,rfl,aha⟩,rfl⟩;refine OD.perm (Pz (A:=[_,_])) ?_;refine aD 2 ?_;refine ee (bZ 0 [_]) [.int .i64 0,.int .i64 0,.int .i64 0,.string ⟨#[]⟩,.string ⟨#[]⟩] [_,_,_,_,_] zeroValue61 runUnderlying40 sizeOf61 (fun zS=>?_);refine fG 0 58 5 1 ?_;refine OD.dZ (ls:=(gw r ts n s 0)) (new:=[(⟨kk,bQ,⟨#[]⟩⟩:aX)]) (Sq:=L5) mO Jq an rfl rfl underlying40 He rfl w7 ot aha (dx (A:=[_,_])) ot bq zF zF (fun sE rV BA BB=>?_);refine OD.perm (dV (S1:=[⟨sE,61,rV*5,flatMap cO ((gw r ts n s 0)++[(⟨kk,bQ,⟨#[]⟩⟩:aX)])⟩]) (A:=[_,_])) ?_;refine aj 69 [4] ?_;refine aJ [⟨sE,61,rV*5,flatMap cO ((gw r ts n s 0)++[(⟨kk,bQ,⟨#[]⟩⟩:aX)])⟩] ?_;exact gh.cast (gh.mk (bI BA BB)) (by rw[vR,kZ,if_neg w4,if_neg w4,if_pos w4];rfl)):p:=h
theorem z31(h:p:=by
  have fy:uV eD y=false:=(by unfold uV;simp_all[S8])
  refine CI.skip ?_;refine CI.region LP rfl ?_;refine bN (dB 1) ?_;refine bN (BD 0 [_,_]) ?_;refine ee (bZ 0 [_]) [.slice none 0 0,.int .i64 0] [_,_] zeroValue97 runUnderlying54 sizeOf97 (fun Gf=>?_);refine fG 0 40 2 1 ?_;refine OD.dZ (ls:=pre) (new:=[y]) (Sq:=So) Ta aem an rfl rfl underlying54 YE rfl w7 ot ho (dx (A:=[_,_,_])) ot bq F3 F3 (fun vw FB ahb ahc=>?_);refine OD.perm (dV (S1:=[⟨vw,97,FB*2,flatMap cE (pre++[y])⟩]) (A:=[_,_,_])) ?_;refine aN 1 [_] sizeOf54 ?_;refine OD.wk (Wk.dN (n:=43) (l':=[]) (S':=(⟨kL,97,2,[_,_]⟩::⟨b9,54,1,[_]⟩::⟨b5,49,1,[_]⟩::[⟨vw,97,FB*2,flatMap cE (pre++[y])⟩])) rfl rfl trivial) ?_;refine OD.nil ?_;exact⟨_,Sublist.cons _ (Sublist.refl _),(fun x hx=>by rcases mem_append.1 hx with hx|hx;exact aS x hx;rw[mem_singleton] at hx;subst hx;exact fy),(some ⟨vw,0,none⟩),FB,[⟨vw,97,FB*2,flatMap cE (pre++[y])⟩],(bI ahb ahc),rfl⟩):p:=h
theorem Gg(h:p:=by
  refine aJ [] ?_;refine⟨?_,rfl⟩;unfold jd;first|(rw[if_pos aH];first|done|rfl)|(rw[if_neg aH,if_pos dI,hj];rcases j with _|_|j<;>first|rfl|omega)|(rw[if_neg aH,if_neg aV,if_pos bz];first|done|rfl)|(rw[if_neg aH,if_neg aV,if_neg bz,if_pos w4,show -v.n=0-v.n by omega];first|done|rfl)|(rw[if_neg aH,if_neg aV,if_neg bz,if_neg w4];first|done|rfl)):p:=h
theorem VR(h:p:=by
  refine at_ rfl eU ?_;refine cr 14 rfl (c9 1 (h:=by first|exact .l (j:=a+t+1) rfl w4|exact .r (j:=a+t+1) rfl w4)) ?_;refine AD.one (i:=15) ay ?_;refine bg.storeAt (k:=0) (cs':=((Mv P B Q x (t+1)).set (a+t+1) ((Mv P B Q x (t+1))[a+t])).flatMap cI) rfl an rfl rfl ot rfl rfl ot rfl rfl sizeOf3 rfl F7 (by rw[Nat.zero_add];exact ox ey _ _ w4) ig ?_;refine eA ?_;refine aD 1 ?_;refine OD.storeAt (k:=0) (cs':=(Mv P B Q x (t)).flatMap cI) an rfl rfl ot rfl rfl ot rfl rfl sizeOf3 rfl F4 (by rw[Nat.zero_add];exact(ox ey ((Mv P B Q x (t+1)).set (a+t+1) ((Mv P B Q x (t+1))[a+t])) ((Mv P B Q x (t+1))[a+t+1]) vn).trans (congrArg (flatMap cI) (aen L6 hP w4 w4))) ?_;refine aj 220 [0,14,17] ?_;refine gW [0,14,17] ?_;refine aQ 1 ?_ (h:=by exact(cZ rfl ot bJ (fZ (r:=((a+t:Nat):Int)) LH)));refine bH ?_;refine⟨t,_,cx,aM,w4,w4,rfl⟩):p:=h
theorem VS(h:p:=by
  refine at_ rfl eU ?_;refine cr 14 rfl (c9 1 (h:=by first|exact .l (j:=a+t) rfl w4|exact .r (j:=a+t) rfl w4)) ?_;refine AD.one (i:=15) ay ?_;refine bg.storeAt (k:=0) (cs':=((Mv P B Q x (t)).set (a+t) ((Mv P B Q x (t))[a+t+1])).flatMap cI) rfl an rfl rfl ot rfl rfl ot rfl rfl sizeOf3 rfl F7 (by rw[Nat.zero_add];exact ox ey _ _ w4) ig ?_;refine eA ?_;refine aD 1 ?_;refine OD.storeAt (k:=0) (cs':=(Mv P B Q x (t+1)).flatMap cI) an rfl rfl ot rfl rfl ot rfl rfl sizeOf3 rfl F4 (by rw[Nat.zero_add];exact(ox ey ((Mv P B Q x (t)).set (a+t) ((Mv P B Q x (t))[a+t+1])) ((Mv P B Q x (t))[a+t]) vn).trans (congrArg (flatMap cI) (aeo L6 hP w4 w4))) ?_;refine aj 220 [0,10,13] ?_;refine gW [0,10,13] ?_;refine aQ 1 ?_ (h:=by exact(cZ rfl ot bJ (j3 (r:=((a+(t+1):Nat):Int)) (by rw[show(((a+t:Nat):Int)+1)=((a+(t+1):Nat):Int) by omega];exact wrap_i64 w4 w4))));refine bH ?_;refine⟨(t+1),_,cx,aM,w4,rfl⟩):p:=h
theorem VT(h:p:=by
  refine at_ rfl eU ?_;refine cr 14 rfl (c9 1 (h:=by first|exact .l (j:=j) rfl w4|exact .r (j:=j) rfl w4)) ?_;refine AD.one (i:=15) ay ?_;refine bg.storeAt (k:=0) (cs':=(k8.set j (k8[j-1]'qm)).flatMap cI) rfl an rfl rfl ot rfl rfl ot rfl rfl sizeOf3 rfl F7 (by rw[Nat.zero_add];exact ox ey _ _ qn) ig ?_;refine eA ?_;refine aD 1 ?_;refine OD.storeAt (k:=0) (cs':=((k8.set j (k8[j-1]'qm)).set (j-1) (k8[j]'qn)).flatMap cI) an rfl rfl ot rfl rfl ot rfl rfl sizeOf3 rfl F4 (by rw[Nat.zero_add];exact ox ey _ _ (by rw[length_set];exact qm)) ?_;refine aj 53 [0,1,2,3,8,9] ?_;refine gW [0,1,2,3,8,9] ?_;refine aQ 1 ?_ (h:=by exact(cZ rfl ot bJ (fZ (r:=((j-1:Nat):Int)) LJ)));refine bH ?_;refine⟨((j-1),((k8.set j (k8[j-1]'qm)).set (j-1) (k8[j]'qn))),_,cx,aM,(Zw hj hja qn qm (Ev afE)),(by simpa using zc),rfl⟩):p:=h
theorem VU(h:p:=by
  refine bS 71 (fun ahd afF=>?_) (fun ahd afF=>?_)
  ·refine bf [0,2,4,6,8,79] ?_;refine aq (fun aY bz=>?_) (fun aY bz=>?_)
   ·have rW:(bn.length≠3∨(nt=true∧bn[bn.length-1].k≠7)∨(bn[bn.length-1].k≠6∧bn[bn.length-1].k≠7)):=(by first|omega|(simp_all;omega)|simp_all)
    have mz:mQ key bn nt (lo,hi)=(lo,hi):=(by unfold mQ;rw[uL u6,if_pos rW])
    rw[mz] at aT;refine aJ [⟨b0,_,_,_⟩] ?_;refine⟨rfl,?_⟩;first|rw[sH]|rw[aT]
   have rW:¬(bn.length≠3∨(nt=true∧bn[bn.length-1].k≠7)∨(bn[bn.length-1].k≠6∧bn[bn.length-1].k≠7)):=(by first|omega|(simp_all;omega)|simp_all)
   refine CD.skip ?_;refine⟨_,aM,rW,rfl⟩
  refine bf [0,2,4,6,8,79] ?_;refine fL ?_;have rW:¬(bn.length≠3∨(nt=true∧bn[bn.length-1].k≠7)∨(bn[bn.length-1].k≠6∧bn[bn.length-1].k≠7)):=(by first|omega|(simp_all;omega)|simp_all)
  refine CD.skip ?_;refine⟨_,aM,rW,rfl⟩):p:=h
theorem z37(h:p:=by
  have rW:(bn.length≠3∨(nt=true∧bn[bn.length-1].k≠7)∨(bn[bn.length-1].k≠6∧bn[bn.length-1].k≠7)):=(by first|omega|(simp_all;omega)|simp_all)
  have mz:mQ key bn nt (lo,hi)=(lo,hi):=(by unfold mQ;rw[uL u6,if_pos rW])
  rw[mz] at aT;refine aJ [⟨b0,_,_,_⟩] ?_;refine⟨rfl,?_⟩;first|rw[sH]|rw[aT]):p:=h
theorem VV(h:p:=by
  refine ae [0] ?_;refine ae [3] ?_;refine ae [3,4] ?_;refine aq (fun az aH=>?_) (fun az aH=>?_)
  ·refine eC ?_;refine ae [2] ?_;refine aJ [] ?_;refine⟨vi ?_,rfl⟩;unfold bP;simp_all
  refine cj [3,4] ?_;refine aq (fun aG aV=>?_) (fun aG aV=>?_)
  ·refine ae [2] ?_;refine aJ [] ?_;refine⟨vi ?_,rfl⟩;unfold bP;simp_all
  refine ae [3,7] ?_;refine aq (fun aY bz=>?_) (fun aY bz=>?_)
  ·refine eC ?_;refine ae [2] ?_;refine aJ [] ?_;refine⟨vi ?_,rfl⟩;unfold bP;simp_all
  refine cj [7] ?_;refine aq (fun bC bY=>?_) (fun bC bY=>?_)
  ·refine ae [2] ?_;refine aJ [] ?_;refine⟨vi ?_,rfl⟩;unfold bP;simp_all
  refine ae [2] ?_;refine aJ [] ?_;refine⟨vi ?_,rfl⟩;unfold bP;simp_all
  ):p:=h
theorem VW(h:p:=by
  have nU:¬uU p i:=fun hk=>by obtain⟨k1,k2,k3⟩:=hk aa;unfold bF at k2 k3;first|(rw[k1] at wN;cases wN;done)|(have:=k2 w4;omega)|(have:=k3 (Jp Bg);have hx:=of_decide_eq_true bC;omega)
  refine ae [4] ?_;refine aJ [] ?_;refine⟨vb (D9 fun hp=>?_),rfl⟩;exact nU (Q7 hp i)):p:=h
theorem z40(h:p:=by
  refine aD 1 ?_;first|refine OD.cells (k:=0) (cs':=[.list 1 [] 0,_]) rfl ⟨gd,eR,trivial⟩ rfl ?_|skip
  first|refine OD.cells (k:=1) (cs':=[.list 1 [] 0,_]) rfl ⟨gd,eR,trivial⟩ rfl ?_|skip
  first|refine OD.cells (k:=1) (cs':=[.list 5 [] 0]) rfl ⟨gd,trivial⟩ rfl ?_|skip
  first|refine OD.cells (k:=2) (cs':=[.list 5 [] 0]) rfl ⟨gd,trivial⟩ rfl ?_|skip
  refine aj 46 [4,5,6] ?_;refine aJ [] ?_;rw[aT];exact⟨rfl,rfl⟩):p:=h
theorem VX(h:p:=by
  refine⟨vi ?_,rfl⟩;try simp only[uF] at *
  unfold cA;simp_all;try omega):p:=h
theorem VY(h:p:=by
  refine aJ [⟨b0,_,_,_⟩] ?_;refine⟨rfl,?_⟩;first|rw[sH]|rw[aT]):p:=h
theorem VZ(h:p:=by
  refine at_ rfl eU ?_;refine cr 20 rfl (c9 1) ?_;refine AD.one (i:=21) ay ?_;refine bg.storeAt (k:=0) (cs':=((jH l la lb i).set (la+i) ((jH l la lb i)[lb+i]'hb)).flatMap cI) rfl an rfl rfl ot rfl rfl ot rfl rfl sizeOf3 rfl F7 (by rw[Nat.zero_add];exact ox ey _ _ ha) ig ?_;refine eA ?_;refine aD 1 ?_;refine OD.storeAt (k:=0) (cs':=(jH l la lb (i+1)).flatMap cI) an rfl rfl ot rfl rfl ot rfl rfl sizeOf3 rfl F4 (by rw[Nat.zero_add];exact(ox ey ((jH l la lb i).set (la+i) ((jH l la lb i)[lb+i]'hb)) ((jH l la lb i)[la+i]'ha) (by rw[length_set];exact hb)).trans (by rw[jH,sw,mq ha,mq hb])) ?_;refine aj 38 [0,1,2,3,10] ?_;refine cj [0,1,2,3,10] ?_;refine⟨(i+1),_,cx,aM,w4,rfl⟩):p:=h
theorem n8(h:p:=by
  refine aJ [] ?_;rw[aT];exact⟨rfl,rfl⟩):p:=h
theorem V0(h:p:=by
  skip;have hz:(fR l row ops[i] (fb bQ ops[i].k st) (eW bQ ops[i].k st)).2≠0:=(by simpa using bC)
  have aT:=hinv.trans (Q8 aa hz);refine aC 2 ?_;refine aN 7 [_,_,_] sizeOf30 ?_;refine aj 64 [4,5] ?_;refine aJ [⟨br,27,1,[.list 3 (row.flatMap cV) row.length]⟩,⟨bc,38,1,[.list 2 (l.flatMap cC) l.length]⟩] ?_;rw[aT];exact⟨rfl,rfl⟩):p:=h
theorem z46(h:p:=by
  refine ae [4] ?_;refine aJ [] ?_;first|exact⟨rfl,rfl⟩|(refine⟨vi ?_,rfl⟩;unfold px;simp_all;done)|(refine⟨vi ?_,rfl⟩;unfold px;split<;>(try split)<;>simp_all<;>omega)):p:=h
theorem xC(h:p:=by
  refine aj 90 [4] ?_;refine aJ [] ?_;refine⟨vb ?_,rfl⟩;unfold lV iW;simp_all;all_goals (try (intros;omega))):p:=h
theorem V1(h:p:=by
  have ud:p.1∈ts:=(by rw[←hr.keys];exact mem_map_of_mem fH)
  refine⟨ud,?_⟩;rw[hr.at ud];have fa:∀(j:Nat) (p':Oper),k≤j→ops[j]?=some p'→p'.dst≠some p.1:=fun j p' hj Gh iL=>by
   obtain⟨e1,sI,iV,jy⟩:=Ew (by simpa using zT) Gh iL ud;have:=(wg hp ze).1 e1 sI iV;omega
  have h5:=k0.later (q:=p.1) (fun p' zU=>by
   rw[←jl] at zU;obtain⟨j,hj,rfl⟩:=mem_iff_getElem.1 zU;refine fa (k+1+j) _ w4 ?_;rw[←Array.getElem?_toList,←getElem?_drop,getElem?_eq_getElem hj])
  rw[h5,fO,if_neg (fun e1:t=p.1=>fa k o (Nat.le_refl _) ze (by rw[←e1];exact hd))]):p:=h
theorem z49(h:p:=by
  refine⟨vb ?_,rfl⟩;unfold lV iW;simp_all;all_goals (try (intros;omega))):p:=h
theorem z50(h:p:=by
  refine aJ [⟨br,27,1,[.list 3 (row.flatMap cV) row.length]⟩,⟨bc,38,1,[.list 2 (l.flatMap cC) l.length]⟩] ?_;rw[aT];exact⟨rfl,rfl⟩):p:=h
theorem z51(h:p:=by
  refine aJ [] ?_;exact⟨rfl,rfl⟩
  ):p:=h
theorem Gi(h:p:=by
  refine aJ [] ?_;rw[aT];exact⟨rfl,fun h=>by dsimp only at h;omega⟩):p:=h
theorem z53(h:p:=by
  refine aj 69 [4] ?_;refine aJ [_] ?_;first|exact gh.cast (gh.mk (g:=cO) (e:=61) (sz:=5) (ls:=[(⟨kk,tO n s,⟨#[]⟩⟩:aX)]) (bI (ls:=[(⟨kk,tO n s,⟨#[]⟩⟩:aX)]) (Nat.le_refl _) (show 1≤maxLen by decide))) (by rw[vR,kZ,if_pos w4];unfold rQ;rw[show kk=1 by omega])|exact gh.cast (gh.mk (g:=cO) (e:=61) (sz:=5) (ls:=[(⟨kk,bQ,rR (j:Int)⟩:aX)]) (bI (ls:=[(⟨kk,bQ,rR (j:Int)⟩:aX)]) (Nat.le_refl _) (show 1≤maxLen by decide))) (by rw[vR,kZ,if_neg w4,if_pos w4];unfold wz;rw[hj,show kk=2 by omega])):p:=h
theorem Gj(h:p:=by
  refine bf [2] ?_;refine eJ ?_;refine⟨vb ?_,rfl⟩;rw[Bool.eq_iff_iff];simp[vY];first|done|omega):p:=h
theorem V2(h:p:=by
  refine OD.perm (dV (A:=[])) ?_;refine aj 29 [3,8,9,10] ?_;refine cj [3,8,9,10] ?_;refine⟨((i+1),Uo,Up,V3),_,cx,(aM (h:=by repeat (first|exact trivial|refine⟨(by (repeat (first|exact fw|(apply fP;focus (first|rfl|(simp;done)|(congr 2;omega)|(apply eE;first|exact HY aa w4|exact Hs aa w4)|(apply eE;rfl)|(apply eE;simp;done)))|(apply fA;focus rfl)));done),?_⟩))),w4,(bw.cast Uq (by first|exact HY aa w4|exact Hs aa w4)),rfl⟩):p:=h
theorem L7(h:p:=by
  refine⟨vs ?_,rfl⟩;have zV:k=s.size∨6≤k:=(by omega)
  have Ks:min k s.size=k:=Nat.min_eq_left hk;simp only[length_map,length_take,ku,Ks] at *;unfold wA yQ;first|(rw[if_pos w4];done)|(rw[if_neg w4,PA hk zV h6])):p:=h
theorem V4(h:p:=by
  have hF:¬((bM t.av s.set)=0∧(fj t.av (rowAt t ((au t s.ah).1[k]'aa)) s.bE).1.k=0):=(by first|exact fun h=>(show ¬(fj t.av (rowAt t ((au t s.ah).1[k]'aa)) s.bE).1.k=0 from by simpa using eS) h.2|exact fun h=>absurd h.1 (by simpa using zb))
  have nE:(iF t (bM t.av s.set) s.bE [] (au t s.ah).1)=iF t (bM t.av s.set) s.bE (acc++[(fj t.av (rowAt t ((au t s.ah).1[k]'aa)) s.bE).1]) ((au t s.ah).1.drop (k+1)):=(by rw[zW,jl,iF,if_neg hE,if_neg hF])
  refine CD.skip ?_;refine⟨_,aM,nE,rfl⟩):p:=h
theorem Gk(h:p:=by
  skip;obtain⟨hz,_⟩:=xD az;obtain rfl:=length_eq_zero_iff.1 hz;refine ae [2] ?_;refine aJ [] ?_;exact⟨none,0,rfl,.inl ⟨rfl,rfl,rfl,rfl,rfl⟩⟩):p:=h
theorem z59(h:p:=by
  skip;have hz:(iR l ops[i] (fb 0 ops[i].k st) (eW 0 ops[i].k st)).2≠0:=(by simpa using bC)
  have aT:=hinv.trans (Q8 aa hz);refine ae [4,5] ?_;refine aJ [⟨b2,38,1,[.list 2 (l.flatMap cC) l.length]⟩] ?_;rw[aT];exact⟨rfl,rfl⟩):p:=h
theorem Cl(h:p:=by
  refine aN 0 [_,_,_] sizeOf30 ?_;refine aj 35 [4,5] ?_;refine aJ [] ?_;refine⟨?_,rfl⟩;unfold tP;simp_all[bQ]):p:=h
theorem L8(h:p:=by
  refine ae [2] ?_;refine aJ [] ?_;refine⟨vi ?_,rfl⟩;try simp only[NZ] at *
  simp only[cM];first|(rw[if_pos w4];done)|(rw[if_neg w4];cases h1:nO s<;>cases h2:uM.any (iW s)<;>simp_all)):p:=h
theorem Gl(h:p:=by
  refine aJ _ ?_;first|exact⟨rfl,_,JV,rfl⟩|exact⟨rfl,_,Ey qi n9 V5,rfl⟩|exact⟨rfl,_,Ey qi n9 (On qi n9 w4),rfl⟩):p:=h
theorem xE(h:p:=by
  refine ae [2] ?_;refine eJ ?_;rw[aT];exact⟨rfl,rfl⟩):p:=h
theorem V6(h:p:=by
  have hC:0≤p.kids[i]∧(p.leaf=false→p.kids[i]<many):=⟨by have hx:=of_decide_eq_false JW;omega,fun hl=>by first|(rw[hl] at E9;cases E9;done)|(have hx:=of_decide_eq_false dO;omega)⟩
  refine cj [1,2,113,114,115] ?_;refine⟨(i+1),_,cx,aM,w4,(fun j hj hl=>by rcases Nat.lt_or_ge j i with h|h;exact jP j h hl;obtain rfl:j=i:=w4;exact hC),rfl⟩):p:=h
theorem V7(h:p:=by
  have ff:j=a∨Rc cF Lt (k8[j-1]'qm) (k8[j]'qn):=(by first|exact .inr (ES ha (acD hj (by have q:=of_decide_eq_true qj;omega) qn qm hq) w4)|exact .inl (by have q:=of_decide_eq_false qj;omega))
  refine cj [0,1,2,3,8] ?_;refine⟨((i+1),k8),_,cx,aM,(fun _=>aaX ht hj w4 w4 ff),w4,w4,w4,zc,rfl⟩):p:=h
theorem V8(h:p:=by
  refine aN 0 [_,_,_] sizeOf149 ?_;refine aj 14 [2] ?_;refine aJ [] ?_;refine⟨?_,rfl⟩;unfold zf;first|(rw[if_neg lJ,if_neg xF,show((j:Nat):Int).toNat=j from rfl,getD_eq_getElem?_getD,getElem?_eq_getElem hj];rfl)|(rw[if_pos xx];rfl)|(rw[if_neg xx,if_pos vq];rfl)):p:=h
theorem ue(h:p:=by
  refine aJ [] ?_;rw[aT];exact⟨rfl,rfl⟩
  ):p:=h
theorem V9(h:p:=by
  have nU:vs[i].k≠l[i].k∧(i=0∨vs[i].k≠0):=(by first|(simp at *;omega)|(constructor<;>simp_all<;>omega))
  have hf:lY i l[i] vs[i]=4:=(by unfold lY;rw[if_neg hz,if_pos nU])
  have aT:dW l vs=4:=(by rw[hinv,PB Kt aa (by rw[hf];decide),hf])
  refine ae [4] ?_;refine eJ ?_;rw[aT];exact⟨rfl,rfl⟩):p:=h
theorem Wa(h:p:=by
  have nU:¬(0≤p.kids[i]∧(p.leaf=false→p.kids[i]<many)):=fun hk=>by obtain⟨k1,k2⟩:=hk;first|(have hx:=of_decide_eq_true JW;omega)|(have:=k2 (by simpa using E9);have hx:=of_decide_eq_true dO;omega)
  refine ae [4] ?_;refine eJ ?_;refine⟨vb (D9 fun hp=>?_),rfl⟩;exact nU (acE hp aa)):p:=h
theorem z70(h:p:=by
  refine aj 70 [1,2,11,35,36,37] ?_;refine cj [1,2,11,35,36,37] ?_;refine⟨((k+1),(acc++[(L[k]'aa).2]),(some ⟨qo,0,none⟩),qR,[⟨qo,3,qR*1,flatMap Tw.cI ((acc)++[(L[k]'aa).2])⟩]),_,cx,aM,w4,F8,nE,(bw.cast (bI FC FD) kJ),rfl⟩):p:=h
theorem Wb(h:p:=by
  have nQ:¬(vs[i].k≠l[i].k∧(i=0∨vs[i].k≠0)):=(by first|(simp_all;done)|omega|(simp at *;omega))
  have hf:lY i l[i] vs[i]=0:=(by unfold lY;rw[if_neg hz,if_neg nQ])
  have jb:=hinv.trans (Zx Kt aa hf);refine cj [0,19,20,21] ?_;refine⟨(i+1),_,cx,aM,w4,jb,rfl⟩):p:=h
theorem z72(h:p:=by
  refine cj [1,3,33,34,35] ?_;refine⟨(i+1),_,cx,(aM (h:=by repeat (first|exact trivial|refine⟨(by (repeat (first|exact fw|(apply fP;focus (first|rfl|(rw[Ea,if_neg zg];rfl)|(rw[Ea,if_pos zg];rfl)|(simp;done)|(congr 2;omega)))|(apply fA;focus rfl)));done),?_⟩))),w4,rfl⟩):p:=h
theorem Gm(h:p:=by
  refine OD.perm (dV (A:=[])) ?_;refine aj 8 [2] ?_;refine aJ S7 ?_;exact⟨_,_,rfl,pH⟩
  ):p:=h
theorem Wc(h:p:=by
  refine eA ?_;refine OD.gI gL rfl rfl rfl call38 (fI) ⟨ot,ot,trivial⟩ ?_;refine aj 31 [1,10,11,12,29] ?_;refine aq (fun aY bz=>?_) (fun aY bz=>?_)
  ·exact absurd aY (by (simp at aY;omega))
  refine cj [1,10,11,12] ?_;refine⟨(i+1),_,cx,aM,w4,rfl⟩):p:=h
theorem z75(h:p:=by
  skip;refine bf [1,33] ?_;refine eC ?_;refine ae [2] ?_;refine eJ ?_;exact⟨vi (NN w4).symm,rfl⟩):p:=h
theorem z76(h:p:=by
  refine aN 0 [_,_,_] sizeOf30 ?_;refine aj 29 [2] ?_;refine aJ [] ?_;refine⟨?_,rfl⟩;unfold o8 bQ;simp_all):p:=h
theorem Wd(h:p:=by
  have hC:¬((ec t.av s.bE).1≠(t.av.getD (bM t.av s.set).toNat ⟨⟨#[]⟩,0⟩).k∧(ec t.av s.bE).1≠0):=(by rw[kM];first|exact fun h=>h.2 (by simpa using aY)|exact fun h=>h.1 uW)
  refine CD.skip ?_;refine⟨_,aM,hC,rfl⟩):p:=h
theorem We(h:p:=by
  have mF:¬(0≤s.gN∧s.gN<lz.length):=(by first|exact fun h=>gg h.2|(intro h;omega))
  refine CD.skip ?_;refine⟨_,aM,lz,(by unfold wi u7;rw[←mG,Int.toNat_natCast,←hM,←Ur,if_neg mF]),Us,w4,rfl⟩):p:=h
theorem L9(h:p:=by
  refine aj 135 [4,5] ?_;refine aJ [] ?_;rw[aT];exact⟨[],none,0,[],rfl,iw,(fun o h=>by cases h),rfl,rfl⟩):p:=h
theorem z80(h:p:=by
  have afG:¬(f.length≤100∧eD.length≤100):=(by simp_all;omega)
  refine ae [6,7] ?_;refine CD.wk (Wk.tg (t:=6) (sz:=2) lk) ?_;refine Ma ?_;exact⟨by unfold wB;rw[if_pos hz,if_neg afG];rfl,rfl⟩):p:=h
theorem Wf(h:p:=by
  refine aj 8 [1,2] ?_;refine ae [3] ?_;refine aJ [⟨b,9,1,[.v (.string nm)]⟩] ?_;exact⟨rfl,rfl⟩
  ):p:=h
theorem Wg(h:p:=by
  have ie:¬((iC a b i).k≠1∧(iC a b i).k≠0):=(by simp_all)
  refine cj [2,3,4,6,14,15] ?_;refine⟨(i+1),_,cx,aM,w4,(D8 (p:=fun v=>¬(v.k≠1∧v.k≠0)) fa ie),rfl⟩):p:=h
theorem Wh(h:p:=by
  unfold fk cmpL fX fX fX fX;rcases rI a.k b.k with ⟨h1,h2⟩|⟨h1,h2⟩|⟨h1,h2⟩<;>rcases rI a.n b.n with ⟨k1,k2⟩|⟨k1,k2⟩|⟨k1,k2⟩<;>simp only[h1,k1]<;>(repeat' split)<;>omega):p:=h
theorem Wi(h:p:=by
  refine bH ?_;refine cN [6,7] ?_;refine aQ 6 ?_ (h:=by exact(cZ rfl ot ot (Eb underlying4)));refine bH ?_;refine aJ [] ?_;refine⟨?_,rfl⟩;unfold oZ;simp_all):p:=h
theorem z85(h:p:=by
  have afH:¬((iC a b i).k=1∧(iC a b i).n=d):=(by simp_all)
  refine cj [2,3,4,6,30,31] ?_;refine⟨(i+1),_,cx,aM,w4,(D8 (p:=fun v=>¬(v.k=1∧v.n=d)) JX afH),rfl⟩):p:=h
theorem Wj(h:p:=by refine⟨_,(aM (h:=by repeat (first|exact trivial|refine⟨(by (repeat (first|exact fw|(apply fP;focus (first|rfl|(rw[dr];done)|(simp;done)))|(apply fA;focus rfl)));done),?_⟩))),rfl⟩):p:=h
theorem z87(h:p:=by refine⟨_,(aM (h:=by repeat (first|exact trivial|refine⟨(by (repeat (first|exact fw|(apply fP;focus (first|rfl|(rw[kM];done)|(simp;done)))|(apply fA;focus rfl)));done),?_⟩))),rfl⟩):p:=h
theorem Wl(h:p:=by
  skip;obtain⟨hz,_⟩:=xD az;obtain rfl:=length_eq_zero_iff.1 hz;refine ae [2] ?_;refine CD.wk (Wk.tg (t:=2) (sz:=1) lk) ?_;refine aJ [] ?_;exact⟨rfl,rfl⟩):p:=h
theorem Wm(h:p:=by
  refine ae [4] ?_;refine aJ [] ?_;first|exact⟨vi (Ec hn).symm,rfl⟩|exact⟨vi (DS hz vq).symm,rfl⟩|exact⟨vi (IE hz vq).symm,rfl⟩):p:=h
theorem Wn(h:p:=by
  rw[←jl] at fH;obtain⟨j,hj,rfl⟩:=mem_iff_getElem.1 fH;refine kN (k+1+j) _ w4 ?_;rw[←Array.getElem?_toList,←getElem?_drop,getElem?_eq_getElem hj]):p:=h
theorem z91(h:p:=by
  refine ae [4] ?_;refine eJ ?_;refine⟨vi ?_,rfl⟩;unfold aL;first|(rw[BE] at Wo;cases fF:p.leaf<;>simp_all;done)|(simp_all;done)|(simp_all;omega)):p:=h
theorem Mb(h:p:=by
  refine ae [2,3] ?_;refine aJ [] ?_;first|(rw[aT];exact⟨none,0,rfl,iw⟩)):p:=h
theorem z93(h:p:=by
  refine ae [2] ?_;refine aJ [] ?_;exact⟨by first|rw[aT]|rw[aT];rfl,rfl⟩):p:=h
theorem Wp(h:p:=by
  have g6:=po.leaf;have g7:=fun h=>(po.node h).1;cases fF:(t.af[i]'aa).leaf with
  | true=>have:=g6 fF;omega
  | false=>have:=g7 fF;omega):p:=h
theorem Wq(h:p:=by
  refine aJ [⟨br,27,1,[.list 3 (row.flatMap cV) row.length]⟩,⟨bc,38,1,[.list 2 (l.flatMap cC) l.length]⟩] ?_;rw[aT];exact⟨rfl,rfl⟩
  ):p:=h
theorem Wr(h:p:=by
  rw[map_set,hn];have:l[i].nm=(l.map aP.nm)[i]'(by rw[length_map];exact hi):=(by rw[getElem_map])
  rw[this,set_getElem_self]):p:=h
theorem Gn(h:p:=by
  refine aJ [] ?_;rw[ff];exact⟨rfl,rfl⟩
  ):p:=h
theorem Mc(h:p:=by
  refine ae [2] ?_;refine aJ [] ?_;rw[ff];exact⟨rfl,rfl⟩):p:=h
theorem Ws(h:p:=by refine⟨((((i+j)/2)+1),j),_,cx,aM,w4,w4,w4,(.inr ⟨by omega,by omega,by exact xn⟩),fq,rfl⟩):p:=h
theorem Ut(h:p:=by
  obtain⟨t',h3,h4⟩:=(wg hp Gh).2;rw[iL] at h3;obtain rfl:=Option.some.inj h3;exact h4 k o hj ze hd):p:=h
theorem Uu(h:p:=by
  unfold lT;rw[mk_data,getD_eq_getElem?_getD,getElem?_eq_getElem w4];exact getElem_mem _):p:=h
theorem Uv(h:p:=by
  rw[py] at oK;rcases mem_cons.1 oK with rfl|oK
  ·exact .inl (sU _ _)
  exact m.Tb x oK):p:=h
theorem Uw(h:p:=by
  have ff:dW l=1:=if_pos w4;refine ae [2] ?_;refine eJ ?_;rw[ff];exact⟨rfl,rfl⟩):p:=h
theorem Ux(h:p:=by refine⟨(i,((i+j)/2)),_,cx,aM,w4,w4,w4,dI,(.inr ⟨by omega,by omega,zX⟩),rfl⟩):p:=h
theorem z105(h:p:=by
  refine CD.skip ?_;have afI:l1=l:=aaY Ku w4;rw[afI];refine⟨_,aM,rfl⟩):p:=h
theorem Uy(h:p:=by
  refine cL [0,4,5,6,41] (nf) ?_;refine aq (fun dO eo=>?_) (fun dO eo=>?_)
  ·have aT:ic k a b=(bQ,0):=(by unfold ic;rw[if_neg (by simp[nY]),if_neg w4,if_neg w4,if_pos w4,if_pos dO])
   refine aC 1 ?_;exact z7
  refine ae [0,4,5,6,47] ?_;refine aq (fun eS fW=>?_) (fun eS fW=>?_)
  ·have aT:ic k a b=(bQ,4):=(by unfold ic;rw[if_neg (by simp[nY]),if_neg w4,if_neg w4,if_pos w4,if_neg (by rw[dO];simp),if_pos (by simpa using eS)])
   refine aC 1 ?_;exact z7
  have aT:ic k a b=(p8 ((fk a b==0&&k==6)||(decide (fk a b<0)&&k==7)),0):=(by unfold ic;rw[if_neg (by simp[nY]),if_neg w4,if_neg w4,if_pos w4,if_neg (by rw[dO];simp),if_neg (by simpa using eS)])
  refine cL [0,6,9] (eY) ?_;refine aC 3 ?_;refine bS 54 (fun rX uW=>?_) (fun rX uW=>?_)
  ·refine aD 4 ?_;refine bS 58 (fun ahe afJ=>?_) (fun ahe afJ=>?_)
   ·refine xG 3 ?_;refine aD 4 ?_;refine dR call177 (sV _) ?_;exact z7
   refine aD 3 ?_;refine bS 61 (fun Kv JY=>?_) (fun Kv JY=>?_)
   ·refine aD 4 ?_;refine dR call177 (sV _) ?_;exact z7
   refine aD 4 ?_;refine dR call177 (sV _) ?_;exact z7
  refine aD 7 ?_;refine bS 61 (fun Kv JY=>?_) (fun Kv JY=>?_)
  ·refine aD 4 ?_;refine dR call177 (sV _) ?_;exact z7
  refine aD 4 ?_;refine dR call177 (sV _) ?_;exact z7):p:=h
theorem z107(h:p:=by
  have uS:¬((l[i].k != 1 && !(zeroV l[i].v))||(l[i].k != 2 && !(l[i].nm.toList==(⟨#[]⟩:ByteArray).toList)))=true:=(by unfold zeroV;simp_all)
  refine ae [3,5,11,12,13,52] ?_;refine aq (fun dO eo=>?_) (fun dO eo=>?_)
  ·refine cL [3,5,7,11,12,13] (td hm hw l[i].nm (hs _ (getElem_mem aa))) ?_;refine ae [3,5,7,11,12,13,57] ?_;refine aq (fun eS fW=>?_) (fun eS fW=>?_)
   ·have qp:cM l[i].nm≠0:=(by simpa using eS)
    have qh:e9 h l[i]=cM l[i].nm:=(by unfold e9;rw[if_neg dI,if_neg uc,if_neg uS,if_pos ⟨by simpa using dO,qp⟩])
    refine ae [2] ?_;refine aJ [] ?_;exact vv
   have jQ:¬(l[i].k=2∧cM l[i].nm≠0):=(by simp at eS;simp[eS])
   refine cL [3,5,11,12,13,63] (yx l[i].k) ?_;refine aq (fun eL gg=>?_) (fun eL gg=>?_)
   ·have rh:h<bP l[i].k:=(by simpa using eL)
    have qh:e9 h l[i]=7:=(by unfold e9;rw[if_neg dI,if_neg uc,if_neg uS,if_neg jQ,if_pos rh])
    refine ae [2] ?_;refine aJ [] ?_;exact vv
   exact Ge
  have jQ:¬(l[i].k=2∧cM l[i].nm≠0):=(by simp at dO;simp[dO])
  refine cL [3,5,11,12,13,63] (yx l[i].k) ?_;refine aq (fun eL gg=>?_) (fun eL gg=>?_)
  ·have rh:h<bP l[i].k:=(by simpa using eL)
   have qh:e9 h l[i]=7:=(by unfold e9;rw[if_neg dI,if_neg uc,if_neg uS,if_neg jQ,if_pos rh])
   refine ae [2] ?_;refine aJ [] ?_;exact vv
  exact Ge):p:=h
theorem Uz(h:p:=by
  have uS:¬((l[i].k != 1 && !(zeroV l[i].v))||(l[i].k != 2 && !(l[i].nm.toList==(⟨#[]⟩:ByteArray).toList)))=true:=(by unfold zeroV;simp_all)
  refine ae [3,5,11,12,13,52] ?_;refine aq (fun dO eo=>?_) (fun dO eo=>?_)
  ·refine cL [3,5,7,11,12,13] (td hm hw l[i].nm (hs _ (getElem_mem aa))) ?_;refine ae [3,5,7,11,12,13,57] ?_;refine aq (fun eS fW=>?_) (fun eS fW=>?_)
   ·have qp:cM l[i].nm≠0:=(by simpa using eS)
    have qh:e9 h l[i]=cM l[i].nm:=(by unfold e9;rw[if_neg dI,if_neg uc,if_neg uS,if_pos ⟨by simpa using dO,qp⟩])
    refine ae [2] ?_;refine eJ ?_;exact vv
   have jQ:¬(l[i].k=2∧cM l[i].nm≠0):=(by simp at eS;simp[eS])
   refine cL [3,5,11,12,13,63] (yx l[i].k) ?_;refine aq (fun eL gg=>?_) (fun eL gg=>?_)
   ·have rh:h<bP l[i].k:=(by simpa using eL)
    have qh:e9 h l[i]=7:=(by unfold e9;rw[if_neg dI,if_neg uc,if_neg uS,if_neg jQ,if_pos rh])
    refine ae [2] ?_;refine eJ ?_;exact vv
   exact Ge
  have jQ:¬(l[i].k=2∧cM l[i].nm≠0):=(by simp at dO;simp[dO])
  refine cL [3,5,11,12,13,63] (yx l[i].k) ?_;refine aq (fun eL gg=>?_) (fun eL gg=>?_)
  ·have rh:h<bP l[i].k:=(by simpa using eL)
   have qh:e9 h l[i]=7:=(by unfold e9;rw[if_neg dI,if_neg uc,if_neg uS,if_neg jQ,if_pos rh])
   refine ae [2] ?_;refine eJ ?_;exact vv
  exact Ge):p:=h
theorem z109(h:p:=by
  refine cr 8 rfl (c9 1 (h:=by first|exact .l (j:=tj) rfl q9|exact .r (j:=tj) rfl q9)) ?_;refine AD.two (i:=9) (j:=11) ay ?_ ?_
  ·refine at_ rfl (cJ (mk:=Op.load 9) rfl ot (by exact pZ (g:=cS) (ls:=eI) (i:=tj) (d:=.v (.string tn)) ja isAgg9 q9 (by show some (D.v (.string (eI[tj]'q9)))=some (D.v (.string tn));rw[Un]))) ?_;refine cr 10 rfl (nq (pl:=[(0,_),(1,_),(9,_)]) (ds:=[_,_,_,_,_,_,_,_,_,_,_,_]) rfl zeroValue42 runUnderlying42 NH ⟨rfl,ot,rfl,ot,rfl,bJ,trivial⟩ rfl rfl) ?_;refine AD.one (i:=11) ay ?_;refine bg.alloc (ds:=[_,_,_,_,_,_,_,_,_,_,_,_]) rfl an rfl rfl zeroValue42 rfl (fun b3=>?_);exact z10
  refine bg.alloc (ds:=[_,_,_,_,_,_,_,_,_,_,_,_]) rfl an rfl rfl zeroValue42 rfl (fun b3=>?_);exact z4):p:=h
theorem Kw(h:p:=by
  refine dL 2 ?_;refine OD.j4 (f:=176) (args:=[_,_]) (all:=[_,_]) (Sf:=[]) an rfl rfl ot call176 (yR a 2) rfl ⟨ot,bJ,trivial⟩ (eN _) ?_;rintro _ _ ⟨rfl,rfl⟩;refine aD 1 ?_;refine bS 68 (fun ahf afK=>?_) (fun ahf afK=>?_)
  ·refine aD 2 ?_;refine OD.j4 (f:=176) (args:=[_,_]) (all:=[_,_]) (Sf:=[]) gL rfl rfl ot call176 (yR b 2) rfl ⟨ot,bJ,trivial⟩ (eN _) ?_;rintro _ _ ⟨rfl,rfl⟩;exact z21
  refine aj 76 [11,12] ?_;refine ae [12,74] ?_;refine eC ?_;exact z22):p:=h
theorem UA(h:p:=by
  refine aC 4 ?_;refine OD.j4 (f:=153) (args:=[_,_,_]) (all:=[_,_,_,_]) (Sf:=[⟨b2,38,1,[.list 2 (l.flatMap cC) l.length]⟩]) an rfl rfl ot call153 (Oo l hl ops[i] _ _ _ _ ha hb b2) rfl ⟨ot,ot,ot,trivial⟩ (jX (k:=1) rfl) ?_;rintro _ _ ⟨rfl,rfl⟩;refine aj 64 [1,6,7,13,14,15,16,17,18] ?_;refine ae [1,6,7,13,14,15,16,17,18,51] ?_;refine aq (fun bC bY=>?_) (fun bC bY=>?_)
  ·exact z59
  have hz:(iR l ops[i] (fb 0 ops[i].k st) (eW 0 ops[i].k st)).2=0:=(by simpa using bC)
  refine CD.skip ?_;refine CD.u7 (k:=(st.length-(bP ops[i].k).toNat)) (ls:=(st)) (Sq:=[⟨bh,3,jS*1,flatMap cI st⟩]) ey w4 (bI (g:=cI) (ls:=st) wJ wu) (dx (A:=[_,_])) (fun Bz Bf=>?_);exact z12):p:=h
theorem FE(h:p:=by
  refine AD.one (i:=7) ay ?_;refine jv call11 (FF) ?_;refine cr 8 rfl (c9 1 (h:=by first|exact .l (j:=tj) rfl q9|exact .r (j:=tj) rfl q9)) ?_;exact z4):p:=h
theorem UB(h:p:=by
  refine cr 8 rfl (c9 1 (h:=by first|exact .l (j:=tj) rfl q9|exact .r (j:=tj) rfl q9)) ?_;exact z4):p:=h
theorem UC(h:p:=by
  rintro _ _ ⟨rfl,rfl⟩;refine aD 3 ?_;refine OD.alloc (ds:=[_,_,_]) an rfl rfl zeroValue30 rfl (fun zY=>?_);refine aN 0 [_,_,_] sizeOf30 ?_;refine aj 64 [1,4,6,7,13,14,15,16,17,18] ?_;refine ae [1,4,6,7,13,14,15,16,17,18,51] ?_;refine aq (fun bC bY=>?_) (fun bC bY=>?_)
  ·exact V0
  have hz:(fR l row ops[i] (fb bQ ops[i].k st) (eW bQ ops[i].k st)).2=0:=(by simpa using bC)
  refine CD.skip ?_;refine CD.u7 (k:=(st.length-(bP ops[i].k).toNat)) (ls:=(st)) (Sq:=[⟨bh,30,jS*3,flatMap cV st⟩]) fh w4 (bI (g:=cV) (ls:=st) wJ wu) (dx (A:=[_,_,_,_,_,_,_,_])) (fun Bz Bf=>?_);exact z5):p:=h
theorem UD(h:p:=by
  refine CD.seq ?_;refine uf 11 10 [5,7,31] ?_;refine cU (kS G n 40 gi iK w7) ?_;refine cU (PC ⟨n,dX n 40-20,s⟩ fM) ?_;refine rj ?_;refine jR ?_;refine⟨rfl,fun b7=>?_⟩;refine aN 0 [_,_,_] sizeOf30 ?_;refine aj 69 [5,7] ?_;refine aC 2 ?_;refine dR call22 (ET (o8 ⟨n,dX n 40-20,s⟩).s 4 w4) ?_;refine aD 1 ?_;refine aN 0 [_,_,_] sizeOf9 ?_;refine aj 69 [5,7] ?_;refine aC 3 ?_;refine ee (bZ 0 [_]) [.int .i64 0,.int .i64 0,.int .i64 0,.string ⟨#[]⟩,.string ⟨#[]⟩] [_,_,_,_,_] zeroValue61 runUnderlying40 sizeOf61 (fun Cm=>?_);exact z28):p:=h
theorem z116(h:p:=by
  refine dL 2 ?_;refine OD.j4 (f:=176) (args:=[_,_]) (all:=[_,_]) (Sf:=[]) an rfl rfl ot call176 (yR a 1) rfl ⟨ot,bJ,trivial⟩ (eN _) ?_;rintro _ _ ⟨rfl,rfl⟩;refine aD 1 ?_;refine bS 40 (fun Kx JZ=>?_) (fun Kx JZ=>?_)
  ·refine aD 2 ?_;refine OD.j4 (f:=176) (args:=[_,_]) (all:=[_,_]) (Sf:=[]) gL rfl rfl ot call176 (yR b 1) rfl ⟨ot,bJ,trivial⟩ (eN _) ?_;rintro _ _ ⟨rfl,rfl⟩;exact z21
  refine aj 76 [11,12] ?_;refine ae [12,74] ?_;refine eC ?_;exact z22):p:=h
theorem z117(h:p:=by
  refine AD.one (i:=10) ay ?_;refine jv call59 (jL (t.af[i]'aa).high w4) ?_;refine cr 13 rfl (nq (pl:=[(0,_),(1,_),(2,_),(3,_),(4,_)]) (ds:=[_,_,_,_,_]) rfl zeroValue93 runUnderlying93 NI ⟨rfl,ot,rfl,ot,rfl,ot,rfl,ot,rfl,ot,trivial⟩ rfl rfl) ?_;refine AD.one (i:=14) ay ?_;refine jj (bZ 0 [_]) [.bool false,.slice none 0 0,.slice none 0 0,.slice none 0 0,.int .i64 0] [_,_,_,_,_] zeroValue93 runUnderlying44 sizeOf93 (fun zZ=>?_);refine jk 0 46 5 1 ?_;exact LZ):p:=h
theorem Ky(h:p:=by
  refine eA ?_;refine bf [3] ?_;refine ae [52] ?_;refine aq (fun dO eo=>?_) (fun dO eo=>?_)
  ·exact L1
  exact L1):p:=h
theorem z119(h:p:=by
  refine ae [4,5,6] ?_;refine CD.wk (Wk.tg (t:=4) (sz:=1) lk) ?_;refine CD.wk (Wk.tg (t:=5) (sz:=1) lk) ?_;exact n8):p:=h
theorem UE(h:p:=by
  refine dL 3 ?_;refine OD.j4 (f:=176) (args:=[_,_]) (all:=[_,_]) (Sf:=[]) an rfl rfl ot call176 (yR a b) rfl ⟨ot,ot,trivial⟩ (eN _) ?_;rintro _ _ ⟨rfl,rfl⟩;refine aD 1 ?_;refine bS 57 (fun tQ Bh=>?_) (fun tQ Bh=>?_)
  ·refine aj 76 [11,12] ?_;refine ae [12,74] ?_;refine fL ?_;exact z22
  exact z21):p:=h
theorem Kz(h:p:=by
  refine ae [2] ?_;refine aJ [] ?_;exact vv):p:=h
theorem FG(h:p:=by
  refine ae [2] ?_;refine eJ ?_;exact vv):p:=h
theorem UF(h:p:=by
  refine l9 7 rfl ?_;refine l9 8 rfl ?_;refine l9 9 rfl ?_;refine dm.later rfl ?_;refine AD.one (i:=10) ay ?_;refine bg.skip rfl (mj rfl rfl rfl lk ji) rfl ?_;refine cr 11 rfl u4 ?_;refine cr 12 rfl bj ?_;exact VF):p:=h
theorem z124(h:p:=by
  skip;refine bf [1,2,39] ?_;refine eC ?_;refine ae [4] ?_;refine eJ ?_;exact Gc):p:=h
theorem UG(h:p:=by
  have aY:(dM (lS key) (bn.take 2))<0∨(dM gE (bn.take 2))<0:=(by first|omega|(simp_all;omega)|simp_all)
  have mz:mQ key bn nt (lo,hi)=(lo,hi):=(by unfold mQ;rw[uL u6,if_neg rW,if_pos aY])
  rw[mz] at aT;exact VY):p:=h
theorem wO(h:p:=by
  refine ae [2] ?_;refine eJ ?_;exact VX):p:=h
theorem z127(h:p:=by
  refine bX ?_;refine OD.alloc (ds:=[_,_,_]) an rfl rfl zeroValue149 rfl (fun b2=>?_);refine aj 5 [0,2] ?_;refine aC 2 ?_;refine aN 0 [_,_,_] sizeOf149 ?_;refine aj 5 [2] ?_;exact z51):p:=h
theorem UH(h:p:=by
  refine ae [52] ?_;refine aq (fun dO eo=>?_) (fun dO eo=>?_)
  ·refine ae [2] ?_;refine aJ [] ?_;exact L4
  refine ae [2] ?_;refine aJ [] ?_;exact L4):p:=h
theorem UI(h:p:=by
  refine VC.body func35 rfl ntmps35 aO fun X0 w0 aZ=>?_;refine ae [0,1] ?_;refine aC 2 ?_;refine bN (XT rfl ot ot func60 ay ay ay ay) ?_;refine aj 8 [4] ?_;exact z51):p:=h
theorem z130(h:p:=by
  have hf:mU (l.take i) l[i]=2:=(by unfold mU;rw[if_neg gC,if_pos w4])
  have aT:fB l=2:=(by rw[hinv,HZ aa (by rw[hf];decide),hf])
  exact xE):p:=h
theorem z131(h:p:=by
  refine ae [2] ?_;refine aJ [] ?_;exact VX):p:=h
theorem UJ(h:p:=by
  refine OD.perm (dV (A:=[])) ?_;refine aj 8 [2] ?_;refine CD.gP (t:=2) (Sq:=S7) lk pH (cq o9 _) (dx (A:=[])) ?_;exact z51):p:=h
theorem UK(h:p:=by
  skip;refine bf [1,14] ?_;refine aq (fun aY bz=>?_) (fun aY bz=>?_)
  ·refine ae [2] ?_;exact z24
  exact z20):p:=h
theorem wP(h:p:=by
  refine ae [4,5] ?_;exact Gi):p:=h
theorem KA(h:p:=by
  refine aN 0 [_,_,_] sizeOf30 ?_;refine aj 42 [8,9] ?_;exact z50):p:=h
theorem UL(h:p:=by
  skip;refine aD 5 ?_;refine bS 17 (fun wQ wC=>?_) (fun wQ wC=>?_)
  ·exact Gj
  exact Gj):p:=h
theorem UM(h:p:=by
  skip;refine bf [1,2,71] ?_;refine eC ?_;refine ae [4] ?_;refine eJ ?_;exact Gc):p:=h
theorem z138(h:p:=by
  unfold cC;refine bX ?_;refine OD.box (ds:=[_,_]) an rfl rfl ot rfl rfl (fun b2=>?_);exact Wf):p:=h
theorem z139(h:p:=by
  refine AD.two (i:=4) (j:=7) ay ?_ ?_
  ·refine jj (bZ 0 [_,_]) [.string ⟨#[]⟩,.string ⟨#[]⟩] [_,_] zeroValue9 runUnderlying39 sizeOf9 (fun b8=>?_);refine jk 0 8 1 2 ?_;exact FE
  refine jv call11 (FF) ?_;refine AD.one (i:=4) ay ?_;refine jj (bZ 0 [_,_]) [.string ⟨#[]⟩,.string ⟨#[]⟩] [_,_] zeroValue9 runUnderlying39 sizeOf9 (fun b8=>?_);refine jk 0 8 1 2 ?_;exact UB):p:=h
theorem UN(h:p:=by
  refine AD.two (i:=7) (j:=11) ay ?_ ?_
  ·refine jv call11 (FF) ?_;exact z109
  refine bg.alloc (ds:=[_,_,_,_,_,_,_,_,_,_,_,_]) rfl an rfl rfl zeroValue42 rfl (fun b3=>?_);exact FE):p:=h
theorem z141(h:p:=by
  refine AD.one (i:=15) ay ?_;refine bg.gI rfl gL rfl rfl rfl call137 (Q9 t.s 138 wD call138 PF hs) ⟨ot,sW,trivial⟩ ?_;refine cr 19 rfl mH ?_;refine cr 20 rfl wR ?_;exact Ky):p:=h
theorem UO(h:p:=by
  have qh:e9 h l[i]=6:=(by unfold e9 zeroV;rw[if_neg dI,if_neg uc,if_pos (by simp_all)])
  exact Kz):p:=h

end Go.Proofs.YtbcmjoaggammcaaGreatDoor
namespace Go.Proofs.YtbcmjoaggammcaaGreatDoor.V
open List
open Go.RowKit
variable {L X:Nat→Prop} {w':World} {b i k n off o' cap sz j m h' tt bytes:Nat} {I:Array Field} {v u:Value} {e t:TypeId} {y fo:Operand} {a:Act} {cur:Array Value} {lo hi:Option Operand} {ts:Array TypeId} {ad:Option Addr} {ps:Array (Nat×Operand)} {cW:Array Operand}
inductive D where
 | v (x:Value)
 | list (sz:Nat) (cs:List D) (len:Nat)
 | fx (cs:List D) (off:Nat)
 | agg (cs:List D)
 | dz (cs:List D)
 | ek (f:Fn) (cs:List D)
 | jT (l:Nat) (os:List (Nat×Obj))
 | bU
 deriving Inhabited
variable {ds cs':List D} {l:List (Nat×D)}
inductive cl (w:World) (L:Nat→Prop):D→Value→Prop
 | v (x:Value):cl w L (.v x) x
 | lZ (sz:Nat) (ad:Option Addr) (cap:Nat):cl w L (.list sz [] 0) (.slice ad 0 cap)
 | list (sz:Nat) (cs:List D) (len b o cap:Nat) (f:Nat→Value) (hl:cs.length=len*sz) (h1:len≤cap) (h2:cap≤maxLen) (hb:b<w.heap.size) (hL:¬L b)
   (hc:∀i,i<cs.length→w.cell? ⟨b,o+i,none⟩=some (f i)) (hr:∀i (h:i<cs.length),cl w L cs[i] (f i)):cl w L (.list sz cs len) (.slice (some ⟨b,o,none⟩) len cap)
 | fx (cs:List D) (off b o:Nat) (f:Nat→Value) (hb:b<w.heap.size) (hL:¬L b)
   (hc:∀i,i<cs.length→w.cell? ⟨b,o+i,none⟩=some (f i)) (hr:∀i (h:i<cs.length),cl w L cs[i] (f i)):cl w L (.fx cs off) (.pointer (some ⟨b,o+off,none⟩))
 | agg (cs:List D) (vs:List Value) (hl:vs.length=cs.length) (hr:∀i (h:i<cs.length) (h':i<vs.length),cl w L cs[i] vs[i]):cl w L (.agg cs) (.agg vs.toArray)
 | dz (cs:List D) (vs:List Value) (hl:vs.length=cs.length) (hr:∀i (h:i<cs.length) (h':i<vs.length),cl w L cs[i] vs[i]):cl w L (.dz cs) (.tuple vs.toArray)
 | ek (fn:Fn) (cs:List D) (vs:List Value) (hl:vs.length=cs.length) (hr:∀i (h:i<cs.length) (h':i<vs.length),cl w L cs[i] vs[i]):cl w L (.ek fn cs) (.func fn #[] vs.toArray)
 | jT (l:Nat) (os:List (Nat×Obj)) (h:∀z∈os,z.1<w.heap.size∧¬L z.1∧w.heap[z.1]?=some z.2):cl w L (.jT l os) (.func (.yield l) #[] #[])
 | bU (x:Value):cl w L .bU x
theorem cl.nil{w:World}(sz:Nat):cl w L (.list sz [] 0) (.slice none 0 0):=.lZ sz none 0
theorem qB{w:World}(hb:b<w.heap.size)(h:w'.heap[b]?=w.heap[b]?):b<w'.heap.size:=by
 rcases Nat.lt_or_ge b w'.heap.size with h'|h'
 ·exact h'
 rw[Array.getElem?_eq_none h',Array.getElem?_eq_getElem hb] at h;cases h
theorem cl.mono{w:World}{I:Nat→Prop}{d:D}(h:cl w L d v)(H:∀b,b<w.heap.size→¬L b→w'.heap[b]?=w.heap[b]?∧¬I b):cl w' I d v:=by
 induction h with
 | v x=>exact .v x
 | lZ sz ad cap=>exact .lZ sz ad cap
 | list sz cs len b o cap f hl h1 h2 hb hL hc hr ih =>
  have E:=H b hb hL;exact .list sz cs len b o cap f hl h1 h2 (qB hb E.1) E.2 (fun i hi=>(World.cell?_of_block (w:=w) (a:=⟨b,o+i,none⟩) E.1).trans (hc i hi)) ih
 | fx cs off b o f hb hL hc hr ih =>
  have E:=H b hb hL;exact .fx cs off b o f (qB hb E.1) E.2 (fun i hi=>(World.cell?_of_block (w:=w) (a:=⟨b,o+i,none⟩) E.1).trans (hc i hi)) ih
 | agg cs vs hl hr ih=>exact .agg cs vs hl ih
 | dz cs vs hl hr ih=>exact .dz cs vs hl ih
 | ek fn cs vs hl hr ih=>exact .ek fn cs vs hl ih
 | jT l os h =>
  refine .jT l os fun z hz=>?_;obtain⟨h1,h2,h3⟩:=h z hz;have E:=H z.1 h1 h2;exact⟨qB h1 E.1,E.2,E.1.trans h3⟩
 | bU x=>exact .bU x
structure ag where
 b:Nat
 e:TypeId
 size:Nat
 cs:List D
 deriving Inhabited
variable {S S' Sf R:List ag} {B:ag} {post:D→List ag→Prop}
def yI:TypeId:=1000003
def Ra:TypeId:=1000004
def isMap(e:TypeId):Bool:=Nat.beq e yI||Nat.beq e Ra
def Bi(cur:Array Value):Obj:=.map (cur.mapIdx fun i k=>⟨k,.agg #[],i⟩) cur.size
def Tc:Value→Nat
 | .int _ n=>n.toNat
 | _=>0
def UP:List Value→List MapEntry
 | k::v::b::r=>⟨k,v,Tc b⟩::UP r
 | _=>[]
def aep(cur:Array Value):Obj:=match cur.toList with
 | c::r=>.map (UP r).toArray (Tc c)
 | []=>.map #[] 0
def ob(e:TypeId)(cur:Array Value):Obj:=bif isMap e then (bif Nat.beq e Ra then aep cur else Bi cur) else .cells cur e (0,0)
theorem jY(he:isMap e=false)(cur:Array Value):ob e cur = .cells cur e (0,0):=by rw[ob,he];rfl
theorem Td(cur:Array Value):ob yI cur=Bi cur:=rfl
def J0(w:World)(L:Nat→Prop)(B:ag):Prop :=
 B.b<w.heap.size∧∃cur:Array Value,w.heap[B.b]?=some (ob B.e cur)∧cur.size=B.size∧B.cs.length≤B.size∧∀i (h:i<B.cs.length),∃u,cur[i]?=some u∧cl w L B.cs[i] u
def qG:Value→Bool
 | .tuple _=>false
 | _=>true
def nM(w:World)(b i:Nat):Value→Prop
 | .tuple vs=>∃t fz,w.heap[b]?=some (.cells vs t fz)
 | v=>w.cell? ⟨b,i,none⟩=some v
theorem nM.cell{w:World}(h:nM w b i v)(E:qG v=true):w.cell? ⟨b,i,none⟩=some v:=by
 cases v<;>first|exact h|cases E
theorem nM.of{w:World}(h:w.cell? ⟨b,i,none⟩=some v)(E:qG v=true):nM w b i v:=by
 cases v<;>first|exact h|cases E
theorem nM.on{w:World}(hb:w'.heap[b]?=w.heap[b]?)(h:nM w b i v):nM w' b i v:=by
 by_cases E:qG v=true
 ·exact .of ((World.cell?_of_block (w:=w) (a:=⟨b,i,none⟩) hb).trans (h.cell E)) E
 cases v<;>first|exact absurd rfl E|(obtain⟨t,fz,h⟩:=h;exact⟨t,fz,hb.trans h⟩)
theorem nM.lt{w:World}(h:nM w b i v):b<w.heap.size:=by
 by_cases E:qG v=true
 ·exact World.block_lt_of_cell? w _ (h.cell E)
 cases v<;>first|exact absurd rfl E|(obtain⟨t,fz,h⟩:=h;exact(Array.getElem?_eq_some_iff.1 h).1)
theorem PG{vs:List Value}(h:vs.all qG=true)(hi:vs[i]?=some v):qG v=true:=all_eq_true.1 h v (mem_of_getElem? hi)
structure dF where
 X:Nat→Prop
 w0:World
 S0:List Nat
 G:List (Nat×List Value)
 df:List Deferred
 Cn:Act→World→Prop
variable {C:dF}
structure St where
 n:Nat
 env:List (Nat×D)
 S:List ag
def look(t:Nat):List (Nat×D)→D
 | []=>.bU
 | (i,d)::r=>bif Nat.beq i t then d else look t r
theorem fO(t i:Nat)(d:D)(l:List (Nat×D)):look t ((i,d)::l)=if i=t then d else look t l:=by
 rw[look];by_cases e:i=t
 ·subst e;simp
 have:Nat.beq i t=false:=by
  cases h:Nat.beq i t with
  | false=>rfl
  | true=>exact absurd (Nat.eq_of_beq_eq_true h) e
 rw[this,if_neg e];rfl
def ap(S:List ag):List Nat:=S.map (·.b)
def live(X:Nat→Prop)(S:List ag)(b:Nat):Prop:=X b∨b∈ap S
structure Fr (w:World) (S:List Nat) (w':World) (S':List Nat):Prop where
 os:w'.os=w.os
 tape:w'.tape=w.tape
 output:w'.output=w.output
 size:w.heap.size≤w'.heap.size
 block:∀b,b<w.heap.size→b∉S→w'.heap[b]?=w.heap[b]?∧b∉S'
theorem Fr.refl(w:World)(S:List Nat):Fr w S w S:=⟨rfl,rfl,rfl,Nat.le_refl _,fun _ _ h=>⟨rfl,h⟩⟩
theorem Fr.trans{E I O:World}{S1 S2 S3:List Nat}(h:Fr E S1 I S2)(k:Fr I S2 O S3):Fr E S1 O S3 :=
 ⟨k.os.trans h.os,k.tape.trans h.tape,k.output.trans h.output,Nat.le_trans h.size k.size,fun b hb hn =>
  have h1:=h.block b hb hn;have h2:=k.block b (Nat.lt_of_lt_of_le hb h.size) h1.2
  ⟨h2.1.trans h1.1,h2.2⟩⟩
structure Own (w:World) (L:Nat→Prop) (S:List ag):Prop where
 at_:∀B∈S,J0 w L B
 apart:(ap S).Nodup
structure bG (C:dF) (x:St) (a:Act) (w:World):Prop where
 defers:a.defers=C.df
 size:a.tmps.size=x.n
 env:∀t,t<x.n→cl w (live C.X x.S) (look t x.env) (a.tmps.getD t undef)
 own:Own w (live C.X x.S) x.S
 fr:Fr C.w0 C.S0 w (ap x.S)
 ex:∀b,C.X b→b<C.w0.heap.size∧b∉C.S0
 eM:∀g∈C.G,(g.1<C.w0.heap.size∧g.1∉C.S0∧¬C.X g.1)∧∀i v,g.2[i]?=some v→nM C.w0 g.1 i v
def St.put(x:St)(t:Nat)(d:D):St:=⟨x.n,(t,d)::x.env,x.S⟩
theorem bG.put{C:dF}{x:St}{a:Act}{w:World}(h:bG C x a w){t:Nat}{d:D}{v:Value}(hd:cl w (live C.X x.S) d v):bG C (x.put t d) (a.put (some t) v) w:=by
 refine⟨h.defers,by simp[Act.put,St.put,h.size],fun i hi=>?_,h.own,h.fr,h.ex,h.eM⟩;have hs:=h.size;simp only[St.put,fO,Act.put] at hi ⊢;by_cases e:t=i
 ·subst e;rw[if_pos rfl];have:(a.tmps.setIfInBounds t v).getD t undef=v:=by
   simp[Array.getElem?_setIfInBounds,hs,hi]
  rw[this];exact hd
 rw[if_neg e];have:(a.tmps.setIfInBounds t v).getD i undef=a.tmps.getD i undef:=by
  simp[Array.getElem?_setIfInBounds_ne e]
 rw[this];exact h.env i hi
def Wk(x y:St):Prop:=∀C a w,bG C x a w→bG C y a w
theorem Wk.refl(x:St):Wk x x:=fun _ _ _ h=>h
theorem Wk.trans{x y z:St}(h:Wk x y)(k:Wk y z):Wk x z:=fun C a w s=>k C a w (h C a w s)
theorem Own.sub{w:World}(h:Own w (live X S) S)(hs:S'.Sublist S):Own w (live X S') S' :=
 have E:(ap S').Sublist (ap S):=Sublist.map _ hs
 ⟨fun B I=>by
  obtain⟨h0,cur,h1,h2,h3,h4⟩:=h.at_ B (hs.subset I);refine⟨h0,cur,h1,h2,h3,fun i hi=>?_⟩;obtain⟨u,hu,hr⟩:=h4 i hi;exact⟨u,hu,hr.mono fun b _ hn=>⟨rfl,fun hl=>hn (hl.imp id fun q=>E.subset q)⟩⟩,h.apart.sublist E⟩
theorem Wk.drop(n:Nat)(l:List (Nat×D))(S S':List ag)(hs:S'.Sublist S):Wk ⟨n,l,S⟩ ⟨n,l,S'⟩:=fun C a w h =>
 have E:(ap S').Sublist (ap S):=Sublist.map _ hs
 ⟨h.defers,h.size,fun t ht=>(h.env t ht).mono fun b _ hn=>⟨rfl,fun hl=>hn (hl.imp id fun q=>E.subset q)⟩,h.own.sub hs,
  ⟨h.fr.os,h.fr.tape,h.fr.output,h.fr.size,fun b hb hn=>⟨(h.fr.block b hb hn).1,fun q=>(h.fr.block b hb hn).2 (E.subset q)⟩⟩,h.ex,h.eM⟩
theorem cl.kD{w:World}{x y:Value}(h:cl w L (.v x) y):y=x:=by cases h;rfl
def aF(x:St):Operand→D
 | .tmp t=>bif Nat.blt t x.n then look t x.env else .bU
 | .const v=>.v v
 | .global g=>.v (.pointer (some ⟨g,0,none⟩))
 | .func f=>.ek (.func f) []
theorem bG.eval{C:dF}{x:St}{a:Act}{w:World}(h:bG C x a w)(o:Operand):cl w (live C.X x.S) (aF x o) (a.eval o):=by
 cases o with
 | tmp t =>
  simp only[aF,Act.eval];cases ht:Nat.blt t x.n with
  | true=>exact h.env t (Nat.le_of_ble_eq_true ht)
  | false=>exact .bU _
 | const v=>exact .v _
 | global g=>exact .v _
 | func f=>exact .ek (.func f) [] [] rfl (fun i h=>by simp at h)
theorem bG.flat{x:St}{w:World}(h:bG C x a w){o:Operand}(ho:aF x o = .v u):a.eval o=u:=by
 have:=h.eval o;rw[ho] at this;exact this.kD
theorem bG.fu{x:St}{w:World}(h:bG C x a w)(hk:x.S[k]?=some B):J0 w (live C.X x.S) B:=h.own.at_ B (mem_of_getElem? hk)
theorem PI(hk:S[k]?=some B):live X S B.b:=.inr (mem_map.2 ⟨B,mem_of_getElem? hk,rfl⟩)
theorem bG.aR{x:St}{w:World}(h:bG C x a w){g:Nat×List Value}(hg:g∈C.G)(hi:g.2[i]?=some v):nM w g.1 i v:=by
 obtain⟨⟨h1,h2,h3⟩,h4⟩:=h.eM g hg;exact(h4 i v hi).on (h.fr.block g.1 h1 h2).1

inductive Rd where
 | none
 | fu (k:Nat)
 | jI
def Same(C:dF)(x:St)(w w':World):Rd→Prop
 | .none=>True
 | .fu k=>∀B,x.S[k]?=some B→w'.heap[B.b]?=w.heap[B.b]?
 | .jI=>∀b,b<w.heap.size→¬live C.X x.S b→w'.heap[b]?=w.heap[b]?
theorem Same.self(C:dF)(x:St)(w:World):∀k,Same C x w w k
 | .none=>trivial
 | .fu _=>fun _ _=>rfl
 | .jI=>fun _ _ _=>rfl
def bV(P:Program)(G:List (Nat×List Value))(x:St)(o:Oper)(k:Rd)(d:D):Prop :=
 ∀C a w,C.G=G→bG C x a w→∃v,cl w (live C.X x.S) d v∧∀w',Same C x w w' k→(execOp a.eval o).run P w' = .ok (.value v) w'
variable {P:Program} {G:List (Nat×List Value)} {x:St} {o:Oper}
theorem YF(ho:o.op = .move y):bV P G x o .none (aF x y):=fun C a w _ h =>
 ⟨a.eval y,h.eval y,fun w' _=>by unfold execOp;simp[ho]⟩
theorem X4(ho:o.op = .assign y):bV P G x o .none (aF x y):=fun C a w _ h =>
 ⟨a.eval y,h.eval y,fun w' _=>by unfold execOp;simp[ho]⟩
theorem N0{c z:Operand}{t:Bool}(ho:o.op = .pick c y z)(hc:aF x c = .v (.bool t)):bV P G x o .none (if t then aF x y else aF x z):=fun C a w _ h=>by
 refine⟨if t then a.eval y else a.eval z,by cases t<;>simp[h.eval],fun w' _=>?_⟩;unfold execOp;simp only[ho,h.flat hc,asBool];cases t<;>simp
def kx(P:Program)(op:BinOp)(t:TypeId)(u u' r:Value):Prop:=∀(y z:Operand) w,(do eqGuard op t y z u u';Go.binOp op t u u':Sem Value).run P w = .ok r w
theorem cZ{op:BinOp}{t':TypeId}{z:Operand}{u' r:Value}(ho:o.op = .binOp op t y z t')(hy:aF x y = .v u)(hz:aF x z = .v u')(hb:kx P op t u u' r):bV P G x o .none (.v r):=fun C a w _ h =>
 ⟨r,.v _,fun w' _=>by
  unfold execOp;have:=hb y z w';simp only[Sem.run_bind] at this;simp only[ho,h.flat hy,h.flat hz,Sem.run_bind,this,Result.andThen_ok,Sem.run_pure]⟩
theorem Ed{op:UnOp}{r:Value}(ho:o.op = .unOp op t y)(hy:aF x y = .v u)(hb:∀w,(Op.unary op u).run P w = .ok r w):bV P G x o .none (.v r):=fun C a w _ h =>
 ⟨r,.v _,fun w' _=>by
  unfold execOp;simp only[ho,h.flat hy,Sem.run_bind,hb w',Result.andThen_ok,Sem.run_pure]⟩
theorem oo{s:TypeId}{r:Value}(ho:o.op = .convert s t y)(hy:aF x y = .v u)(hb:∀w,(Go.convert s t u).run P w = .ok r w):bV P G x o .none (.v r):=fun C a w _ h =>
 ⟨r,.v _,fun w' _=>by
  unfold execOp;simp only[ho,h.flat hy,Sem.run_bind,hb w',Result.andThen_ok,Sem.run_pure]⟩
/-! ### Fields and places -/
theorem NA{s:TypeId}{f:Field}{w:World}(O:∀w,(underlying s).run P w = .ok (.struct I) w)(hf:I[i]?=some f)(hn:∀w,(sizeOf f.type).run P w = .ok (n+1) w)(E:f.offset=off) :
  (Instr.fieldAt s (.pointer (some ⟨b,o',none⟩)) i).run P w = .ok (.pointer (some ⟨b,o'+off,none⟩)) w:=by
 subst E;simp[Instr.fieldAt,O,hf,Instr.sureAddr,fieldPlace,hn,Addr.add_mid]
theorem Yg {s:TypeId} {f:Field} (ho:o.op = .fieldAddr s y i) (hy:aF x y = .v (.pointer (some ⟨b,o',none⟩)))
  (O:∀w,(underlying s).run P w = .ok (.struct I) w) (hf:I[i]?=some f) (hn:∀w,(sizeOf f.type).run P w = .ok (n+1) w) (E:f.offset=off):bV P G x o .none (.v (.pointer (some ⟨b,o'+off,none⟩))):=fun C a w _ h =>
 ⟨_,.v _,fun w' _=>by
  unfold execOp;simp only[ho,h.flat hy,Sem.run_bind,NA O hf hn E,Result.andThen_ok,Sem.run_pure]⟩
theorem X5 {s:TypeId} {cs:List D} {f:Field} {O:Array Field} (ho:o.op = .fieldAddr s y i) (hy:aF x y = .fx cs o')
  (U:∀w,(underlying s).run P w = .ok (.struct O) w) (hf:O[i]?=some f) (hn:∀w,(sizeOf f.type).run P w = .ok (n+1) w) (E:f.offset=off):bV P G x o .none (.fx cs (o'+off)):=fun C a w _ h=>by
 have hr:=h.eval y;rw[hy] at hr;generalize hg:a.eval y=u at hr;cases hr with
 | fx _ _ b I g hb hL hc hr =>
  refine⟨_,.fx cs (o'+off) b I g hb hL hc hr,fun w' _=>?_⟩;unfold execOp;simp only[ho,hg,Sem.run_bind,NA U hf hn E,Result.andThen_ok,Sem.run_pure,Nat.add_assoc]
theorem XU{cs:List D}{d:D}(ho:o.op = .extract y i)(hy:aF x y = .dz cs)(hd:cs[i]?=some d):bV P G x o .none d:=fun C a w _ h=>by
 have hr:=h.eval y;rw[hy] at hr;generalize hg:a.eval y=u at hr;cases hr with
 | dz _ vs hl hr =>
  obtain⟨aa,he⟩:=List.getElem?_eq_some_iff.1 hd;refine⟨vs[i]'w4,?_,fun w' _=>?_⟩
  ·rw[←he];exact hr _ aa w4
  unfold execOp;simp[ho,hg,Instr.extract,getElem?_eq_getElem (show i<vs.length by omega)]
/-! ### Loads -/
theorem Ht{w:World}(ha:∀w,(isAgg t).run P w = .ok false w)(hc:w.cell? ⟨b,o',none⟩=some v) :
  (Instr.loadAt t (.pointer (some ⟨b,o',none⟩))).run P w = .ok v w:=by
 simp[Instr.loadAt,Instr.sureAddr,loadVar,ha,hc]
theorem Hu {vs:List Value} {w:World} (ha:∀w,(isAgg t).run P w = .ok true w) (hn:∀w,(sizeOf t).run P w = .ok n w) (hl:vs.length=n)
  (hc:∀j (h:j<vs.length),w.cell? ⟨b,o'+j,none⟩=some vs[j]) :
  (Instr.loadAt t (.pointer (some ⟨b,o',none⟩))).run P w = .ok (.agg vs.toArray) w:=by
 have:=run_loadCells_list (P:=P) w ⟨b,o',none⟩ vs (fun j v E=>by
  obtain⟨h1,h2⟩:=List.getElem?_eq_some_iff.1 E;rw[Addr.add_mid,hc j h1,h2])
 rw[hl] at this;simp[Instr.loadAt,Instr.sureAddr,loadVar,ha,hn,this]
theorem nK{w:World}(E:w.heap[b]?=some (.cells cur e (0,0)))(I:cur[i]?=some u):w.cell? ⟨b,i,none⟩=some u:=by
 unfold World.cell?;simp[E,I]
theorem DJ {d:D} (ho:o.op = .load t y) (hy:aF x y = .v (.pointer (some ⟨b,o',none⟩)))
  (hk:x.S[k]?=some B) (hb:B.b=b) (ha:∀w,(isAgg t).run P w = .ok false w) (hd:B.cs[o']?=some d) (hne:isMap B.e=false:=by rfl):bV P G x o (.fu k) d:=fun C a w _ h=>by
 obtain⟨_,cur,h1,h2,h3,h4⟩:=h.fu hk;rw[jY hne] at h1;obtain⟨aa,he⟩:=List.getElem?_eq_some_iff.1 hd;obtain⟨u,hu,hr⟩:=h4 o' aa;refine⟨u,by rw[←he];exact hr,fun w' hw=>?_⟩;have E:w'.heap[B.b]?=_:=(hw B hk).trans h1;unfold execOp;subst hb;simp only[ho,h.flat hy,Sem.run_bind,Ht ha (nK E hu),Result.andThen_ok,Sem.run_pure]
theorem As (ho:o.op = .load t y) (hy:aF x y = .v (.pointer (some ⟨b,o',none⟩)))
  (hk:x.S[k]?=some B) (hb:B.b=b) (ha:∀w,(isAgg t).run P w = .ok true w) (hn:∀w,(sizeOf t).run P w = .ok n w) (hl:ds.length=n) (hd:(B.cs.drop o').take n=ds) (hne:isMap B.e=false:=by rfl):bV P G x o (.fu k) (.agg ds):=fun C a w _ h=>by
 obtain⟨_,cur,h1,h2,h3,h4⟩:=h.fu hk;rw[jY hne] at h1;have hlen:o'+n≤B.cs.length∨n=0:=by
  have:=congrArg length hd;simp only[length_take,length_drop] at this;omega
 have E:∀j,j<n→∃u,cur[o'+j]?=some u∧∀(h:j<ds.length),cl w (live C.X x.S) ds[j] u:=fun j hj=>by
  obtain⟨u,hu,hr⟩:=h4 (o'+j) w4;refine⟨u,hu,fun h=>?_⟩;subst hd;simpa using hr
 refine⟨.agg ((range n).map fun j=>cur.getD (o'+j) undef).toArray,.agg _ _ (by simp[hl]) (fun i q1 q2=>?_),fun w' hw=>?_⟩
 ·obtain⟨u,hu,hr⟩:=E i w4;simp only[getElem_map,getElem_range,Array.getD_eq_getD_getElem?,hu,Option.getD_some];exact hr q1
 have I:w'.heap[B.b]?=_:=(hw B hk).trans h1;unfold execOp;subst hb;have:=Hu (P:=P) (w:=w') (b:=B.b) (o':=o') (vs:=(range n).map fun j=>cur.getD (o'+j) undef) ha hn bq (fun j hj=>by
  simp only[length_map,length_range] at hj;obtain⟨u,hu,_⟩:=E j hj;simp only[getElem_map,getElem_range,Array.getD_eq_getD_getElem?,hu,Option.getD_some];exact nK I hu)
 simp only[ho,h.flat hy,Sem.run_bind,this,Result.andThen_ok,Sem.run_pure]
theorem DH {cs:List D} {d:D} (ho:o.op = .load t y) (hy:aF x y = .fx cs o')
  (ha:∀w,(isAgg t).run P w = .ok false w) (hd:cs[o']?=some d):bV P G x o .jI d:=fun C a w _ h=>by
 have hr:=h.eval y;rw[hy] at hr;generalize hg:a.eval y=u at hr;cases hr with
 | fx _ _ b E g hb hL hc hr =>
  obtain⟨aa,he⟩:=List.getElem?_eq_some_iff.1 hd;refine⟨g o',by rw[←he];exact hr o' aa,fun w' hw=>?_⟩;have I:=World.cell?_of_block (w:=w) (a:=⟨b,E+o',none⟩) (hw b hb hL);unfold execOp;simp only[ho,hg,Sem.run_bind,Ht ha (I.trans (hc o' aa)),Result.andThen_ok,Sem.run_pure]
theorem G0 {cs:List D} (ho:o.op = .load t y) (hy:aF x y = .fx cs o')
  (ha:∀w,(isAgg t).run P w = .ok true w) (hn:∀w,(sizeOf t).run P w = .ok n w) (hl:ds.length=n) (hd:(cs.drop o').take n=ds):bV P G x o .jI (.agg ds):=fun C a w _ h=>by
 have hr:=h.eval y;rw[hy] at hr;generalize hg:a.eval y=u at hr;cases hr with
 | fx _ _ b E g hb hL hc hr =>
  have hlen:o'+n≤cs.length∨n=0:=by
   have:=congrArg length hd;simp only[length_take,length_drop] at this;omega
  refine⟨.agg ((range n).map fun j=>g (o'+j)).toArray,.agg _ _ (by simp[hl]) (fun i q1 q2=>?_),fun w' hw=>?_⟩
  ·simp only[getElem_map,getElem_range];have:=hr (o'+i) w4;subst hd;simpa using this
  have:=Hu (P:=P) (w:=w') (b:=b) (o':=E+o') (vs:=(range n).map fun j=>g (o'+j)) ha hn bq (fun j hj=>by
   simp only[length_map,length_range] at hj;simp only[getElem_map,getElem_range];have I:=World.cell?_of_block (w:=w) (a:=⟨b,E+o'+j,none⟩) (hw b hb hL);rw[I,Nat.add_assoc];exact hc _ w4)
  unfold execOp;simp only[ho,hg,Sem.run_bind,this,Result.andThen_ok,Sem.run_pure]
theorem Yh {vs:List Value} (ho:o.op = .load t y) (hy:aF x y = .v (.pointer (some ⟨b,o',none⟩)))
  (hg:(b,vs)∈G) (ha:∀w,(isAgg t).run P w = .ok false w) (hd:vs[o']?=some v) (qq:qG v=true:=by rfl):bV P G x o .jI (.v v):=fun C a w hG h=>by
 subst hG;refine⟨v,.v _,fun w' hw=>?_⟩;have h1:=(h.aR hg hd).cell qq;obtain⟨⟨q1,q2,E⟩,_⟩:=h.eM _ hg;have hb:b<w.heap.size:=Nat.lt_of_lt_of_le q1 h.fr.size;have hn:¬live C.X x.S b:=fun hl=>hl.elim E (h.fr.block b q1 q2).2;have I:=World.cell?_of_block (w:=w) (a:=⟨b,o',none⟩) (hw b hb hn);unfold execOp;simp only[ho,h.flat hy,Sem.run_bind,Ht ha (I.trans h1),Result.andThen_ok,Sem.run_pure]

/-! ### Places in lists -/
theorem Rb{len:Nat}{k:IntKind}{i:Int}{w:World}(E:∀w,(underlying t).run P w = .ok (.slice e) w)(hs:∀w,(sizeOf e).run P w = .ok sz w)(hi:i=j)(hj:j<len) :
  (Instr.indexAt t (.slice (some ⟨b,o',none⟩) len cap) (.int k i)).run P w = .ok (.pointer (some ⟨b,o'+j*sz,none⟩)) w:=by
 subst hi;simp[Instr.indexAt,asIntOf,E,hs,hj,Addr.add_mid]
theorem Oq {len:Nat} {cs:List D} {k:IntKind} {i:Int} {z:Operand} (ho:o.op = .indexAddr t y z) (hy:aF x y = .list sz cs len) (hz:aF x z = .v (.int k i))
  (I:∀w,(underlying t).run P w = .ok (.slice e) w) (hs:∀w,(sizeOf e).run P w = .ok sz w) (hi:i=j) (hj:j<len):bV P G x o .none (.fx cs (j*sz)):=fun C a w _ h=>by
 have hr:=h.eval y;rw[hy] at hr;generalize hg:a.eval y=u at hr;cases hr with
 | lZ=>omega
 | list _ _ _ b E cap g hl h1 h2 hb hL hc hr =>
  refine⟨_,.fx cs (j*sz) b E g hb hL hc hr,fun w' _=>?_⟩;unfold execOp;simp only[ho,hg,h.flat hz,Sem.run_bind,Rb I hs hi hj,Result.andThen_ok,Sem.run_pure]
theorem N1 {len:Nat} {k:IntKind} {i:Int} {z:Operand} (ho:o.op = .indexAddr t y z) (hy:aF x y = .v (.slice (some ⟨b,o',none⟩) len cap)) (hz:aF x z = .v (.int k i))
  (E:∀w,(underlying t).run P w = .ok (.slice e) w) (hs:∀w,(sizeOf e).run P w = .ok sz w) (hi:i=j) (hj:j<len):bV P G x o .none (.v (.pointer (some ⟨b,o'+j*sz,none⟩))):=fun C a w _ h =>
 ⟨_,.v _,fun w' _=>by
  unfold execOp;simp only[ho,h.flat hy,h.flat hz,Sem.run_bind,Rb E hs hi hj,Result.andThen_ok,Sem.run_pure]⟩
theorem aaZ{len:Nat}{k:IntKind}{i:Int}{w:World}(E:∀w,(underlying t).run P w = .ok (.array len e) w)(hs:∀w,(sizeOf e).run P w = .ok sz w)(hi:i=j)(hj:j<len) :
  (Instr.indexAt t (.pointer (some ⟨b,o',none⟩)) (.int k i)).run P w = .ok (.pointer (some ⟨b,o'+j*sz,none⟩)) w:=by
 subst hi;simp[Instr.indexAt,asIntOf,E,hs,hj,Addr.add_mid,Instr.sureAddr]
theorem YG {len:Nat} {k:IntKind} {i:Int} {z:Operand} (ho:o.op = .indexAddr t y z) (hy:aF x y = .v (.pointer (some ⟨b,o',none⟩))) (hz:aF x z = .v (.int k i))
  (E:∀w,(underlying t).run P w = .ok (.array len e) w) (hs:∀w,(sizeOf e).run P w = .ok sz w) (hi:i=j) (hj:j<len):bV P G x o .none (.v (.pointer (some ⟨b,o'+j*sz,none⟩))):=fun C a w _ h =>
 ⟨_,.v _,fun w' _=>by
  unfold execOp;simp only[ho,h.flat hy,h.flat hz,Sem.run_bind,aaZ E hs hi hj,Result.andThen_ok,Sem.run_pure]⟩
theorem Hf {s:ByteArray} {c:UInt8} {k:IntKind} {i:Int} {z:Operand} (ho:o.op = .index t y z) (hy:aF x y = .v (.string s)) (hz:aF x z = .v (.int k i))
  (E:∀w,(underlying t).run P w = .ok .string w) (hi:i=j) (hj:s[j]?=some c):bV P G x o .none (.v (.int .u8 c.toNat)):=fun C a w _ h =>
 ⟨_,.v _,fun w' _=>by
  subst hi;unfold execOp;simp[ho,h.flat hy,h.flat hz,Instr.index,asIntOf,E,hj]⟩
theorem YH {len:Nat} {cs:List D} {d:D} {k:IntKind} {i:Int} {z:Operand} (ho:o.op = .index t y z) (hy:aF x y = .agg cs) (hz:aF x z = .v (.int k i))
  (E:∀w,(underlying t).run P w = .ok (.array len e) w) (hs:∀w,(sizeOf e).run P w = .ok sz w) (ha:∀w,(isAgg e).run P w = .ok false w) (hi:i=j) (hj:j<len) (hd:cs[j*sz]?=some d):bV P G x o .none d:=fun C a w _ h=>by
 have hr:=h.eval y;rw[hy] at hr;generalize hg:a.eval y=u at hr;subst hi;cases hr with
 | agg _ vs hl hr =>
  obtain⟨aa,he⟩:=List.getElem?_eq_some_iff.1 hd;refine⟨vs[j*sz]'w4,?_,fun w' _=>?_⟩
  ·rw[←he];exact hr _ aa w4
  unfold execOp;simp[ho,hg,h.flat hz,Instr.index,asIntOf,E,hj,part,ha,hs,getElem?_eq_getElem (show j*sz<vs.length by omega)]
/-! ### Slices -/
def mu(x:St)(y:Option Operand)(n:Nat)(ahg:Nat):Prop :=
 match y with
 | some y=>∃(k:IntKind) (i:Int),aF x y = .v (.int k i)∧i=n
 | none=>n=ahg
theorem rJ{w:World}(h:bG C x a w){y:Option Operand}{E:Nat}(hb:mu x y n E):(∃k,y.map a.eval=some (.int k n))∨(y.map a.eval=none∧n=E):=by
 cases y with
 | none=>exact .inr ⟨rfl,hb⟩
 | some y =>
  obtain⟨k,i,h1,h2⟩:=hb;exact .inl ⟨k,by rw[Option.map_some,h.flat h1,h2]⟩
theorem DK{k:IntKind}{code:BoundsCode}{w:World}(h:n≤m):(Instr.sliceBound (.int k n) m code).run P w = .ok n w:=by
 unfold Instr.sliceBound;simp[asIntOf,h]
theorem vK{il:Bool}{len l h:Nat}{lo hi:Option Value}{w:World}(eT:(∃k,lo=some (.int k l))∨(lo=none∧l=0))(eu:(∃k,hi=some (.int k h))∨(hi=none∧h=len))(h1:l≤h)(h2:h≤cap) :
  (Instr.sliceBounds il len cap lo hi none).run P w = .ok (l,h,cap) w:=by
 unfold Instr.sliceBounds;rcases eT with ⟨k,rfl⟩|⟨rfl,rfl⟩<;>rcases eu with ⟨k',rfl⟩|⟨rfl,rfl⟩<;>simp[DK,h1,h2]
theorem G3 {len l:Nat} {cs:List D} (ho:o.op = .slice t y lo hi none) (hy:aF x y = .list sz cs len) (eT:mu x lo l 0) (eu:mu x hi h' len)
  (U:∀w,(underlying t).run P w = .ok (.slice e) w) (hs:∀w,(sizeOf e).run P w = .ok sz w) (h1:l≤h') (h2:h'≤len):bV P G x o .none (.list sz ((cs.drop (l*sz)).take ((h'-l)*sz)) (h'-l)):=fun C a w _ h=>by
 have hr:=h.eval y;rw[hy] at hr;generalize hg:a.eval y=u at hr;have b1:=rJ h eT;have b2:=rJ h eu;cases hr with
 | lZ _ ad cap =>
  have e1:l=0:=(by omega)
  have e2:h'=0:=(by omega)
  subst e1 e2;refine⟨.slice (if cap=0 then ad else ad.map (·.add (0*sz))) 0 cap,by simpa using cl.lZ sz _ _,fun w' _=>?_⟩;unfold execOp;simp[ho,hg,Instr.sliceAt,Instr.slice,U,vK b1 b2 (Nat.le_refl _) (Nat.zero_le _),hs]
 | list _ _ _ b E cap g hl q1 q2 hb hL hc hr =>
  have hlen:((cs.drop (l*sz)).take ((h'-l)*sz)).length=(h'-l)*sz:=by
   rw[length_take,length_drop,hl,←Nat.sub_mul];exact Nat.min_eq_left (Nat.mul_le_mul_right _ w4)
  have O:∀i,i<(h'-l)*sz→l*sz+i<cs.length:=fun i hi=>by
   rw[hl];have:l*sz+(h'-l)*sz≤len*sz:=(by rw[←Nat.add_mul];exact Nat.mul_le_mul_right _ w4)
   omega
  by_cases I:cap=l
  ·have e2:h'=l:=(by omega)
   refine⟨.slice (some ⟨b,E,none⟩) (h'-l) (cap-l),?_,fun w' _=>?_⟩
   ·refine .list sz _ _ b E _ g hlen w4 w4 hb hL (fun i hi=>?_) (fun i hi=>?_)<;>(rw[hlen,e2] at hi;simp at hi)
   have b3:=fun w=>vK (P:=P) (il:=true) (w:=w) b1 b2 h1 (Nat.le_trans h2 q1);unfold execOp;simp only[ho,hg,Instr.sliceAt,Instr.slice,U,Sem.run_bind,Result.andThen_ok,Option.map_none,b3,hs,Sem.run_pure,if_pos I]
  refine⟨.slice (some ⟨b,E+l*sz,none⟩) (h'-l) (cap-l),?_,fun w' _=>?_⟩
  ·refine .list sz _ _ b (E+l*sz) _ (fun i=>g (l*sz+i)) hlen w4 w4 hb hL (fun i hi=>?_) (fun i hi=>?_)
   ·rw[Nat.add_assoc];exact hc _ (O i (by rw[hlen] at hi;exact hi))
   simp only[getElem_take,getElem_drop];exact hr _ _
  have b3:=fun w=>vK (P:=P) (il:=true) (w:=w) b1 b2 h1 (Nat.le_trans h2 q1);unfold execOp;simp only[ho,hg,Instr.sliceAt,Instr.slice,U,Sem.run_bind,Result.andThen_ok,Option.map_none,b3,hs,Sem.run_pure,if_neg I,Option.map_some,Addr.add_mid]
theorem NJ {len:Nat} (ho:o.op = .slice t y lo hi none) (hy:aF x y = .v (.slice (some ⟨b,o',none⟩) len cap)) (eT:mu x lo 0 0) (eu:mu x hi h' len)
  (E:∀w,(underlying t).run P w = .ok (.slice e) w) (hs:∀w,(sizeOf e).run P w = .ok sz w) (h2:h'≤cap):bV P G x o .none (.v (.slice (some ⟨b,o',none⟩) h' cap)):=fun C a w _ h =>
 ⟨_,.v _,fun w' _=>by
  have b1:=rJ h eT;have b2:=rJ h eu;unfold execOp;simp[ho,h.flat hy,Instr.sliceAt,Instr.slice,E,vK b1 b2 (Nat.zero_le _) h2,hs,Addr.add_mid]⟩
theorem X6 {s:ByteArray} {l:Nat} (ho:o.op = .slice t y lo hi none) (hy:aF x y = .v (.string s)) (eT:mu x lo l 0) (eu:mu x hi h' s.size)
  (E:∀w,(underlying t).run P w = .ok .string w) (h1:l≤h') (h2:h'≤s.size):bV P G x o .none (.v (.string (s.extract l h'))):=fun C a w _ h =>
 ⟨_,.v _,fun w' _=>by
  have b1:=rJ h eT;have b2:=rJ h eu;unfold execOp;simp[ho,h.flat hy,Instr.sliceAt,Instr.slice,E,vK b1 b2 h1 h2]⟩
/-! ### len, cap, min, max -/
theorem Zy{len:Nat}{cs:List D}(ho:o.op = .call {callee:=.builtin .len,args:=#[y],argTypes:=ts})(ht:ts = #[t])(hy:aF x y = .list sz cs len)(E:∀w,(underlying t).run P w = .ok (.slice e) w):bV P G x o .none (.v (.int .i64 len)):=fun C a w _ h=>by
 have hr:=h.eval y;rw[hy] at hr;generalize hg:a.eval y=u at hr;subst ht;refine⟨_,.v _,fun w' _=>?_⟩;cases hr<;>(unfold execOp;simp[ho,hg,resolve,invoke,builtin,Builtin.len_,E,goInt])
theorem N2{len:Nat}(ho:o.op = .call {callee:=.builtin .len,args:=#[y],argTypes:=ts})(ht:ts = #[t])(hy:aF x y = .v (.slice ad len cap))(E:∀w,(underlying t).run P w = .ok (.slice e) w):bV P G x o .none (.v (.int .i64 len)):=fun C a w _ h=>by
 subst ht;refine⟨_,.v _,fun w' _=>?_⟩;unfold execOp;simp[ho,h.flat hy,resolve,invoke,builtin,Builtin.len_,E,goInt]
theorem DL {s:ByteArray} (ho:o.op = .call {callee:=.builtin .len,args:=#[y],argTypes:=ts}) (ht:ts = #[t]) (hy:aF x y = .v (.string s))
  (E:∀w,(underlying t).run P w = .ok .string w):bV P G x o .none (.v (.int .i64 s.size)):=fun C a w _ h=>by
 subst ht;refine⟨_,.v _,fun w' _=>?_⟩;unfold execOp;simp[ho,h.flat hy,resolve,invoke,builtin,Builtin.len_,E,goInt]
theorem X7 {b:Builtin} {u' r:Value} {z:Operand} (ho:o.op = .call {callee:=.builtin b,args:=#[y,z],argTypes:=ts}) (hy:aF x y = .v u) (hz:aF x z = .v u')
  (hb:∀cs w,(Go.builtin b ts o.type cs #[u,u']).run P w = .ok (.value r) w):bV P G x o .none (.v r):=fun C a w _ h =>
 ⟨_,.v _,fun w' _=>by
  unfold execOp;simp[ho,h.flat hy,h.flat hz,resolve,invoke,hb]⟩
theorem YI{fn:Fn}{E:Array Operand}(ho:o.op = .makeFunc fn #[] E)(hd:E.toList.map (aF x)=ds):bV P G x o .none (.ek fn ds):=fun C a w _ h=>by
 subst hd;refine⟨.func fn #[] (E.toList.map a.eval).toArray,.ek _ _ _ bq (fun i q1 q2=>?_),fun w' _=>?_⟩
 ·simp only[getElem_map];exact h.eval _
 unfold execOp;simp[ho,Instr.makeFunc];rw[←Array.toList_map,Array.toArray_toList]
/-! ### Operations that make or write a block -/
def lK(W:List Nat)(w w':World):Prop:=w.heap.size≤w'.heap.size∧∀b,b<w.heap.size→b∉W→w'.heap[b]?=w.heap[b]?
def fJ(P:Program)(G:List (Nat×List Value))(x:St)(o:Oper)(W:List Nat)(post:St→Prop):Prop :=
 ∀(C:dF) (a:Act) (w:World) (K:Act→World→Prop) (Q:Exit→Act→World→Prop),C.G=G→bG C x a w→(∀y a' w',post y→bG C y a' w'→lK W w w'→Fr w (ap x.S) w' (ap y.S)→K a' w')→o.wp P a w K Q
theorem lK.refl(W:List Nat)(w:World):lK W w w:=⟨Nat.le_refl _,fun _ _ _=>rfl⟩
theorem bV.fQ{k:Rd}{d:D}{t:Nat}(h:bV P G x o k d)(hd:o.dst=some t):fJ P G x o [] (fun y=>y=x.put t d):=fun C a w K Q hG hs hK=>by
 obtain⟨v,hr,oE⟩:=h C a w hG hs;unfold Oper.wp;rw[oE w (Same.self C x w k),Oper.upon_value,hd];exact hK _ _ _ rfl (hs.put hr) (lK.refl _ _) (Fr.refl _ _)
def cellsOf:D→List D
 | .agg cs=>cs
 | .v (.agg cs)=>cs.toList.map .v
 | d=>[d]
def cH(w:World)(L:Nat→Prop)(ds:List D)(vs:List Value):Prop:=vs.length=ds.length∧∀i (h:i<ds.length) (h':i<vs.length),cl w L ds[i] vs[i]
theorem cH.mono{w w':World}{L E:Nat→Prop}{ds:List D}{vs:List Value}(h:cH w L ds vs)(H:∀b,b<w.heap.size→¬L b→w'.heap[b]?=w.heap[b]?∧¬E b):cH w' E ds vs :=
 ⟨h.1,fun i h1 h2=>(h.2 i h1 h2).mono H⟩
def one:D→Bool
 | .v x=>x.oneCell'
 | .list ..|.fx ..|.ek ..=>true
 | _=>false
theorem cl.AJ{w:World}{d:D}(h:cl w L d v)(hd:one d=true):v.oneCell'=true:=by
 cases h<;>first|exact hd|rfl|exact absurd hd (by simp[one])
theorem cl.cells{w:World}{L:Nat→Prop}{d:D}{v:Value}(h:cl w L d v)(hd:d≠.bU):cH w L (cellsOf d) v.cells.toList:=by
 have E:∀(d:D) (v:Value),v.cells = #[v]→cellsOf d=[d]→cl w L d v→cH w L (cellsOf d) v.cells.toList:=fun d v h1 h2 h3=>by
  rw[h1,h2];refine⟨rfl,fun i q1 q2=>?_⟩;have:i=0:=(by simpa using q1)
  subst this;exact h3
 cases h with
 | v =>
  cases v with
  | agg cs =>
   refine⟨by simp[cellsOf,Value.cells],fun i q1 q2=>?_⟩;simp only[cellsOf,getElem_map,Value.cells];exact .v _
  | _=>exact E _ _ rfl rfl (.v _)
 | lZ sz ad cap=>exact E _ _ rfl rfl (.lZ sz ad cap)
 | list sz cs len b o cap f hl h1 h2 hb hL hc hr=>exact E _ _ rfl rfl (.list sz cs len b o cap f hl h1 h2 hb hL hc hr)
 | fx cs off b o f hb hL hc hr=>exact E _ _ rfl rfl (.fx cs off b o f hb hL hc hr)
 | agg cs vs hl hr=>exact⟨by simp[cellsOf,Value.cells,hl],fun i q1 q2=>hr i q1 q2⟩
 | dz cs vs hl hr=>exact E _ _ rfl rfl (.dz cs vs hl hr)
 | ek fn cs vs hl hr=>exact E _ _ rfl rfl (.ek fn cs vs hl hr)
 | jT l os h=>exact E _ _ rfl rfl (.jT l os h)
 | bU=>exact absurd rfl hd
theorem getElem?_push_lt{w:World}{ob:Obj}(h:b<w.heap.size):(w.alloc ob).heap[b]?=w.heap[b]?:=Below.heap_alloc w ob b h
theorem bG.TU {w:World} (h:bG C x a w) {t:Nat} {cells:Array Value} {size:Nat} (hr:cH w (live C.X x.S) ds cells.toList) (O:cells.size=size) {d:D}
  (hd:∀L,cl (w.alloc (ob e cells)) L d v) :
  bG C ⟨x.n,(t,d)::x.env,⟨w.heap.size,e,size,ds⟩::x.S⟩ (a.put (some t) v) (w.alloc (ob e cells)):=by
 have aa:∀b,live C.X x.S b→b<w.heap.size:=fun b hb=>by
  rcases hb with hb|hb
  ·exact Nat.lt_of_lt_of_le (h.ex b hb).1 h.fr.size
  obtain⟨B,I,rfl⟩:=mem_map.1 hb;exact(h.own.at_ B I).1
 have H:∀b,b<w.heap.size→¬live C.X x.S b→(w.alloc (ob e cells)).heap[b]?=w.heap[b]?∧¬live C.X (⟨w.heap.size,e,size,ds⟩::x.S) b:=fun b hb hn =>
  ⟨getElem?_push_lt hb,fun hl=>by
   rcases hl with hl|hl
   ·exact hn (.inl hl)
   simp only[ap,map_cons,mem_cons] at hl;rcases hl with hl|hl
   ·omega
   exact hn (.inr hl)⟩
 have base:bG C ⟨x.n,x.env,⟨w.heap.size,e,size,ds⟩::x.S⟩ a (w.alloc (ob e cells)):=by
  refine⟨h.defers,h.size,fun t ht=>(h.env t ht).mono H,⟨fun B I=>?_,?_⟩,?_,h.ex,h.eM⟩
  ·rcases mem_cons.1 I with rfl|I
   ·refine⟨by simp,cells,heap_alloc_new w _,O,?_,fun i hi=>?_⟩
    ·have:=hr.1;simp at this;simp only;omega
    have E:i<cells.toList.length:=(by rw[hr.1];exact hi)
    refine⟨cells.toList[i],?_,(hr.2 i hi E).mono H⟩;simp at E;simp[E]
   obtain⟨h0,cur,h1,h2,h3,h4⟩:=h.own.at_ B I;refine⟨by simp;omega,cur,(getElem?_push_lt h0).trans h1,h2,h3,fun i hi=>?_⟩;obtain⟨u,hu,hq⟩:=h4 i hi;exact⟨u,hu,hq.mono H⟩
  ·show(w.heap.size::ap x.S).Nodup;exact nodup_cons.2 ⟨fun hm=>Nat.lt_irrefl _ (aa _ (.inr hm)),h.own.apart⟩
  refine⟨h.fr.os,h.fr.tape,h.fr.output,by simp;have:=h.fr.size;omega,fun b hb hn=>?_⟩;obtain⟨q1,q2⟩:=h.fr.block b hb hn;have U:=Nat.lt_of_lt_of_le hb h.fr.size;refine⟨(getElem?_push_lt U).trans q1,fun hm=>?_⟩;simp only[ap,map_cons,mem_cons] at hm;rcases hm with hm|hm
  ·omega
  exact q2 hm
 exact base.put (hd _)
theorem bG.new {w:World} (h:bG C x a w) {t:Nat} {cells:Array Value} {size:Nat} (hr:cH w (live C.X x.S) ds cells.toList) (E:cells.size=size) {d:D}
  (hd:∀L,cl (w.alloc (.cells cells e)) L d v) (hne:isMap e=false:=by rfl) :
  bG C ⟨x.n,(t,d)::x.env,⟨w.heap.size,e,size,ds⟩::x.S⟩ (a.put (some t) v) (w.alloc (.cells cells e)):=by
 have:=bG.TU h (e:=e) hr E (t:=t) (d:=d) (v:=v) (fun L=>by rw[jY hne];exact hd L);rw[jY hne] at this;exact this
theorem lK.alloc(w:World)(ob:Obj):lK [] w (w.alloc ob):=⟨by simp,fun b hb _=>getElem?_push_lt hb⟩
theorem Fr.alloc(w:World)(ob:Obj)(S:List Nat):Fr w S (w.alloc ob) (w.heap.size::S) :=
 ⟨rfl,rfl,rfl,by simp,fun b hb hn=>⟨getElem?_push_lt hb,fun hm=>by
  rcases mem_cons.1 hm with hm|hm
  ·omega
  exact hn hm⟩⟩
def wj(x:St)(t:Nat)(e:TypeId)(ds:List D)(y:St):Prop:=∃b,y=⟨x.n,(t,.v (.pointer (some ⟨b,0,none⟩)))::x.env,⟨b,e,ds.length,ds⟩::x.S⟩
theorem Ax{z:Value}{t:Nat}(ho:o.op = .alloc e)(hd:o.dst=some t)(hz:∀w,(zeroValue e).run P w = .ok z w)(jm:z.cells.toList.map .v=ds)(hne:isMap e=false:=by rfl):fJ P G x o [] (wj x t e ds):=fun C a w K Q hG h hK=>by
 subst jm;unfold Oper.wp;have:(execOp a.eval o).run P w = .ok (.value (.pointer (some ⟨w.heap.size,0,none⟩))) (w.alloc (.cells z.cells e)):=by
  unfold execOp;simp[ho,Instr.alloc,hz,newVar,newRow]
 rw[this,Oper.upon_value,hd];refine hK _ _ _ ⟨w.heap.size,rfl⟩ (h.new (ds:=z.cells.toList.map .v) ⟨by simp,fun i q1 q2=>?_⟩ bq (fun L=>.v _) hne) (lK.alloc _ _) (Fr.alloc _ _ _);simp only[getElem_map];exact .v _
theorem acF{t:Nat}{d:D}(ho:o.op = .box e y)(hd:o.dst=some t)(hy:aF x y=d)(hj:d≠.bU)(jm:cellsOf d=ds)(hne:isMap e=false:=by rfl):fJ P G x o [] (wj x t e ds):=fun C a w K Q hG h hK=>by
 subst jm;unfold Oper.wp;have:(execOp a.eval o).run P w = .ok (.value (.pointer (some ⟨w.heap.size,0,none⟩))) (w.alloc (.cells (a.eval y).cells e)):=by
  unfold execOp;simp[ho,Instr.box,newVar,newRow]
 rw[this,Oper.upon_value,hd];have hr:=h.eval y;rw[hy] at hr;have hc:=hr.cells hj;refine hK _ _ _ ⟨w.heap.size,rfl⟩ (h.new (ds:=cellsOf d) hc (by have:=hc.1;simpa using this) (fun L=>.v _) hne) (lK.alloc _ _) (Fr.alloc _ _ _)

/-! ### Structs and lists that are built -/
def da(cs:List D)(off:Nat):List D→List D
 | []=>cs
 | d::r=>da (cs.set off d) (off+1) r
def lW(place:Nat→Option (Nat×Nat))(cells:List D):List (Nat×D)→Option (List D)
 | []=>some cells
 | (i,d)::rest =>
  match place i with
  | none=>none
  | some (off,size)=>if (cellsOf d).length≠size||off+(cellsOf d).length>cells.length then none else lW place (da cells off (cellsOf d)) rest
theorem cH.set{w:World}{L:Nat→Prop}{ds:List D}{vs:List Value}(h:cH w L ds vs)(i:Nat){d:D}{v:Value}(hd:cl w L d v):cH w L (ds.set i d) (vs.set i v) :=
 ⟨by simp[h.1],fun j h1 h2=>by
  rw[getElem_set,getElem_set];split
  ·exact hd
  exact h.2 j _ _⟩
theorem cH.tail{w:World}{d:D}{vs:List Value}(h:cH w L (d::ds) (v::vs)):cl w L d v∧cH w L ds vs :=
 ⟨h.2 0 bq bq,by simpa using h.1,fun i h1 h2=>h.2 (i+1) (by simpa using h1) (by simpa using h2)⟩
theorem Hv{β:Type}(f:β→Value→Nat→β):∀(r:List Value) (k:Nat) (z:β),(r.zipIdx (k+1)).foldl (fun c (x:Value×Nat)=>f c x.1 x.2) z=(r.zipIdx k).foldl (fun c (x:Value×Nat)=>f c x.1 (x.2+1)) z
 | [],_,_=>rfl
 | v::r,k,z=>by
  simp only[zipIdx_cons,foldl_cons];exact Hv f r (k+1) _
theorem cH.da{w:World}{L:Nat→Prop}:∀(ds:List D) (vs:List Value) (cs:List D) (cells:List Value) (off:Nat),cH w L ds vs→cH w L cs cells→cH w L (da cs off ds) (vs.zipIdx.foldl (fun cs (c,j)=>cs.set (off+j) c) cells)
 | [],[],cs,cells,off,_,h=>h
 | [],_::_,_,_,_,h,_=>by simp[cH] at h
 | _::_,[],_,_,_,h,_=>by simp[cH] at h
 | d::ds,v::vs,cs,cells,off,h,hc=>by
  obtain⟨h0,h1⟩:=h.tail;have E:=cH.da ds vs (cs.set off d) (cells.set off v) (off+1) h1 (hc.set off h0);have e:(v::vs).zipIdx.foldl (fun cs (x:Value×Nat)=>cs.set (off+x.2) x.1) cells=vs.zipIdx.foldl (fun cs (x:Value×Nat)=>cs.set (off+1+x.2) x.1) (cells.set off v):=by
   rw[zipIdx_cons,foldl_cons,Nat.add_zero,Hv (fun (c:List Value) v n=>c.set (off+n) v)];congr 1;funext a b;rw[Nat.add_assoc,Nat.add_comm 1]
  rw[e];exact E
theorem DT:∀(l:List (Value×Nat)) (cells:Array Value) (off:Nat),(l.foldl (fun cs (x:Value×Nat)=>cs.setIfInBounds (off+x.2) x.1) cells).toList=l.foldl (fun cs (x:Value×Nat)=>cs.set (off+x.2) x.1) cells.toList
 | [],_,_=>rfl
 | (v,j)::l,cells,off=>by
  simp only[foldl_cons];rw[DT l];simp
theorem Ee{w:World}{L:Nat→Prop}(place:Nat→Option (Nat×Nat)):∀(parts:List (Nat×D)) (rY:List (Nat×Value)) (cs:List D) (cells:Array Value) (ds:List D),
  parts.length=rY.length→(∀i (h:i<parts.length) (h':i<rY.length),parts[i].1=rY[i].1∧parts[i].2≠.bU∧cl w L parts[i].2 rY[i].2)→cH w L cs cells.toList→lW place cs parts=some ds →
  ∃E,Instr.fill place cells rY=some E∧cH w L ds E.toList
 | [],[],cs,cells,ds,_,_,hc,hf=>by
  simp only[lW,Option.some.injEq] at hf;subst hf;exact⟨cells,rfl,hc⟩
 | [],_::_,_,_,_,h,_,_,_=>by simp at h
 | _::_,[],_,_,_,h,_,_,_=>by simp at h
 | (i,d)::parts,(j,v)::rY,cs,cells,ds,hl,hp,hc,hf=>by
  obtain⟨h1,h2,h3⟩:=hp 0 bq bq;simp only[getElem_cons_zero] at h1 h2 h3;subst h1;have I:=h3.cells h2;have O:v.cells.size=(cellsOf d).length:=(by have:=I.1;simpa using this)
  have U:cells.size=cs.length:=(by have:=hc.1;simpa using this)
  unfold lW at hf;unfold Instr.fill;cases fH:place i with
  | none=>rw[fH] at hf;simp at hf
  | some os =>
   obtain⟨off,size⟩:=os;simp only[fH] at hf ⊢;rw[O,U];split at hf
   ·cases hf
   rename_i hn;rw[if_neg hn];refine Ee place parts rY _ _ ds (by simpa using hl) (fun i h h'=>hp (i+1) oJ (by simpa using h')) ?_ hf;have:=cH.da (w:=w) (L:=L) (cellsOf d) v.cells.toList cs cells.toList off I hc;rw[←DT] at this;have e:v.cells.zipIdx.foldl (fun cs (x:Value×Nat)=>cs.setIfInBounds (off+x.2) x.1) cells=v.cells.toList.zipIdx.foldl (fun cs (x:Value×Nat)=>cs.setIfInBounds (off+x.2) x.1) cells:=by
    rw[←Array.foldl_toList,Array.toList_zipIdx]
   rw[e];exact this
theorem cH.rY(w:World)(L:Nat→Prop)(vs:List Value):cH w L (vs.map .v) vs:=⟨by simp,fun i h1 h2=>by simp only[getElem_map];exact .v _⟩
def lp(x:St)(ps:Array (Nat×Operand)):List (Nat×D):=ps.toList.map fun p=>(p.1,aF x p.2)
theorem Hw{w:World}(h:bG C x a w)(ps:Array (Nat×Operand))(hj:∀p∈lp x ps,p.2≠.bU):(lp x ps).length=((ps.map fun p=>(p.1,a.eval p.2)).toList).length ∧
  ∀i (h1:i<(lp x ps).length) (h2:i<((ps.map fun p=>(p.1,a.eval p.2)).toList).length),(lp x ps)[i].1=((ps.map fun p=>(p.1,a.eval p.2)).toList)[i].1∧(lp x ps)[i].2≠.bU∧cl w (live C.X x.S) (lp x ps)[i].2 ((ps.map fun p=>(p.1,a.eval p.2)).toList)[i].2:=by
 refine⟨by simp[lp],fun i h1 h2=>⟨?_,hj _ (getElem_mem h1),?_⟩⟩
 ·simp[lp]
 simp only[lp,getElem_map,Array.toList_map];exact h.eval _
theorem Yi {E:Array Field} {places:Array (Nat×Nat)} {z:Value} (ho:o.op = .build t ps) (hz:∀w,(zeroValue t).run P w = .ok z w)
  (I:∀w,(underlying t).run P w = .ok (.struct E) w) (hp:∀w,(E.mapM fun f=>do pure (f.offset,←sizeOf f.type):Sem (Array (Nat×Nat))).run P w = .ok places w)
  (hj:∀p∈lp x ps,p.2≠.bU) (hd:lW (places[·]?) (z.cells.toList.map .v) (lp x ps)=some ds):bV P G x o .none (.agg ds):=fun C a w _ h=>by
 obtain⟨q1,q2⟩:=Hw h ps hj;obtain⟨A7,h1,h2⟩:=Ee (w:=w) (L:=live C.X x.S) (places[·]?) (lp x ps) ((ps.map fun p=>(p.1,a.eval p.2)).toList) _ z.cells ds q1 q2 (cH.rY _ _ _) hd;refine⟨.agg A7.toList.toArray,.agg _ _ h2.1 h2.2,fun w' _=>?_⟩;unfold execOp;simp only[ho,Instr.build,hz,I,hp,Sem.run_bind,Result.andThen_ok,h1,Sem.run_pure,Array.toArray_toList]
theorem X8 {z:Value} (ho:o.op = .build t ps) (hz:∀w,(zeroValue t).run P w = .ok z w)
  (E:∀w,(underlying t).run P w = .ok (.array n e) w) (hs:∀w,(sizeOf e).run P w = .ok sz w)
  (hj:∀p∈lp x ps,p.2≠.bU) (hd:lW (fun i=>some (i*sz,sz)) (z.cells.toList.map .v) (lp x ps)=some ds):bV P G x o .none (.agg ds):=fun C a w _ h=>by
 obtain⟨q1,q2⟩:=Hw h ps hj;obtain⟨A7,h1,h2⟩:=Ee (w:=w) (L:=live C.X x.S) (fun i=>some (i*sz,sz)) (lp x ps) ((ps.map fun p=>(p.1,a.eval p.2)).toList) _ z.cells ds q1 q2 (cH.rY _ _ _) hd;refine⟨.agg A7.toList.toArray,.agg _ _ h2.1 h2.2,fun w' _=>?_⟩;unfold execOp;simp only[ho,Instr.build,hz,E,hs,Sem.run_bind,Result.andThen_ok,h1,Sem.run_pure,Array.toArray_toList]
def acG(x:St)(t:Nat)(e:TypeId)(len:Nat)(ds:List D)(y:St):Prop:=∃b,y=⟨x.n,(t,.v (.slice (some ⟨b,0,none⟩) len len))::x.env,⟨b,e,ds.length,ds⟩::x.S⟩
theorem GZ {len:Nat} {z:Value} {zs:List D} (ho:o.op = .buildSlice t len ps) (ju:o.dst=some tt) (hz:∀w,(zeroValue e).run P w = .ok z w)
  (I:∀w,(underlying t).run P w = .ok (.slice e) w) (hs:∀w,(sizeOf e).run P w = .ok sz w) (hl:0<len*sz) (ir:len*sz≤2 ^ 24) (eV:(Array.range (len*sz)).map (fun i=>z.cells[i % z.cells.size]!)=(zs.map (fun d=>match d with|.v u=>u|_=>undef)).toArray) (O:∀d∈zs,∃u,d = .v u)
  (hj:∀p∈lp x ps,p.2≠.bU) (hd:lW (fun i=>some (i*sz,sz)) zs (lp x ps)=some ds) (hne:isMap e=false:=by rfl):fJ P G x o [] (acG x tt e len ds):=fun C a w K Q hG h hK=>by
 obtain⟨q1,q2⟩:=Hw h ps hj;have U:cH w (live C.X x.S) zs ((zs.map (fun d=>match d with|.v u=>u|_=>undef)).toArray).toList:=by
  refine⟨by simp,fun i h1 h2=>?_⟩;obtain⟨u,I⟩:=O _ (getElem_mem h1);simp only[getElem_map,I];exact .v _
 obtain⟨A7,h1,h2⟩:=Ee (w:=w) (L:=live C.X x.S) (fun i=>some (i*sz,sz)) (lp x ps) ((ps.map fun p=>(p.1,a.eval p.2)).toList) _ _ ds q1 q2 U hd;unfold Oper.wp;have:(execOp a.eval o).run P w = .ok (.value (.slice (some ⟨w.heap.size,0,none⟩) len len)) (w.alloc (.cells A7 e)):=by
  unfold execOp;have E:¬len*sz=0:=(by omega)
  have Z:¬len*sz>2 ^ 24:=(by omega)
  simp only[ho,Instr.buildSlice,hz,I,hs,Sem.run_bind,Result.andThen_ok,Sem.run_pure,if_neg E,if_neg Z,eV,h1];simp[newRow]
 rw[this,Oper.upon_value,ju];exact hK _ _ _ ⟨w.heap.size,rfl⟩ (h.new (ds:=ds) h2 (by have:=h2.1;simpa using this) (fun L=>.v _) hne) (lK.alloc _ _) (Fr.alloc _ _ _)
/-! ### Stores -/
theorem NB(b:Nat):∀(vs:List Value) (o':Nat) (w:World) (cur:Array Value) (e:TypeId),w.heap[b]?=some (.cells cur e (0,0))→o'+vs.length≤cur.size →
  (w.setCells b o' vs).heap[b]?=some (.cells (vs.zipIdx.foldl (fun cs (x:Value×Nat)=>cs.setIfInBounds (o'+x.2) x.1) cur) e (0,0))∧(∀k,k≠b→(w.setCells b o' vs).heap[k]?=w.heap[k]?)∧(w.setCells b o' vs).heap.size=w.heap.size ∧
  (w.setCells b o' vs).os=w.os∧(w.setCells b o' vs).tape=w.tape∧(w.setCells b o' vs).output=w.output
 | [],o',w,cur,e,h,_=>⟨h,fun _ _=>rfl,rfl,rfl,rfl,rfl⟩
 | v::r,o',w,cur,e,h,hl=>by
  have h0:(w.setCell ⟨b,o',none⟩ v).heap[b]?=some (.cells (cur.setIfInBounds o' v) e (0,0)):=by
   simp[World.setCell,Array.getElem?_modify,h]
  obtain⟨i1,i2,i3,i4,i5,i6⟩:=NB b r (o'+1) (w.setCell ⟨b,o',none⟩ v) (cur.setIfInBounds o' v) e h0 (by simp at hl ⊢;omega);refine⟨?_,fun k hk=>?_,?_,i4,i5,i6⟩
  ·rw[World.setCells,i1,zipIdx_cons,foldl_cons,Nat.add_zero,Hv (fun (c:Array Value) v n=>c.setIfInBounds (o'+n) v)];congr 3;funext a b;rw[Nat.add_assoc,Nat.add_comm 1]
  ·rw[World.setCells,i2 k hk,Below.heap_setCell _ _ _ _ hk]
  rw[World.setCells,i3];simp
theorem ya:∀(ds cs:List D) (off:Nat),(da cs off ds).length=cs.length
 | [],cs,off=>rfl
 | d::ds,cs,off=>by rw[da,ya ds];simp
theorem bG.store{w:World}(h:bG C x a w){vs:List Value}(hk:x.S[k]?=some B)(hr:cH w (live C.X x.S) ds vs)(hl:o'+ds.length≤B.cs.length)(hne:isMap B.e=false:=by rfl) :
  bG C ⟨x.n,x.env,x.S.set k {B with cs:=da B.cs o' ds}⟩ a (w.setCells B.b o' vs)∧lK [B.b] w (w.setCells B.b o' vs)∧Fr w (ap x.S) (w.setCells B.b o' vs) (ap (x.S.set k {B with cs:=da B.cs o' ds})):=by
 obtain⟨h0,cur,h1,h2,h3,h4⟩:=h.fu hk;rw[jY hne] at h1;have rm:vs.length=ds.length:=hr.1;obtain⟨i1,i2,i3,i4,i5,i6⟩:=NB B.b vs o' w cur B.e h1 w4;have dS:k<x.S.length:=(List.getElem?_eq_some_iff.1 hk).1;have vy:x.S[k]=B:=(List.getElem?_eq_some_iff.1 hk).2;have E:ap (x.S.set k {B with cs:=da B.cs o' ds})=ap x.S:=by
  unfold ap;rw[map_set];apply ext_getElem bq;intro i q1 q2;rw[getElem_set];split
  ·rename_i e;subst e;simp[vy]
  rfl
 have I:live C.X (x.S.set k {B with cs:=da B.cs o' ds})=live C.X x.S:=(by funext b;simp only[live,E])
 have hB:live C.X x.S B.b:=PI hk;have H:∀b,b<w.heap.size→¬live C.X x.S b→(w.setCells B.b o' vs).heap[b]?=w.heap[b]?∧¬live C.X x.S b:=fun b _ hn=>⟨i2 b (fun e=>hn (e ▸ hB)),hn⟩
 refine⟨⟨h.defers,h.size,fun t ht=>?_,⟨fun B' Md=>?_,?_⟩,?_,h.ex,h.eM⟩,⟨by rw[i3];exact Nat.le_refl _,fun b _ hn=>i2 b (by simpa using hn)⟩,?_⟩
 ·simp only[I];exact(h.env t ht).mono H
 ·simp only[I];obtain⟨j,hj,O⟩:=mem_iff_getElem.1 Md;rw[length_set] at hj;rw[getElem_set] at O;by_cases e:k=j
  ·rw[if_pos e] at O;subst O;refine⟨by rw[i3];exact h0,_,i1.trans (by rw[jY hne]),?_,by simp only[ya];exact h3,fun i hi=>?_⟩
   ·have:=DT vs.zipIdx cur o';have hlen:=congrArg length this;have ahh:∀(l:List (Value×Nat)) (c:List Value),(l.foldl (fun cs (x:Value×Nat)=>cs.set (o'+x.2) x.1) c).length=c.length:=by
     intro l;induction l with
     | nil=>intro c;rfl
     | cons p l ih=>intro c;rw[foldl_cons,ih];simp
    rw[ahh] at hlen;simp only[Array.length_toList] at hlen;rw[hlen,h2]
   have dw:cH w (live C.X x.S) B.cs (cur.toList.take B.cs.length):=by
    refine⟨by simp;omega,fun i q1 q2=>?_⟩;obtain⟨u,hu,hq⟩:=h4 i q1;have:(cur.toList.take B.cs.length)[i]=u:=by
     rw[getElem_take];rw[←Array.getElem?_toList,List.getElem?_eq_some_iff] at hu;exact hu.2
    rw[this];exact hq
   have U:=cH.da ds vs B.cs (cur.toList.take B.cs.length) o' hr dw;have TV:∀(l:List (Value×Nat)) (c:List Value),(∀p∈l,o'+p.2<B.cs.length)→l.foldl (fun cs (x:Value×Nat)=>cs.set (o'+x.2) x.1) (c.take B.cs.length)=(l.foldl (fun cs (x:Value×Nat)=>cs.set (o'+x.2) x.1) c).take B.cs.length:=by
    intro l;induction l with
    | nil=>intro c _;rfl
    | cons p l ih =>
     intro c hp;rw[foldl_cons,foldl_cons,←ih _ (fun q hq=>hp q (mem_cons_of_mem _ hq)),take_set]
   rw[TV vs.zipIdx cur.toList (fun p hp=>by have:=mem_zipIdx hp;omega),←DT] at U;simp only at hi;have Aa:=hi;rw[←U.1] at Aa;have hq:=U.2 i hi Aa;rw[getElem_take] at hq;refine⟨_,?_,hq.mono H⟩;rw[←Array.getElem?_toList,getElem?_eq_getElem]
  rw[if_neg e] at O;subst O;have hne:x.S[j].b≠B.b:=fun he=>by
   have hn:=h.own.apart;have Co:(ap x.S)[j]'zQ=(ap x.S)[k]'zO:=(by simp[ap,he,vy])
   have hp:=pairwise_iff_getElem.1 hn;rcases Nat.lt_trichotomy j k with Z|Z|Z
   ·exact hp j k zQ zO Z Co
   ·exact e Z.symm
   exact hp k j zO zQ Z Co.symm
  obtain⟨r0,lB,r1,r2,r3,r4⟩:=h.own.at_ x.S[j] (getElem_mem hj);refine⟨by rw[i3];exact r0,lB,(i2 _ hne).trans r1,r2,r3,fun i hi=>?_⟩;obtain⟨u,hu,hq⟩:=r4 i hi;exact⟨u,hu,hq.mono H⟩
 ·simp only[E];exact h.own.apart
 ·refine⟨i4.trans h.fr.os,i5.trans h.fr.tape,i6.trans h.fr.output,by rw[i3];exact h.fr.size,fun b hb hn=>?_⟩;obtain⟨q1,q2⟩:=h.fr.block b hb hn;refine⟨(i2 b (fun e=>q2 (e ▸ mem_map.2 ⟨B,mem_of_getElem? hk,rfl⟩))).trans q1,?_⟩;simp only[E];exact q2
 rw[E];exact⟨i4,i5,i6,by rw[i3];exact Nat.le_refl _,fun b hb hn=>⟨i2 b (fun e=>hn (e ▸ mem_map.2 ⟨B,mem_of_getElem? hk,rfl⟩)),hn⟩⟩
theorem DU {d:D} {z:Operand} (ho:o.op = .store t y z) (ju:o.dst=none) (hy:aF x y = .v (.pointer (some ⟨b,o',none⟩)))
  (hk:x.S[k]?=some B) (hb:B.b=b) (hz:aF x z=d) (hj:d≠.bU) (h1:(cellsOf d).all one=true) (hn:∀w,(sizeOf t).run P w = .ok n w) (fY:(cellsOf d).length=n) (hl:o'+n≤B.cs.length) (dw:da B.cs o' (cellsOf d)=cs') (hne:isMap B.e=false:=by rfl) :
  fJ P G x o [b] (fun y=>y=⟨x.n,x.env,x.S.set k {B with cs:=cs'}⟩):=fun C a w K Q hG h hK=>by
 subst dw hb;have hr:=h.eval z;rw[hz] at hr;have hc:=hr.cells hj;obtain⟨s1,s2,s3⟩:=h.store hk hc (o':=o') w4 hne;obtain⟨h0,cur,q1,q2,q3,q4⟩:=h.fu hk;rw[jY hne] at q1;have U:(a.eval z).cells.toList.length=n:=(by rw[hc.1,fY])
 have E:=run_storeCells_cells (P:=P) B.b o' (a.eval z).cells.toList 0 w (fun j hj=>by
   have:(o'+0+j)<cur.size:=(by omega)
   rw[nK q1 (u:=cur[o'+0+j]) (by simp[this])];rfl)
  (fun j hj=>by unfold World.frozen?;simp[q1]) (fun v hv=>by
   obtain⟨j,hj,rfl⟩:=mem_iff_getElem.1 hv;have O:j<(cellsOf d).length:=(by rw[←hc.1];exact hj)
   exact(hc.2 j O hj).AJ (all_eq_true.1 h1 _ (getElem_mem O)))
 have I:(execOp a.eval o).run P w = .ok .skip (w.setCells B.b o' (a.eval z).cells.toList):=by
  unfold execOp;have Z:(a.eval z).cells.size=n:=(by simpa using U)
  simp only[Nat.add_zero] at E;simp[ho,h.flat hy,Instr.storeAt,Instr.sureAddr,storeVar,hn,Z,E]
 unfold Oper.wp;rw[I,Oper.upon_skip,ju];exact hK _ _ _ rfl s1 s2 s3

/-! ### A contract -/
structure Gp (G:List (Nat×List Value)) (X:Nat→Prop) (w:World) (S:List ag) (args:List D) (vs:List Value):Prop where
 ex:∀b,X b→b<w.heap.size∧b∉ap S
 eM:∀g∈G,(g.1<w.heap.size∧g.1∉ap S∧¬X g.1)∧∀i v,g.2[i]?=some v→nM w g.1 i v
 own:Own w (live X S) S
 args:cH w (live X S) args vs
def VC(P:Program)(G:List (Nat×List Value))(f:FuncId)(args:List D)(S:List ag)(post:D→List ag→Prop):Prop :=
 ∀(X:Nat→Prop) (w:World) (vs:List Value),Gp G X w S args vs→Calls P f vs.toArray w fun e w'=>∃v r S',e = .returned v∧post r S'∧Own w' (live X S') S'∧cl w' (live X S') r v∧Fr w (ap S) w' (ap S')
abbrev VP(P:Program)(G:List (Nat×List Value))(f:FuncId)(args:List D)(r:D):Prop:=VC P G f args [] fun r' S'=>r'=r∧S'=[]
theorem ye(hp:S.Perm (Sf++R)):live X S=live (fun b=>X b∨b∈ap R) Sf:=by
 funext b;have:(ap S).Perm (ap Sf++ap R):=(by have:=hp.map ag.b;simpa[ap] using this)
 have:=this.mem_iff (a:=b);simp only[live,mem_append] at *;rw[this];exact propext ⟨fun h=>by rcases h with h|h|h<;>simp[h],fun h=>by rcases h with (h|h)|h<;>simp[h]⟩
theorem bG.call{w:World}(h:bG C x a w)(hG:C.G=G){f:FuncId}{args:List D}{vs:List Value}(hc:VC P G f args Sf post)(hp:x.S.Perm (Sf++R))(hr:cH w (live C.X x.S) args vs) :
  Calls P f vs.toArray w fun e w'=>∃v r S',e = .returned v∧post r S'∧cl w' (live C.X (S'++R)) r v∧bG C ⟨x.n,x.env,S'++R⟩ a w'∧lK (ap Sf) w w'∧Fr w (ap x.S) w' (ap (S'++R)):=by
 have hb:(ap x.S).Perm (ap Sf++ap R):=(by have:=hp.map ag.b;simpa[ap] using this)
 have hL:=ye (X:=C.X) hp;have hnd:(ap Sf++ap R).Nodup:=hb.nodup_iff.1 h.own.apart;obtain⟨n1,n2,n3⟩:=nodup_append.1 hnd;have U:∀b,b∈ap R→b<w.heap.size:=fun b xH=>by
  obtain⟨B,O,rfl⟩:=mem_map.1 xH;exact(h.own.at_ B (hp.symm.subset (mem_append_right _ O))).1
 have Z:Gp G (fun b=>C.X b∨b∈ap R) w Sf args vs:=by
  refine⟨fun b hx=>?_,fun g hg=>?_,⟨fun B O=>?_,n1⟩,?_⟩
  ·rcases hx with hx|hx
   ·obtain⟨q1,q2⟩:=h.ex b hx;exact⟨Nat.lt_of_lt_of_le q1 h.fr.size,fun hm=>(h.fr.block b q1 q2).2 (hb.symm.subset (mem_append_left _ hm))⟩
   exact⟨U b hx,fun hm=>n3 b hm b hx rfl⟩
  ·rw[←hG] at hg;obtain⟨⟨q1,q2,q3⟩,q4⟩:=h.eM g hg;have q5:=(h.fr.block g.1 q1 q2).2;refine⟨⟨Nat.lt_of_lt_of_le q1 h.fr.size,fun hm=>q5 (hb.symm.subset (mem_append_left _ hm)),fun hx=>?_⟩,fun i v hi=>h.aR hg hi⟩;rcases hx with hx|hx
   ·exact q3 hx
   exact q5 (hb.symm.subset (mem_append_right _ hx))
  ·rw[←hL];exact h.own.at_ B (hp.symm.subset (mem_append_left _ O))
  rw[←hL];exact hr
 refine(hc _ w vs Z).mono fun e w' ⟨v,r,S',h1,h2,h3,h4,h5⟩=>⟨v,r,S',h1,h2,?_,?_,⟨h5.size,fun b I hn=>(h5.block b I hn).1⟩,?_⟩
 ·have:live C.X (S'++R)=live (fun b=>C.X b∨b∈ap R) S':=ye (Perm.refl _);rw[this];exact h4
 ·have Wt:live C.X (S'++R)=live (fun b=>C.X b∨b∈ap R) S':=ye (Perm.refl _);have H:∀b,b<w.heap.size→¬live C.X x.S b→w'.heap[b]?=w.heap[b]?∧¬live C.X (S'++R) b:=fun b aa hn=>by
   rw[hL] at hn;have E:b∉ap Sf:=fun hm=>hn (.inr hm);obtain⟨q1,q2⟩:=h5.block b aa E;refine⟨q1,fun hl=>?_⟩;rw[Wt] at hl;rcases hl with hl|hl
   ·exact hn (.inl hl)
   exact q2 hl
  refine⟨h.defers,h.size,fun t ht=>(h.env t ht).mono H,⟨fun B O=>?_,?_⟩,?_,h.ex,h.eM⟩
  ·rcases mem_append.1 O with O|O
   ·have:=h3.at_ B O;rw[←Wt] at this;exact this
   obtain⟨r0,cur,r1,r2,r3,r4⟩:=h.own.at_ B (hp.symm.subset (mem_append_right _ O));have Cp:B.b∈ap R:=mem_map.2 ⟨B,O,rfl⟩;have E:B.b∉ap Sf:=fun hm=>n3 B.b hm B.b Cp rfl;have hh:=(h5.block B.b r0 E).1;refine⟨qB r0 hh,cur,hh.trans r1,r2,r3,fun i hi=>?_⟩;obtain⟨u,hu,hq⟩:=r4 i hi;exact⟨u,hu,hq.mono H⟩
  ·show(ap (S'++R)).Nodup;have:ap (S'++R)=ap S'++ap R:=(by simp[ap])
   rw[this];refine nodup_append.2 ⟨h3.apart,n2,fun b iV c aG he=>?_⟩;subst he;have E:b∉ap Sf:=fun hm=>n3 b hm b aG rfl;exact(h5.block b (U b aG) E).2 iV
  refine⟨h5.os.trans h.fr.os,h5.tape.trans h.fr.tape,h5.output.trans h.fr.output,Nat.le_trans h.fr.size h5.size,fun b I hn=>?_⟩;obtain⟨q1,q2⟩:=h.fr.block b I hn;have gi:b∉ap Sf:=fun hm=>q2 (hb.symm.subset (mem_append_left _ hm));have iK:b∉ap R:=fun hm=>q2 (hb.symm.subset (mem_append_right _ hm));obtain⟨q3,q4⟩:=h5.block b (Nat.lt_of_lt_of_le I h.fr.size) gi;refine⟨q3.trans q1,fun hm=>?_⟩;have:ap (S'++R)=ap S'++ap R:=(by simp[ap])
  rw[this] at hm;rcases mem_append.1 hm with hm|hm
  ·exact q4 hm
  exact iK hm
 refine⟨h5.os,h5.tape,h5.output,h5.size,fun b I hn=>?_⟩;have gi:b∉ap Sf:=fun hm=>hn (hb.symm.subset (mem_append_left _ hm));have iK:b∉ap R:=fun hm=>hn (hb.symm.subset (mem_append_right _ hm));obtain⟨q3,q4⟩:=h5.block b I gi;refine⟨q3,fun hm=>?_⟩;have:ap (S'++R)=ap S'++ap R:=(by simp[ap])
 rw[this] at hm;rcases mem_append.1 hm with hm|hm
 ·exact q4 hm
 exact iK hm
theorem cH.KB{w:World}(h:bG C x a w)(cW:List Operand):cH w (live C.X x.S) (cW.map (aF x)) (cW.map a.eval) :=
 ⟨by simp,fun i h1 h2=>by simp only[getElem_map];exact h.eval _⟩
theorem cH.append{w:World}{E:List D}{vs I:List Value}(h:cH w L ds vs)(h':cH w L E I):cH w L (ds++E) (vs++I) :=
 ⟨by simp[h.1,h'.1],fun i h1 h2=>by
  by_cases hi:i<ds.length
  ·rw[getElem_append_left hi,getElem_append_left (by rw[h.1];exact hi)];exact h.2 i _ _
  rw[getElem_append_right w4,getElem_append_right (by rw[h.1];omega)];have:=h.1;simp only[this];exact h'.2 _ _ _⟩
def called(x:St)(t:Nat)(R:List ag)(post:D→List ag→Prop)(y:St):Prop:=∃r S',post r S'∧y=⟨x.n,(t,r)::x.env,S'++R⟩
theorem AK {f t:Nat} {args:List D} (ho:o.op = .call {callee:=.value fo,args:=cW,argTypes:=ts}) (hd:o.dst=some t)
  (hf:fo = .func f) (fi:∀args w,(callFunc f args).run P w = .ok (.enter f args) w) (ha:cW.toList.map (aF x)=args) (hp:x.S.Perm (Sf++R)) (hc:VC P G f args Sf post) :
  fJ P G x o (ap Sf) (called x t R post):=fun C a w K Q hG h hK=>by
 subst hf ha;have hr:=cH.KB h cW.toList;have E:(execOp a.eval o).run P w = .ok (.enter f (cW.toList.map a.eval).toArray) w:=by
  unfold execOp;have e:cW.map a.eval=(cW.toList.map a.eval).toArray:=by
   rw[←Array.toList_map,Array.toArray_toList]
  simp only[ho,resolve,Act.eval,Deferred.ofValue,Sem.run_bind,Sem.run_pure,Result.andThen_ok,invoke,e];simp[fi]
 unfold Oper.wp;rw[E,Oper.upon_enter,hd];refine(h.call hG hc hp hr).mono fun e w' ⟨v,r,S',h1,h2,h3,h4,h5,h6⟩=>?_;subst h1;exact hK _ _ _ ⟨r,S',h2,rfl⟩ (h4.put h3) h5 h6
theorem Zz {f t:Nat} {args E:List D} (ho:o.op = .call {callee:=.value fo,args:=cW,argTypes:=ts}) (hd:o.dst=some t)
  (hf:aF x fo = .ek (.func f) E) (fi:∀args w,(callFunc f args).run P w = .ok (.enter f args) w) (ha:cW.toList.map (aF x)++E=args) (hp:x.S.Perm (Sf++R)) (hc:VC P G f args Sf post) :
  fJ P G x o (ap Sf) (called x t R post):=fun C a w K Q hG h hK=>by
 subst ha;have hr:=cH.KB h cW.toList;have fI:=h.eval fo;rw[hf] at fI;generalize hg:a.eval fo=u at fI;cases fI with
 | ek _ _ vs hl VH =>
  have I:(execOp a.eval o).run P w = .ok (.enter f (cW.toList.map a.eval++vs).toArray) w:=by
   unfold execOp;have e:cW.map a.eval++vs.toArray=(cW.toList.map a.eval++vs).toArray:=by
    rw[←append_toArray,←Array.toList_map,Array.toArray_toList]
   simp only[ho,resolve,hg,Deferred.ofValue,Sem.run_bind,Sem.run_pure,Result.andThen_ok,invoke];simp[fi]
  unfold Oper.wp;rw[I,Oper.upon_enter,hd];refine(h.call hG hc hp (hr.append ⟨hl,VH⟩)).mono fun e w' ⟨v,r,S',h1,h2,h3,h4,h5,h6⟩=>?_;subst h1;exact hK _ _ _ ⟨r,S',h2,rfl⟩ (h4.put h3) h5 h6
theorem uA(hk:S[k]?=some B):S.Perm (B::S.eraseIdx k):=by
 obtain⟨h1,h2⟩:=List.getElem?_eq_some_iff.1 hk;subst h2;clear hk;induction S generalizing k with
 | nil=>simp at h1
 | cons A S ih =>
  cases k with
  | zero=>exact Perm.refl _
  | succ k =>
   have E:k<S.length:=(by simpa using h1)
   rw[eraseIdx_cons_succ];exact((ih E).cons A).trans (Perm.swap _ _ _)
theorem eN(S:List ag):S.Perm ([]++S):=Perm.refl _
theorem jX(hk:S[k]?=some B):S.Perm ([B]++S.eraseIdx k):=uA hk
theorem AL{k':Nat}{B':ag}(hk:S[k]?=some B)(E:(S.eraseIdx k)[k']?=some B'):S.Perm ([B,B']++(S.eraseIdx k).eraseIdx k'):=(uA hk).trans ((uA E).cons B)
/-! ### A list of one's own is given up to reading -/
theorem cl.given{w:World}(h:Own w (live X S) S)(O:∀b,X b→b∉ap S)(hk:S[k]?=some B)(hl:B.cs.length=n*sz)(h1:n≤cap)(h2:cap≤maxLen)(hne:isMap B.e=false:=by rfl) :
  cl w (live X (S.eraseIdx k)) (.list sz B.cs n) (.slice (some ⟨B.b,0,none⟩) n cap):=by
 have hm:=mem_of_getElem? hk;obtain⟨r0,cur,r1,r2,U,I⟩:=h.at_ B hm;rw[jY hne] at r1;have E:(ap (S.eraseIdx k)).Sublist (ap S):=Sublist.map _ (eraseIdx_sublist S k);have hL:¬live X (S.eraseIdx k) B.b:=fun hl=>by
  rcases hl with hl|hl
  ·exact O _ hl (mem_map.2 ⟨B,hm,rfl⟩)
  have hp:(ap S).Perm (B.b::ap (S.eraseIdx k)):=(by have:=(uA hk).map ag.b;simpa[ap] using this)
  have hnd:=hp.nodup_iff.1 h.apart;exact(nodup_cons.1 hnd).1 hl
 refine .list sz B.cs n B.b 0 cap (fun i=>cur.getD i undef) hl h1 h2 r0 hL (fun i hi=>?_) (fun i hi=>?_)
 ·obtain⟨u,hu,_⟩:=I i hi;rw[Nat.zero_add,nK r1 hu];simp[hu]
 obtain⟨u,hu,hq⟩:=I i hi;simp only[Array.getD_eq_getD_getElem?,hu,Option.getD_some];exact hq.mono fun b _ hn=>⟨rfl,fun hl=>hn (hl.imp id fun q=>E.subset q)⟩
theorem bG.Ab{w:World}(h:bG C x a w):∀b,C.X b→b∉ap x.S:=fun b hb=>(h.fr.block b (h.ex b hb).1 (h.ex b hb).2).2
theorem Wk.u9{t:Nat}{cs:List D}(hk:S[k]?=some B)(ht:look t l = .v (.slice (some ⟨B.b,0,none⟩) m cap))(dw:B.cs=cs)(hl:cs.length=m*sz)(h1:m≤cap)(h2:cap≤maxLen)(hne:isMap B.e=false:=by rfl) :
  Wk ⟨n,l,S⟩ ⟨n,(t,.list sz cs m)::l,S.eraseIdx k⟩:=fun C a w h=>by
 subst dw;have hd:=Wk.drop n l S (S.eraseIdx k) (eraseIdx_sublist S k) C a w h;refine⟨hd.defers,hd.size,fun i hi=>?_,hd.own,hd.fr,hd.ex,hd.eM⟩;simp only[fO];by_cases e:t=i
 ·subst e;rw[if_pos rfl];have E:=h.env t hi;simp only[ht] at E;rw[E.kD];exact cl.given h.own h.Ab hk hl h1 h2 hne
 rw[if_neg e];exact hd.env i hi
theorem Wk.tg{t:Nat}(ht:look t l = .v (.slice none 0 0)):Wk ⟨n,l,S⟩ ⟨n,(t,.list sz [] 0)::l,S⟩:=fun C a w h=>by
 refine⟨h.defers,h.size,fun i hi=>?_,h.own,h.fr,h.ex,h.eM⟩;simp only[fO];by_cases e:t=i
 ·subst e;rw[if_pos rfl];have E:=h.env t hi;simp only[ht] at E;rw[E.kD];exact .nil sz
 rw[if_neg e];exact h.env i hi
theorem Wk.aeq {A:ag} {cs:List D} (hk:S[k]?=some B) (hj:(S.eraseIdx k)[j]?=some A) (hi:A.cs[i]?=some (.v (.slice (some ⟨B.b,0,none⟩) m cap))) (dw:B.cs=cs) (hl:cs.length=m*sz) (h1:m≤cap) (h2:cap≤maxLen)
  (U:A.cs.set i (.list sz cs m)=cs') (hS:(S.eraseIdx k).set j {A with cs:=cs'}=S') (hne:isMap B.e=false:=by rfl):Wk ⟨n,l,S⟩ ⟨n,l,S'⟩:=fun C a w h=>by
 subst dw U hS;have hd:=Wk.drop n l S (S.eraseIdx k) (eraseIdx_sublist S k) C a w h;have Z:=cl.given h.own h.Ab hk hl h1 h2 hne;have lM:=(List.getElem?_eq_some_iff.1 hj).1;have hjA:=(List.getElem?_eq_some_iff.1 hj).2;have E:ap ((S.eraseIdx k).set j {A with cs:=A.cs.set i (.list sz B.cs m)})=ap (S.eraseIdx k):=by
  unfold ap;rw[map_set];apply ext_getElem bq;intro i q1 q2;rw[getElem_set];split
  ·rename_i e;subst e;simp[hjA]
  rfl
 have I:live C.X ((S.eraseIdx k).set j {A with cs:=A.cs.set i (.list sz B.cs m)})=live C.X (S.eraseIdx k):=(by funext b;simp only[live,E])
 refine⟨hd.defers,hd.size,fun t ht=>?_,⟨fun B' Md=>?_,?_⟩,?_,hd.ex,hd.eM⟩
 ·simp only[I];exact hd.env t ht
 ·simp only[I];obtain⟨p,hp,gG⟩:=mem_iff_getElem.1 Md;rw[length_set] at hp;rw[getElem_set] at gG;by_cases e:j=p
  ·rw[if_pos e] at gG;subst gG;obtain⟨r0,cur,r1,r2,r3,r4⟩:=hd.own.at_ A (mem_of_getElem? hj);refine⟨r0,cur,r1,r2,by simpa using r3,fun q hq=>?_⟩;simp only[length_set] at hq;obtain⟨u,hu,O⟩:=r4 q hq;refine⟨u,hu,?_⟩;rw[getElem_set];split
   ·rename_i he;subst he;have:=(List.getElem?_eq_some_iff.1 hi).2;rw[this] at O;rw[O.kD];exact Z
   exact O
  rw[if_neg e] at gG;subst gG;exact hd.own.at_ _ (getElem_mem hp)
 ·simp only[E];exact hd.own.apart
 simp only[E];exact hd.fr

def Re(x:St)(t:Nat)(e:TypeId)(sz len:Nat)(cs:List D)(S:List ag)(y:St):Prop :=
 ∃b cap,len≤cap∧cap≤maxLen∧y=⟨x.n,(t,.v (.slice (some ⟨b,0,none⟩) len cap))::x.env,⟨b,e,cap*sz,cs⟩::S⟩
theorem bG.grown {w:World} (h:bG C x a w) {t g e:Nat} {row:Option Nat} {cs:List D}
  (hS:S.Sublist x.S) (I:∀k,row=some k→k∈ap x.S∧k∉ap S) (E:w.grownBy w' row) (hg:row=some g∨g=w.heap.size) (aa:g<w'.heap.size)
  (BF:w'.heap[g]?=some (.cells cur e (0,0))) (gX:cur.size=cap*sz) (hl:cs.length≤cap*sz) (hr:∀i (h:i<cs.length),∃u,cur[i]?=some u∧cl w (live C.X x.S) cs[i] u) (hne:isMap e=false:=by rfl) :
  bG C ⟨x.n,(t,.v (.slice (some ⟨g,0,none⟩) m cap))::x.env,⟨g,e,cap*sz,cs⟩::S⟩ (a.put (some t) (.slice (some ⟨g,0,none⟩) m cap)) w'∧lK row.toList w w'∧Fr w (ap x.S) w' (ap (⟨g,e,cap*sz,cs⟩::S)):=by
 have O:(ap S).Sublist (ap x.S):=Sublist.map _ hS;have Z:∀b,live C.X x.S b→b<w.heap.size:=fun b hb=>by
  rcases hb with hb|hb
  ·exact Nat.lt_of_lt_of_le (h.ex b hb).1 h.fr.size
  obtain⟨B,hB,rfl⟩:=mem_map.1 hb;exact(h.own.at_ B hB).1
 have hgS:g∉ap S:=by
  rcases hg with hg|hg
  ·exact(I g hg).2
  intro hm;have:=Z g (.inr (O.subset hm));omega
 have hgX:¬C.X g:=fun hx=>by
  rcases hg with hg|hg
  ·exact h.Ab g hx (I g hg).1
  have:=Z g (.inl hx);omega
 have U:g<w.heap.size→g∈ap x.S:=fun aa=>by
  rcases hg with hg|hg
  ·exact(I g hg).1
  omega
 have H:∀b,b<w.heap.size→¬live C.X x.S b→w'.heap[b]?=w.heap[b]?∧¬live C.X (⟨g,e,cap*sz,cs⟩::S) b:=fun b hb hn=>by
  refine⟨E.block b hb (fun hm=>hn (.inr (I b hm.symm).1)),fun hl=>?_⟩;rcases hl with hl|hl
  ·exact hn (.inl hl)
  simp only[ap,map_cons,mem_cons] at hl;rcases hl with hl|hl
  ·subst hl;exact hn (.inr (U hb))
  exact hn (.inr (O.subset hl))
 have base:bG C ⟨x.n,x.env,⟨g,e,cap*sz,cs⟩::S⟩ a w':=by
  refine⟨h.defers,h.size,fun t ht=>(h.env t ht).mono H,⟨fun B hB=>?_,?_⟩,?_,h.ex,h.eM⟩
  ·rcases mem_cons.1 hB with rfl|hB
   ·refine⟨aa,cur,BF.trans (by rw[jY hne]),gX,hl,fun i hi=>?_⟩;obtain⟨u,hu,hq⟩:=hr i hi;exact⟨u,hu,hq.mono H⟩
   obtain⟨r0,lB,r1,r2,r3,r4⟩:=h.own.at_ B (hS.subset hB);have Cp:B.b∈ap S:=mem_map.2 ⟨B,hB,rfl⟩;have hh:=E.block B.b r0 (fun hm=>(I B.b hm.symm).2 Cp);refine⟨qB r0 hh,lB,hh.trans r1,r2,r3,fun i hi=>?_⟩;obtain⟨u,hu,hq⟩:=r4 i hi;exact⟨u,hu,hq.mono H⟩
  ·show(g::ap S).Nodup;exact nodup_cons.2 ⟨hgS,h.own.apart.sublist O⟩
  refine⟨E.os.trans h.fr.os,E.tape.trans h.fr.tape,E.output.trans h.fr.output,Nat.le_trans h.fr.size E.size,fun b hb hn=>?_⟩;obtain⟨q1,q2⟩:=h.fr.block b hb hn;have jz:=Nat.lt_of_lt_of_le hb h.fr.size;refine⟨(E.block b jz (fun hm=>q2 (I b hm.symm).1)).trans q1,fun hm=>?_⟩;simp only[ap,map_cons,mem_cons] at hm;rcases hm with hm|hm
  ·subst hm;exact q2 (U jz)
  exact q2 (O.subset hm)
 refine⟨base.put (.v _),⟨E.size,fun b hb hn=>E.block b hb (fun hm=>hn (by rw[←hm];simp))⟩,⟨E.os,E.tape,E.output,E.size,fun b hb hn=>?_⟩⟩;refine⟨E.block b hb (fun hm=>hn (I b hm.symm).1),fun hm=>?_⟩;simp only[ap,map_cons,mem_cons] at hm;rcases hm with hm|hm
 ·subst hm;exact hn (U hb)
 exact hn (O.subset hm)
theorem Av {s:Operand} {t:Nat} {I:Value} {w:World} (ho:o.op = .call {callee:=.builtin .append,args:=#[s,y],argTypes:=#[t,t]}) (hs:a.eval s=v) (hy:a.eval y=u)
  (E:(Builtin.append_ #[t,t] o.type #[v,u]).run P w = .ok I w'):(execOp a.eval o).run P w = .ok (.value I) w':=by
 unfold execOp;simp[ho,resolve,invoke,builtin,hs,hy,E]
theorem yy{e:Nat}{z:Value}(hi:(P.info? e).map (fun i=>(i.zero,i.size,i.bytes))=some (some z,sz,bytes)):∃i,P.info? e=some i∧i.zero=some z∧i.size=sz∧i.bytes=bytes:=by
 cases h:P.info? e with
 | none=>simp[h] at hi
 | some i=>simp[h] at hi;exact⟨i,rfl,hi⟩
theorem N3 {s:Operand} {t e:Nat} {z:Value} {cs:List D} (ho:o.op = .call {callee:=.builtin .append,args:=#[s,y],argTypes:=#[t,t]}) (hd:o.dst=some tt)
  (ht:P.underlying t=some (.slice e)) (hi:(P.info? e).map (fun i=>(i.zero,i.size,i.bytes))=some (some z,sz,bytes)) (eV:z.cells.size=sz) (gX:0<sz)
  (hs:aF x s = .v (.slice (some ⟨b,0,none⟩) n cap)) (hk:x.S[k]?=some B) (hb:B.b=b) (he:B.e=e) (ank:B.size=cap*sz) (hl:B.cs.length=n*sz) (hn:n≤cap) (Z:cap≤maxLen)
  (hy:aF x y = .list sz cs m) (ie:∀d∈cs,one d=true) (hm:0<m) (gj:n+m≤maxLen) (O:(n+m)*bytes≤140737488355328) (hne:isMap B.e=false:=by rfl) :
  fJ P G x o [b] (Re x tt e sz (n+m) (B.cs++cs) (x.S.eraseIdx k)):=fun C a w K Q hG h hK=>by
 subst hb he;obtain⟨i,jU,lN,oL,pI⟩:=yy hi;obtain⟨r0,cur,r1,r2,r3,r4⟩:=h.fu hk;rw[jY hne] at r1;have hr:=h.eval y;rw[hy] at hr;generalize hg:a.eval y=u at hr;cases hr with
 | lZ=>omega
 | list _ _ _ b' o' I f lO q1 q2 jz hL hc Ac =>
  have kf:w.ownsRow 0 B.e sz (.slice (some ⟨B.b,0,none⟩) n cap) n (cur.toList.take (n*sz)) :=
   ⟨by simp;omega,.inr ⟨B.b,cap,cur,rfl,Nat.zero_le _,r1,hn,Z,by omega,rfl⟩⟩
  obtain⟨v',w',oE,h2,h3,_,h5⟩:=run_append_own_at (P:=P) w 0 t o.type B.e i z sz bytes ht jU lN oL pI eV gX _ n _ kf ⟨b',o',none⟩ m I ((range cs.length).map f) (by simp[lO]) (fun j u hu=>by
    rw[Addr.add_mid];obtain⟨hj,he⟩:=List.getElem?_eq_some_iff.1 hu;simp only[length_map,length_range] at hj;rw[hc j hj,←he];simp) (fun u hu=>by
    obtain⟨j,hj,rfl⟩:=mem_map.1 hu;have iM:=mem_range.1 hj;exact(Ac j iM).AJ (ie _ (getElem_mem iM))) gj O (Nat.zero_le _)
  obtain⟨g,E,rfl,_,aa⟩:=h2.form w4;have h6:(Value.slice (some ⟨B.b,0,none⟩) n cap).ownBlock=some g∨g=w.heap.size:=by
   rcases h5 with h5|h5
   ·exact .inl (by rw[←h5];rfl)
   right;simpa[Value.ownBlock] using h5
  obtain⟨_,h2⟩:=h2;rcases h2 with ⟨h2,_⟩|⟨g',I,lB,e1,_,e2,e3,e4,e5,e6⟩
  ·cases h2
  have Cq:g=g'∧E=I:=(by simpa using e1)
  obtain⟨rfl,rfl⟩:=Cq;have hlen:(B.cs++cs).length=(n+m)*sz:=(by rw[length_append,hl,lO,Nat.add_mul])
  have Me:(n+m)*sz≤E*sz:=Nat.mul_le_mul_right _ e3;have BF:∀i,i<(n+m)*sz→lB[i]?=(cur.toList.take (n*sz)++(range cs.length).map f)[i]?:=fun i hi=>by
   rw[←e6,getElem?_take_of_lt hi,Array.getElem?_toList]
  obtain⟨s1,s2,s3⟩:=h.grown (t:=tt) (m:=n+m) (e:=B.e) (sz:=sz) (S:=x.S.eraseIdx k) (cs:=B.cs++cs) (row:=some B.b) (g:=g) (cap:=E) (eraseIdx_sublist _ _) (fun k' qs=>by
    have:B.b=k':=(by simpa using qs)
    subst this;refine⟨mem_map.2 ⟨B,mem_of_getElem? hk,rfl⟩,fun hm=>?_⟩;have hp:(ap x.S).Perm (B.b::ap (x.S.eraseIdx k)):=(by have:=(uA hk).map ag.b;simpa[ap] using this)
    exact(nodup_cons.1 (hp.nodup_iff.1 h.own.apart)).1 hm) h3 h6 aa e2 e5 w4 (fun i hi=>by
    rw[hlen] at hi;rw[BF i hi];by_cases jV:i<n*sz
    ·obtain⟨u,hu,hq⟩:=r4 i w4;refine⟨u,?_,?_⟩
     ·rw[getElem?_append_left gU,getElem?_take_of_lt jV,Array.getElem?_toList,hu]
     rw[getElem_append_left w4];exact hq
    have U:i-n*sz<cs.length:=(by rw[lO];rw[Nat.add_mul] at hi;omega)
    refine⟨f (i-n*sz),?_,?_⟩
    ·rw[getElem?_append_right gU];have:(cur.toList.take (n*sz)).length=n*sz:=(by simp;omega)
     rw[this];simp[U]
    rw[getElem_append_right w4];have:=Ac (i-n*sz) U;simp only[hl];exact this) hne
  unfold Oper.wp;rw[Av (P:=P) ho (h.flat hs) hg oE,Oper.upon_value,hd];exact hK _ _ _ ⟨g,E,e3,e4,rfl⟩ s1 s2 s3
theorem NC {s:Operand} {t e:Nat} {z:Value} {cs:List D} (ho:o.op = .call {callee:=.builtin .append,args:=#[s,y],argTypes:=#[t,t]}) (hd:o.dst=some tt)
  (ht:P.underlying t=some (.slice e)) (hi:(P.info? e).map (fun i=>(i.zero,i.size,i.bytes))=some (some z,sz,bytes)) (eV:z.cells.size=sz) (gX:0<sz)
  (hs:aF x s = .v (.slice none 0 0)) (hy:aF x y = .list sz cs m) (ie:∀d∈cs,one d=true) (hm:0<m) (gj:m≤maxLen) (O:m*bytes≤140737488355328) (hne:isMap e=false:=by rfl) :
  fJ P G x o [] (Re x tt e sz m cs x.S):=fun C a w K Q hG h hK=>by
 obtain⟨i,jU,lN,oL,pI⟩:=yy hi;have hr:=h.eval y;rw[hy] at hr;generalize hg:a.eval y=u at hr;cases hr with
 | lZ=>omega
 | list _ _ _ b' o' I f lO q1 q2 jz hL hc U =>
  have Z:w.ownsRow 0 e sz (.slice none 0 0) 0 []:=⟨by simp,.inl ⟨rfl,rfl⟩⟩
  obtain⟨v',w',oE,h2,h3,_,h5⟩:=run_append_own_at (P:=P) w 0 t o.type e i z sz bytes ht jU lN oL pI eV gX _ 0 _ Z ⟨b',o',none⟩ m I ((range cs.length).map f) (by simp[lO]) (fun j u hu=>by
    rw[Addr.add_mid];obtain⟨hj,he⟩:=List.getElem?_eq_some_iff.1 hu;simp only[length_map,length_range] at hj;rw[hc j hj,←he];simp) (fun u hu=>by
    obtain⟨j,hj,rfl⟩:=mem_map.1 hu;have iM:=mem_range.1 hj;exact(U j iM).AJ (ie _ (getElem_mem iM))) (by rw[Nat.zero_add];exact gj) (by rw[Nat.zero_add];exact O) (Nat.zero_le _)
  simp only[Nat.zero_add,nil_append] at h2;obtain⟨g,E,rfl,_,aa⟩:=h2.form w4;have h6:(none:Option Nat)=some g∨g=w.heap.size:=by
   rcases h5 with h5|h5
   ·simp[Value.ownBlock] at h5
   right;simpa[Value.ownBlock] using h5
  obtain⟨_,h2⟩:=h2;rcases h2 with ⟨h2,_⟩|⟨g',I,lB,e1,_,e2,e3,e4,e5,e6⟩
  ·cases h2
  have Cq:g=g'∧E=I:=(by simpa using e1)
  obtain⟨rfl,rfl⟩:=Cq;have Me:m*sz≤E*sz:=Nat.mul_le_mul_right _ e3;obtain⟨s1,s2,s3⟩:=h.grown (t:=tt) (m:=m) (e:=e) (sz:=sz) (S:=x.S) (cs:=cs) (row:=none) (g:=g) (cap:=E) (Sublist.refl _) (fun k' qs=>by cases qs) h3 h6 aa e2 e5 w4 (fun i hi=>by
    refine⟨f i,?_,U i hi⟩;have:lB[i]?=((range cs.length).map f)[i]?:=(by rw[←e6,getElem?_take_of_lt w4,Array.getElem?_toList])
    rw[this];simp[hi]) hne
  unfold Oper.wp;rw[Av (P:=P) ho (h.flat hs) hg oE,Oper.upon_value,hd];exact hK _ _ _ ⟨g,E,e3,e4,rfl⟩ s1 s2 s3
theorem ND {s:Operand} {t e:Nat} {cs:List D} (ho:o.op = .call {callee:=.builtin .append,args:=#[s,y],argTypes:=#[t,t]})
  (O:∀w,(underlying t).run P w = .ok (.slice e) w) (E:∀w,(sizeOf e).run P w = .ok sz w) (hs:aF x s = .v (.slice ad n cap)) (hn:n≤cap) (hy:aF x y = .list sz cs 0):bV P G x o .none (.v (.slice ad n cap)):=fun C a w _ h=>by
 refine⟨_,.v _,fun w' _=>?_⟩;have hr:=h.eval y;rw[hy] at hr;generalize hg:a.eval y=u at hr;refine Av (P:=P) ho (h.flat hs) hg ?_;have U:n+0≤cap:=hn;cases hr with
 | lZ _ I kg=>cases I<;>cases ad<;>simp[Builtin.append_,O,E,Builtin.lenOf,Builtin.firstCells,storeCells,loadCells,loadCellsFrom,hn,Nat.not_lt.2 hn]
 | list _ _ _ b' o' kg f lO q1 q2 jz hL hc Z=>cases ad<;>simp[Builtin.append_,O,E,Builtin.lenOf,Builtin.firstCells,storeCells,loadCells,loadCellsFrom,hn,Nat.not_lt.2 hn]

end Go.Proofs.YtbcmjoaggammcaaGreatDoor.V
namespace Go.Proofs.YtbcmjoaggammcaaGreatDoor.V
open List
open Go.RowKit
variable {g t n:Nat} {E b:Bool} {l':List (Nat×D)} {S':List ag} {c:Code} {ds:List D} {fn:Func} {L:Nat→Prop} {I:ResultVar}
def LQ(C:dF)(Q:Exit→St→Prop):Exit→Act→World→Prop:=fun e a w=>(∃y,bG C y a w∧Q e y)∨(e = .ret∧C.Cn a w)
def CD(P:Program)(C:dF)(c:Code)(x:St)(Q:Exit→St→Prop):Prop:=∀a w,bG C x a w→c.wp P (LQ C Q) a w
def OD(P:Program)(C:dF)(ops:Array Oper)(l:List Oper)(x:St)(Q:Exit→St→Prop):Prop:=∀a w,bG C x a w→wpList P ops (LQ C Q) l a w
variable {P:Program} {C:dF} {Q:Exit→St→Prop} {x y:St} {ops:Array Oper} {l:List Oper} {o:Oper}
def cc(ops:Array Oper)(x:St)(o:Oper)(b:Bool):Prop:=∀C a w,bG C x a w→Region.wanted o (yielded ops a.tmps)=b
theorem rG(h:o.guard=none):cc ops x o true:=fun C a w _=>by simp[Region.wanted,h]
theorem PJ(h:o.guard=some (g,E))(hg:(ops[g]?).bind (·.dst)=some t)(ht:t<x.n)(hb:look t x.env = .v (.bool b)):cc ops x o (b==E):=fun C a w hs=>by
 have I:=hs.env t ht;rw[hb] at I;have I:=I.kD;have O:=hs.size;have:a.tmps[t]?=some (.bool b):=by
  rw[Array.getD_eq_getD_getElem?,Array.getElem?_eq_getElem w4] at I;rw[Array.getElem?_eq_getElem w4];simpa using I
 simp only[Region.wanted,h,yielded,hg,Option.bind_some,this];cases b<;>cases E<;>rfl
/-! ### What a slot holds -/
theorem fw{d:D}{r:List (Nat×D)}:look t ((t,d)::r)=d:=by rw[fO,if_pos rfl]
theorem fP{d d':D}{r:List (Nat×D)}(h:d=d'):look t ((t,d)::r)=d':=by rw[fO,if_pos rfl,h]
theorem fA{i:Nat}{d d':D}{r:List (Nat×D)}(h:Nat.beq i t=false)(k:look t r=d'):look t ((i,d)::r)=d':=by rw[look,h];exact k
theorem bJ{v:Value}{x:St}:aF x (.const v) = .v v:=rfl
theorem sW{f:FuncId}{x:St}:aF x (.func f) = .ek (.func f) []:=rfl
theorem vS{x:St}:aF x (.global g) = .v (.pointer (some ⟨g,0,none⟩)):=rfl
theorem tc{d:D}{x:St}(h:Nat.blt t x.n=true)(k:look t x.env=d):aF x (.tmp t)=d:=by simp only[aF,h,k];rfl
theorem lk{l:List (Nat×D)}{d:D}(h:look t l=d:=by (repeat (first|exact fw|(apply fA;focus rfl)|exact look_nil));first|done|fail):look t l=d:=h
theorem ot{d:D}{x:St}(h:Nat.blt t x.n=true:=by exact rfl)(k:look t x.env=d:=by (repeat (first|exact fw|(apply fA;focus rfl)|exact look_nil));first|done|fail):aF x (.tmp t)=d:=tc h k
def mR(l:List (Nat×D)):List (Nat×D)→Prop
 | []=>True
 | (i,d)::r=>look i l=d∧mR l r
theorem mR.look{l:List (Nat×D)}:∀{l':List (Nat×D)},mR l l'→∀t,V.look t l'=V.look t l∨V.look t l' = .bU
 | [],_,t=>.inr rfl
 | (i,d)::r,h,t=>by
  rw[fO];by_cases e:i=t
  ·subst e;rw[if_pos rfl];exact .inl h.1.symm
  rw[if_neg e];exact h.2.look t
theorem Wk.j5{l:List (Nat×D)}{S:List ag}(h:mR l l'):Wk ⟨n,l,S⟩ ⟨n,l',S⟩:=fun C a w hs =>
 ⟨hs.defers,hs.size,fun t ht=>by
  rcases h.look t with e|e
  ·simp only[e];exact hs.env t ht
  simp only[e];exact .bU _,hs.own,hs.fr,hs.ex,hs.eM⟩
theorem Wk.dN{x:St}(hn:x.n=n)(hS:x.S=S')(h:mR x.env l'):Wk x ⟨n,l',S'⟩:=by
 obtain⟨n0,l0,S0⟩:=x;simp only at hn hS h;subst hn hS;exact Wk.j5 h
theorem Wk.asS{x:St}(hn:x.n=n)(hS:S'.Sublist x.S)(h:mR x.env l'):Wk x ⟨n,l',S'⟩:=by
 obtain⟨n0,l0,S0⟩:=x;simp only at hn hS h;subst hn;exact(Wk.drop n0 l0 S0 S' hS).trans (Wk.j5 h)
theorem th{ops:Array Oper}{x:St}{o:Oper}(h:o.guard=some (g,E))(hg:(ops[g]?).bind (·.dst)=some t)(ht:Nat.blt t x.n=true)(hb:look t x.env = .v (.bool b))(hw:b=E):cc ops x o true:=by
 have:=PJ h hg (Nat.le_of_ble_eq_true ht) hb;rw[hw] at this;simpa using this
theorem mj{ops:Array Oper}{x:St}{o:Oper}(h:o.guard=some (g,E))(hg:(ops[g]?).bind (·.dst)=some t)(ht:Nat.blt t x.n=true)(hb:look t x.env = .v (.bool b))(hw:b = !E):cc ops x o false:=by
 have:=PJ h hg (Nat.le_of_ble_eq_true ht) hb;rw[hw] at this;cases E<;>simpa using this
theorem IF{ops:Array Oper}{x:St}{o:Oper}{b:Bool}(h:o.guard=some (g,E))(hg:(ops[g]?).bind (·.dst)=some t)(ht:Nat.blt t x.n=true)(hb:look t x.env = .v (.tuple #[])):cc ops x o false:=fun C a w hs=>by
 have I:=hs.env t (Nat.le_of_ble_eq_true ht);rw[hb] at I;have I:=I.kD;have O:=hs.size;have Gq:t<x.n:=Nat.le_of_ble_eq_true ht;have:a.tmps[t]?=some (.tuple #[]):=by
  rw[Array.getD_eq_getD_getElem?,Array.getElem?_eq_getElem w4] at I;rw[Array.getElem?_eq_getElem w4];simpa using I
 simp only[Region.wanted,h,yielded,hg,Option.bind_some,this];cases E<;>rfl
theorem OD.nil(h:Q .normal x):OD P C ops [] x Q:=fun a w hs=>.inl ⟨x,hs,h⟩
theorem OD.fQ{W:List Nat}{post:St→Prop}(hw:cc ops x o true)(h:fJ P C.G x o W post)(k:∀y,post y→OD P C ops l y Q):OD P C ops (o::l) x Q:=fun a w hs=>by
 unfold wpList;rw[if_pos (hw C a w hs)];exact .inl (h C a w _ _ rfl hs fun y a' w' hp E _ _=>k y hp a' w' E)
theorem OD.still{kd:Rd}{d:D}(hw:cc ops x o true)(hd:o.dst=some t)(h:bV P C.G x o kd d)(k:OD P C ops l (x.put t d) Q):OD P C ops (o::l) x Q :=
 OD.fQ hw (h.fQ hd) fun y hy=>by subst hy;exact k
theorem OD.skip(hw:cc ops x o false)(hd:o.dst=some t)(k:OD P C ops l (x.put t (.v (.tuple #[]))) Q):OD P C ops (o::l) x Q:=fun a w hs=>by
 unfold wpList;rw[if_neg (by rw[hw C a w hs];simp),hd];exact k _ _ (hs.put (.v _))
theorem OD.wk(h:Wk x y)(k:OD P C ops l y Q):OD P C ops l x Q:=fun a w hs=>k a w (h C a w hs)
/-! ### Code -/
theorem CD.wk(h:Wk x y)(k:CD P C c y Q):CD P C c x Q:=fun a w hs=>k a w (h C a w hs)
theorem CD.mono{E:Exit→St→Prop}(h:CD P C c x Q)(k:∀e y,Q e y→E e y):CD P C c x E:=fun a w hs =>
 wp_mono (h a w hs) fun e a' w' h=>h.imp (fun ⟨y,h1,h2⟩=>⟨y,h1,k e y h2⟩) id
theorem CD.skip(h:Q .normal x):CD P C .skip x Q:=fun a w hs=>wp_skip (.inl ⟨x,hs,h⟩)
theorem CD.ret(h:Q .ret x):CD P C .ret x Q:=fun a w hs=>wp_ret (.inl ⟨x,hs,h⟩)
theorem CD.exit{id:Nat}(h:Q (.exit id) x):CD P C (.exit id) x Q:=fun a w hs=>wp_exit (.inl ⟨x,hs,h⟩)
def BG(P:Program)(C:dF)(c:Code)(Q:Exit→St→Prop):Exit→St→Prop
 | .normal,y=>CD P C c y Q
 | e,y=>Q e y
theorem CD.seq{c d:Code}(h:CD P C c x (BG P C d Q)):CD P C (.seq c d) x Q:=fun a w hs =>
 wp_seq (wp_mono (h a w hs) fun e a' w' h=>by
  rcases h with ⟨y,h1,h2⟩|⟨rfl,h⟩
  ·cases e<;>first|exact h2 a' w' h1|exact .inl ⟨y,h1,h2⟩
  exact .inr ⟨rfl,h⟩)
theorem CD.region{id:Nat}{l:List Oper}(h:OD P C l.toArray l x Q):CD P C (.region id l.toArray false) x Q:=fun a w hs=>wp_region_lit (h a w hs)
theorem CD.cond{c:Operand}{d e:Code}{b:Bool}(hc:aF x c = .v (.bool b))(ht:b=true→CD P C d x Q)(hf:b=false→CD P C e x Q):CD P C (.cond c d e) x Q:=fun a w hs =>
 wp_cond_split (hs.flat hc) (fun h=>ht h a w hs) (fun h=>hf h a w hs)
theorem CD.afL{c:Operand}{d e:Code}(hc:aF x c = .v (.bool b))(hb:b=true)(ht:CD P C d x Q):CD P C (.cond c d e) x Q:=fun a w hs =>
 wp_cond_true (by rw[hs.flat hc,hb]) (ht a w hs)
theorem CD.J1{c:Operand}{d e:Code}(hc:aF x c = .v (.bool b))(hb:b=false)(hf:CD P C e x Q):CD P C (.cond c d e) x Q:=fun a w hs =>
 wp_cond_false (by rw[hs.flat hc,hb]) (hf a w hs)
def Mf(Inv:St→Prop)(Q:Exit→St→Prop):Exit→St→Prop
 | .normal,y=>∃z,Wk y z∧Inv z
 | e,y=>Q e y
theorem CD.cut{d:Code}(E:St→Prop)(h1:CD P C c x (Mf E Q))(h2:∀z,E z→CD P C d z Q):CD P C (.seq c d) x Q :=
 CD.seq (CD.mono h1 fun e y h=>by cases e<;>first|(obtain⟨z,hw,hz⟩:=h;exact CD.wk hw (h2 z hz))|exact h)
def AT(id:Nat)(Q:Exit→St→Prop):Exit→St→Prop
 | .exit sJ,y=>bif Nat.beq sJ id then Q .normal y else Q (.exit sJ) y
 | e,y=>Q e y
theorem CD.block{id:Nat}{c:Code}(h:CD P C c x (AT id Q)):CD P C (.block id c) x Q:=fun a w hs =>
 wp_block (wp_mono (h a w hs) fun e a' w' h=>by
  rcases h with ⟨y,h1,h2⟩|⟨rfl,h⟩
  case inr=>exact .inr ⟨rfl,h⟩
  cases e with
  | exit sJ =>
   simp only[AT] at h2;simp only[Exit.inBlock];by_cases he:sJ=id
   ·subst he;rw[if_pos rfl];simp at h2;exact .inl ⟨y,h1,h2⟩
   rw[if_neg he];have:Nat.beq sJ id=false:=by
    cases h:Nat.beq sJ id with
    | false=>rfl
    | true=>exact absurd (Nat.eq_of_beq_eq_true h) he
   rw[this] at h2;exact .inl ⟨y,h1,h2⟩
  | _=>exact .inl ⟨y,h1,h2⟩)
theorem least(p:Nat→Prop)(h:∃n,p n):∃n,p n∧∀m,p m→n≤m:=by
 obtain⟨n,hn⟩:=h;induction n using Nat.strongRecOn with
 | _ n ih =>
  by_cases hq:∃m,m<n∧p m
  ·obtain⟨m,hm,hp⟩:=hq;exact ih m hm hp
  exact⟨n,hn,fun m hm=>Nat.le_of_not_lt fun aa=>hq ⟨m,aa,hm⟩⟩
def Bj{ι:Type}(I:ι→St→Prop)(μ:ι→Nat)(i:ι)(Q:Exit→St→Prop):Exit→St→Prop
 | .normal,y=>∃j z,μ j < μ i∧Wk y z∧I j z
 | e,y=>Q e y
open Classical in
theorem CD.loop{ι:Type}{c:Code}(I:ι→St→Prop)(μ:ι→Nat)(i:ι)(h0:I i x)(round:∀i y,I i y→CD P C c y (Bj I μ i Q)):CD P C (.loop c) x Q:=fun a w hs=>by
 let p:Act→World→Nat→Prop:=fun a w n=>∃i y,μ i=n∧I i y∧bG C y a w
 let m:Act→World→Nat:=fun a w=>if h:∃n,p a w n then Classical.choose (least _ h) else 0
 refine wp_loop (fun a w=>∃n,p a w n) m ⟨_,i,x,rfl,h0,hs⟩ fun a w O=>?_;have hm:m a w=Classical.choose (least _ O):=dif_pos O;obtain⟨⟨i,y,h1,h2,h3⟩,_⟩:=Classical.choose_spec (least _ O);rw[←hm] at h1;refine wp_mono (round i y h2 a w h3) fun e a' w' h=>?_;rcases h with ⟨z,q1,q2⟩|⟨rfl,h⟩
 case inr=>exact .inr ⟨rfl,h⟩
 cases e with
 | normal =>
  obtain⟨j,z',r1,r2,Z⟩:=q2;have hp:p a' w' (μ j):=⟨j,z',rfl,Z,r2 C a' w' q1⟩
  have E:∃n,p a' w' n:=⟨_,hp⟩
  have U:m a' w'=Classical.choose (least _ E):=dif_pos E;refine⟨E,?_⟩;have:=(Classical.choose_spec (least _ E)).2 _ hp;rw[U];omega
 | _=>exact .inl ⟨z,q1,q2⟩
/-! ### Results and bodies -/
def KC(tmps:Array Value):ResultVar→Sem Value
 | .tmp t=>pure (tmps.getD t undef)
 | .cell a t=>do loadVar t (←asAddr (tmps.getD a undef))
theorem Hg(fn:Func)(tmps:Array Value):results fn tmps=(do let vs ←fn.results.mapM (KC tmps);pure (if h:vs.size=1 then vs[0] else .tuple vs)):=rfl
def sK(P:Program)(y:St)(rv:ResultVar)(d:D):Prop :=
 ∀C a w,bG C y a w→∃v,cl w (live C.X y.S) d v∧(KC a.tmps rv).run P w = .ok v w
theorem yz{d:D}(ht:t<y.n)(hd:look t y.env=d):sK P y (.tmp t) d:=fun C a w h=>⟨_,hd ▸ h.env t ht,rfl⟩
theorem rK{c k b:Nat}{B:ag}(hc:c<y.n)(hd:look c y.env = .v (.pointer (some ⟨b,0,none⟩)))(hk:y.S[k]?=some B)(hb:B.b=b)(ha:∀w,(isAgg t).run P w = .ok true w)(hn:∀w,(sizeOf t).run P w = .ok n w)(dw:B.cs=ds)(hl:ds.length=n)(hne:isMap B.e=false:=by rfl):sK P y (.cell c t) (.agg ds):=fun C a w h=>by
 subst hb dw;have he:=h.env c hc;rw[hd] at he;obtain⟨_,cur,h1,h2,h3,h4⟩:=h.fu hk;rw[jY hne] at h1;refine⟨.agg ((range n).map fun j=>cur.getD j undef).toArray,.agg _ _ (by simp[hl]) (fun i q1 q2=>?_),?_⟩
 ·obtain⟨u,hu,hr⟩:=h4 i q1;simp only[getElem_map,getElem_range,Array.getD_eq_getD_getElem?,hu,Option.getD_some];exact hr
 simp only[KC,he.kD,asAddr,Sem.run_bind,Sem.run_pure,Result.andThen_ok];have:=Hu (P:=P) (t:=t) (w:=w) (b:=B.b) (o':=0) (vs:=(range n).map fun j=>cur.getD j undef) ha hn bq (fun j hj=>by
  simp only[length_map,length_range] at hj;obtain⟨u,hu,_⟩:=h4 j w4;simp only[getElem_map,getElem_range,Array.getD_eq_getD_getElem?,hu,Option.getD_some,Nat.zero_add];exact nK h1 hu)
 simpa[Instr.loadAt,Instr.sureAddr] using this
def sL(P:Program)(fn:Func)(y:St)(r:D):Prop:=∀C a w,bG C y a w→∃v,cl w (live C.X y.S) r v∧(results fn a.tmps).run P w = .ok v w
theorem pT(hr:fn.results = #[]):sL P fn y (.dz []):=fun C a w h =>
 ⟨.tuple #[],.dz [] [] rfl (fun i h1 _=>by simp at h1),by unfold results;simp[hr]⟩
theorem Rf{rv:ResultVar}{d:D}(hr:fn.results = #[rv])(h:sK P y rv d):sL P fn y d:=fun C a w hs=>by
 obtain⟨v,h1,h2⟩:=h C a w hs;refine⟨v,h1,?_⟩;rw[Hg,hr];simp[h2]
theorem Rg{w:World}{vs:List Value}(h:cH w L ds vs):cl w L (.dz ds) (.tuple vs.toArray):=.dz ds vs h.1 h.2
theorem cH.cons{w:World}{d:D}{v:Value}{vs:List Value}(h:cl w L d v)(hs:cH w L ds vs):cH w L (d::ds) (v::vs) :=
 ⟨by simp[hs.1],fun i h1 h2=>by
  cases i with
  | zero=>exact h
  | succ i=>exact hs.2 i _ _⟩
theorem cH.nil(w:World)(L:Nat→Prop):cH w L [] []:=⟨rfl,fun i h=>by simp at h⟩
theorem IG{E:ResultVar}{d1 d2:D}(hr:fn.results = #[E,I])(h1:sK P y E d1)(h2:sK P y I d2):sL P fn y (.dz [d1,d2]):=fun C a w hs=>by
 obtain⟨v1,a1,b1⟩:=h1 C a w hs;obtain⟨v2,a2,b2⟩:=h2 C a w hs;refine⟨_,Rg (.cons a1 (.cons a2 (.nil _ _))),?_⟩;rw[Hg,hr];simp[b1,b2]
theorem ZA{E O:ResultVar}{d1 d2 U:D}(hr:fn.results = #[E,I,O])(h1:sK P y E d1)(h2:sK P y I d2)(h3:sK P y O U):sL P fn y (.dz [d1,d2,U]):=fun C a w hs=>by
 obtain⟨v1,a1,b1⟩:=h1 C a w hs;obtain⟨v2,a2,b2⟩:=h2 C a w hs;obtain⟨v3,a3,b3⟩:=h3 C a w hs;refine⟨_,Rg (.cons a1 (.cons a2 (.cons a3 (.nil _ _)))),?_⟩;rw[Hg,hr];simp[b1,b2,b3]
def Body(P:Program)(fn:Func)(post:D→List ag→Prop)(e:Exit)(y:St):Prop :=
 (e = .normal∨e = .ret)∧∃r S',S'.Sublist y.S∧sL P fn y r∧post r S'
def rS:Nat→List D→List (Nat×D)
 | _,[]=>[]
 | i,d::r=>(i,d)::rS (i+1) r
theorem DM:∀(ds:List D) (i t:Nat),look t (rS i ds)=if i≤t then ds.getD (t-i) .bU else .bU
 | [],i,t=>by simp[rS,look]
 | d::r,i,t=>by
  rw[rS,fO,DM r (i+1) t];by_cases h:i=t
  ·subst h;simp
  rw[if_neg h];by_cases h2:i≤t
  ·rw[if_pos h2,if_pos w4,show t-i=(t-(i+1))+1 from by omega];simp
  rw[if_neg h2,if_neg w4]
theorem VC.body {G:List (Nat×List Value)} {f:FuncId} {fn:Func} {c:Code} {n:Nat} {args:List D} {S:List ag} {post:D→List ag→Prop} (hf:P.funcs[f]?=some fn) (hb:fn.body=some c) (hn:fn.ntmps=n) (hl:args.length≤n)
  (h:∀X w0 S0,CD P ⟨X,w0,S0,G,[],fun _ _=>False⟩ c ⟨n,rS 0 args,S⟩ (Body P fn post)):VC P G f args S post:=fun X w vs hp=>by
 have Z:vs.length=args.length:=hp.args.1;let C:dF:=⟨X,w,ap S,G,[],fun _ _=>False⟩
 have I:bG C ⟨n,rS 0 args,S⟩ {tmps:=vs.toArray++Array.replicate (fn.ntmps-vs.toArray.size) undef,defers:=[]} w:=by
  refine⟨rfl,by simp[hn];omega,fun t ht=>?_,hp.own,Fr.refl _ _,hp.ex,hp.eM⟩;simp only[DM,Nat.zero_le,if_true,Nat.sub_zero];by_cases aa:t<args.length
  ·have e1:args.getD t .bU=args[t]:=(by simp[getD,aa])
   have e2:(vs.toArray++Array.replicate (fn.ntmps-vs.toArray.size) undef).getD t undef=vs[t]'w4:=by
    rw[Array.getD_eq_getD_getElem?,Array.getElem?_append_left gU];simp[show t<vs.length by omega]
   rw[e1,e2];exact hp.args.2 t aa w4
  have e1:args.getD t .bU = .bU:=(by simp[getD,getElem?_eq_none (show args.length≤t by omega)])
  rw[e1];exact .bU _
 refine calls_of_wp hf hb (wp_mono (h _ _ _ _ _ I) fun e a w' h=>?_);rcases h with ⟨y,h1,h2,r,S',h3,h4,h5⟩|⟨_,h⟩
 case inr=>exact h.elim
 obtain⟨v,q1,q2⟩:=h4 C a w' h1;have E:(ap S').Sublist (ap y.S):=Sublist.map _ h3;have key:a.defers=[]∧∃v,(results fn a.tmps).run P w' = .ok v w'∧∃U r S',Ending.returned v = .returned U∧post r S'∧Own w' (live X S') S'∧cl w' (live X S') r U∧Fr w (ap S) w' (ap S') :=
  ⟨h1.defers,v,q2,v,r,S',rfl,h5,h1.own.sub h3,q1.mono fun b _ hn=>⟨rfl,fun hl=>hn (hl.imp id fun q=>E.subset q)⟩,
   ⟨h1.fr.os,h1.fr.tape,h1.fr.output,h1.fr.size,fun b O hn=>⟨(h1.fr.block b O hn).1,fun q=>(h1.fr.block b O hn).2 (E.subset q)⟩⟩⟩
 rcases h2 with rfl|rfl<;>exact key

end Go.Proofs.YtbcmjoaggammcaaGreatDoor.V
namespace Go.Proofs.YtbcmjoaggammcaaGreatDoor.V
open List
open Go.RowKit
variable {fuel i t:Nat} {ld:Array Bool}
def kE(w1:World)(S1 T:List Nat)(w:World):Prop:=(∀b,b<w1.heap.size→b∉S1→w.heap[b]?=w1.heap[b]?)∧∀b∈T,w.heap[b]?=w1.heap[b]?
def AD(P:Program)(C:dF)(ops:Array Oper)(S1 T:List Nat)(fuel:Nat)(ld:Array Bool)(x:St)(Q:Exit→St→Prop):Prop :=
 ∀w1 a w,bG C x a w→(∀b∈T,b∈S1)→(∀b∈S1,b<w1.heap.size)→Fr w1 S1 w (ap x.S)→kE w1 S1 T w→wpAnyH P .any ops (LQ C Q) (kE w1 S1 T) fuel ld a w
def dm(P:Program)(C:dF)(ops:Array Oper)(S1 T:List Nat)(fuel:Nat)(ld:Array Bool)(x:St)(Q:Exit→St→Prop):Prop :=
 ∀a w,bG C x a w→ap x.S=S1→(∀b∈T,b∈S1)→wpAnyH P .any ops (LQ C Q) (kE w S1 T) fuel ld a w
def NP(Q:Exit→St→Prop):Prop:=∀c y t,Q (.panic c) y→Q (.panic c) (y.put t .bU)
variable {P:Program} {C:dF} {Q:Exit→St→Prop} {x y:St} {ops:Array Oper} {l:List Oper} {o:Oper} {S1 T:List Nat}
theorem NP.body{fn:Func}{post:D→List ag→Prop}:NP (Body P fn post):=fun E y t hq=>by rcases hq.1 with h|h<;>cases h
def Tl(P:Program)(C:dF)(ops:Array Oper)(l:List Oper)(Q:Exit→St→Prop):Exit→St→Prop
 | .normal,y=>OD P C ops l y Q
 | e,y=>Q e y
theorem kE.refl(E:World)(S1 T:List Nat):kE E S1 T E:=⟨fun _ _ _=>rfl,fun _ _=>rfl⟩
theorem dm.later(hS:ap x.S=S1)(h:AD P C ops S1 T fuel ld x Q):dm P C ops S1 T fuel ld x Q:=fun a w hs _ hT =>
 h w a w hs hT (fun b hb=>by
  rw[←hS] at hb;obtain⟨B,hB,rfl⟩:=mem_map.1 hb;exact(hs.own.at_ B hB).1) (hS ▸ Fr.refl _ _) (kE.refl _ _ _)
def Safe(x:St)(T:List Nat):Rd→Prop
 | .none=>True
 | .jI=>True
 | .fu k=>∃B,x.S[k]?=some B∧B.b∈T
theorem yS(h:NP Q)(d:Option Nat)(v:Value):∀c a w,LQ C Q (.panic c) (a.put d v) w→LQ C Q (.panic c) a w:=fun c a w hq=>by
 rcases hq with ⟨y,h1,h2⟩|⟨h2,_⟩
 ·cases d with
  | none=>exact .inl ⟨y,h1,h2⟩
  | some t =>
   refine .inl ⟨y.put t .bU,⟨h1.defers,by have E:=h1.size;simp only[Act.put,Array.size_setIfInBounds] at E;exact E,fun q hq=>?_,h1.own,h1.fr,h1.ex,h1.eM⟩,h c y t h2⟩;have h3:=h1.env q hq;simp only[St.put,fO];by_cases e:t=q
   ·rw[if_pos e];exact .bU _
   rw[if_neg e];have:(a.put (some t) v).tmps.getD q undef=a.tmps.getD q undef:=(by simp[Act.put,Array.getD_eq_getD_getElem?,Array.getElem?_setIfInBounds,e])
   rw[this] at h3;exact h3
 cases h2
theorem dm.take {k:Rd} {d:D} (hi:ops[i]?=some o) (hs:Region.noSelect ops=true) (hf:Region.free .any ops ld i=true) (hr:(Region.ready .any ops ld).contains i=true) (hp:NP Q)
  (hw:cc ops x o true) (hd:o.dst=some t) (h:bV P C.G x o k d) (hk:Safe x T k) (K:dm P C ops S1 T fuel (ld.setIfInBounds i true) (x.put t d) Q):dm P C ops S1 T (fuel+1) ld x Q:=fun a w E hS hT=>by
 obtain⟨v,h1,h2⟩:=h C a w rfl E;refine wpAnyH_take hi hs hf hr (yS hp _ v) (.inl ⟨hw C a w E,fun w' I=>h2 w' ?_⟩) (kE.refl _ _ _) ?_
 ·cases k with
  | none=>trivial
  | jI=>exact fun b hb hn=>I.1 b hb (fun hm=>hn (.inr (hS ▸ hm)))
  | fu k =>
   obtain⟨B,hB,hm⟩:=hk;intro B' O;rw[hB] at O;obtain rfl:=Option.some.inj O;exact I.2 _ hm
 rw[hd];exact K _ _ (E.put h1) hS hT
theorem dm.H6 (hi:ops[i]?=some o) (hs:Region.noSelect ops=true) (hf:Region.free .any ops ld i=true) (hr:(Region.ready .any ops ld).contains i=true) (hp:NP Q)
  (hw:cc ops x o false) (hd:o.dst=some t) (K:dm P C ops S1 T fuel (ld.setIfInBounds i true) (x.put t (.v (.tuple #[]))) Q):dm P C ops S1 T (fuel+1) ld x Q:=fun a w E hS hT=>by
 refine wpAnyH_take (v:=undef) hi hs hf hr (yS hp _ _) (.inr ⟨hw C a w E,rfl⟩) (kE.refl _ _ _) ?_;rw[hd];exact K _ _ (E.put (.v _)) hS hT
theorem AD.take {k:Rd} {d:D} (hi:ops[i]?=some o) (hs:Region.noSelect ops=true) (hf:Region.free .any ops ld i=true) (hr:(Region.ready .any ops ld).contains i=true) (hp:NP Q)
  (hw:cc ops x o true) (hd:o.dst=some t) (h:bV P C.G x o k d) (hk:Safe x T k) (pJ:k≠.jI) (K:AD P C ops S1 T fuel (ld.setIfInBounds i true) (x.put t d) Q):AD P C ops S1 T (fuel+1) ld x Q:=fun Z a w E hT aa O fy=>by
 obtain⟨v,h1,h2⟩:=h C a w rfl E;refine wpAnyH_take hi hs hf hr (yS hp _ v) (.inl ⟨hw C a w E,fun w' U=>h2 w' ?_⟩) fy ?_
 ·cases k with
  | none=>trivial
  | jI=>exact absurd rfl pJ
  | fu k =>
   obtain⟨B,hB,hm⟩:=hk;intro B' I;rw[hB] at I;obtain rfl:=Option.some.inj I;exact(U.2 _ hm).trans (fy.2 _ hm).symm
 rw[hd];exact K _ _ _ (E.put h1) hT aa O fy
theorem AD.H6 (hi:ops[i]?=some o) (hs:Region.noSelect ops=true) (hf:Region.free .any ops ld i=true) (hr:(Region.ready .any ops ld).contains i=true) (hp:NP Q)
  (hw:cc ops x o false) (hd:o.dst=some t) (K:AD P C ops S1 T fuel (ld.setIfInBounds i true) (x.put t (.v (.tuple #[]))) Q):AD P C ops S1 T (fuel+1) ld x Q:=fun O a w E hT aa I fy=>by
 refine wpAnyH_take (v:=undef) hi hs hf hr (yS hp _ _) (.inr ⟨hw C a w E,rfl⟩) fy ?_;rw[hd];exact K _ _ _ (E.put (.v _)) hT aa I fy
def bg(P:Program)(C:dF)(ops:Array Oper)(S1 T:List Nat)(fuel:Nat)(ld:Array Bool)(x:St)(Q:Exit→St→Prop)(i:Nat):Prop :=
 ∀w1 a w,bG C x a w→(∀b∈T,b∈S1)→(∀b∈S1,b<w1.heap.size)→Fr w1 S1 w (ap x.S)→kE w1 S1 T w →
  wpOp P ops (LQ C Q) i (fun a' w'=>kE w1 S1 T w'∧wpAnyH P .any ops (LQ C Q) (kE w1 S1 T) fuel (ld.setIfInBounds i true) a' w') a w
theorem AD.all{I:List Nat}(hr:Region.ready .any ops ld=I)(hne:I≠[])(h:∀i∈I,bg P C ops S1 T fuel ld x Q i):AD P C ops S1 T (fuel+1) ld x Q:=fun U a w E hT aa O fy =>
 wpAnyH_all hr hne fun i hi=>h i hi U a w E hT aa O fy
theorem AD.one(hr:Region.ready .any ops ld=[i])(h:bg P C ops S1 T fuel ld x Q i):AD P C ops S1 T (fuel+1) ld x Q :=
 AD.all hr bq fun j hj=>by
  have:j=i:=(by simpa using hj)
  subst this;exact h
theorem AD.two{j:Nat}(hr:Region.ready .any ops ld=[i,j])(h:bg P C ops S1 T fuel ld x Q i)(h':bg P C ops S1 T fuel ld x Q j):AD P C ops S1 T (fuel+1) ld x Q :=
 AD.all hr bq fun k hk=>by
  simp only[mem_cons,not_mem_nil,or_false] at hk;rcases hk with rfl|rfl
  ·exact h
  exact h'
theorem AD.three{j k:Nat}(hr:Region.ready .any ops ld=[i,j,k])(h:bg P C ops S1 T fuel ld x Q i)(h':bg P C ops S1 T fuel ld x Q j)(E:bg P C ops S1 T fuel ld x Q k):AD P C ops S1 T (fuel+1) ld x Q :=
 AD.all hr bq fun m hm=>by
  simp only[mem_cons,not_mem_nil,or_false] at hm;rcases hm with rfl|rfl|rfl
  ·exact h
  ·exact h'
  exact E
theorem AD.done(hr:Region.ready .any ops ld=[])(h:Q .normal x):AD P C ops S1 T fuel ld x Q:=fun O a w E hT aa I fy=>wpAnyH_done hr (.inl ⟨x,E,h⟩) _
theorem bg.fQ {W:List Nat} {post:St→Prop} (hi:ops[i]?=some o) (hw:cc ops x o true) (h:fJ P C.G x o W post) (hW:∀C a w,bG C x a w→∀b∈T,b∉W) (hWx:∀b∈W,b∈ap x.S)
  (k:∀y,post y→AD P C ops S1 T fuel (ld.setIfInBounds i true) y Q):bg P C ops S1 T fuel ld x Q i:=fun Z a w I hT aa E fy=>by
 unfold wpOp;simp only[hi,hw C a w I,if_true];refine .inl (h C a w _ _ rfl I fun y a' w' hp rp hc hf=>?_);have O:Fr Z S1 w' (ap y.S):=⟨hf.os.trans E.os,hf.tape.trans E.tape,hf.output.trans E.output,Nat.le_trans E.size hf.size,fun b hb hn=>by
  obtain⟨q1,q2⟩:=E.block b hb hn;obtain⟨q3,q4⟩:=hf.block b (Nat.lt_of_lt_of_le hb E.size) q2;exact⟨q3.trans q1,q4⟩⟩
 have U:kE Z S1 T w':=⟨fun b hb hn=>(O.block b hb hn).1,fun b hb=>by
  have iV:=Nat.lt_of_lt_of_le (aa b (hT b hb)) E.size;exact(hc.2 b iV (hW C a w I b hb)).trans (fy.2 b hb)⟩
 exact⟨U,k y hp Z a' w' rp hT aa O U⟩
theorem bg.still{kd:Rd}{d:D}(hi:ops[i]?=some o)(hw:cc ops x o true)(hd:o.dst=some t)(h:bV P C.G x o kd d)(k:AD P C ops S1 T fuel (ld.setIfInBounds i true) (x.put t d) Q):bg P C ops S1 T fuel ld x Q i :=
 bg.fQ hi hw (h.fQ hd) (fun _ _ _ _ b _ hb=>by simp at hb) (fun b hb=>by simp at hb) fun y hy=>by subst hy;exact k
theorem bg.skip(hi:ops[i]?=some o)(hw:cc ops x o false)(hd:o.dst=some t)(k:AD P C ops S1 T fuel (ld.setIfInBounds i true) (x.put t (.v (.tuple #[]))) Q):bg P C ops S1 T fuel ld x Q i:=fun O a w E hT aa I fy=>by
 unfold wpOp;simp only[hi,hw C a w E,hd];exact⟨fy,k O _ w (E.put (.v _)) hT aa I fy⟩
theorem AD.wk(h:Wk x y)(hb:ap y.S=ap x.S)(k:AD P C ops S1 T fuel ld y Q):AD P C ops S1 T fuel ld x Q:=fun O a w E hT aa I fy=>k O a w (h C a w E) hT aa (hb ▸ I) fy
theorem AD.Fa(h:Wk x y)(hb:∀b∈ap y.S,b∈ap x.S)(k:AD P C ops S1 T fuel ld y Q):AD P C ops S1 T fuel ld x Q:=fun O a w I hT aa E fy =>
 k O a w (h C a w I) hT aa ⟨E.os,E.tape,E.output,E.size,fun b h1 h2=>⟨(E.block b h1 h2).1,fun h3=>(E.block b h1 h2).2 (hb b h3)⟩⟩ fy
theorem CD.draw{id:Nat}{l:List Oper}(T:List Nat)(hm:P.follows .mixedOrders=true)(hT:∀b∈T,b∈ap x.S)(h:dm P C l.toArray (ap x.S) T l.toArray.size (Array.replicate l.toArray.size false) x Q):CD P C (.region id l.toArray true) x Q:=fun a w hs =>
 wp_region_held (S:=kE {w with drawn:=w.drawn+1} (ap x.S) T) hm (h a _ ⟨hs.defers,hs.size,fun t ht=>(hs.env t ht).mono fun b _ hn=>⟨rfl,hn⟩,⟨fun B E=>by
  obtain⟨r0,cur,r1,r2,I,O⟩:=hs.own.at_ B E;exact⟨r0,cur,r1,r2,I,fun i hi=>by
   obtain⟨u,hu,hq⟩:=O i hi;exact⟨u,hu,hq.mono fun b _ hn=>⟨rfl,hn⟩⟩⟩,hs.own.apart⟩,⟨hs.fr.os,hs.fr.tape,hs.fr.output,hs.fr.size,hs.fr.block⟩,hs.ex,hs.eM⟩ rfl hT)

end Go.Proofs.YtbcmjoaggammcaaGreatDoor.V

namespace Go.Proofs.YtbcmjoaggammcaaGreatDoor.V
open List
open Go.RowKit
variable {P:Program}

variable {t:TypeId} {k:IntKind} {a b:Int} {us:List Value}
theorem II{op:BinOp}{r:Int}(h:(op = .add∧k.wrap (a+b)=r)∨(op = .sub∧k.wrap (a-b)=r)∨(op = .mul∧k.wrap (a*b)=r)):kx P op t (.int k a) (.int k b) (.int k r):=fun y z w=>by
 rcases h with ⟨rfl,h⟩|⟨rfl,h⟩|⟨rfl,h⟩<;>simp[eqGuard,binOp,Op.intArith,h]

theorem j3{r:Int}(h:k.wrap (a+b)=r):kx P .add t (.int k a) (.int k b) (.int k r):=II (.inl ⟨rfl,h⟩)
theorem fZ{r:Int}(h:k.wrap (a-b)=r):kx P .sub t (.int k a) (.int k b) (.int k r):=II (.inr (.inl ⟨rfl,h⟩))
theorem IJ{r:Int}(h:k.wrap (a*b)=r):kx P .mul t (.int k a) (.int k b) (.int k r):=II (.inr (.inr ⟨rfl,h⟩))
theorem Rh:kx P .lss t (.int k a) (.int k b) (.bool (decide (a<b))):=fun y z w=>by simp[eqGuard,binOp,Op.intCmp]
theorem Ri:kx P .leq t (.int k a) (.int k b) (.bool (decide (a≤b))):=fun y z w=>by simp[eqGuard,binOp,Op.intCmp]
theorem Rj:kx P .gtr t (.int k a) (.int k b) (.bool (decide (a>b))):=fun y z w=>by simp[eqGuard,binOp,Op.intCmp]
theorem Rk:kx P .geq t (.int k a) (.int k b) (.bool (decide (a≥b))):=fun y z w=>by simp[eqGuard,binOp,Op.intCmp]
theorem Rl:kx P .eql t (.int k a) (.int k b) (.bool (a==b)):=fun y z w=>by simp[eqGuard,binOp,Op.intCmp]
theorem Rm:kx P .neq t (.int k a) (.int k b) (.bool (a != b)):=fun y z w=>by simp[eqGuard,binOp,Op.intCmp]
theorem acH{r:Int}(hb:b≠0)(h:k.wrap (a.tdiv b)=r):kx P .quo t (.int k a) (.int k b) (.int k r):=fun y z w=>by simp[eqGuard,binOp,Op.intDiv,hb,h]
theorem IK(hb:b≠0):kx P .rem t (.int k a) (.int k b) (.int k (a.tmod b)):=fun y z w=>by simp[eqGuard,binOp,Op.intDiv,hb]

theorem PM{a b:ByteArray}:kx P .eql t (.string a) (.string b) (.bool (a.toList==b.toList)):=fun y z w=>by simp[eqGuard,binOp,Op.stringOp]
theorem PN{a b:ByteArray}:kx P .neq t (.string a) (.string b) (.bool (!(a.toList==b.toList))):=fun y z w=>by simp[eqGuard,binOp,Op.stringOp]
theorem IL{a b:ByteArray}(h:a.size+b.size≤9223372036854775807):kx P .add t (.string a) (.string b) (.string (a++b)):=fun y z w=>by
 have:¬(((a.size+b.size:Nat):Int)>IntKind.i64.max):=by
  have:IntKind.i64.max=9223372036854775807:=rfl;omega
 simp only[eqGuard,binOp,Op.stringOp,Sem.run_bind];simp only[this,if_false];simp

theorem Eb{a b:Bool}(E:P.underlying t=some .bool):kx P .eql t (.bool a) (.bool b) (.bool (a==b)):=fun y z w=>by
 have:binOp .eql t (.bool a) (.bool b)=(do pure (.bool (←Op.equal t (.bool a) (.bool b)))):=rfl;simp only[eqGuard,this,Sem.run_bind];simp[run_equal_bool w t a b E]
theorem PO{a b:Bool}(E:P.underlying t=some .bool):kx P .neq t (.bool a) (.bool b) (.bool (!(a==b))):=fun y z w=>by
 have:binOp .neq t (.bool a) (.bool b)=(do pure (.bool (!(←Op.equal t (.bool a) (.bool b))))):=rfl;simp only[eqGuard,this,Sem.run_bind];simp[run_equal_bool w t a b E]

theorem cl.TW{w:World}{L:Nat→Prop}{v:Value}(h:cl w L (.agg (us.map .v)) v):v = .agg us.toArray:=by
 cases h with
 | agg _ vs hl hr =>
  congr 1;congr 1;refine ext_getElem (by simpa using hl) fun i h1 h2=>?_;have:=hr i (by simpa using h2) h1;simp only[getElem_map] at this;exact this.kD

section
variable {G:List (Nat×List Value)} {x:St} {o:Oper}

theorem ZB {t':TypeId} {y z:Operand} {Mg:List Value} {r:Bool} (ho:o.op = .binOp .neq t y z t') (hy:aF x y = .agg (us.map .v)) (hz:aF x z = .agg (Mg.map .v)) (hg:P.eqGuardType P.depth t=false)
  (hE:∀w,(Op.equalIn 10000 t (.agg us.toArray) (.agg Mg.toArray)).run P w = .ok r w):bV P G x o .none (.v (.bool !r)):=fun C a w _ h=>by
 have h1:=h.eval y;have h2:=h.eval z;rw[hy] at h1;rw[hz] at h2;refine⟨_,.v _,fun w' _=>?_⟩;unfold execOp;simp only[ho,h1.TW,h2.TW,Sem.run_bind,run_eqGuard_agg _ _ _ _ _ _ _ hg,Result.andThen_ok,run_neq_struct,hE,Sem.run_pure]

def uX(b:UInt8):D:=.v (.int .u8 (b.toNat:Int))

theorem XV{s e:TypeId}{y:Operand}{bs:List UInt8}{n:Nat}(ho:o.op = .convert s t y)(hy:aF x y = .list 1 (bs.map uX) n)(hs:P.underlying s=some (.slice e))(he:P.underlying e=some (.int .u8))(ht:P.underlying t=some .string) :
  bV P G x o .jI (.v (.string ⟨bs.toArray⟩)):=fun C a w _ h=>by
 have hr:=h.eval y;rw[hy] at hr;generalize hg:a.eval y=u at hr;generalize dw:bs.map uX=cs at hr;cases hr with
 | lZ _ ad cap =>
  have:bs=[]:=(by simpa using dw)
  subst this;refine⟨_,.v _,fun w' _=>?_⟩;unfold execOp;simp only[ho,hg,Sem.run_bind,run_convert_bytes_string w' s t e ad 0 cap hs he ht];cases ad<;>simp[Conv.bytesToString,loadCells,loadCellsFrom]<;>rfl
 | list _ _ _ b I cap g hl q1 q2 hb hL hc O =>
  subst dw;simp only[length_map,Nat.mul_one] at hl hc;refine⟨_,.v _,fun w' hw=>?_⟩;unfold execOp;have E:=run_convert_bytes_back (P:=P) w' s t e ⟨b,I,none⟩ cap bs hs he ht (fun j hj=>by
   rw[Addr.add_mid];have U:=World.cell?_of_block (w:=w) (a:=⟨b,I+j,none⟩) (hw b hb hL);rw[U,hc j hj];have:=O j (by simpa using hj);simp only[getElem_map,uX] at this;rw[this.kD])
  rw[hl] at E;simp only[ho,hg,Sem.run_bind,E,Result.andThen_ok,Sem.run_pure]
end

theorem aer{b:Bool}:∀w,(Op.unary .not (.bool b)).run P w = .ok (.bool !b) w:=fun w=>rfl
theorem Jr{r:Int}(h:k.wrap (0-a)=r):∀w,(Op.unary .neg (.int k a)).run P w = .ok (.int k r) w:=fun w=>by
 subst h;rfl

theorem oq{s:TypeId}{k':IntKind}{r:Int}{d:TypeDesc}(hs:∀w,(underlying s).run P w = .ok d w)(ht:∀w,(underlying t).run P w = .ok (.int k') w)(h:k'.wrap a=r):∀w,(convert s t (.int k a)).run P w = .ok (.int k' r) w:=fun w=>by
 subst h;simp[convert,hs,ht,Conv.intToInt]

theorem wrap_i64{x:Int}(h1:-9223372036854775808≤x)(h2:x≤9223372036854775807):IntKind.i64.wrap x=x:=IntWalk.i64_in _ w4

theorem aes{ts:Array TypeId}{E:TypeId}:∀cs w,(builtin .min ts E cs #[.int k a,.int k b]).run P w = .ok (.value (.int k (if b<a then b else a))) w:=fun cs w=>by
 simp[builtin,Builtin.min_,Builtin.min2]
theorem ng:(∀{p:Prop} [Decidable p],(decide p=true)=p)∧(∀{p:Prop} [Decidable p],(decide p=false)↔¬p)∧(∀{a b:Int},(a==b)=true↔a=b)∧(∀{a b:Int},(a != b)=true↔a≠b)∧(∀{a b:Bool},(a==b)=true↔a=b)∧(∀{a b:Bool},(a != b)=true↔a≠b)
  ∧ (∀{b:Bool},((!b)=true)=(b=false))∧(∀{b:Bool},((!b)=false)=(b=true))∧(∀{b:Bool},(¬b=true)=(b=false))∧(∀{b:Bool},(¬b=false)=(b=true))∧(∀{a b:Int},(a==b)=false↔¬a=b)∧(∀{a b:Int},(a != b)=false↔a=b)∧(∀{a b:Bool},(a==b)=false↔¬a=b)∧(∀{a b:Bool},(a != b)=false↔a=b)
  ∧ (∀{a b:Bool},((a&&b)=true)=(a=true∧b=true))∧(∀{a b:Bool},((a||b)=true)=(a=true∨b=true))∧(∀{b:Bool},(!!b)=b)∧(∀{a b:Bool},(a&&b)=false↔a=false∨b=false)∧(∀{a b:Bool},(a||b)=false↔a=false∧b=false)∧(∀{a b:Int},(¬a<b)↔b≤a)∧(∀{a b:Int},(¬a≤b)↔b<a):=by
 refine⟨fun {p} _=>by simp,fun {p} _=>by simp,by simp,by simp,by simp,by simp,by simp,by simp,by simp,by simp,by simp,by simp,by simp,by simp,by simp,by simp,by simp,by simp,by simp,by simp,by simp⟩
end Go.Proofs.YtbcmjoaggammcaaGreatDoor.V
