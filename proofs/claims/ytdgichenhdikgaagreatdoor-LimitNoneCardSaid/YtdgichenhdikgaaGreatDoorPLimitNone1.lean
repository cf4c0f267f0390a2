/-
  What the proof of LimitNone leans on, part 1 of 8: walks of the program's functions at the level of values, and plain facts of what they compute.
-/
import Derived.WalkKit
import Derived.Deep.MidRow
import Derived.Deep.AppendLies
import Derived.OrdersHeld
import Derived.IntWalk
import Derived.Laws.Cover3
import Derived.ChangeKeysEq
import Derived.ProofKit
import Derived.OpenShut
import Derived.Lib.LaidTab
import Derived.Below
import Derived.Deep.Slices
import Derived.ArgAppend
import Derived.Lib.AppendStr
import Derived.MapKept
import Derived.RangeFuncLeaves
import Derived.RangeFuncOwn
import Derived.OrdersIn
import Derived.TacticsIn
import Derived.Shelf.Abstract
import Derived.RecoverIn
import Derived.WalkLawsBesides
import Derived.Lib.AppendZeros
import Derived.Laws.IdiomCopy
import Derived.Lib.Overlaps
import Derived.Lib.AppendZerosOnto
import Derived.Lib.BytesEntry
import Derived.Shelf.Strings.Builder1
import Derived.Shelf.Strings.Builder2
import Derived.Shelf.Small.Strs
import Derived.Shelf.Small.Wraps
import Derived.Shelf.Strings.BuilderF
import Derived.Shelf.Strings.BuilderK
import Derived.Shelf.Utf8.RuneCount
import Derived.Shelf.Strings.Builder2Cap
import Derived.Shelf.Strings.Search1
import Derived.Shelf.Strings.Search2
import Derived.Shelf.Strings.Search3
import Derived.Shelf.Strings.Count
import Derived.Shelf.LaysM
import Derived.Shelf.Strings.Shaped
import Derived.Shelf.Strings.Split
import Derived.Shelf.Strings.Replace
import Derived.Shelf.Strings.SplitShaped
import Derived.Shelf.Unicode.Decode
import Derived.Shelf.Strings.RuneCount
import Derived.Shelf.Unicode.DecodeSlow
import Derived.Shelf.Unicode.DecodeAny
import Derived.Shelf.Strings.BuilderCap
import Derived.Shelf.Slices.Turned
import Derived.Shelf.Slices.Reverse
import Derived.Ground.Names2Prog
import Derived.Shelf.Slices.Clone
import Derived.Shelf.Slices.SearchI
import Derived.Shelf.Slices.Delete
import Derived.Shelf.Slices.Cells
import Derived.Shelf.Slices.Empties
import Derived.Shelf.Bytes.SlSearch0
import Derived.Shelf.Bytes.SlEqualAll
import Derived.Shelf.Bytes.Small
import Derived.SizedLaws
import Derived.Lib.Bytealg
import Derived.Test.YtdgichenhdikgaaGreatDoorRows
import Derived.Test.YtdgichenhdikgaaGreatDoorProg
set_option linter.unusedVariables false
set_option linter.unusedSimpArgs false
set_option maxRecDepth 100000
set_option maxHeartbeats 4000000
namespace Go.Proofs.YtdgichenhdikgaaGreatDoor
open List
variable {p:Prop}
theorem w4(h:p:=by omega):p:=h
theorem w5(h:p:=by first|assumption|omega):p:=h
theorem w6(h:p:=by (repeat (first|exact fx|(apply fQ;focus (first|rfl|(simp;done)|(congr 2;omega)|(apply eG;rw[←Oa aa];unfold wD;first|(rw[Tu (by assumption)];simp;done)|(rw[Tv (by assumption),take_of_length_le (l:=nf (uN l[i])) (by rw[ES];omega)];simp;done)|(rw[Ty (by assumption),←AN];simp;done)|(rw[Tz (by assumption) (by assumption) (by assumption)];done))|(apply eG;rfl)|(apply eG;simp;done)))|(apply fD;focus rfl)));done):p:=h
theorem w7(h:p:=by decide):p:=h
theorem w8(h:p:=by simp only[length_append,length_map,length_cons,length_nil];omega):p:=h
theorem w9(h:p:=by have dy:=dY;have q1:=Ez Li i;(try have q2:=Li _ (getElem_mem aa));(try simp only[length_append,length_cons,length_nil]);omega):p:=h
theorem pB(h:p:=by simp only[maxLen,length_append,length_map,length_cons,length_nil];omega):p:=h
theorem nF(h:p:=by simp only[maxLen,length_cons,length_nil] at *;omega):p:=h
theorem Ga(h:p:=by rw[←Oa aa];unfold wD;first|(rw[Tu (by assumption)];simp;done)|(rw[Tv (by assumption),take_of_length_le (l:=nf (uN l[i])) (by rw[ES];omega)];simp;done)|(rw[Ty (by assumption),←AN];simp;done)|(rw[Tz (by assumption) (by assumption) (by assumption)];done)):p:=h
theorem nG(h:p:=by simp only[length_cons,length_nil] at *;omega):p:=h
theorem vc(h:p:=by show _=p.kids.take (if p.leaf=true then 2 else 3);rw[fI];rfl):p:=h
theorem ve(h:p:=by show _=p.kids.drop (if p.leaf=true then 2 else 3);rw[fI];rfl):p:=h
theorem vf(h:p:=by show _=p.keys.drop (if p.leaf=true then 2 else 3);rw[fI];rfl):p:=h
theorem zD(h:p:=by (repeat (first|exact fx|(apply fQ;focus (first|rfl|(rw[wZ];done)|(simp;done)))|(apply fD;focus rfl)));done):p:=h
theorem bu(h:p:=by simp):p:=h
theorem zE(h:p:=by exact(perm_middle (l₁:=[_,_,_])).symm.trans (Perm.cons _ (Perm.cons _ (Perm.cons _ (Perm.cons _ oI))))):p:=h
theorem jn(h:p:=by first|rfl|assumption):p:=h
theorem zF(h:p:=by have dy:=dY;(try simp only[length_append,length_cons,length_nil,length_take,ES]);omega):p:=h
theorem Gb(h:p:=by (repeat (first|exact fx|(apply fQ;focus (first|rfl|(simp;done)|(congr 2;omega)|(apply eG;rfl)|(apply eG;simp;done)))|(apply fD;focus rfl)));done):p:=h
theorem zG(h:p:=by simp only[flatten_cons,flatten_nil,length_append,length_cons,length_nil];omega):p:=h
theorem zH(h:p:=by have dy:=dY;(try simp only[length_append,length_cons,length_nil]);omega):p:=h
theorem mG(h:p:=by first|rfl|simp[St.put]):p:=h
theorem Lj(h:p:=by show dc (L.flatMap gO) (0+i.toNat*5) (gO (⟨bn p L.length,cn,cq,cc,bK,bL,bA⟩:aB))=_;rw[Nat.zero_add];exact oA fZ L (⟨bn p L.length,cn,cq,cc,bK,bL,bA⟩:aB) hj):p:=h
theorem zI(h:p:=by simp only[maxLen,length_set,length_cons,length_nil] at *;omega):p:=h
theorem hU(h:p:=by simp;omega):p:=h
theorem oJ(h:p:=by rw[length_take];omega):p:=h
theorem zJ(h:p:=by simp only[length_set,length_cons,length_nil] at *;omega):p:=h
theorem sB(h:p:=by rw[pp,ji,append_assoc];rfl):p:=h
theorem lK(h:p:=by first|rfl|simp):p:=h
theorem rf(h:p:=by rw[length_set];exact fU):p:=h
theorem Ll(h:p:=by have:=HY s.names s.names.length;(try rw[tM]);simp only[length_append,length_map,length_cons,length_nil];omega):p:=h
theorem oK(h:p:=by rw[append_nil]):p:=h
theorem Gc(h:p:=by simp only[maxLen,length_append,length_cons,length_nil] at *;omega):p:=h
theorem sC(h:p:=by rw[y2,pp,ji];simp):p:=h
theorem Ci(h:p:=by first|rfl|(show(1:Int)+_=1+_;omega)|omega):p:=h
theorem vg(h:p:=by rw[length_append];omega):p:=h
theorem Cj(h:p:=by rw[length_append,length_singleton];omega):p:=h
theorem Ge(h:p:=by show 0+_*1+1≤_;rw[cy eA,length_set];omega):p:=h
theorem vh(h:p:=by rw[length_set];omega):p:=h
theorem Ck(h:p:=by show(-1:Int)≤9223372036854775807;decide):p:=h
theorem tN(h:p:=by first|exact yp rfl ga (fun h=>by cases h) runUnderlying151 sizeOf88 w4|exact oB (fun _=>rfl) runUnderlying151 sizeOf88 w4|exact yq (fun h=>by cases h) (fun _=>rfl) runUnderlying151 sizeOf88 w4 w4|exact nO (fun h=>by cases h) (fun _=>rfl) runUnderlying151 sizeOf88 w4 w4):p:=h
theorem tO(h:p:=by first|exact yp rfl eA (fun h=>by cases h) runUnderlying67 sizeOf3 w4|exact oB (fun _=>rfl) runUnderlying67 sizeOf3 w4|exact yq (fun h=>by cases h) (fun _=>rfl) runUnderlying67 sizeOf3 w4 w4|exact nO (fun h=>by cases h) (fun _=>rfl) runUnderlying67 sizeOf3 w4 w4):p:=h
theorem zK(h:p:=by rw[length_append,length_set];exact(show IntKind.wrap .i64 (((L.length+[(⟨bq p,dg,dh,cG,di,dj,cH⟩:aB)].length:Nat):Int)-1)=_ from by rw[show(((L.length+[(⟨bq p,dg,dh,cG,di,dj,cH⟩:aB)].length:Nat):Int)-1)=(L.length:Int) from by simp];exact wrap_i64 w4 w4)):p:=h
theorem zL(h:p:=by first|exact yp rfl ga (fun h=>by cases h) runUnderlying67 sizeOf3 w4|exact yp rfl eA (fun h=>by cases h) runUnderlying67 sizeOf3 w4|exact oB (fun _=>rfl) runUnderlying67 sizeOf3 w4|exact nO (fun h=>by cases h) (fun _=>rfl) runUnderlying67 sizeOf3 w4 w4):p:=h
theorem zM(h:p:=by first|exact ox ga (fun h=>by cases h) runUnderlying67 sizeOf3 w4|exact ox eA (fun h=>by cases h) runUnderlying67 sizeOf3 w4|exact oB (fun h=>by cases h) runUnderlying67 sizeOf3 w4|exact nO (fun _=>rfl) (fun h=>by cases h) runUnderlying67 sizeOf3 w4 w4):p:=h
theorem Gf(h:p:=by first|exact yp rfl ga (fun h=>by cases h) runUnderlying151 sizeOf88 w4|exact yp rfl eA (fun h=>by cases h) runUnderlying151 sizeOf88 w4|exact oB (fun _=>rfl) runUnderlying151 sizeOf88 w4|exact nO (fun h=>by cases h) (fun _=>rfl) runUnderlying151 sizeOf88 w4 w4):p:=h
theorem Gg(h:p:=by first|exact ox mR (fun h=>by cases h) runUnderlying30 sizeOf43 w4|exact oB (fun h=>by cases h) runUnderlying30 sizeOf43 w4|exact nO (fun _=>rfl) (fun h=>by cases h) runUnderlying30 sizeOf43 w4 w4):p:=h
theorem Lm(h:p:=by first|exact ox ga (fun h=>by cases h) runUnderlying151 sizeOf88 w4|exact oB (fun h=>by cases h) runUnderlying151 sizeOf88 w4|exact yq (fun _=>rfl) (fun h=>by cases h) runUnderlying151 sizeOf88 w4 w4|exact nO (fun _=>rfl) (fun h=>by cases h) runUnderlying151 sizeOf88 w4 w4):p:=h
theorem Ln(h:p:=by first|exact ox eA (fun h=>by cases h) runUnderlying67 sizeOf3 w4|exact oB (fun h=>by cases h) runUnderlying67 sizeOf3 w4|exact yq (fun _=>rfl) (fun h=>by cases h) runUnderlying67 sizeOf3 w4 w4|exact nO (fun _=>rfl) (fun h=>by cases h) runUnderlying67 sizeOf3 w4 w4):p:=h
theorem Lo(h:p:=by first|exact ox jh (fun h=>by cases h) runUnderlying29 sizeOf9 w4|exact ox lB (fun h=>by cases h) runUnderlying29 sizeOf9 w4|exact oB (fun h=>by cases h) runUnderlying29 sizeOf9 w4|exact nO (fun _=>rfl) (fun h=>by cases h) runUnderlying29 sizeOf9 w4 w4):p:=h
theorem Lp(h:p:=by (repeat (first|exact fx|(apply fQ;focus (first|rfl|(simp;done)|(congr 2;omega)|(apply eG;first|exact Hw aa w4 _|exact Hl aa w4 _)|(apply eG;simp[jJ])|(apply eG;simp;done)))|(apply fD;focus rfl)));done):p:=h
theorem qn(h:p:=by rw[←Int.ofNat_sub w4];exact wrap_i64 w4 w4):p:=h
theorem Lq(h:p:=by rw[←show(p.kids.take 3)=(bn p L.length).kids from vc];simp only[length_take,length_drop];omega):p:=h
theorem Lr(h:p:=by rw[←show(p.kids.take 2)=(bn p L.length).kids from vc];simp only[length_take,length_drop];omega):p:=h
theorem zN(h:p:=by rw[←Int.natCast_add];exact wrap_i64 w4 w4):p:=h
theorem Ls(h:p:=by rw[←show(p.kids.drop 3)=(bq p).kids from ve];simp only[length_take,length_drop];omega):p:=h
theorem Lu(h:p:=by rw[←show(p.kids.drop 2)=(bq p).kids from ve];simp only[length_take,length_drop];omega):p:=h
theorem Lv(h:p:=by rw[←show(p.keys.drop 3)=(bq p).keys from vf];simp only[length_take,length_drop];omega):p:=h
theorem Lw(h:p:=by rw[←show(p.keys.drop 2)=(bq p).keys from vf];simp only[length_take,length_drop];omega):p:=h
theorem Lx(h:p:=by rw[show(((a+(t+1):Nat):Int)-1)=((a+t:Nat):Int) by omega];exact wrap_i64 w4 w4):p:=h
theorem xj(h:p:=by rw[length_set];exact hj):p:=h
theorem oL(h:p:=by simpa using h):p:=h
theorem rh(h:p:=by rw[←ho];rfl):p:=h
theorem vj(h:p:=by rw[←xk];exact fU):p:=h
theorem Ly(h:p:=by show 0+i.toNat*5+5≤(flatMap gO L).length;rw[cy fZ];omega):p:=h
theorem Lz(h:p:=by rw[show((j:Int)-1)=((j-1:Nat):Int) by omega];exact wrap_i64 w4 w4):p:=h
theorem xm(h:p:=by rw[g.ay];exact acj):p:=h
theorem LA(h:p:=by exact iU (k:=2) (i:=(eH H l[i])) ga rfl rfl rfl isAgg98 gE rfl):p:=h
theorem LC(h:p:=by exact iU (k:=1) (i:=(eH H l[i])) ga rfl rfl rfl isAgg98 gE rfl):p:=h
theorem LF(h:p:=by exact iU (k:=0) (i:=(eH H l[i])) ga rfl rfl rfl isAgg98 gE rfl):p:=h
theorem Gh(h:p:=by show 0+_*1+1≤_;rw[cy eA];omega):p:=h
theorem tP(h:p:=by simp at aP;omega):p:=h
theorem LG(h:p:=by unfold iN;rw[if_neg cU,if_neg ec,if_neg fp,if_pos gv,vk]):p:=h
theorem vl(h:p:=by simp[maxLen];omega):p:=h
theorem LH(h:p:=by rw[ek];exact mem_flatMap.2 ⟨_,getElem_mem d1,hx⟩):p:=h
theorem zO(h:p:=by rw[length_set];rfl):p:=h
theorem tQ(h:p:=by rw[uT];simp):p:=h
theorem LI(h:p:=by first|exact fun _ hq=>hq|exact fun _ hq=>by cases hq.1):p:=h
theorem xn(h:p:=by rw[g.ay];decide):p:=h
theorem sD(h:p:=by rw[y1];rfl):p:=h
theorem zP(h:p:=by first|omega|decide):p:=h
theorem vm(h:p:=by simpa using aX):p:=h
theorem vn(h:p:=by rw[wZ];omega):p:=h
theorem Gi(h:p:=by rw[length_append];simp;omega):p:=h
theorem zQ(h:p:=by simpa[aq] using dX):p:=h
theorem zR(h:p:=by show 1≤10;decide):p:=h
theorem zS(h:p:=by simpa[aq] using hj):p:=h
theorem xo(h:p:=by rw[iQ];decide):p:=h
theorem LJ(h:p:=by show _≤1000;exact Nat.le_of_ble_eq_true rfl):p:=h
theorem xp(h:p:=by simpa using aP):p:=h
theorem Gj(h:p:=by rw[length_set];exact Cl):p:=h
theorem zT(h:p:=by rw[Be];omega):p:=h
theorem zU(h:p:=by exact fun _=>rfl):p:=h
theorem LK(h:p:=by show w.heap.size<(w.heap.push _).size;simp):p:=h
theorem xq(h:p:=by simpa using hl):p:=h
theorem LL(h:p:=by show(w.heap.push _)[w.heap.size]?=_;simp):p:=h
theorem Kj(h:p:=by rw[cy uC,length_take];omega):p:=h
theorem tw(h:p:=by assumption):p:=h
theorem FC(h:p:=by rw[length_map];omega):p:=h
theorem FD(h:p:=by simp only[maxLen];omega):p:=h
theorem FE(h:p:=by show i<cs.length;omega):p:=h
theorem z4(h:p:=by
  refine AD.one (i:=9) aA ?_;refine at_ rfl (cM (mk:=Op.load 9) rfl ot (by exact pZ (g:=cS) (ls:=eJ) (i:=tj) (d:=bf tn) jh isAgg9 ri (by show some (D.v (.string (eJ[tj]'ri)))=some (D.v (.string tn));rw[T3]))) ?_;refine cu 10 rfl (nr (pl:=[(0,_),(1,_),(9,_)]) (ds:=[_,_,_,_,_,_,_,_,_,_,_,_]) rfl zeroValue32 runUnderlying32 Ny ⟨rfl,ot,rfl,ot,rfl,bI,trivial⟩ rfl rfl) ?_;refine AD.one (i:=12) aA ?_;refine dR 0 [_,_,_,_,_,_,_,_,_,_,_,_] sizeOf32 ?_;refine Vh [(1,_),(2,_),(3,_)] [⟨b3,32,12,[_,_,_,_,_,_,_,_,_,_,_,_]⟩,⟨b2,32,12,[_,_,_,_,_,_,_,_,_,_,_,_]⟩,⟨b1,77,14,[_,_,_,_,_,_,_,_,_,_,_,_,_,_]⟩] ?_;refine AD.done aA ?_;exact⟨rfl,_,trivial,Wk.refl _⟩):p:=h
theorem z5(h:p:=by
  refine CD.perm (ee (A:=[_,_,_,_,_,_,_,_])) ?_;refine fL 6 (aq (take 1 _)) ?_ (fun _ h=>(Sublist.map _ (take_sublist _ _)).subset h);refine az 0 rfl bj ?_;refine az 1 rfl bj ?_;first|refine az 2 rfl (DK (n:=st.length) (k:=(take (st.length-(bP ops[i].k).toNat) st).length) (cs:=st.flatMap cV) rfl ot rfl ⟨_,_,ot,by rw[length_take];omega⟩ runUnderlying28 sizeOf41 oJ nH) ?_|refine az 2 rfl (DK (n:=st.length) (k:=(take (st.length-(bP ops[i].k).toNat) st).length) (cs:=st.flatMap cV) rfl ot rfl ⟨_,_,ot,by rw[length_take];omega⟩ runUnderlying28 sizeOf41 oJ (bJ (e:=41) (g:=cV) (ls:=st) wE wg)) ?_
  refine az 3 rfl (cM (mk:=Op.load 41) rfl ot (by first|exact pY (k:=0) (ds:=[_,_,_]) rfl rfl isAgg41 sizeOf41 rfl rfl|exact jU mR isAgg41 sizeOf41 w5|exact jU fj isAgg41 sizeOf41 w5|exact dN (k:=0) mR rfl rfl rfl isAgg41 sizeOf41 w5|exact dN (k:=1) mR rfl rfl rfl isAgg41 sizeOf41 w5|exact dN (k:=2) mR rfl rfl rfl isAgg41 sizeOf41 w5|exact dN (k:=3) mR rfl rfl rfl isAgg41 sizeOf41 w5|exact dN (k:=4) mR rfl rfl rfl isAgg41 sizeOf41 w5|exact dN (k:=5) mR rfl rfl rfl isAgg41 sizeOf41 w5|exact dN (k:=6) mR rfl rfl rfl isAgg41 sizeOf41 w5|exact dN (k:=7) mR rfl rfl rfl isAgg41 sizeOf41 w5|exact dN (k:=0) fj rfl rfl rfl isAgg41 sizeOf41 w5|exact dN (k:=1) fj rfl rfl rfl isAgg41 sizeOf41 w5|exact dN (k:=2) fj rfl rfl rfl isAgg41 sizeOf41 w5|exact dN (k:=3) fj rfl rfl rfl isAgg41 sizeOf41 w5|exact dN (k:=4) fj rfl rfl rfl isAgg41 sizeOf41 w5|exact dN (k:=5) fj rfl rfl rfl isAgg41 sizeOf41 w5|exact dN (k:=6) fj rfl rfl rfl isAgg41 sizeOf41 w5|exact dN (k:=7) fj rfl rfl rfl isAgg41 sizeOf41 w5|exact qb (ds:=[_,_,_]) isAgg41 sizeOf41 rfl rfl)) ?_;refine dm.later rfl ?_;refine AD.one (i:=4) aA ?_;refine jo (bZ 0 [_]) [.int .i64 0,.int .i64 0,.string ⟨#[]⟩] [_,_,_] zeroValue41 runUnderlying28 sizeOf41 (fun zV=>?_);refine jq 0 58 3 1 ?_;refine AD.one (i:=5) aA ?_
  refine aZ.ev (ls:=(take (st.length-(bP ops[i].k).toNat) (st))) (new:=[(fT l row ops[i] (fg bD ops[i].k st) (eX bD ops[i].k st)).1]) (Sq:=BF) fj ET rfl ap rfl rfl underlying28 Yl rfl w7 ot Bl (dI (A:=[_,_,_,_,_,_,_,_])) ot bu vl hU (fun sE rX BG BH=>?_);refine AD.perm (ee (S1:=[⟨sE,41,rX*3,flatMap cV ((take (st.length-(bP ops[i].k).toNat) (st))++[(fT l row ops[i] (fg bD ops[i].k st) (eX bD ops[i].k st)).1])⟩]) (A:=[_,_,_,_,_,_,_,_])) ?_;refine eD ?_;refine bg [1,4,6,7,16,17,18] ?_;refine cl [1,4,6,7,16,17,18] ?_;refine⟨((i+1),(st.take (st.length-(bP ops[i].k).toNat)++[(fT l row ops[i] (fg bD ops[i].k st) (eX bD ops[i].k st)).1]),(some ⟨sE,0,none⟩),rX,[⟨sE,41,rX*3,flatMap cV ((take (st.length-(bP ops[i].k).toNat) (st))++[(fT l row ops[i] (fg bD ops[i].k st) (eX bD ops[i].k st)).1])⟩]),_,cD,(aM (h:=by repeat (first|exact trivial|refine⟨Gb,?_⟩))),w4,(by rw[sF];omega),nI,(hinv.trans (QS aa hz)),agX,(bw.cast (bJ BG BH) (by rfl)),rfl⟩):p:=h
theorem z6(h:p:=by
  refine cR [0,4,5,6,73,74] ?_;refine aR 2 ?_ (h:=by exact(DN (pl:=[(0,_),(1,_)]) (ds:=[_,_,_,_,_,_]) rfl zeroValue173 runUnderlying173 sizeOf41 ⟨rfl,ot,rfl,ot,trivial⟩ rfl rfl));refine bH ?_;refine eL [0,4,5,6,73] (fun aW _ (i:Nat) aJ=>(i≤2)∧(∀j,j<i→¬((iI a b j).k≠2∧(iI a b j).k≠0))∧aJ=(⟨106,(74,ae (i:Nat))::aW,[⟨b6,41,3,[ae 0,ae 0,e9]⟩,⟨b5,41,3,[ae b.k,ae b.n,bf b.s]⟩,⟨b4,41,3,[ae a.k,ae a.n,bf a.s]⟩]⟩:St)) (fun (i:Nat)=>2-i) 0 ⟨(Nat.zero_le _),(fun j hj=>absurd hj (Nat.not_lt_zero _)),rfl⟩ ?_;rintro i _ ⟨hi,fb,rfl⟩;have LM:k=8∨k=9∨k=10:=(by omega)
  refine af [0,4,5,6,73,74,75] ?_;refine au ?_ ?_<;>intro FF Bm
  ·have aa:i<2:=(by omega)
   refine cf ?_;refine bQ (He (j:=i) rfl ot ot runUnderlying173 sizeOf41 isAgg41 rfl aa (Hx a b aa)) ?_;refine OD.alloc (ds:=[_,_,_]) ap rfl rfl zeroValue41 rfl (fun kx=>?_);refine aK 0 [_,_,_] sizeOf41 ?_;refine an 106 [0,4,5,6,11,73,74] ?_;refine aC 4 ?_;refine bW 80 (fun Kk E8=>?_) (fun Kk E8=>?_)
   ·refine bg [0,4,5,6,73,74,84] ?_;refine au ?_ ?_<;>intro uU E9
    ·have aV:iu k a b=(bD,4):=ack n9 LM aa (by simp_all) (by simp_all);refine aC 1 ?_;refine aK 1 [_,_,_] sizeOf41 ?_;refine an 106 [6,7] ?_;refine aI [] ?_;rw[aV];first|exact⟨rfl,rfl⟩|(refine⟨?_,rfl⟩;clear aV ff xu mH jV pC ng;generalize (gw a b==0)=z1 at *;generalize (decide (gw a b<0))=z2 at *;subst_vars;simp_all;done)
    have iv:¬((iI a b i).k≠2∧(iI a b i).k≠0):=(by simp_all)
    refine cl [0,4,5,6,73,74] ?_;refine⟨(i+1),_,cD,aM,w4,(Ed (p:=fun v=>¬(v.k≠2∧v.k≠0)) fb iv),rfl⟩
   refine bg [0,4,5,6,73,74,84] ?_;refine fM ?_;have iv:¬((iI a b i).k≠2∧(iI a b i).k≠0):=(by simp_all)
   refine cl [0,4,5,6,73,74] ?_;refine⟨(i+1),_,cD,aM,w4,(Ed (p:=fun v=>¬(v.k≠2∧v.k≠0)) fb iv),rfl⟩
  have Cm:=IE (p:=fun v=>¬(v.k≠2∧v.k≠0)) fb w4;have LN:=Ob n9 LM (fun h=>h.elim Cm.1 Cm.2);refine cW [0,4,5,6,89] (ng) ?_;refine au ?_ ?_<;>intro FG afu
  ·have aV:iu k a b=(bD,0):=(by rw[LN,if_pos FG])
   refine aC 1 ?_;refine aK 0 [_,_,_] sizeOf41 ?_;refine an 106 [6,7] ?_;refine aI [] ?_;rw[aV];first|exact⟨rfl,rfl⟩|(refine⟨?_,rfl⟩;clear aV ff xu mH jV pC ng;generalize (gw a b==0)=z1 at *;generalize (decide (gw a b<0))=z2 at *;subst_vars;simp_all;done)
  refine cW [6,12,13] (xu) ?_;refine af [6,12,101] ?_;refine au ?_ ?_<;>intro Kl afv
  ·have aV:iu k a b=(bD,5):=(by rw[LN,if_neg (by rw[FG];simp),if_neg (by simpa using Kl)])
   refine aC 1 ?_;refine aK 0 [_,_,_] sizeOf41 ?_;refine an 106 [6,7] ?_;refine aI [] ?_;rw[aV];first|exact⟨rfl,rfl⟩|(refine⟨?_,rfl⟩;clear aV ff xu mH jV pC ng;generalize (gw a b==0)=z1 at *;generalize (decide (gw a b<0))=z2 at *;subst_vars;simp_all;done)
  have aV:iu k a b=(⟨2,(pc k a.n b.n).1,⟨#[]⟩⟩,0):=(by rw[LN,if_neg (by rw[FG];simp),if_pos (by simpa using Kl)])
  refine aC 2 ?_;refine aK 0 [_,_,_] sizeOf41 ?_;refine an 106 [6,7] ?_;refine aI [] ?_;rw[aV];first|exact⟨rfl,rfl⟩|(refine⟨?_,rfl⟩;clear aV ff xu mH jV pC ng;generalize (gw a b==0)=z1 at *;generalize (decide (gw a b<0))=z2 at *;subst_vars;simp_all;done)):p:=h
theorem z7(h:p:=by
  refine aK 0 [_,_,_] sizeOf41 ?_;refine an 106 [6,7] ?_;refine aI [] ?_;rw[aV];first|exact⟨rfl,rfl⟩|(refine⟨?_,rfl⟩;clear aV ff xu mH jV pC ng;generalize (gw a b==0)=z1 at *;generalize (decide (gw a b<0))=z2 at *;subst_vars;simp_all;done)):p:=h
theorem z8(h:p:=by
  refine AD.one (i:=17) aA ?_;refine aZ.call rfl ap rfl rfl rfl call131 (NK p.kids (aL (t.pg (aH t k h t.root)) k) ci bi pD fq Gk w4) ⟨ot,ot,ot,trivial⟩ (j5 (k:=5) rfl) iy ?_;rintro _ _ ⟨rfl,rfl⟩;refine AD.perm (perm_middle (l₁:=[_,_,_,_,_])).symm ?_;refine cu 18 rfl lM ?_;refine cu 19 rfl (da 1) ?_;refine AD.one (i:=20) aA ?_;refine aZ.storeAt (k:=3) (cs':=flatMap gO (L.set (aH t k h t.root).toNat (⟨{p with keys:=(p.keys.eraseIdx (aL (t.pg (aH t k h t.root)) k))},some ⟨bk,0,none⟩,ck,[⟨bk,88,ck*1,flatMap cK (p.keys.eraseIdx (aL (t.pg (aH t k h t.root)) k))⟩],some ⟨bi,0,none⟩,ci,[⟨bi,3,ci*1,flatMap cI p.kids⟩]⟩:aB))) rfl ap rfl rfl ot rfl rfl ot rfl rfl sizeOf151 rfl (by show 0+(aH t k h t.root).toNat*5+1+1≤(flatMap gO L).length;rw[cy fZ];omega) (by show(L.flatMap gO).set (0+(aH t k h t.root).toNat*5+1) _=_;rw[Nat.zero_add];exact vG fZ w7 hj (by rw[←ho];show gO (⟨{p with keys:=(p.keys.eraseIdx (aL (t.pg (aH t k h t.root)) k))},some ⟨bk,0,none⟩,ck,[⟨bk,88,ck*1,flatMap cK (p.keys.eraseIdx (aL (t.pg (aH t k h t.root)) k))⟩],some ⟨bi,0,none⟩,ci,[⟨bi,3,ci*1,flatMap cI p.kids⟩]⟩:aB)=(gO (⟨p,some ⟨bk,0,none⟩,ck,[⟨bk,88,ck*1,flatMap cK p.keys⟩],some ⟨bi,0,none⟩,ci,[⟨bi,3,ci*1,flatMap cI p.kids⟩]⟩:aB)).set 1 _;unfold gO;rw[length_eraseIdx_of_lt ha];rfl)) iy ?_;refine eD ?_;refine aE 2 ?_
  refine OD.storeAt (k:=3) (cs':=flatMap gO (L.set (aH t k h t.root).toNat (⟨(kp p (aL (t.pg (aH t k h t.root)) k)),some ⟨bk,0,none⟩,ck,[⟨bk,88,ck*1,flatMap cK (p.keys.eraseIdx (aL (t.pg (aH t k h t.root)) k))⟩],some ⟨bi,0,none⟩,ci,[⟨bi,3,ci*1,flatMap cI (p.kids.eraseIdx (aL (t.pg (aH t k h t.root)) k))⟩]⟩:aB))) ap rfl rfl ot rfl rfl ot rfl rfl sizeOf67 rfl (by show 0+(aH t k h t.root).toNat*5+2+1≤(flatMap gO (L.set (aH t k h t.root).toNat (⟨{p with keys:=(p.keys.eraseIdx (aL (t.pg (aH t k h t.root)) k))},some ⟨bk,0,none⟩,ck,[⟨bk,88,ck*1,flatMap cK (p.keys.eraseIdx (aL (t.pg (aH t k h t.root)) k))⟩],some ⟨bi,0,none⟩,ci,[⟨bi,3,ci*1,flatMap cI p.kids⟩]⟩:aB))).length;rw[cy fZ,length_set];omega) (by show(flatMap gO (L.set (aH t k h t.root).toNat (⟨{p with keys:=(p.keys.eraseIdx (aL (t.pg (aH t k h t.root)) k))},some ⟨bk,0,none⟩,ck,[⟨bk,88,ck*1,flatMap cK (p.keys.eraseIdx (aL (t.pg (aH t k h t.root)) k))⟩],some ⟨bi,0,none⟩,ci,[⟨bi,3,ci*1,flatMap cI p.kids⟩]⟩:aB))).set (0+(aH t k h t.root).toNat*5+2) _=_;rw[Nat.zero_add,vG fZ (a':=(⟨(kp p (aL (t.pg (aH t k h t.root)) k)),some ⟨bk,0,none⟩,ck,[⟨bk,88,ck*1,flatMap cK (p.keys.eraseIdx (aL (t.pg (aH t k h t.root)) k))⟩],some ⟨bi,0,none⟩,ci,[⟨bi,3,ci*1,flatMap cI (p.kids.eraseIdx (aL (t.pg (aH t k h t.root)) k))⟩]⟩:aB)) w7 xj (by rw[getElem_set_self];show gO (⟨(kp p (aL (t.pg (aH t k h t.root)) k)),some ⟨bk,0,none⟩,ck,[⟨bk,88,ck*1,flatMap cK (p.keys.eraseIdx (aL (t.pg (aH t k h t.root)) k))⟩],some ⟨bi,0,none⟩,ci,[⟨bi,3,ci*1,flatMap cI (p.kids.eraseIdx (aL (t.pg (aH t k h t.root)) k))⟩]⟩:aB)=(gO (⟨{p with keys:=(p.keys.eraseIdx (aL (t.pg (aH t k h t.root)) k))},some ⟨bk,0,none⟩,ck,[⟨bk,88,ck*1,flatMap cK (p.keys.eraseIdx (aL (t.pg (aH t k h t.root)) k))⟩],some ⟨bi,0,none⟩,ci,[⟨bi,3,ci*1,flatMap cI p.kids⟩]⟩:aB)).set 2 _;unfold gO kp;simp only[];rw[length_eraseIdx_of_lt pD];rfl),set_set]) ?_
  have vo:(⟨bk,88,ck*1,flatMap cK (p.keys.eraseIdx (aL (t.pg (aH t k h t.root)) k))⟩::⟨bi,3,ci*1,flatMap cI (p.kids.eraseIdx (aL (t.pg (aH t k h t.root)) k))⟩::((L.eraseIdx (aH t k h t.root).toNat).flatMap bO)).Perm ((L.set (aH t k h t.root).toNat (⟨(kp p (aL (t.pg (aH t k h t.root)) k)),some ⟨bk,0,none⟩,ck,[⟨bk,88,ck*1,flatMap cK (p.keys.eraseIdx (aL (t.pg (aH t k h t.root)) k))⟩],some ⟨bi,0,none⟩,ci,[⟨bi,3,ci*1,flatMap cI (p.kids.eraseIdx (aL (t.pg (aH t k h t.root)) k))⟩]⟩:aB)).flatMap bO):=(qD bO hj (⟨(kp p (aL (t.pg (aH t k h t.root)) k)),some ⟨bk,0,none⟩,ck,[⟨bk,88,ck*1,flatMap cK (p.keys.eraseIdx (aL (t.pg (aH t k h t.root)) k))⟩],some ⟨bi,0,none⟩,ci,[⟨bi,3,ci*1,flatMap cI (p.kids.eraseIdx (aL (t.pg (aH t k h t.root)) k))⟩]⟩:aB)).symm;refine OD.perm (Perm.cons _ (Perm.cons _ (Perm.cons _ (Perm.cons _ vo)))) ?_;refine an 58 [4,7] ?_;refine aC 1 ?_;refine aK 1 [_,_] sizeOf51 ?_;refine an 58 [4,5] ?_
  refine aI ([⟨bx,153,cap*5,flatMap gO (L.set (aH t k h t.root).toNat (⟨(kp p (aL (t.pg (aH t k h t.root)) k)),some ⟨bk,0,none⟩,ck,[⟨bk,88,ck*1,flatMap cK (p.keys.eraseIdx (aL (t.pg (aH t k h t.root)) k))⟩],some ⟨bi,0,none⟩,ci,[⟨bi,3,ci*1,flatMap cI (p.kids.eraseIdx (aL (t.pg (aH t k h t.root)) k))⟩]⟩:aB))⟩]++(L.set (aH t k h t.root).toNat (⟨(kp p (aL (t.pg (aH t k h t.root)) k)),some ⟨bk,0,none⟩,ck,[⟨bk,88,ck*1,flatMap cK (p.keys.eraseIdx (aL (t.pg (aH t k h t.root)) k))⟩],some ⟨bi,0,none⟩,ci,[⟨bi,3,ci*1,flatMap cI (p.kids.eraseIdx (aL (t.pg (aH t k h t.root)) k))⟩]⟩:aB)).flatMap bO) ?_;unfold qS;rw[if_pos hz,if_pos iQ];refine⟨_,rfl,L.set (aH t k h t.root).toNat (⟨(kp p (aL (t.pg (aH t k h t.root)) k)),some ⟨bk,0,none⟩,ck,[⟨bk,88,ck*1,flatMap cK (p.keys.eraseIdx (aL (t.pg (aH t k h t.root)) k))⟩],some ⟨bi,0,none⟩,ci,[⟨bi,3,ci*1,flatMap cI (p.kids.eraseIdx (aL (t.pg (aH t k h t.root)) k))⟩]⟩:aB),some ⟨bx,0,none⟩,cap,_,by rw[length_set];rfl,bJ rf rj,fun x hx=>?_,?_,rfl⟩
  ·rcases mem_or_eq_of_mem_set hx with hx|rfl
   ·exact aT x hx
   exact⟨bJ (by show(p.keys.eraseIdx (aL (t.pg (aH t k h t.root)) k)).length≤ck;rw[length_eraseIdx_of_lt ha];omega) xw,bJ (by show(p.kids.eraseIdx (aL (t.pg (aH t k h t.root)) k)).length≤ci;rw[length_eraseIdx_of_lt pD];omega) Gk⟩
  rw[map_set,hL];show _=t.ag.set (aH t k h t.root).toNat (kp (t.pg (aH t k h t.root)) (aL (t.pg (aH t k h t.root)) k));rw[←gK]):p:=h
theorem z10(h:p:=by
  refine AD.one (i:=12) aA ?_;refine dR 0 [_,_,_,_,_,_,_,_,_,_,_,_] sizeOf32 ?_;refine Vh [(1,_),(2,_),(3,_)] [⟨b3,32,12,[_,_,_,_,_,_,_,_,_,_,_,_]⟩,⟨b2,32,12,[_,_,_,_,_,_,_,_,_,_,_,_]⟩,⟨b1,77,14,[_,_,_,_,_,_,_,_,_,_,_,_,_,_]⟩] ?_;refine AD.done aA ?_;exact⟨rfl,_,trivial,Wk.refl _⟩):p:=h
theorem LO(h:p:=by
  refine AD.one (i:=15) aA ?_;refine aZ.ev (ls:=L) (new:=[(⟨(t.ag[i]'aa),iz,iA,Sy,lN,lO,Sz⟩:aB)]) (Sq:=Sx) fZ uD rfl ap rfl rfl underlying49 XX rfl w7 ot er (Pf (A:=[_,_,_])) ot bu nF nG (fun Gl FH agY agZ=>?_);refine AD.perm (aaG (S3:=[⟨Gl,153,FH*5,flatMap gO (L++[(⟨(t.ag[i]'aa),iz,iA,Sy,lN,lO,Sz⟩:aB)])⟩]) (A:=[_,_,_])) ?_;refine AD.perm (S':=⟨b5,153,5,cP (t.ag[i]'aa)⟩::⟨b3,51,2,[aN dW L.length dK,ae t.root]⟩::⟨b2,51,2,[bB,ae 0]⟩::([⟨Gl,153,FH*5,flatMap gO (L++[(⟨(t.ag[i]'aa),iz,iA,Sy,lN,lO,Sz⟩:aB)])⟩]++(L++[(⟨(t.ag[i]'aa),iz,iA,Sy,lN,lO,Sz⟩:aB)]).flatMap bO)) (iE fun ja=>by rw[QT];simp only[bO,map_append,map_cons,map_nil,sum_append,sum_cons,sum_nil];omega) ?_;refine eD ?_;refine aE 1 ?_;refine aK 1 [_,_] sizeOf49 ?_;refine an 51 [2,3,13,14,15] ?_;refine cl [2,3,13,14,15] ?_;refine⟨((i+1),(L++[(⟨(t.ag[i]'aa),iz,iA,Sy,lN,lO,Sz⟩:aB)]),(some ⟨Gl,0,none⟩),FH,[⟨Gl,153,FH*5,flatMap gO (L++[(⟨(t.ag[i]'aa),iz,iA,Sy,lN,lO,Sz⟩:aB)])⟩]),_,cD,aM,w4,vp,jK,(bJ agY agZ),rfl⟩):p:=h
theorem z12(h:p:=by
  refine CD.perm (ee (A:=[_,_])) ?_;refine dQ 2 ?_;first|refine bQ (DK (n:=st.length) (k:=(take (st.length-(bP ops[i].k).toNat) st).length) (cs:=st.flatMap cI) rfl ot rfl ⟨_,_,ot,by rw[length_take];omega⟩ runUnderlying67 sizeOf3 oJ nH) ?_|refine OD.still ap rfl (DK (n:=st.length) (k:=(take (st.length-(bP ops[i].k).toNat) st).length) (cs:=st.flatMap cI) rfl ot rfl ⟨_,_,ot,by rw[length_take];omega⟩ runUnderlying67 sizeOf3 oJ (bJ (e:=3) (g:=cI) (ls:=st) wE wg)) ?_
  refine aE 1 ?_;refine en (bZ 0 [_]) [.int .i64 0] [_] zeroValue3 runUnderlying67 sizeOf3 (fun zV=>?_);refine fB 0 58 1 1 ?_;refine OD.ev (ls:=(take (st.length-(bP ops[i].k).toNat) (st))) (new:=[(iX l ops[i] (fg 0 ops[i].k st) (eX 0 ops[i].k st)).1]) (Sq:=BF) eA nu ap rfl rfl underlying67 Zb rfl w7 ot Bl (dI (A:=[_,_])) ot bu vl hU (fun sE rX BG BH=>?_);refine OD.perm (ee (S1:=[⟨sE,3,rX*1,flatMap cI ((take (st.length-(bP ops[i].k).toNat) (st))++[(iX l ops[i] (fg 0 ops[i].k st) (eX 0 ops[i].k st)).1])⟩]) (A:=[_,_])) ?_;refine an 64 [1,6,7,16,17,18] ?_;refine cl [1,6,7,16,17,18] ?_;refine⟨((i+1),(st.take (st.length-(bP ops[i].k).toNat)++[(iX l ops[i] (fg 0 ops[i].k st) (eX 0 ops[i].k st)).1]),(some ⟨sE,0,none⟩),rX,[⟨sE,3,rX*1,flatMap cI ((take (st.length-(bP ops[i].k).toNat) (st))++[(iX l ops[i] (fg 0 ops[i].k st) (eX 0 ops[i].k st)).1])⟩]),_,cD,(aM (h:=by repeat (first|exact trivial|refine⟨Gb,?_⟩))),w4,(by rw[sF];omega),nI,(hinv.trans (QS aa hz)),(bw.cast (bJ BG BH) (by rfl)),rfl⟩):p:=h
theorem Vi(h:p:=by
  refine pE 13 rfl ?_;refine pE 16 rfl ?_;refine AD.two (i:=14) (j:=17) aA ?_ ?_
  ·refine aZ.skip rfl (mo rfl rfl rfl lk jn) rfl ?_;refine AD.two (i:=15) (j:=17) aA ?_ ?_
   ·refine aZ.skip rfl (mo rfl rfl rfl lk jn) rfl ?_;refine AD.one (i:=17) aA ?_;refine aZ.skip rfl (mo rfl rfl rfl lk jn) rfl ?_;refine pE 18 rfl ?_;refine pE 19 rfl ?_;refine cu 20 rfl uV ?_;refine eD ?_;refine bg [3] ?_;refine af [52] ?_;refine eE ?_;refine af [2] ?_;refine eK ?_;refine⟨vi ?_,rfl⟩;try simp only[ux] at *
    simp only[th,nR];try simp_all
    try omega
   refine aZ.skip rfl (mo rfl rfl rfl lk jn) rfl ?_;refine pE 18 rfl ?_;refine AD.one (i:=15) aA ?_;refine aZ.skip rfl (mo rfl rfl rfl lk jn) rfl ?_;refine pE 19 rfl ?_;refine cu 20 rfl uV ?_;refine eD ?_;refine bg [3] ?_;refine af [52] ?_;refine eE ?_;refine af [2] ?_;refine eK ?_;refine⟨vi ?_,rfl⟩;try simp only[ux] at *
   simp only[th,nR];try simp_all
   try omega
  refine aZ.skip rfl (mo rfl rfl rfl lk jn) rfl ?_;refine pE 18 rfl ?_;refine AD.one (i:=14) aA ?_;refine aZ.skip rfl (mo rfl rfl rfl lk jn) rfl ?_;refine AD.one (i:=15) aA ?_;refine aZ.skip rfl (mo rfl rfl rfl lk jn) rfl ?_;refine pE 19 rfl ?_;refine cu 20 rfl uV ?_;refine eD ?_;refine bg [3] ?_;refine af [52] ?_;refine eE ?_;refine af [2] ?_;refine eK ?_;refine⟨vi ?_,rfl⟩;try simp only[ux] at *
  simp only[th,nR];try simp_all
  try omega):p:=h
theorem vq(h:p:=by
  refine⟨vi ?_,rfl⟩;first|exact hf.symm|(rw[hf,hx,Pg aa qj (by first|assumption|decide)];done)|(rw[hf,fh,if_pos (by simpa using pF)];done)|(rw[hf,fh,if_neg (by simpa using pF)];done)):p:=h
theorem Gm(h:p:=by
  refine⟨vb (Ee fun hp=>?_),rfl⟩;have g1:=hp.eM;have g2:=hp.hlen;have g3:=hp.wF;have g4:=hp.wi;have g5:=hp.wG;have g6:=hp.leaf;have g7:=fun h=>(hp.node h).1;have g8:=fun h (e:p.keys.length=0)=>(hp.node h).2 (length_eq_zero_iff.1 e);clear hp;first|omega|(rw[afw g5] at aP;cases aP;done)|(have:=g6 qT;omega)|(have fI:p.leaf=false:=(by simpa using tD);have:=g7 fI;omega)|(have fI:p.leaf=false:=(by simpa using tD);exact g8 fI w4)):p:=h
theorem Gn(h:p:=by
  have rm:¬h<bP l[i].k:=(by simpa using gg)
  have aT:fa h l[i]=0:=(by unfold fa;rw[if_neg dM,if_neg tQ,if_neg uK,if_neg jW,if_neg rm])
  refine iB [3,11,12,13] ?_;refine cZ (yt l[i].k) ?_;refine bH ?_;refine cl [3,11,12,13] ?_;refine⟨((i+1),(h+(1-bP l[i].k))),_,cD,aM,w4,(by rw[hx];exact Pj aa aT),w4,(by have:=s6 l[i].k;omega),rfl⟩):p:=h
theorem Vj(h:p:=by
  have LP:((bp[bp.length-1].k==6) || !(((dS (lX key) (bp.take 2))==0)==nt))=true:=(by first|rw[JM,Bool.true_or]|rw[gL,Bool.or_true])
  have Cn:(fW key (f+1) ops (lo,hi))=rR (gb [bp[(dS gG (bp.take 2)).toNat].v]).1 b1:=(by rw[TA];unfold uW;rw[show((bp[bp.length-1].k==6)||((dS (lX key) (bp.take 2))==0)!=nt)=true from LP,←jb];rfl)
  refine aC 7 ?_;refine bW 141 (fun afx ad9=>?_) (fun afx ad9=>?_)
  ·refine bg [0,11,149] ?_;refine eE ?_;have sG:b1.2.length=0∨compareBytes (gb [bp[(dS gG (bp.take 2)).toNat].v]).1 b1.2<0:=(by first|exact .inl w4|exact .inr (by simpa using gg))
   have sH:(fW key (f+1) ops (lo,hi))=(b1.1,(gb [bp[(dS gG (bp.take 2)).toNat].v]).1):=(by rw[Cn];unfold rR;rw[if_pos sG])
   refine dQ 2 ?_;refine dO call95 (HZ (gb [bp[(dS gG (bp.take 2)).toNat].v]).1 w4) ?_;refine aE 2 ?_;refine aK 0 [_,_] sizeOf88 ?_;refine an 155 [] ?_;refine aI [⟨b0,_,_,_⟩] ?_;refine⟨rfl,?_⟩;first|rw[sH]|rw[aV]
  refine aE 5 ?_;refine OD.gY ic rfl rfl rfl call51 (QU (gb [bp[(dS gG (bp.take 2)).toNat].v]).1 b1.2) ⟨ot,ot,trivial⟩ ?_;refine an 155 [0,11,149] ?_;refine au ?_ ?_<;>intro gg k8
  ·have sG:b1.2.length=0∨compareBytes (gb [bp[(dS gG (bp.take 2)).toNat].v]).1 b1.2<0:=(by first|exact .inl w4|exact .inr (by simpa using gg))
   have sH:(fW key (f+1) ops (lo,hi))=(b1.1,(gb [bp[(dS gG (bp.take 2)).toNat].v]).1):=(by rw[Cn];unfold rR;rw[if_pos sG])
   refine dQ 2 ?_;refine dO call95 (HZ (gb [bp[(dS gG (bp.take 2)).toNat].v]).1 w4) ?_;refine aE 2 ?_;refine aK 0 [_,_] sizeOf88 ?_;refine an 155 [] ?_;refine aI [⟨b0,_,_,_⟩] ?_;refine⟨rfl,?_⟩;first|rw[sH]|rw[aV]
  have sG:¬(b1.2.length=0∨compareBytes (gb [bp[(dS gG (bp.take 2)).toNat].v]).1 b1.2<0):=(by (have Vk:¬compareBytes (gb [bp[(dS gG (bp.take 2)).toNat].v]).1 b1.2<0:=by simpa using gg);omega)
  have sH:(fW key (f+1) ops (lo,hi))=b1:=(by rw[Cn];unfold rR;rw[if_neg sG])
  refine aI [⟨b0,_,_,_⟩] ?_;refine⟨rfl,?_⟩;first|rw[sH]|rw[aV]):p:=h
theorem Vm(h:p:=by
  refine aC 1 ?_;refine OD.wk (Wk.dR (n:=19) (l':=[(0,_),(1,_)]) (S':=S) rfl mG fi) ?_;refine OD.nil ?_;refine aC 3 ?_;refine OD.wk (Wk.dR (n:=19) (l':=[(0,_),(1,_),(7,_),(8,_)]) (S':=S) rfl mG fi) ?_;refine OD.nil ?_;refine eL [0,1,7] (fun aW _ (k:Nat) aJ=>(k≤ls.length)∧(∀x∈ls.take k,p x=false)∧aJ=(⟨19,(8,ae (k:Nat))::aW,S⟩:St)) (fun (k:Nat)=>ls.length-k) 0 ⟨Nat.zero_le _,bu,rfl⟩ ?_;rintro k _ ⟨hk,h0,rfl⟩;refine aC 1 ?_;refine OD.wk (Wk.dR (n:=19) (l':=[(0,_),(1,_),(7,_),(8,_),(9,_)]) (S':=S) rfl mG fi) ?_;refine OD.nil ?_;refine au ?_ ?_<;>intro aP bF
  ·refine aC 2 ?_;refine OD.wk (Wk.dR (n:=19) (l':=[(0,_),(1,_),(5,_),(7,_),(8,_)]) (S':=S) rfl mG fi) ?_;refine OD.nil ?_;refine aC 5 ?_;refine OD.j9 (f:=g) (args:=[_]) ap rfl rfl (s7 rfl lk) fk (hp (ls[k]'w4) (getElem_mem _)) rfl ⟨s7 rfl lk,trivial⟩ (H6 _) ?_;rintro _ S2 ⟨rfl,iC⟩;rw[iC];clear iC;refine OD.wk (Wk.dR (n:=19) (l':=[(0,_),(1,_),(5,_),(7,_),(8,_),(16,_)]) (S':=S) rfl mG fi) ?_;refine OD.nil ?_;refine au ?_ ?_<;>intro aX cJ
   ·refine aC 2 ?_;refine OD.wk (Wk.dR (n:=19) (l':=[(4,_)]) (S':=S) rfl mG fi) ?_;refine OD.nil ?_;refine aI S ?_;refine⟨?_,rfl⟩;first|(rw[vM w4 h0 tw])|(rw[vH w4 h0])
   refine dQ 2 ?_;refine OD.wk (Wk.dR (n:=19) (l':=[(0,_),(1,_),(7,_),(8,_)]) (S':=S) rfl mG fi) ?_;refine OD.nil ?_;refine⟨k+1,_,cD,aM,w4,(by rw[take_succ_eq_append_getElem w4];intro x hx;rcases mem_append.1 hx with hx|hx;exact h0 x hx;simp only[mem_singleton] at hx;subst hx;assumption),rfl⟩
  refine aC 1 ?_;refine OD.wk (Wk.dR (n:=19) (l':=[(4,_)]) (S':=S) rfl mG fi) ?_;refine OD.nil ?_;refine aI S ?_;refine⟨?_,rfl⟩;first|(rw[vM w4 h0 tw])|(rw[vH w4 h0])
  ):p:=h
theorem LS(h:p:=by
  refine af [2] ?_;refine eK ?_;refine⟨vi ?_,rfl⟩;try simp only[ux] at *
  simp only[th,nR];try simp_all
  try omega):p:=h
theorem z20(h:p:=by
  refine cW [1,3] (Pm hm hw s.names (by have:=hf.ok.2.2.1;omega) hf.n) ?_;refine af [1,3,36] ?_;refine au ?_ ?_<;>intro cX ec
  ·refine af [2] ?_;refine eK ?_;refine⟨vi ?_,rfl⟩;unfold oD jd;simp_all;all_goals (try (intros;(repeat' split)<;>first|rfl|omega))
  refine cW [1,4] (DW hm hw s.aj (fun o h=>(hf.w o h).1)) ?_;refine af [1,4,42] ?_;refine au ?_ ?_<;>intro ew fp
  ·refine af [2] ?_;refine eK ?_;refine⟨vi ?_,rfl⟩;unfold oD jd;simp_all;all_goals (try (intros;(repeat' split)<;>first|rfl|omega))
  refine af [1,46] ?_;refine au ?_ ?_<;>intro fm gv
  ·refine cW [2] (s8 hm hw s.order hf.o) ?_;refine eK ?_;refine⟨vi ?_,rfl⟩;unfold oD jd;simp_all;all_goals (try (intros;(repeat' split)<;>first|rfl|omega))
  refine af [2] ?_;refine eK ?_;refine⟨vi ?_,rfl⟩;unfold oD jd;simp_all;all_goals (try (intros;(repeat' split)<;>first|rfl|omega))):p:=h
theorem z21(h:p:=by
  refine an 76 [11,12] ?_;refine af [12,74] ?_;refine au ?_ ?_<;>intro uU E9
  ·refine af [8,9] ?_;refine aI [] ?_;refine⟨?_,rfl⟩;unfold iX okF wH;simp_all
  refine af [8,9] ?_;refine aI [] ?_;refine⟨?_,rfl⟩;unfold iX okF wH;simp_all):p:=h
theorem z22(h:p:=by
  refine af [8,9] ?_;refine aI [] ?_;refine⟨?_,rfl⟩;unfold iX okF wH;simp_all):p:=h
theorem LU(h:p:=by
  refine⟨vi ?_,rfl⟩;try simp only[ux] at *
  simp only[th,nR];try simp_all
  try omega):p:=h
theorem z24(h:p:=by
  refine eK ?_;refine⟨vi ?_,rfl⟩;unfold oD jd;simp_all;all_goals (try (intros;(repeat' split)<;>first|rfl|omega))):p:=h
theorem Vn(h:p:=by
  refine⟨vi ?_,rfl⟩;unfold oD jd;simp_all;all_goals (try (intros;(repeat' split)<;>first|rfl|omega))):p:=h
theorem Vo(h:p:=by
  skip;refine l9 20 [0,2,3,8,9,59,64,69,74] ?_;refine aR 4 ?_ (h:=by exact(cM (mk:=Op.load 3) rfl ot (uL (g:=Ph.cs) (ls:=ps) (i:=k) (j:=1) yG isAgg3 aa rfl)));refine aR 4 ?_ (h:=by exact(cM (mk:=Op.load 3) rfl ot (uL (g:=Ph.cs) (ls:=ps) (i:=k) (j:=2) yG isAgg3 aa rfl)));refine aR 4 ?_ (h:=by exact(cM (mk:=Op.load 3) rfl ot (uL (g:=Ph.cs) (ls:=ps) (i:=k) (j:=3) yG isAgg3 aa rfl)));refine aR 4 ?_ (h:=by exact(cM (mk:=Op.load 75) rfl ot (uL (g:=Ph.cs) (ls:=ps) (i:=k) (j:=4) yG isAgg75 aa rfl)));refine jX ?_;refine aE 1 ?_;refine OD.call ap rfl rfl rfl call23 (VC.zW (SH hm hw ht hG (⟨2,(ps[k]'aa).t,(ps[k]'aa).a,(ps[k]'aa).b,(ps[k]'aa).row,.mk 0 0 ⟨#[]⟩ [],.mk 0 0 ⟨#[]⟩ [],false⟩:Ph) ⟨(show(-9223372036854775808:Int)≤2∧(2:Int)≤9223372036854775807 by decide),rp.t,rp.a,rp.b,rp.row,SI,SI⟩) (args':=[.agg [ae 2,ae (ps[k]'aa).t,ae (ps[k]'aa).a,ae (ps[k]'aa).b,.list 3 ((ps[k]'aa).row.flatMap cV) (ps[k]'aa).row.length,ae 0,ae 0,e9,bB,ae 0,ae 0,e9,bB,bX false]]) ⟨vX ⟨cN,cN,cN,cN,cN,cN,cN,cN,eB,cN,cN,cN,eB,cN,trivial⟩,trivial⟩) ⟨ot,trivial⟩ (eO _) ?_;rintro _ _ ⟨s',rfl,rfl,ag0,ag1⟩;have hk9:s'.kind=3:=ag1.trans (show(1:Int)+ei 2 6=3 by decide);have ag2:¬s'.kind=1∧¬s'.kind=2:=(by omega)
  refine aK 0 [_,_,_,_,_,_,_,_,_,_,_,_] sizeOf32 ?_;refine an 88 [0,2,3,8,9] ?_;refine⟨_,aM,s',ag0,ag2,rfl⟩):p:=h
theorem Vp(h:p:=by
  refine bW 103 (fun Bn aea=>?_) (fun Bn aea=>?_)
  ·refine aE 3 ?_;refine OD.gY ic rfl rfl rfl call51 (vY p.keys[i] p.high) ⟨ot,ot,trivial⟩ ?_;refine an 132 [1,2,73,74,75,110] ?_;refine au ?_ ?_<;>intro cX ec
   ·have nW:¬uM p i:=fun hk=>by obtain⟨k1,k2,k3⟩:=hk aa;unfold bN at k2 k3;first|(rw[k1] at wI;cases wI;done)|(have:=k2 w4;omega)|(have:=k3 (Jo Bn);have hx:=of_decide_eq_true cX;omega)
    refine af [4] ?_;refine aI [] ?_;refine⟨vb (Ee fun hp=>?_),rfl⟩;exact nW (QV hp i)
   have hK:uM p i:=fun _=>⟨by simpa using wI,fun h0=>by unfold bN;first|(exfalso;omega)|(have hx:=of_decide_eq_false zb;omega),fun hne=>by first|exact absurd (len_nil Bn) hne|(unfold bN;have hx:=of_decide_eq_false cX;omega)⟩
   refine cl [1,2,73,74,75] ?_;refine⟨(i+1),_,cD,aM,w4,(fun j hj=>by rcases Nat.lt_or_ge j i with h|h;exact xx j h;obtain rfl:j=i:=w4;exact hK),rfl⟩
  refine an 132 [1,2,73,74,75,110] ?_;refine fM ?_;have hK:uM p i:=fun _=>⟨by simpa using wI,fun h0=>by unfold bN;first|(exfalso;omega)|(have hx:=of_decide_eq_false zb;omega),fun hne=>by first|exact absurd (len_nil Bn) hne|(unfold bN;have hx:=of_decide_eq_false cX;omega)⟩
  refine cl [1,2,73,74,75] ?_;refine⟨(i+1),_,cD,aM,w4,(fun j hj=>by rcases Nat.lt_or_ge j i with h|h;exact xx j h;obtain rfl:j=i:=w4;exact hK),rfl⟩):p:=h
theorem z28(h:p:=by
  refine an 69 [4] ?_;refine aI [_] ?_;first|exact gd.cast (gd.mk (g:=cO) (e:=43) (sz:=5) (ls:=[(⟨1,tE n s,⟨#[]⟩⟩:aU)]) (bJ (ls:=[(⟨1,tE n s,⟨#[]⟩⟩:aU)]) (Nat.le_refl _) (show 1≤maxLen by decide))) (by unfold mq rS;rw[if_neg w4])|exact gd.cast (gd.mk (g:=cO) (e:=43) (sz:=5) (ls:=[(⟨kk,tE n s,⟨#[]⟩⟩:aU)]) (bJ (ls:=[(⟨kk,tE n s,⟨#[]⟩⟩:aU)]) (Nat.le_refl _) (show 1≤maxLen by decide))) (by unfold mq rS;rw[if_neg w4,show kk=1 by omega])|exact gd.cast (gd.mk (g:=cO) (e:=43) (sz:=5) (ls:=[(⟨kk,bD,rT (j:Int)⟩:aU)]) (bJ (ls:=[(⟨kk,bD,rT (j:Int)⟩:aU)]) (Nat.le_refl _) (show 1≤maxLen by decide))) (by unfold mq wj;rw[if_pos w4,hj,show kk=2 by omega])):p:=h
theorem Vq(h:p:=by
  have sI:((bp[bp.length-1].k==6)||(((dS (lX key) (bp.take 2))==0)==nt))=true:=(by first|rw[JN,Bool.true_or]|rw[ew,Bool.or_true])
  refine cW [0,8,9,11,13,122] (QU (gb [bp[(dS gG (bp.take 2)).toNat].v]).1 lo) ?_;refine au ?_ ?_<;>intro fm gv
  ·have xy:compareBytes (gb [bp[(dS gG (bp.take 2)).toNat].v]).1 lo>0:=(by simpa using fm)
   have Co:((gb [bp[(dS gG (bp.take 2)).toNat].v]).1,hi)=(bif (bp[bp.length-1].k==6)||(((dS (lX key) (bp.take 2))==0)==nt) then nX (gb [bp[(dS gG (bp.take 2)).toNat].v]).1 (lo,hi) else (lo,hi)):=(by rw[sI];show _=nX _ _;unfold nX;rw[if_pos xy])
   refine dQ 2 ?_;refine dO call95 (HZ (gb [bp[(dS gG (bp.take 2)).toNat].v]).1 w4) ?_;refine aE 2 ?_;refine aK 1 [_,_] sizeOf88 ?_;refine an 155 [0,8,9,11,13] ?_;refine⟨_,aM,((gb [bp[(dS gG (bp.take 2)).toNat].v]).1,hi),Co,(by first|exact dX|exact eR),ez,rfl⟩
  have xy:¬compareBytes (gb [bp[(dS gG (bp.take 2)).toNat].v]).1 lo>0:=(by simpa using fm)
  have Co:(lo,hi)=(bif (bp[bp.length-1].k==6)||(((dS (lX key) (bp.take 2))==0)==nt) then nX (gb [bp[(dS gG (bp.take 2)).toNat].v]).1 (lo,hi) else (lo,hi)):=(by rw[sI];show _=nX _ _;unfold nX;rw[if_neg xy])
  refine CD.skip ?_;refine⟨_,aM,(lo,hi),Co,(by first|exact dX|exact eR),ez,rfl⟩):p:=h
theorem Vr(h:p:=by
  have fC:uO eU y=false:=(by unfold uO;simp_all[SJ])
  refine CI.skip ?_;refine CI.region LI rfl ?_;refine bQ (dD 1) ?_;refine bQ (BI 0 [_,_]) ?_;refine en (bZ 0 [_]) [.slice none 0 0,.int .i64 0] [_,_] zeroValue90 runUnderlying85 sizeOf90 (fun Cp=>?_);refine fB 0 40 2 1 ?_;refine OD.ev (ls:=pre) (new:=[y]) (Sq:=So) SK aeb ap rfl rfl underlying85 Ym rfl w7 ot ho (dI (A:=[_,_,_])) ot bu Gc Gc (fun vr FI ag3 ag4=>?_);refine OD.perm (ee (S1:=[⟨vr,90,FI*2,flatMap cE (pre++[y])⟩]) (A:=[_,_,_])) ?_;refine aK 1 [_] sizeOf85 ?_;refine OD.wk (Wk.dR (n:=43) (l':=[]) (S':=(⟨kM,90,2,[_,_]⟩::⟨b9,85,1,[_]⟩::⟨b5,88,1,[_]⟩::[⟨vr,90,FI*2,flatMap cE (pre++[y])⟩])) rfl rfl trivial) ?_;refine OD.nil ?_;exact⟨_,Sublist.cons _ (Sublist.refl _),(fun x hx=>by rcases mem_append.1 hx with hx|hx;exact aT x hx;rw[mem_singleton] at hx;subst hx;exact fC),(some ⟨vr,0,none⟩),FI,[⟨vr,90,FI*2,flatMap cE (pre++[y])⟩],(bJ ag3 ag4),rfl⟩):p:=h
theorem z31(h:p:=by
  refine aC 1 ?_;refine OD.j9 (f:=52) (args:=[_]) (all:=[_,_,_]) (Sf:=[_,_]) (R:=[]) ap rfl rfl ot call52 (JO r k n d s ts 0 b2 b3 IH gh iR hs hd1 hd w7) rfl ⟨bI,trivial⟩ (Perm.refl _) ?_;rintro _ _ ⟨LV,⟨anO,anP,rfl,ag5⟩,rfl⟩;refine OD.perm (Pn (A:=[_,_])) ?_;refine aE 2 ?_;refine en (bZ 0 [_]) [.int .i64 0,.int .i64 0,.int .i64 0,.string ⟨#[]⟩,.string ⟨#[]⟩] [_,_,_,_,_] zeroValue43 runUnderlying30 sizeOf43 (fun zV=>?_);refine fB 0 58 5 1 ?_;refine OD.ev (ls:=(gz r ts n s 0)) (new:=[(⟨kk,bD,⟨#[]⟩⟩:aU)]) (Sq:=LV) mR Jp ap rfl rfl underlying30 Ho rfl w7 ot ag5 (dI (A:=[_,_])) ot bu zH zH (fun sE rX BG BH=>?_);refine OD.perm (ee (S1:=[⟨sE,43,rX*5,flatMap cO ((gz r ts n s 0)++[(⟨kk,bD,⟨#[]⟩⟩:aU)])⟩]) (A:=[_,_])) ?_;refine an 69 [4] ?_;refine aI [⟨sE,43,rX*5,flatMap cO ((gz r ts n s 0)++[(⟨kk,bD,⟨#[]⟩⟩:aU)])⟩] ?_;exact gd.cast (gd.mk (bJ BG BH)) (by rw[vN,lj,if_neg w4,if_neg w4,if_pos w4];rfl)):p:=h
theorem Gp(h:p:=by
  refine aI [] ?_;refine⟨?_,rfl⟩;unfold jj;first|(rw[if_pos bF];first|done|rfl)|(rw[if_neg bF,if_pos dM,hj];rcases j with _|_|j<;>first|rfl|omega)|(rw[if_neg bF,if_neg cJ,if_pos cU];first|done|rfl)|(rw[if_neg bF,if_neg cJ,if_neg cU,if_pos w4,show -v.n=0-v.n by omega];first|done|rfl)|(rw[if_neg bF,if_neg cJ,if_neg cU,if_neg w4];first|done|rfl)):p:=h
theorem Vs(h:p:=by
  refine at_ rfl eS ?_;refine cu 14 rfl (dF 1 (h:=by first|exact .l (j:=a+t+1) rfl w4|exact .r (j:=a+t+1) rfl w4)) ?_;refine AD.one (i:=15) aA ?_;refine aZ.storeAt (k:=0) (cs':=((Mv P B Q x (t+1)).set (a+t+1) ((Mv P B Q x (t+1))[a+t])).flatMap cI) rfl ap rfl rfl ot rfl rfl ot rfl rfl sizeOf3 rfl Gh (by rw[Nat.zero_add];exact oA eA _ _ w4) iy ?_;refine eD ?_;refine aE 1 ?_;refine OD.storeAt (k:=0) (cs':=(Mv P B Q x (t)).flatMap cI) ap rfl rfl ot rfl rfl ot rfl rfl sizeOf3 rfl Ge (by rw[Nat.zero_add];exact(oA eA ((Mv P B Q x (t+1)).set (a+t+1) ((Mv P B Q x (t+1))[a+t])) ((Mv P B Q x (t+1))[a+t+1]) vh).trans (congrArg (flatMap cI) (aec LW hP w4 w4))) ?_;refine an 220 [0,14,17] ?_;refine iB [0,14,17] ?_;refine aR 1 ?_ (h:=by exact(c9 rfl ot bI (fY (r:=((a+t:Nat):Int)) Lx)));refine bH ?_;refine⟨t,_,cD,aM,w4,w4,rfl⟩):p:=h
theorem Vt(h:p:=by
  refine at_ rfl eS ?_;refine cu 14 rfl (dF 1 (h:=by first|exact .l (j:=a+t) rfl w4|exact .r (j:=a+t) rfl w4)) ?_;refine AD.one (i:=15) aA ?_;refine aZ.storeAt (k:=0) (cs':=((Mv P B Q x (t)).set (a+t) ((Mv P B Q x (t))[a+t+1])).flatMap cI) rfl ap rfl rfl ot rfl rfl ot rfl rfl sizeOf3 rfl Gh (by rw[Nat.zero_add];exact oA eA _ _ w4) iy ?_;refine eD ?_;refine aE 1 ?_;refine OD.storeAt (k:=0) (cs':=(Mv P B Q x (t+1)).flatMap cI) ap rfl rfl ot rfl rfl ot rfl rfl sizeOf3 rfl Ge (by rw[Nat.zero_add];exact(oA eA ((Mv P B Q x (t)).set (a+t) ((Mv P B Q x (t))[a+t+1])) ((Mv P B Q x (t))[a+t]) vh).trans (congrArg (flatMap cI) (aed LW hP w4 w4))) ?_;refine an 220 [0,10,13] ?_;refine iB [0,10,13] ?_;refine aR 1 ?_ (h:=by exact(c9 rfl ot bI (j7 (r:=((a+(t+1):Nat):Int)) (by rw[show(((a+t:Nat):Int)+1)=((a+(t+1):Nat):Int) by omega];exact wrap_i64 w4 w4))));refine bH ?_;refine⟨(t+1),_,cD,aM,w4,rfl⟩):p:=h
theorem Vu(h:p:=by
  refine at_ rfl eS ?_;refine cu 14 rfl (dF 1 (h:=by first|exact .l (j:=j) rfl w4|exact .r (j:=j) rfl w4)) ?_;refine AD.one (i:=15) aA ?_;refine aZ.storeAt (k:=0) (cs':=(lm.set j (lm[j-1]'qo)).flatMap cI) rfl ap rfl rfl ot rfl rfl ot rfl rfl sizeOf3 rfl Gh (by rw[Nat.zero_add];exact oA eA _ _ qp) iy ?_;refine eD ?_;refine aE 1 ?_;refine OD.storeAt (k:=0) (cs':=((lm.set j (lm[j-1]'qo)).set (j-1) (lm[j]'qp)).flatMap cI) ap rfl rfl ot rfl rfl ot rfl rfl sizeOf3 rfl Ge (by rw[Nat.zero_add];exact oA eA _ _ (by rw[length_set];exact qo)) ?_;refine an 53 [0,1,2,3,8,9] ?_;refine iB [0,1,2,3,8,9] ?_;refine aR 1 ?_ (h:=by exact(c9 rfl ot bI (fY (r:=((j-1:Nat):Int)) Lz)));refine bH ?_;refine⟨((j-1),((lm.set j (lm[j-1]'qo)).set (j-1) (lm[j]'qp))),_,cD,aM,(Zc hj hja qp qo (EA afy)),(by simpa using zc),rfl⟩):p:=h
theorem Vv(h:p:=by
  refine bW 71 (fun ag6 afz=>?_) (fun ag6 afz=>?_)
  ·refine bg [0,2,4,6,8,79] ?_;refine au ?_ ?_<;>intro cr cU
   ·have rY:(bp.length≠3∨(nt=true∧bp[bp.length-1].k≠7)∨(bp[bp.length-1].k≠6∧bp[bp.length-1].k≠7)):=(by first|omega|(simp_all;omega)|simp_all)
    have mC:mT key bp nt (lo,hi)=(lo,hi):=(by unfold mT;rw[uE uX,if_pos rY])
    rw[mC] at aV;refine aI [⟨b0,_,_,_⟩] ?_;refine⟨rfl,?_⟩;first|rw[sH]|rw[aV]
   have rY:¬(bp.length≠3∨(nt=true∧bp[bp.length-1].k≠7)∨(bp[bp.length-1].k≠6∧bp[bp.length-1].k≠7)):=(by first|omega|(simp_all;omega)|simp_all)
   refine CD.skip ?_;refine⟨_,aM,rY,rfl⟩
  refine bg [0,2,4,6,8,79] ?_;refine fM ?_;have rY:¬(bp.length≠3∨(nt=true∧bp[bp.length-1].k≠7)∨(bp[bp.length-1].k≠6∧bp[bp.length-1].k≠7)):=(by first|omega|(simp_all;omega)|simp_all)
  refine CD.skip ?_;refine⟨_,aM,rY,rfl⟩):p:=h
theorem z37(h:p:=by
  have rY:(bp.length≠3∨(nt=true∧bp[bp.length-1].k≠7)∨(bp[bp.length-1].k≠6∧bp[bp.length-1].k≠7)):=(by first|omega|(simp_all;omega)|simp_all)
  have mC:mT key bp nt (lo,hi)=(lo,hi):=(by unfold mT;rw[uE uX,if_pos rY])
  rw[mC] at aV;refine aI [⟨b0,_,_,_⟩] ?_;refine⟨rfl,?_⟩;first|rw[sH]|rw[aV]):p:=h
theorem Vw(h:p:=by
  refine af [0] ?_;refine af [3] ?_;refine af [3,4] ?_;refine au ?_ ?_<;>intro aP bF
  ·refine eE ?_;refine af [2] ?_;refine aI [] ?_;refine⟨vi ?_,rfl⟩;unfold bP;simp_all
  refine cl [3,4] ?_;refine au ?_ ?_<;>intro aX cJ
  ·refine af [2] ?_;refine aI [] ?_;refine⟨vi ?_,rfl⟩;unfold bP;simp_all
  refine af [3,7] ?_;refine au ?_ ?_<;>intro cr cU
  ·refine eE ?_;refine af [2] ?_;refine aI [] ?_;refine⟨vi ?_,rfl⟩;unfold bP;simp_all
  refine cl [7] ?_;refine au ?_ ?_<;>intro cX ec
  ·refine af [2] ?_;refine aI [] ?_;refine⟨vi ?_,rfl⟩;unfold bP;simp_all
  refine af [2] ?_;refine aI [] ?_;refine⟨vi ?_,rfl⟩;unfold bP;simp_all
  ):p:=h
theorem Vx(h:p:=by
  have nW:¬uM p i:=fun hk=>by obtain⟨k1,k2,k3⟩:=hk aa;unfold bN at k2 k3;first|(rw[k1] at wI;cases wI;done)|(have:=k2 w4;omega)|(have:=k3 (Jo Bn);have hx:=of_decide_eq_true cX;omega)
  refine af [4] ?_;refine aI [] ?_;refine⟨vb (Ee fun hp=>?_),rfl⟩;exact nW (QV hp i)):p:=h
theorem z40(h:p:=by
  refine aE 1 ?_;first|refine OD.cells (k:=0) (cs':=[.list 1 [] 0,_]) rfl ⟨eB,cN,trivial⟩ rfl ?_|skip
  first|refine OD.cells (k:=1) (cs':=[.list 1 [] 0,_]) rfl ⟨eB,cN,trivial⟩ rfl ?_|skip
  first|refine OD.cells (k:=1) (cs':=[.list 5 [] 0]) rfl ⟨eB,trivial⟩ rfl ?_|skip
  first|refine OD.cells (k:=2) (cs':=[.list 5 [] 0]) rfl ⟨eB,trivial⟩ rfl ?_|skip
  refine an 46 [4,5,6] ?_;refine aI [] ?_;rw[aV];exact⟨rfl,rfl⟩):p:=h
theorem Vy(h:p:=by
  refine⟨vi ?_,rfl⟩;try simp only[ux] at *
  unfold dP;simp_all;try omega):p:=h
theorem Vz(h:p:=by
  refine aI [⟨b0,_,_,_⟩] ?_;refine⟨rfl,?_⟩;first|rw[sH]|rw[aV]):p:=h
theorem VA(h:p:=by
  refine at_ rfl eS ?_;refine cu 20 rfl (dF 1) ?_;refine AD.one (i:=21) aA ?_;refine aZ.storeAt (k:=0) (cs':=((jO l la lb i).set (la+i) ((jO l la lb i)[lb+i]'hb)).flatMap cI) rfl ap rfl rfl ot rfl rfl ot rfl rfl sizeOf3 rfl Gh (by rw[Nat.zero_add];exact oA eA _ _ ha) iy ?_;refine eD ?_;refine aE 1 ?_;refine OD.storeAt (k:=0) (cs':=(jO l la lb (i+1)).flatMap cI) ap rfl rfl ot rfl rfl ot rfl rfl sizeOf3 rfl Ge (by rw[Nat.zero_add];exact(oA eA ((jO l la lb i).set (la+i) ((jO l la lb i)[lb+i]'hb)) ((jO l la lb i)[la+i]'ha) (by rw[length_set];exact hb)).trans (by rw[jO,sw,mr ha,mr hb])) ?_;refine an 38 [0,1,2,3,10] ?_;refine cl [0,1,2,3,10] ?_;refine⟨(i+1),_,cD,aM,w4,rfl⟩):p:=h
theorem Cq(h:p:=by
  refine af [4] ?_;refine aI [] ?_;first|exact⟨rfl,rfl⟩|(refine⟨vi ?_,rfl⟩;unfold pu;simp_all;done)|(refine⟨vi ?_,rfl⟩;unfold pu;split<;>(try split)<;>simp_all<;>omega)):p:=h
theorem oM(h:p:=by
  refine aI [] ?_;rw[aV];exact⟨rfl,rfl⟩):p:=h
theorem z46(h:p:=by
  refine an 90 [4] ?_;refine aI [] ?_;refine⟨vb ?_,rfl⟩;unfold kZ jd;simp_all;all_goals (try (intros;omega))):p:=h
theorem VB(h:p:=by
  have tT:p.1∈ts:=(by rw[←hr.keys];exact mem_map_of_mem fJ)
  refine⟨tT,?_⟩;rw[hr.at tT];have fb:∀(j:Nat) (p':Oper),k≤j→ops[j]?=some p'→p'.dst≠some p.1:=fun j p' hj Gq iS=>by
   obtain⟨e1,sI,jb,jF⟩:=EB (by simpa using zX) Gq iS tT;have:=(vZ hp ze).1 e1 sI jb;omega
  have h5:=k0.later (q:=p.1) (fun p' zY=>by
   rw[←jr] at zY;obtain⟨j,hj,rfl⟩:=mem_iff_getElem.1 zY;refine fb (k+1+j) _ w4 ?_;rw[←Array.getElem?_toList,←getElem?_drop,getElem?_eq_getElem hj])
  rw[h5,fP,if_neg (fun e1:t=p.1=>fb k o (Nat.le_refl _) ze (by rw[←e1];exact hd))]):p:=h
theorem mI(h:p:=by
  refine aI [] ?_;exact⟨rfl,rfl⟩
  ):p:=h
theorem z49(h:p:=by
  refine⟨vb ?_,rfl⟩;unfold kZ jd;simp_all;all_goals (try (intros;omega))):p:=h
theorem VD(h:p:=by
  skip;have hz:(fT l row ops[i] (fg bD ops[i].k st) (eX bD ops[i].k st)).2≠0:=(by simpa using cX)
  have aV:=hinv.trans (QW aa hz);refine aC 2 ?_;refine aK 7 [_,_,_] sizeOf41 ?_;refine an 64 [4,5] ?_;refine aI [⟨br,28,1,[ax 3 cV row]⟩,⟨bc,27,1,[ax 2 cC l]⟩] ?_;rw[aV];exact⟨rfl,rfl⟩):p:=h
theorem z51(h:p:=by
  refine aI [] ?_;rw[aV];exact⟨rfl,fun h=>by dsimp only at h;omega⟩):p:=h
theorem VE(h:p:=by
  refine an 69 [4] ?_;refine aI [_] ?_;first|exact gd.cast (gd.mk (g:=cO) (e:=43) (sz:=5) (ls:=[(⟨kk,tE n s,⟨#[]⟩⟩:aU)]) (bJ (ls:=[(⟨kk,tE n s,⟨#[]⟩⟩:aU)]) (Nat.le_refl _) (show 1≤maxLen by decide))) (by rw[vN,lj,if_pos w4];unfold rS;rw[show kk=1 by omega])|exact gd.cast (gd.mk (g:=cO) (e:=43) (sz:=5) (ls:=[(⟨kk,bD,rT (j:Int)⟩:aU)]) (bJ (ls:=[(⟨kk,bD,rT (j:Int)⟩:aU)]) (Nat.le_refl _) (show 1≤maxLen by decide))) (by rw[vN,lj,if_neg w4,if_pos w4];unfold wj;rw[hj,show kk=2 by omega])):p:=h
theorem z53(h:p:=by
  refine bg [2] ?_;refine eK ?_;refine⟨vb ?_,rfl⟩;rw[Bool.eq_iff_iff];simp[vU];first|done|omega):p:=h
theorem VF(h:p:=by
  refine OD.perm (ee (A:=[])) ?_;refine an 29 [3,8,9,10] ?_;refine cl [3,8,9,10] ?_;refine⟨((i+1),T4,T5,VG),_,cD,(aM (h:=by repeat (first|exact trivial|refine⟨(by (repeat (first|exact fx|(apply fQ;focus (first|rfl|(simp;done)|(congr 2;omega)|(apply eG;first|exact H7 aa w4|exact Hy aa w4)|(apply eG;rfl)|(apply eG;simp;done)))|(apply fD;focus rfl)));done),?_⟩))),w4,(bw.cast T6 (by first|exact H7 aa w4|exact Hy aa w4)),rfl⟩):p:=h
theorem LX(h:p:=by
  refine⟨vs ?_,rfl⟩;have zZ:k=s.size∨6≤k:=(by omega)
  have Km:min k s.size=k:=Nat.min_eq_left hk;simp only[length_map,length_take,kW,Km] at *;unfold wm yQ;first|(rw[if_pos w4];done)|(rw[if_neg w4,Po hk zZ h6])):p:=h
theorem VH(h:p:=by
  have hF:¬((bM t.ay s.set)=0∧(eW t.ay (rowAt t ((av t s.aj).1[k]'aa)) s.bS).1.k=0):=(by first|exact fun h=>(show ¬(eW t.ay (rowAt t ((av t s.aj).1[k]'aa)) s.bS).1.k=0 from by simpa using gL) h.2|exact fun h=>absurd h.1 (by simpa using zb))
  have nI:(iL t (bM t.ay s.set) s.bS [] (av t s.aj).1)=iL t (bM t.ay s.set) s.bS (acc++[(eW t.ay (rowAt t ((av t s.aj).1[k]'aa)) s.bS).1]) ((av t s.aj).1.drop (k+1)):=(by rw[Aa,jr,iL,if_neg hE,if_neg hF])
  refine CD.skip ?_;refine⟨_,aM,nI,rfl⟩):p:=h
theorem Gr(h:p:=by
  skip;obtain⟨hz,_⟩:=xz aP;obtain rfl:=length_eq_zero_iff.1 hz;refine af [2] ?_;refine aI [] ?_;exact⟨none,0,rfl,.inl ⟨rfl,rfl,rfl,rfl,rfl⟩⟩):p:=h
theorem Cr(h:p:=by
  refine aK 0 [_,_,_] sizeOf41 ?_;refine an 35 [4,5] ?_;refine aI [] ?_;refine⟨?_,rfl⟩;unfold tF;simp_all[bD]):p:=h
theorem z59(h:p:=by
  refine aI [⟨br,28,1,[ax 3 cV row]⟩,⟨bc,27,1,[ax 2 cC l]⟩] ?_;rw[aV];exact⟨rfl,rfl⟩):p:=h
theorem VJ(h:p:=by
  skip;have hz:(iX l ops[i] (fg 0 ops[i].k st) (eX 0 ops[i].k st)).2≠0:=(by simpa using cX)
  have aV:=hinv.trans (QW aa hz);refine af [4,5] ?_;refine aI [⟨b2,27,1,[ax 2 cC l]⟩] ?_;rw[aV];exact⟨rfl,rfl⟩):p:=h
theorem LY(h:p:=by
  refine af [2] ?_;refine aI [] ?_;refine⟨vi ?_,rfl⟩;try simp only[NL] at *
  simp only[cQ];first|(rw[if_pos w4];done)|(rw[if_neg w4];cases h1:nR s<;>cases h2:uF.any (jd s)<;>simp_all)):p:=h
theorem Gs(h:p:=by
  refine aI _ ?_;first|exact⟨rfl,_,JP,rfl⟩|exact⟨rfl,_,EC qk oc VK,rfl⟩|exact⟨rfl,_,EC qk oc (Oc qk oc w4),rfl⟩):p:=h
theorem xA(h:p:=by
  refine af [2] ?_;refine eK ?_;rw[aV];exact⟨rfl,rfl⟩):p:=h
theorem VL(h:p:=by
  have hC:0≤p.kids[i]∧(p.leaf=false→p.kids[i]<many):=⟨by have hx:=of_decide_eq_false JQ;omega,fun hl=>by first|(rw[hl] at Fa;cases Fa;done)|(have hx:=of_decide_eq_false fm;omega)⟩
  refine cl [1,2,113,114,115] ?_;refine⟨(i+1),_,cD,aM,w4,(fun j hj hl=>by rcases Nat.lt_or_ge j i with h|h;exact jV j h hl;obtain rfl:j=i:=w4;exact hC),rfl⟩):p:=h
theorem VM(h:p:=by
  have fh:j=a∨Rc cF Lt (lm[j-1]'qo) (lm[j]'qp):=(by first|exact .inr (EU ha (acm hj (by have q:=of_decide_eq_true ql;omega) qp qo hq) w4)|exact .inl (by have q:=of_decide_eq_false ql;omega))
  refine cl [0,1,2,3,8] ?_;refine⟨((i+1),lm),_,cD,aM,(fun _=>aaH ht hj w4 w4 fh),w4,w4,w4,zc,rfl⟩):p:=h
theorem VN(h:p:=by
  refine aK 0 [_,_,_] sizeOf137 ?_;refine an 14 [2] ?_;refine aI [] ?_;refine⟨?_,rfl⟩;unfold zf;first|(rw[if_neg lP,if_neg xB,show((j:Nat):Int).toNat=j from rfl,getD_eq_getElem?_getD,getElem?_eq_getElem hj];rfl)|(rw[if_pos xp];rfl)|(rw[if_neg xp,if_pos vm];rfl)):p:=h
theorem tU(h:p:=by
  refine aI [] ?_;rw[aV];exact⟨rfl,rfl⟩
  ):p:=h
theorem VO(h:p:=by
  have nW:vs[i].k≠l[i].k∧(i=0∨vs[i].k≠0):=(by first|(simp at *;omega)|(constructor<;>simp_all<;>omega))
  have hf:mD i l[i] vs[i]=4:=(by unfold mD;rw[if_neg hz,if_pos nW])
  have aV:dZ l vs=4:=(by rw[hinv,Pp Kn aa (by rw[hf];decide),hf])
  refine af [4] ?_;refine eK ?_;rw[aV];exact⟨rfl,rfl⟩):p:=h
theorem VQ(h:p:=by
  have nW:¬(0≤p.kids[i]∧(p.leaf=false→p.kids[i]<many)):=fun hk=>by obtain⟨k1,k2⟩:=hk;first|(have hx:=of_decide_eq_true JQ;omega)|(have:=k2 (by simpa using Fa);have hx:=of_decide_eq_true fm;omega)
  refine af [4] ?_;refine eK ?_;refine⟨vb (Ee fun hp=>?_),rfl⟩;exact nW (acn hp aa)):p:=h
theorem z70(h:p:=by
  refine an 70 [1,2,11,35,36,37] ?_;refine cl [1,2,11,35,36,37] ?_;refine⟨((k+1),(acc++[(L[k]'aa).2]),(some ⟨qq,0,none⟩),qU,[⟨qq,3,qU*1,flatMap Tw.cI ((acc)++[(L[k]'aa).2])⟩]),_,cD,aM,w4,Gi,nI,(bw.cast (bJ FJ FK) lK),rfl⟩):p:=h
theorem VR(h:p:=by
  have nT:¬(vs[i].k≠l[i].k∧(i=0∨vs[i].k≠0)):=(by first|(simp_all;done)|omega|(simp at *;omega))
  have hf:mD i l[i] vs[i]=0:=(by unfold mD;rw[if_neg hz,if_neg nT])
  have ji:=hinv.trans (Zd Kn aa hf);refine cl [0,19,20,21] ?_;refine⟨(i+1),_,cD,aM,w4,ji,rfl⟩):p:=h
theorem z72(h:p:=by
  refine cl [1,3,33,34,35] ?_;refine⟨(i+1),_,cD,(aM (h:=by repeat (first|exact trivial|refine⟨(by (repeat (first|exact fx|(apply fQ;focus (first|rfl|(rw[Ef,if_neg zg];rfl)|(rw[Ef,if_pos zg];rfl)|(simp;done)|(congr 2;omega)))|(apply fD;focus rfl)));done),?_⟩))),w4,rfl⟩):p:=h
theorem Gt(h:p:=by
  refine OD.perm (ee (A:=[])) ?_;refine an 8 [2] ?_;refine aI S7 ?_;exact⟨_,_,rfl,pG⟩
  ):p:=h
theorem VS(h:p:=by
  refine eD ?_;refine OD.gY ic rfl rfl rfl call29 (fR) ⟨ot,ot,trivial⟩ ?_;refine an 31 [1,10,11,12,29] ?_;refine au ?_ ?_<;>intro cr cU
  ·exact absurd cr (by (simp at cr;omega))
  refine cl [1,10,11,12] ?_;refine⟨(i+1),_,cD,aM,w4,rfl⟩):p:=h
theorem z75(h:p:=by
  skip;refine bg [1,33] ?_;refine eE ?_;refine af [2] ?_;refine eK ?_;exact⟨vi (ND w4).symm,rfl⟩):p:=h
theorem z76(h:p:=by
  refine aK 0 [_,_,_] sizeOf41 ?_;refine an 29 [2] ?_;refine aI [] ?_;refine⟨?_,rfl⟩;unfold ph bD;simp_all):p:=h
theorem VT(h:p:=by
  have hC:¬((eo t.ay s.bS).1≠(t.ay.getD (bM t.ay s.set).toNat ⟨⟨#[]⟩,0⟩).k∧(eo t.ay s.bS).1≠0):=(by rw[kN];first|exact fun h=>h.2 (by simpa using cr)|exact fun h=>h.1 yR)
  refine CD.skip ?_;refine⟨_,aM,hC,rfl⟩):p:=h
theorem VU(h:p:=by
  have mH:¬(0≤s.gH∧s.gH<lz.length):=(by first|exact fun h=>k8 h.2|(intro h;omega))
  refine CD.skip ?_;refine⟨_,aM,lz,(by unfold qJ rZ;rw[←mJ,Int.toNat_natCast,←hM,←T7,if_neg mH]),T8,w4,rfl⟩):p:=h
theorem LZ(h:p:=by
  refine an 135 [4,5] ?_;refine aI [] ?_;rw[aV];exact⟨[],none,0,[],rfl,iK,(fun o h=>by cases h),rfl,rfl⟩):p:=h
theorem z80(h:p:=by
  have afA:¬(f.length≤100∧eU.length≤100):=(by simp_all;omega)
  refine af [6,7] ?_;refine CD.wk (Wk.uy (t:=6) (sz:=2) lk) ?_;refine L0 ?_;exact⟨by unfold wo;rw[if_pos hz,if_neg afA];rfl,rfl⟩):p:=h
theorem VV(h:p:=by
  unfold cC;refine cf ?_;refine OD.box (ds:=[_,_]) ap rfl rfl ot rfl rfl (fun b2=>?_);refine an 8 [1,2] ?_;refine af [3] ?_;refine aI [⟨b,9,1,[bf nm]⟩] ?_;exact⟨rfl,rfl⟩
  ):p:=h
theorem VW(h:p:=by
  have iv:¬((iI a b i).k≠1∧(iI a b i).k≠0):=(by simp_all)
  refine cl [2,3,4,6,14,15] ?_;refine⟨(i+1),_,cD,aM,w4,(Ed (p:=fun v=>¬(v.k≠1∧v.k≠0)) fb iv),rfl⟩):p:=h
theorem VX(h:p:=by
  unfold gw cmpL iJ iJ iJ iJ;rcases x9 a.k b.k with ⟨h1,h2⟩|⟨h1,h2⟩|⟨h1,h2⟩<;>rcases x9 a.n b.n with ⟨k1,k2⟩|⟨k1,k2⟩|⟨k1,k2⟩<;>simp only[h1,k1]<;>(repeat' split)<;>omega):p:=h
theorem VY(h:p:=by
  refine bH ?_;refine cR [6,7] ?_;refine aR 6 ?_ (h:=by exact(c9 rfl ot ot (Eg underlying4)));refine bH ?_;refine aI [] ?_;refine⟨?_,rfl⟩;unfold pc;simp_all):p:=h
theorem z85(h:p:=by
  have afB:¬((iI a b i).k=1∧(iI a b i).n=d):=(by simp_all)
  refine cl [2,3,4,6,30,31] ?_;refine⟨(i+1),_,cD,aM,w4,(Ed (p:=fun v=>¬(v.k=1∧v.n=d)) JR afB),rfl⟩):p:=h
theorem VZ(h:p:=by refine⟨_,(aM (h:=by repeat (first|exact trivial|refine⟨(by (repeat (first|exact fx|(apply fQ;focus (first|rfl|(rw[dr];done)|(simp;done)))|(apply fD;focus rfl)));done),?_⟩))),rfl⟩):p:=h
theorem z87(h:p:=by refine⟨_,(aM (h:=by repeat (first|exact trivial|refine⟨(by (repeat (first|exact fx|(apply fQ;focus (first|rfl|(rw[kN];done)|(simp;done)))|(apply fD;focus rfl)));done),?_⟩))),rfl⟩):p:=h
theorem V0(h:p:=by
  skip;obtain⟨hz,_⟩:=xz aP;obtain rfl:=length_eq_zero_iff.1 hz;refine af [2] ?_;refine CD.wk (Wk.uy (t:=2) (sz:=1) lk) ?_;refine aI [] ?_;exact⟨rfl,rfl⟩):p:=h
theorem V1(h:p:=by
  refine af [4] ?_;refine aI [] ?_;first|exact⟨vi (Eh hn).symm,rfl⟩|exact⟨vi (DX hz vm).symm,rfl⟩|exact⟨vi (IF hz vm).symm,rfl⟩):p:=h
theorem V2(h:p:=by
  rw[←jr] at fJ;obtain⟨j,hj,rfl⟩:=mem_iff_getElem.1 fJ;refine kO (k+1+j) _ w4 ?_;rw[←Array.getElem?_toList,←getElem?_drop,getElem?_eq_getElem hj]):p:=h
theorem z91(h:p:=by
  refine af [4] ?_;refine eK ?_;refine⟨vi ?_,rfl⟩;unfold aL;first|(rw[BJ] at V3;cases fI:p.leaf<;>simp_all;done)|(simp_all;done)|(simp_all;omega)):p:=h
theorem L1(h:p:=by
  refine af [2,3] ?_;refine aI [] ?_;first|(rw[aV];exact⟨none,0,rfl,iK⟩)):p:=h
theorem z93(h:p:=by
  refine af [2] ?_;refine aI [] ?_;exact⟨by first|rw[aV]|rw[aV];rfl,rfl⟩):p:=h
theorem V4(h:p:=by
  have g6:=po.leaf;have g7:=fun h=>(po.node h).1;cases fI:(t.ag[i]'aa).leaf with
  | true=>have:=g6 fI;omega
  | false=>have:=g7 fI;omega):p:=h
theorem V5(h:p:=by
  rw[map_set,hn];have:l[i].nm=(l.map aQ.nm)[i]'(by rw[length_map];exact hi):=(by rw[getElem_map])
  rw[this,set_getElem_self]):p:=h
theorem Gu(h:p:=by
  refine aI [] ?_;rw[fh];exact⟨rfl,rfl⟩
  ):p:=h
theorem L4(h:p:=by
  refine af [2] ?_;refine aI [] ?_;rw[fh];exact⟨rfl,rfl⟩):p:=h
theorem V6(h:p:=by refine⟨((((i+j)/2)+1),j),_,cD,aM,w4,w4,w4,(.inr ⟨by omega,by omega,by exact wZ⟩),fu,rfl⟩):p:=h
theorem V7(h:p:=by
  obtain⟨t',h3,h4⟩:=(vZ hp Gq).2;rw[iS] at h3;obtain rfl:=Option.some.inj h3;exact h4 k o hj ze hd):p:=h
theorem T9(h:p:=by
  unfold lY;rw[mk_data,getD_eq_getElem?_getD,getElem?_eq_getElem w4];exact getElem_mem _):p:=h
theorem Ua(h:p:=by
  rw[px] at oN;rcases mem_cons.1 oN with rfl|oN
  ·exact .inl (sR _ _)
  exact m.SL x oN):p:=h
theorem Ub(h:p:=by
  have fh:dZ l=1:=if_pos w4;refine af [2] ?_;refine eK ?_;rw[fh];exact⟨rfl,rfl⟩):p:=h
theorem Uc(h:p:=by
  refine aI [⟨br,28,1,[ax 3 cV row]⟩,⟨bc,27,1,[ax 2 cC l]⟩] ?_;rw[aV];exact⟨rfl,rfl⟩
  ):p:=h
theorem Ud(h:p:=by refine⟨(i,((i+j)/2)),_,cD,aM,w4,w4,w4,dM,(.inr ⟨by omega,by omega,Ab⟩),rfl⟩):p:=h
theorem z105(h:p:=by
  refine CD.skip ?_;have afC:l1=l:=aaI Ko w4;rw[afC];refine⟨_,aM,rfl⟩):p:=h
theorem Ue(h:p:=by
  refine cW [0,4,5,6,41] (ng) ?_;refine au ?_ ?_<;>intro fm gv
  ·have aV:iu k a b=(bD,0):=(by unfold iu;rw[if_neg (by simp[n9]),if_neg w4,if_neg w4,if_pos w4,if_pos fm])
   refine aC 1 ?_;exact z7
  refine af [0,4,5,6,47] ?_;refine au ?_ ?_<;>intro gL kG
  ·have aV:iu k a b=(bD,4):=(by unfold iu;rw[if_neg (by simp[n9]),if_neg w4,if_neg w4,if_pos w4,if_neg (by rw[fm];simp),if_pos (by simpa using gL)])
   refine aC 1 ?_;exact z7
  have aV:iu k a b=(p8 ((gw a b==0&&k==6)||(decide (gw a b<0)&&k==7)),0):=(by unfold iu;rw[if_neg (by simp[n9]),if_neg w4,if_neg w4,if_pos w4,if_neg (by rw[fm];simp),if_neg (by simpa using gL)])
  refine cW [0,6,9] (ff) ?_;refine aC 3 ?_;refine bW 54 (fun zh yR=>?_) (fun zh yR=>?_)
  ·refine aE 4 ?_;refine bW 58 (fun ag7 afD=>?_) (fun ag7 afD=>?_)
   ·refine xC 3 ?_;refine aE 4 ?_;refine dO call100 (sS _) ?_;exact z7
   refine aE 3 ?_;refine bW 61 (fun Kp JS=>?_) (fun Kp JS=>?_)
   ·refine aE 4 ?_;refine dO call100 (sS _) ?_;exact z7
   refine aE 4 ?_;refine dO call100 (sS _) ?_;exact z7
  refine aE 7 ?_;refine bW 61 (fun Kp JS=>?_) (fun Kp JS=>?_)
  ·refine aE 4 ?_;refine dO call100 (sS _) ?_;exact z7
  refine aE 4 ?_;refine dO call100 (sS _) ?_;exact z7):p:=h
theorem z107(h:p:=by
  have uK:¬((l[i].k != 1 && !(zeroV l[i].v))||(l[i].k != 2 && !(l[i].nm.toList==(⟨#[]⟩:ByteArray).toList)))=true:=(by unfold zeroV;simp_all)
  refine af [3,5,11,12,13,52] ?_;refine au ?_ ?_<;>intro fm gv
  ·refine cW [3,5,7,11,12,13] (s8 hm hw l[i].nm (hs _ (getElem_mem aa))) ?_;refine af [3,5,7,11,12,13,57] ?_;refine au ?_ ?_<;>intro gL kG
   ·have qs:cQ l[i].nm≠0:=(by simpa using gL)
    have qj:fa h l[i]=cQ l[i].nm:=(by unfold fa;rw[if_neg dM,if_neg tQ,if_neg uK,if_pos ⟨by simpa using fm,qs⟩])
    refine af [2] ?_;refine aI [] ?_;exact vq
   have jW:¬(l[i].k=2∧cQ l[i].nm≠0):=(by simp at gL;simp[gL])
   refine cW [3,5,11,12,13,63] (yt l[i].k) ?_;refine au ?_ ?_<;>intro gg k8
   ·have rm:h<bP l[i].k:=(by simpa using gg)
    have qj:fa h l[i]=7:=(by unfold fa;rw[if_neg dM,if_neg tQ,if_neg uK,if_neg jW,if_pos rm])
    refine af [2] ?_;refine aI [] ?_;exact vq
   exact Gn
  have jW:¬(l[i].k=2∧cQ l[i].nm≠0):=(by simp at fm;simp[fm])
  refine cW [3,5,11,12,13,63] (yt l[i].k) ?_;refine au ?_ ?_<;>intro gg k8
  ·have rm:h<bP l[i].k:=(by simpa using gg)
   have qj:fa h l[i]=7:=(by unfold fa;rw[if_neg dM,if_neg tQ,if_neg uK,if_neg jW,if_pos rm])
   refine af [2] ?_;refine aI [] ?_;exact vq
  exact Gn):p:=h
theorem Uf(h:p:=by
  have uK:¬((l[i].k != 1 && !(zeroV l[i].v))||(l[i].k != 2 && !(l[i].nm.toList==(⟨#[]⟩:ByteArray).toList)))=true:=(by unfold zeroV;simp_all)
  refine af [3,5,11,12,13,52] ?_;refine au ?_ ?_<;>intro fm gv
  ·refine cW [3,5,7,11,12,13] (s8 hm hw l[i].nm (hs _ (getElem_mem aa))) ?_;refine af [3,5,7,11,12,13,57] ?_;refine au ?_ ?_<;>intro gL kG
   ·have qs:cQ l[i].nm≠0:=(by simpa using gL)
    have qj:fa h l[i]=cQ l[i].nm:=(by unfold fa;rw[if_neg dM,if_neg tQ,if_neg uK,if_pos ⟨by simpa using fm,qs⟩])
    refine af [2] ?_;refine eK ?_;exact vq
   have jW:¬(l[i].k=2∧cQ l[i].nm≠0):=(by simp at gL;simp[gL])
   refine cW [3,5,11,12,13,63] (yt l[i].k) ?_;refine au ?_ ?_<;>intro gg k8
   ·have rm:h<bP l[i].k:=(by simpa using gg)
    have qj:fa h l[i]=7:=(by unfold fa;rw[if_neg dM,if_neg tQ,if_neg uK,if_neg jW,if_pos rm])
    refine af [2] ?_;refine eK ?_;exact vq
   exact Gn
  have jW:¬(l[i].k=2∧cQ l[i].nm≠0):=(by simp at fm;simp[fm])
  refine cW [3,5,11,12,13,63] (yt l[i].k) ?_;refine au ?_ ?_<;>intro gg k8
  ·have rm:h<bP l[i].k:=(by simpa using gg)
   have qj:fa h l[i]=7:=(by unfold fa;rw[if_neg dM,if_neg tQ,if_neg uK,if_neg jW,if_pos rm])
   refine af [2] ?_;refine eK ?_;exact vq
  exact Gn):p:=h
theorem z109(h:p:=by
  refine cu 8 rfl (dF 1 (h:=by first|exact .l (j:=tj) rfl ri|exact .r (j:=tj) rfl ri)) ?_;refine AD.two (i:=9) (j:=11) aA ?_ ?_
  ·refine at_ rfl (cM (mk:=Op.load 9) rfl ot (by exact pZ (g:=cS) (ls:=eJ) (i:=tj) (d:=bf tn) jh isAgg9 ri (by show some (D.v (.string (eJ[tj]'ri)))=some (D.v (.string tn));rw[T3]))) ?_;refine cu 10 rfl (nr (pl:=[(0,_),(1,_),(9,_)]) (ds:=[_,_,_,_,_,_,_,_,_,_,_,_]) rfl zeroValue32 runUnderlying32 Ny ⟨rfl,ot,rfl,ot,rfl,bI,trivial⟩ rfl rfl) ?_;refine AD.one (i:=11) aA ?_;refine aZ.alloc (ds:=[_,_,_,_,_,_,_,_,_,_,_,_]) rfl ap rfl rfl zeroValue32 rfl (fun b3=>?_);exact z10
  refine aZ.alloc (ds:=[_,_,_,_,_,_,_,_,_,_,_,_]) rfl ap rfl rfl zeroValue32 rfl (fun b3=>?_);exact z4):p:=h
theorem Kq(h:p:=by
  refine dQ 2 ?_;refine OD.j9 (f:=134) (args:=[_,_]) (all:=[_,_]) (Sf:=[]) ap rfl rfl ot call134 (yS a 2) rfl ⟨ot,bI,trivial⟩ (eO _) ?_;rintro _ _ ⟨rfl,rfl⟩;refine aE 1 ?_;refine bW 68 (fun ag8 afE=>?_) (fun ag8 afE=>?_)
  ·refine aE 2 ?_;refine OD.j9 (f:=134) (args:=[_,_]) (all:=[_,_]) (Sf:=[]) ic rfl rfl ot call134 (yS b 2) rfl ⟨ot,bI,trivial⟩ (eO _) ?_;rintro _ _ ⟨rfl,rfl⟩;exact z21
  refine an 76 [11,12] ?_;refine af [12,74] ?_;refine eE ?_;exact z22):p:=h
theorem FL(h:p:=by
  refine AD.one (i:=7) aA ?_;refine jB call21 (FM) ?_;refine cu 8 rfl (dF 1 (h:=by first|exact .l (j:=tj) rfl ri|exact .r (j:=tj) rfl ri)) ?_;exact z4):p:=h
theorem Ug(h:p:=by
  refine aC 4 ?_;refine OD.j9 (f:=98) (args:=[_,_,_]) (all:=[_,_,_,_]) (Sf:=[⟨b2,27,1,[ax 2 cC l]⟩]) ap rfl rfl ot call98 (Od l hl ops[i] _ _ _ _ ha hb b2) rfl ⟨ot,ot,ot,trivial⟩ (j5 (k:=1) rfl) ?_;rintro _ _ ⟨rfl,rfl⟩;refine an 64 [1,6,7,13,14,15,16,17,18] ?_;refine af [1,6,7,13,14,15,16,17,18,51] ?_;refine au ?_ ?_<;>intro cX ec
  ·exact VJ
  have hz:(iX l ops[i] (fg 0 ops[i].k st) (eX 0 ops[i].k st)).2=0:=(by simpa using cX)
  refine CD.skip ?_;refine CD.rZ (k:=(st.length-(bP ops[i].k).toNat)) (ls:=(st)) (Sq:=[⟨bh,3,jY*1,flatMap cI st⟩]) eA w4 (bJ (g:=cI) (ls:=st) wE wg) (dI (A:=[_,_])) (fun BF Bl=>?_);exact z12):p:=h
theorem Uh(h:p:=by
  refine cu 8 rfl (dF 1 (h:=by first|exact .l (j:=tj) rfl ri|exact .r (j:=tj) rfl ri)) ?_;exact z4):p:=h
theorem Ui(h:p:=by
  rintro _ _ ⟨rfl,rfl⟩;refine aE 3 ?_;refine OD.alloc (ds:=[_,_,_]) ap rfl rfl zeroValue41 rfl (fun Ac=>?_);refine aK 0 [_,_,_] sizeOf41 ?_;refine an 64 [1,4,6,7,13,14,15,16,17,18] ?_;refine af [1,4,6,7,13,14,15,16,17,18,51] ?_;refine au ?_ ?_<;>intro cX ec
  ·exact VD
  have hz:(fT l row ops[i] (fg bD ops[i].k st) (eX bD ops[i].k st)).2=0:=(by simpa using cX)
  refine CD.skip ?_;refine CD.rZ (k:=(st.length-(bP ops[i].k).toNat)) (ls:=(st)) (Sq:=[⟨bh,41,jY*3,flatMap cV st⟩]) fj w4 (bJ (g:=cV) (ls:=st) wE wg) (dI (A:=[_,_,_,_,_,_,_,_])) (fun BF Bl=>?_);exact z5):p:=h
theorem Uj(h:p:=by
  refine CD.seq ?_;refine tV 11 10 [5,7,31] ?_;refine cZ (kU G n 40 gh iR w7) ?_;refine cZ (Pq ⟨n,ei n 40-20,s⟩ fN) ?_;refine rq ?_;refine jX ?_;refine⟨rfl,fun b7=>?_⟩;refine aK 0 [_,_,_] sizeOf41 ?_;refine an 69 [5,7] ?_;refine aC 2 ?_;refine dO call16 (EV (ph ⟨n,ei n 40-20,s⟩).s 4 w4) ?_;refine aE 1 ?_;refine aK 0 [_,_,_] sizeOf9 ?_;refine an 69 [5,7] ?_;refine aC 3 ?_;refine en (bZ 0 [_]) [.int .i64 0,.int .i64 0,.int .i64 0,.string ⟨#[]⟩,.string ⟨#[]⟩] [_,_,_,_,_] zeroValue43 runUnderlying30 sizeOf43 (fun Cs=>?_);exact z28):p:=h
theorem z116(h:p:=by
  refine dQ 2 ?_;refine OD.j9 (f:=134) (args:=[_,_]) (all:=[_,_]) (Sf:=[]) ap rfl rfl ot call134 (yS a 1) rfl ⟨ot,bI,trivial⟩ (eO _) ?_;rintro _ _ ⟨rfl,rfl⟩;refine aE 1 ?_;refine bW 40 (fun Kr JT=>?_) (fun Kr JT=>?_)
  ·refine aE 2 ?_;refine OD.j9 (f:=134) (args:=[_,_]) (all:=[_,_]) (Sf:=[]) ic rfl rfl ot call134 (yS b 1) rfl ⟨ot,bI,trivial⟩ (eO _) ?_;rintro _ _ ⟨rfl,rfl⟩;exact z21
  refine an 76 [11,12] ?_;refine af [12,74] ?_;refine eE ?_;exact z22):p:=h
theorem z117(h:p:=by
  refine AD.one (i:=10) aA ?_;refine jB call95 (jS (t.ag[i]'aa).high w4) ?_;refine cu 13 rfl (nr (pl:=[(0,_),(1,_),(2,_),(3,_),(4,_)]) (ds:=[_,_,_,_,_]) rfl zeroValue153 runUnderlying153 Nq ⟨rfl,ot,rfl,ot,rfl,ot,rfl,ot,rfl,ot,trivial⟩ rfl rfl) ?_;refine AD.one (i:=14) aA ?_;refine jo (bZ 0 [_]) [.bool false,.slice none 0 0,.slice none 0 0,.slice none 0 0,.int .i64 0] [_,_,_,_,_] zeroValue153 runUnderlying49 sizeOf153 (fun Ad=>?_);refine jq 0 46 5 1 ?_;exact LO):p:=h
theorem Ks(h:p:=by
  refine eD ?_;refine bg [3] ?_;refine af [52] ?_;refine au ?_ ?_<;>intro fm gv
  ·exact LS
  exact LS):p:=h
theorem z119(h:p:=by
  refine af [4,5,6] ?_;refine CD.wk (Wk.uy (t:=4) (sz:=1) lk) ?_;refine CD.wk (Wk.uy (t:=5) (sz:=1) lk) ?_;exact oM):p:=h
theorem Uk(h:p:=by
  refine dQ 3 ?_;refine OD.j9 (f:=134) (args:=[_,_]) (all:=[_,_]) (Sf:=[]) ap rfl rfl ot call134 (yS a b) rfl ⟨ot,ot,trivial⟩ (eO _) ?_;rintro _ _ ⟨rfl,rfl⟩;refine aE 1 ?_;refine bW 57 (fun tG Bo=>?_) (fun tG Bo=>?_)
  ·refine an 76 [11,12] ?_;refine af [12,74] ?_;refine fM ?_;exact z22
  exact z21):p:=h
theorem Kt(h:p:=by
  refine af [2] ?_;refine aI [] ?_;exact vq):p:=h
theorem FN(h:p:=by
  refine af [2] ?_;refine eK ?_;exact vq):p:=h
theorem Ul(h:p:=by
  refine VC.body func10 rfl ntmps10 aO fun X0 w0 aY=>?_;refine cf ?_;refine OD.alloc (ds:=[_,_,_,_,_,_,_,_,_,_,_,_]) ap rfl rfl zeroValue32 rfl (fun b4=>?_);refine an 8 [0,1,4] ?_;refine aC 3 ?_;refine aK 0 [_,_,_,_,_,_,_,_,_,_,_,_] sizeOf32 ?_;refine an 8 [4] ?_;exact mI):p:=h
theorem z124(h:p:=by
  refine mb 7 rfl ?_;refine mb 8 rfl ?_;refine mb 9 rfl ?_;refine dm.later rfl ?_;refine AD.one (i:=10) aA ?_;refine aZ.skip rfl (mo rfl rfl rfl lk jn) rfl ?_;refine cu 11 rfl uV ?_;refine cu 12 rfl bj ?_;exact Vi):p:=h
theorem FO(h:p:=by
  skip;refine bg [1,2,39] ?_;refine eE ?_;refine af [4] ?_;refine eK ?_;exact Gm):p:=h
theorem Um(h:p:=by
  have cr:(dS (lX key) (bp.take 2))<0∨(dS gG (bp.take 2))<0:=(by first|omega|(simp_all;omega)|simp_all)
  have mC:mT key bp nt (lo,hi)=(lo,hi):=(by unfold mT;rw[uE uX,if_neg rY,if_pos cr])
  rw[mC] at aV;exact Vz):p:=h
theorem z127(h:p:=by
  refine af [2] ?_;refine eK ?_;exact Vy):p:=h
theorem Un(h:p:=by
  refine cf ?_;refine OD.alloc (ds:=[_,_,_]) ap rfl rfl zeroValue137 rfl (fun b2=>?_);refine an 5 [0,2] ?_;refine aC 2 ?_;refine aK 0 [_,_,_] sizeOf137 ?_;refine an 5 [2] ?_;exact mI):p:=h
theorem Uo(h:p:=by
  refine af [52] ?_;refine au ?_ ?_<;>intro fm gv
  ·refine af [2] ?_;refine aI [] ?_;exact LU
  refine af [2] ?_;refine aI [] ?_;exact LU):p:=h
theorem z130(h:p:=by
  refine VC.body func51 rfl ntmps51 aO fun X0 w0 aY=>?_;refine af [0,1] ?_;refine aC 2 ?_;refine bQ (XB rfl ot ot func96 aA aA aA aA) ?_;refine an 8 [4] ?_;exact mI):p:=h
theorem z131(h:p:=by
  have hf:mY (l.take i) l[i]=2:=(by unfold mY;rw[if_neg gE,if_pos w4])
  have aV:fE l=2:=(by rw[hinv,H8 aa (by rw[hf];decide),hf])
  exact xA):p:=h
theorem BK(h:p:=by
  refine af [2] ?_;refine aI [] ?_;exact Vy):p:=h
theorem Up(h:p:=by
  refine OD.perm (ee (A:=[])) ?_;refine an 8 [2] ?_;refine CD.iq (t:=2) (Sq:=S7) lk pG (cy pi _) (dI (A:=[])) ?_;exact mI):p:=h
theorem Uq(h:p:=by
  skip;refine bg [1,14] ?_;refine au ?_ ?_<;>intro cr cU
  ·refine af [2] ?_;exact z24
  exact z20):p:=h
theorem wJ(h:p:=by
  refine af [4,5] ?_;exact z51):p:=h
theorem Ku(h:p:=by
  refine aK 0 [_,_,_] sizeOf41 ?_;refine an 42 [8,9] ?_;exact z59):p:=h
theorem Ur(h:p:=by
  skip;refine aE 5 ?_;refine bW 17 (fun wK wq=>?_) (fun wK wq=>?_)
  ·exact z53
  exact z53):p:=h
theorem z138(h:p:=by
  skip;refine bg [1,2,71] ?_;refine eE ?_;refine af [4] ?_;refine eK ?_;exact Gm):p:=h
theorem z139(h:p:=by
  refine AD.two (i:=4) (j:=7) aA ?_ ?_
  ·refine jo (bZ 0 [_,_]) [.string ⟨#[]⟩,.string ⟨#[]⟩] [_,_] zeroValue9 runUnderlying29 sizeOf9 (fun b8=>?_);refine jq 0 8 1 2 ?_;exact FL
  refine jB call21 (FM) ?_;refine AD.one (i:=4) aA ?_;refine jo (bZ 0 [_,_]) [.string ⟨#[]⟩,.string ⟨#[]⟩] [_,_] zeroValue9 runUnderlying29 sizeOf9 (fun b8=>?_);refine jq 0 8 1 2 ?_;exact Uh):p:=h
theorem Us(h:p:=by
  refine AD.two (i:=7) (j:=11) aA ?_ ?_
  ·refine jB call21 (FM) ?_;exact z109
  refine aZ.alloc (ds:=[_,_,_,_,_,_,_,_,_,_,_,_]) rfl ap rfl rfl zeroValue32 rfl (fun b3=>?_);exact FL):p:=h
theorem z141(h:p:=by
  refine AD.one (i:=15) aA ?_;refine aZ.gY rfl ic rfl rfl rfl call139 (QX t.s 140 wu call140 Pr hs) ⟨ot,sU,trivial⟩ ?_;refine cu 19 rfl mK ?_;refine cu 20 rfl wL ?_;exact Ks):p:=h
theorem Ut(h:p:=by
  have qj:fa h l[i]=6:=(by unfold fa zeroV;rw[if_neg dM,if_neg tQ,if_pos (by simp_all)])
  exact Kt):p:=h

end Go.Proofs.YtdgichenhdikgaaGreatDoor
namespace Go.Proofs.YtdgichenhdikgaaGreatDoor.V
open List
open Go.RowKit
variable {L X:Nat→Prop} {w':World} {b i k n off o' cap sz j m h' tt bytes:Nat} {I:Array Field} {v u:Value} {e t:TypeId} {y fo:Operand} {a:Act} {cur:Array Value} {lo hi:Option Operand} {ts:Array TypeId} {ad:Option Addr} {ps:Array (Nat×Operand)} {c8:Array Operand}
inductive D where
 | v (x:Value)
 | list (sz:Nat) (cs:List D) (len:Nat)
 | fy (cs:List D) (off:Nat)
 | agg (cs:List D)
 | dG (cs:List D)
 | ey (f:Fn) (cs:List D)
 | jZ (l:Nat) (os:List (Nat×Obj))
 | bV
 deriving Inhabited
variable {ds cs':List D} {l:List (Nat×D)}
inductive cm (w:World) (L:Nat→Prop):D→Value→Prop
 | v (x:Value):cm w L (.v x) x
 | l6 (sz:Nat) (ad:Option Addr) (cap:Nat):cm w L (.list sz [] 0) (.slice ad 0 cap)
 | list (sz:Nat) (cs:List D) (len b o cap:Nat) (f:Nat→Value) (hl:cs.length=len*sz) (h1:len≤cap) (h2:cap≤maxLen) (hb:b<w.heap.size) (hL:¬L b)
   (hc:∀i,i<cs.length→w.cell? ⟨b,o+i,none⟩=some (f i)) (hr:∀i (h:i<cs.length),cm w L cs[i] (f i)):cm w L (.list sz cs len) (.slice (some ⟨b,o,none⟩) len cap)
 | fy (cs:List D) (off b o:Nat) (f:Nat→Value) (hb:b<w.heap.size) (hL:¬L b)
   (hc:∀i,i<cs.length→w.cell? ⟨b,o+i,none⟩=some (f i)) (hr:∀i (h:i<cs.length),cm w L cs[i] (f i)):cm w L (.fy cs off) (.pointer (some ⟨b,o+off,none⟩))
 | agg (cs:List D) (vs:List Value) (hl:vs.length=cs.length) (hr:∀i (h:i<cs.length) (h':i<vs.length),cm w L cs[i] vs[i]):cm w L (.agg cs) (.agg vs.toArray)
 | dG (cs:List D) (vs:List Value) (hl:vs.length=cs.length) (hr:∀i (h:i<cs.length) (h':i<vs.length),cm w L cs[i] vs[i]):cm w L (.dG cs) (.tuple vs.toArray)
 | ey (fn:Fn) (cs:List D) (vs:List Value) (hl:vs.length=cs.length) (hr:∀i (h:i<cs.length) (h':i<vs.length),cm w L cs[i] vs[i]):cm w L (.ey fn cs) (.func fn #[] vs.toArray)
 | jZ (l:Nat) (os:List (Nat×Obj)) (h:∀z∈os,z.1<w.heap.size∧¬L z.1∧w.heap[z.1]?=some z.2):cm w L (.jZ l os) (.func (.yield l) #[] #[])
 | bV (x:Value):cm w L .bV x
theorem cm.nil{w:World}(sz:Nat):cm w L (.list sz [] 0) (.slice none 0 0):=.l6 sz none 0
theorem qC{w:World}(hb:b<w.heap.size)(h:w'.heap[b]?=w.heap[b]?):b<w'.heap.size:=by
 rcases Nat.lt_or_ge b w'.heap.size with h'|h'
 ·exact h'
 rw[Array.getElem?_eq_none h',Array.getElem?_eq_getElem hb] at h;cases h
theorem cm.mono{w:World}{I:Nat→Prop}{d:D}(h:cm w L d v)(H:∀b,b<w.heap.size→¬L b→w'.heap[b]?=w.heap[b]?∧¬I b):cm w' I d v:=by
 induction h with
 | v x=>exact .v x
 | l6 sz ad cap=>exact .l6 sz ad cap
 | list sz cs len b o cap f hl h1 h2 hb hL hc hr ih =>
  have E:=H b hb hL;exact .list sz cs len b o cap f hl h1 h2 (qC hb E.1) E.2 (fun i hi=>(World.cell?_of_block (w:=w) (a:=⟨b,o+i,none⟩) E.1).trans (hc i hi)) ih
 | fy cs off b o f hb hL hc hr ih =>
  have E:=H b hb hL;exact .fy cs off b o f (qC hb E.1) E.2 (fun i hi=>(World.cell?_of_block (w:=w) (a:=⟨b,o+i,none⟩) E.1).trans (hc i hi)) ih
 | agg cs vs hl hr ih=>exact .agg cs vs hl ih
 | dG cs vs hl hr ih=>exact .dG cs vs hl ih
 | ey fn cs vs hl hr ih=>exact .ey fn cs vs hl ih
 | jZ l os h =>
  refine .jZ l os fun z hz=>?_;obtain⟨h1,h2,h3⟩:=h z hz;have E:=H z.1 h1 h2;exact⟨qC h1 E.1,E.2,E.1.trans h3⟩
 | bV x=>exact .bV x
structure ah where
 b:Nat
 e:TypeId
 size:Nat
 cs:List D
 deriving Inhabited
variable {S S' Sf R:List ah} {B:ah} {post:D→List ah→Prop}
def yH:TypeId:=1000003
def QY:TypeId:=1000004
def isMap(e:TypeId):Bool:=Nat.beq e yH||Nat.beq e QY
def Bp(cur:Array Value):Obj:=.map (cur.mapIdx fun i k=>⟨k,.agg #[],i⟩) cur.size
def SM:Value→Nat
 | .int _ n=>n.toNat
 | _=>0
def Uu:List Value→List MapEntry
 | k::v::b::r=>⟨k,v,SM b⟩::Uu r
 | _=>[]
def aee(cur:Array Value):Obj:=match cur.toList with
 | c::r=>.map (Uu r).toArray (SM c)
 | []=>.map #[] 0
def ob(e:TypeId)(cur:Array Value):Obj:=bif isMap e then (bif Nat.beq e QY then aee cur else Bp cur) else .cells cur e (0,0)
theorem j6(he:isMap e=false)(cur:Array Value):ob e cur = .cells cur e (0,0):=by rw[ob,he];rfl
theorem SN(cur:Array Value):ob yH cur=Bp cur:=rfl
def JU(w:World)(L:Nat→Prop)(B:ah):Prop :=
 B.b<w.heap.size∧∃cur:Array Value,w.heap[B.b]?=some (ob B.e cur)∧cur.size=B.size∧B.cs.length≤B.size∧∀i (h:i<B.cs.length),∃u,cur[i]?=some u∧cm w L B.cs[i] u
def qK:Value→Bool
 | .tuple _=>false
 | _=>true
def nP(w:World)(b i:Nat):Value→Prop
 | .tuple vs=>∃t fz,w.heap[b]?=some (.cells vs t fz)
 | v=>w.cell? ⟨b,i,none⟩=some v
theorem nP.cell{w:World}(h:nP w b i v)(E:qK v=true):w.cell? ⟨b,i,none⟩=some v:=by
 cases v<;>first|exact h|cases E
theorem nP.of{w:World}(h:w.cell? ⟨b,i,none⟩=some v)(E:qK v=true):nP w b i v:=by
 cases v<;>first|exact h|cases E
theorem nP.on{w:World}(hb:w'.heap[b]?=w.heap[b]?)(h:nP w b i v):nP w' b i v:=by
 by_cases E:qK v=true
 ·exact .of ((World.cell?_of_block (w:=w) (a:=⟨b,i,none⟩) hb).trans (h.cell E)) E
 cases v<;>first|exact absurd rfl E|(obtain⟨t,fz,h⟩:=h;exact⟨t,fz,hb.trans h⟩)
theorem nP.lt{w:World}(h:nP w b i v):b<w.heap.size:=by
 by_cases E:qK v=true
 ·exact World.block_lt_of_cell? w _ (h.cell E)
 cases v<;>first|exact absurd rfl E|(obtain⟨t,fz,h⟩:=h;exact(Array.getElem?_eq_some_iff.1 h).1)
theorem Ps{vs:List Value}(h:vs.all qK=true)(hi:vs[i]?=some v):qK v=true:=all_eq_true.1 h v (mem_of_getElem? hi)
structure dL where
 X:Nat→Prop
 w0:World
 S0:List Nat
 G:List (Nat×List Value)
 df:List Deferred
 Ct:Act→World→Prop
variable {C:dL}
structure St where
 n:Nat
 env:List (Nat×D)
 S:List ah
def look(t:Nat):List (Nat×D)→D
 | []=>.bV
 | (i,d)::r=>bif Nat.beq i t then d else look t r
theorem fP(t i:Nat)(d:D)(l:List (Nat×D)):look t ((i,d)::l)=if i=t then d else look t l:=by
 rw[look];by_cases e:i=t
 ·subst e;simp
 have:Nat.beq i t=false:=by
  cases h:Nat.beq i t with
  | false=>rfl
  | true=>exact absurd (Nat.eq_of_beq_eq_true h) e
 rw[this,if_neg e];rfl
def aq(S:List ah):List Nat:=S.map (·.b)
def live(X:Nat→Prop)(S:List ah)(b:Nat):Prop:=X b∨b∈aq S
structure Fr (w:World) (S:List Nat) (w':World) (S':List Nat):Prop where
 os:w'.os=w.os
 tape:w'.tape=w.tape
 output:w'.output=w.output
 size:w.heap.size≤w'.heap.size
 block:∀b,b<w.heap.size→b∉S→w'.heap[b]?=w.heap[b]?∧b∉S'
theorem Fr.refl(w:World)(S:List Nat):Fr w S w S:=⟨rfl,rfl,rfl,Nat.le_refl _,fun _ _ h=>⟨rfl,h⟩⟩
theorem Fr.trans{E I O:World}{S1 S2 S3:List Nat}(h:Fr E S1 I S2)(k:Fr I S2 O S3):Fr E S1 O S3 :=
 ⟨k.os.trans h.os,k.tape.trans h.tape,k.output.trans h.output,Nat.le_trans h.size k.size,fun b hb hn =>
  have h1:=h.block b hb hn;have h2:=k.block b (Nat.lt_of_lt_of_le hb h.size) h1.2
  ⟨h2.1.trans h1.1,h2.2⟩⟩
structure Own (w:World) (L:Nat→Prop) (S:List ah):Prop where
 at_:∀B∈S,JU w L B
 apart:(aq S).Nodup
structure bG (C:dL) (x:St) (a:Act) (w:World):Prop where
 defers:a.defers=C.df
 size:a.tmps.size=x.n
 env:∀t,t<x.n→cm w (live C.X x.S) (look t x.env) (a.tmps.getD t undef)
 own:Own w (live C.X x.S) x.S
 fr:Fr C.w0 C.S0 w (aq x.S)
 ex:∀b,C.X b→b<C.w0.heap.size∧b∉C.S0
 eN:∀g∈C.G,(g.1<C.w0.heap.size∧g.1∉C.S0∧¬C.X g.1)∧∀i v,g.2[i]?=some v→nP C.w0 g.1 i v
def St.put(x:St)(t:Nat)(d:D):St:=⟨x.n,(t,d)::x.env,x.S⟩
theorem bG.put{C:dL}{x:St}{a:Act}{w:World}(h:bG C x a w){t:Nat}{d:D}{v:Value}(hd:cm w (live C.X x.S) d v):bG C (x.put t d) (a.put (some t) v) w:=by
 refine⟨h.defers,by simp[Act.put,St.put,h.size],fun i hi=>?_,h.own,h.fr,h.ex,h.eN⟩;have hs:=h.size;simp only[St.put,fP,Act.put] at hi ⊢;by_cases e:t=i
 ·subst e;rw[if_pos rfl];have:(a.tmps.setIfInBounds t v).getD t undef=v:=by
   simp[Array.getElem?_setIfInBounds,hs,hi]
  rw[this];exact hd
 rw[if_neg e];have:(a.tmps.setIfInBounds t v).getD i undef=a.tmps.getD i undef:=by
  simp[Array.getElem?_setIfInBounds_ne e]
 rw[this];exact h.env i hi
def Wk(x y:St):Prop:=∀C a w,bG C x a w→bG C y a w
theorem Wk.refl(x:St):Wk x x:=fun _ _ _ h=>h
theorem Wk.trans{x y z:St}(h:Wk x y)(k:Wk y z):Wk x z:=fun C a w s=>k C a w (h C a w s)
theorem Own.sub{w:World}(h:Own w (live X S) S)(hs:S'.Sublist S):Own w (live X S') S' :=
 have E:(aq S').Sublist (aq S):=Sublist.map _ hs
 ⟨fun B I=>by
  obtain⟨h0,cur,h1,h2,h3,h4⟩:=h.at_ B (hs.subset I);refine⟨h0,cur,h1,h2,h3,fun i hi=>?_⟩;obtain⟨u,hu,hr⟩:=h4 i hi;exact⟨u,hu,hr.mono fun b _ hn=>⟨rfl,fun hl=>hn (hl.imp id fun q=>E.subset q)⟩⟩,h.apart.sublist E⟩
theorem Wk.drop(n:Nat)(l:List (Nat×D))(S S':List ah)(hs:S'.Sublist S):Wk ⟨n,l,S⟩ ⟨n,l,S'⟩:=fun C a w h =>
 have E:(aq S').Sublist (aq S):=Sublist.map _ hs
 ⟨h.defers,h.size,fun t ht=>(h.env t ht).mono fun b _ hn=>⟨rfl,fun hl=>hn (hl.imp id fun q=>E.subset q)⟩,h.own.sub hs,
  ⟨h.fr.os,h.fr.tape,h.fr.output,h.fr.size,fun b hb hn=>⟨(h.fr.block b hb hn).1,fun q=>(h.fr.block b hb hn).2 (E.subset q)⟩⟩,h.ex,h.eN⟩
theorem cm.kH{w:World}{x y:Value}(h:cm w L (.v x) y):y=x:=by cases h;rfl
def aF(x:St):Operand→D
 | .tmp t=>bif Nat.blt t x.n then look t x.env else .bV
 | .const v=>.v v
 | .global g=>.v (.pointer (some ⟨g,0,none⟩))
 | .func f=>.ey (.func f) []
theorem bG.eval{C:dL}{x:St}{a:Act}{w:World}(h:bG C x a w)(o:Operand):cm w (live C.X x.S) (aF x o) (a.eval o):=by
 cases o with
 | tmp t =>
  simp only[aF,Act.eval];cases ht:Nat.blt t x.n with
  | true=>exact h.env t (Nat.le_of_ble_eq_true ht)
  | false=>exact .bV _
 | const v=>exact .v _
 | global g=>exact .v _
 | func f=>exact .ey (.func f) [] [] rfl (fun i h=>by simp at h)
theorem bG.flat{x:St}{w:World}(h:bG C x a w){o:Operand}(ho:aF x o = .v u):a.eval o=u:=by
 have:=h.eval o;rw[ho] at this;exact this.kH
theorem bG.fw{x:St}{w:World}(h:bG C x a w)(hk:x.S[k]?=some B):JU w (live C.X x.S) B:=h.own.at_ B (mem_of_getElem? hk)
theorem Pt(hk:S[k]?=some B):live X S B.b:=.inr (mem_map.2 ⟨B,mem_of_getElem? hk,rfl⟩)
theorem bG.bz{x:St}{w:World}(h:bG C x a w){g:Nat×List Value}(hg:g∈C.G)(hi:g.2[i]?=some v):nP w g.1 i v:=by
 obtain⟨⟨h1,h2,h3⟩,h4⟩:=h.eN g hg;exact(h4 i v hi).on (h.fr.block g.1 h1 h2).1

inductive Rd where
 | none
 | fw (k:Nat)
 | jP
def Same(C:dL)(x:St)(w w':World):Rd→Prop
 | .none=>True
 | .fw k=>∀B,x.S[k]?=some B→w'.heap[B.b]?=w.heap[B.b]?
 | .jP=>∀b,b<w.heap.size→¬live C.X x.S b→w'.heap[b]?=w.heap[b]?
theorem Same.self(C:dL)(x:St)(w:World):∀k,Same C x w w k
 | .none=>trivial
 | .fw _=>fun _ _=>rfl
 | .jP=>fun _ _ _=>rfl
def bU(P:Program)(G:List (Nat×List Value))(x:St)(o:Oper)(k:Rd)(d:D):Prop :=
 ∀C a w,C.G=G→bG C x a w→∃v,cm w (live C.X x.S) d v∧∀w',Same C x w w' k→(execOp a.eval o).run P w' = .ok (.value v) w'
variable {P:Program} {G:List (Nat×List Value)} {x:St} {o:Oper}
theorem Yn(ho:o.op = .move y):bU P G x o .none (aF x y):=fun C a w _ h =>
 ⟨a.eval y,h.eval y,fun w' _=>by unfold execOp;simp[ho]⟩
theorem XK(ho:o.op = .assign y):bU P G x o .none (aF x y):=fun C a w _ h =>
 ⟨a.eval y,h.eval y,fun w' _=>by unfold execOp;simp[ho]⟩
theorem NM{c z:Operand}{t:Bool}(ho:o.op = .pick c y z)(hc:aF x c = .v (.bool t)):bU P G x o .none (if t then aF x y else aF x z):=fun C a w _ h=>by
 refine⟨if t then a.eval y else a.eval z,by cases t<;>simp[h.eval],fun w' _=>?_⟩;unfold execOp;simp only[ho,h.flat hc,asBool];cases t<;>simp
def kC(P:Program)(op:BinOp)(t:TypeId)(u u' r:Value):Prop:=∀(y z:Operand) w,(do eqGuard op t y z u u';Go.binOp op t u u':Sem Value).run P w = .ok r w
theorem c9{op:BinOp}{t':TypeId}{z:Operand}{u' r:Value}(ho:o.op = .binOp op t y z t')(hy:aF x y = .v u)(hz:aF x z = .v u')(hb:kC P op t u u' r):bU P G x o .none (.v r):=fun C a w _ h =>
 ⟨r,.v _,fun w' _=>by
  unfold execOp;have:=hb y z w';simp only[Sem.run_bind] at this;simp only[ho,h.flat hy,h.flat hz,Sem.run_bind,this,Result.andThen_ok,Sem.run_pure]⟩
theorem Ei{op:UnOp}{r:Value}(ho:o.op = .unOp op t y)(hy:aF x y = .v u)(hb:∀w,(Op.unary op u).run P w = .ok r w):bU P G x o .none (.v r):=fun C a w _ h =>
 ⟨r,.v _,fun w' _=>by
  unfold execOp;simp only[ho,h.flat hy,Sem.run_bind,hb w',Result.andThen_ok,Sem.run_pure]⟩
theorem oq{s:TypeId}{r:Value}(ho:o.op = .convert s t y)(hy:aF x y = .v u)(hb:∀w,(Go.convert s t u).run P w = .ok r w):bU P G x o .none (.v r):=fun C a w _ h =>
 ⟨r,.v _,fun w' _=>by
  unfold execOp;simp only[ho,h.flat hy,Sem.run_bind,hb w',Result.andThen_ok,Sem.run_pure]⟩
theorem Nr{s:TypeId}{f:Field}{w:World}(O:∀w,(underlying s).run P w = .ok (.struct I) w)(hf:I[i]?=some f)(hn:∀w,(sizeOf f.type).run P w = .ok (n+1) w)(E:f.offset=off) :
  (Instr.fieldAt s (.pointer (some ⟨b,o',none⟩)) i).run P w = .ok (.pointer (some ⟨b,o'+off,none⟩)) w:=by
 subst E;simp[Instr.fieldAt,O,hf,Instr.sureAddr,fieldPlace,hn,Addr.add_mid]
theorem XY {s:TypeId} {f:Field} (ho:o.op = .fieldAddr s y i) (hy:aF x y = .v (.pointer (some ⟨b,o',none⟩)))
  (O:∀w,(underlying s).run P w = .ok (.struct I) w) (hf:I[i]?=some f) (hn:∀w,(sizeOf f.type).run P w = .ok (n+1) w) (E:f.offset=off):bU P G x o .none (.v (.pointer (some ⟨b,o'+off,none⟩))):=fun C a w _ h =>
 ⟨_,.v _,fun w' _=>by
  unfold execOp;simp only[ho,h.flat hy,Sem.run_bind,Nr O hf hn E,Result.andThen_ok,Sem.run_pure]⟩
theorem XL {s:TypeId} {cs:List D} {f:Field} {O:Array Field} (ho:o.op = .fieldAddr s y i) (hy:aF x y = .fy cs o')
  (U:∀w,(underlying s).run P w = .ok (.struct O) w) (hf:O[i]?=some f) (hn:∀w,(sizeOf f.type).run P w = .ok (n+1) w) (E:f.offset=off):bU P G x o .none (.fy cs (o'+off)):=fun C a w _ h=>by
 have hr:=h.eval y;rw[hy] at hr;generalize hg:a.eval y=u at hr;cases hr with
 | fy _ _ b I g hb hL hc hr =>
  refine⟨_,.fy cs (o'+off) b I g hb hL hc hr,fun w' _=>?_⟩;unfold execOp;simp only[ho,hg,Sem.run_bind,Nr U hf hn E,Result.andThen_ok,Sem.run_pure,Nat.add_assoc]
theorem XC{cs:List D}{d:D}(ho:o.op = .extract y i)(hy:aF x y = .dG cs)(hd:cs[i]?=some d):bU P G x o .none d:=fun C a w _ h=>by
 have hr:=h.eval y;rw[hy] at hr;generalize hg:a.eval y=u at hr;cases hr with
 | dG _ vs hl hr =>
  obtain⟨aa,he⟩:=List.getElem?_eq_some_iff.1 hd;refine⟨vs[i]'w4,?_,fun w' _=>?_⟩
  ·rw[←he];exact hr _ aa w4
  unfold execOp;simp[ho,hg,Instr.extract,getElem?_eq_getElem (show i<vs.length by omega)]
theorem Hz{w:World}(ha:∀w,(isAgg t).run P w = .ok false w)(hc:w.cell? ⟨b,o',none⟩=some v) :
  (Instr.loadAt t (.pointer (some ⟨b,o',none⟩))).run P w = .ok v w:=by
 simp[Instr.loadAt,Instr.sureAddr,loadVar,ha,hc]
theorem HA {vs:List Value} {w:World} (ha:∀w,(isAgg t).run P w = .ok true w) (hn:∀w,(sizeOf t).run P w = .ok n w) (hl:vs.length=n)
  (hc:∀j (h:j<vs.length),w.cell? ⟨b,o'+j,none⟩=some vs[j]) :
  (Instr.loadAt t (.pointer (some ⟨b,o',none⟩))).run P w = .ok (.agg vs.toArray) w:=by
 have:=run_loadCells_list (P:=P) w ⟨b,o',none⟩ vs (fun j v E=>by
  obtain⟨h1,h2⟩:=List.getElem?_eq_some_iff.1 E;rw[Addr.add_mid,hc j h1,h2])
 rw[hl] at this;simp[Instr.loadAt,Instr.sureAddr,loadVar,ha,hn,this]
theorem nN{w:World}(E:w.heap[b]?=some (.cells cur e (0,0)))(I:cur[i]?=some u):w.cell? ⟨b,i,none⟩=some u:=by
 unfold World.cell?;simp[E,I]
theorem DO {d:D} (ho:o.op = .load t y) (hy:aF x y = .v (.pointer (some ⟨b,o',none⟩)))
  (hk:x.S[k]?=some B) (hb:B.b=b) (ha:∀w,(isAgg t).run P w = .ok false w) (hd:B.cs[o']?=some d) (hne:isMap B.e=false:=by rfl):bU P G x o (.fw k) d:=fun C a w _ h=>by
 obtain⟨_,cur,h1,h2,h3,h4⟩:=h.fw hk;rw[j6 hne] at h1;obtain⟨aa,he⟩:=List.getElem?_eq_some_iff.1 hd;obtain⟨u,hu,hr⟩:=h4 o' aa;refine⟨u,by rw[←he];exact hr,fun w' hw=>?_⟩;have E:w'.heap[B.b]?=_:=(hw B hk).trans h1;unfold execOp;subst hb;simp only[ho,h.flat hy,Sem.run_bind,Hz ha (nN E hu),Result.andThen_ok,Sem.run_pure]
theorem Ay (ho:o.op = .load t y) (hy:aF x y = .v (.pointer (some ⟨b,o',none⟩)))
  (hk:x.S[k]?=some B) (hb:B.b=b) (ha:∀w,(isAgg t).run P w = .ok true w) (hn:∀w,(sizeOf t).run P w = .ok n w) (hl:ds.length=n) (hd:(B.cs.drop o').take n=ds) (hne:isMap B.e=false:=by rfl):bU P G x o (.fw k) (.agg ds):=fun C a w _ h=>by
 obtain⟨_,cur,h1,h2,h3,h4⟩:=h.fw hk;rw[j6 hne] at h1;have hlen:o'+n≤B.cs.length∨n=0:=by
  have:=congrArg length hd;simp only[length_take,length_drop] at this;omega
 have E:∀j,j<n→∃u,cur[o'+j]?=some u∧∀(h:j<ds.length),cm w (live C.X x.S) ds[j] u:=fun j hj=>by
  obtain⟨u,hu,hr⟩:=h4 (o'+j) w4;refine⟨u,hu,fun h=>?_⟩;subst hd;simpa using hr
 refine⟨.agg ((range n).map fun j=>cur.getD (o'+j) undef).toArray,.agg _ _ (by simp[hl]) (fun i q1 q2=>?_),fun w' hw=>?_⟩
 ·obtain⟨u,hu,hr⟩:=E i w4;simp only[getElem_map,getElem_range,Array.getD_eq_getD_getElem?,hu,Option.getD_some];exact hr q1
 have I:w'.heap[B.b]?=_:=(hw B hk).trans h1;unfold execOp;subst hb;have:=HA (P:=P) (w:=w') (b:=B.b) (o':=o') (vs:=(range n).map fun j=>cur.getD (o'+j) undef) ha hn bu (fun j hj=>by
  simp only[length_map,length_range] at hj;obtain⟨u,hu,_⟩:=E j hj;simp only[getElem_map,getElem_range,Array.getD_eq_getD_getElem?,hu,Option.getD_some];exact nN I hu)
 simp only[ho,h.flat hy,Sem.run_bind,this,Result.andThen_ok,Sem.run_pure]
theorem DM {cs:List D} {d:D} (ho:o.op = .load t y) (hy:aF x y = .fy cs o')
  (ha:∀w,(isAgg t).run P w = .ok false w) (hd:cs[o']?=some d):bU P G x o .jP d:=fun C a w _ h=>by
 have hr:=h.eval y;rw[hy] at hr;generalize hg:a.eval y=u at hr;cases hr with
 | fy _ _ b E g hb hL hc hr =>
  obtain⟨aa,he⟩:=List.getElem?_eq_some_iff.1 hd;refine⟨g o',by rw[←he];exact hr o' aa,fun w' hw=>?_⟩;have I:=World.cell?_of_block (w:=w) (a:=⟨b,E+o',none⟩) (hw b hb hL);unfold execOp;simp only[ho,hg,Sem.run_bind,Hz ha (I.trans (hc o' aa)),Result.andThen_ok,Sem.run_pure]
theorem G8 {cs:List D} (ho:o.op = .load t y) (hy:aF x y = .fy cs o')
  (ha:∀w,(isAgg t).run P w = .ok true w) (hn:∀w,(sizeOf t).run P w = .ok n w) (hl:ds.length=n) (hd:(cs.drop o').take n=ds):bU P G x o .jP (.agg ds):=fun C a w _ h=>by
 have hr:=h.eval y;rw[hy] at hr;generalize hg:a.eval y=u at hr;cases hr with
 | fy _ _ b E g hb hL hc hr =>
  have hlen:o'+n≤cs.length∨n=0:=by
   have:=congrArg length hd;simp only[length_take,length_drop] at this;omega
  refine⟨.agg ((range n).map fun j=>g (o'+j)).toArray,.agg _ _ (by simp[hl]) (fun i q1 q2=>?_),fun w' hw=>?_⟩
  ·simp only[getElem_map,getElem_range];have:=hr (o'+i) w4;subst hd;simpa using this
  have:=HA (P:=P) (w:=w') (b:=b) (o':=E+o') (vs:=(range n).map fun j=>g (o'+j)) ha hn bu (fun j hj=>by
   simp only[length_map,length_range] at hj;simp only[getElem_map,getElem_range];have I:=World.cell?_of_block (w:=w) (a:=⟨b,E+o'+j,none⟩) (hw b hb hL);rw[I,Nat.add_assoc];exact hc _ w4)
  unfold execOp;simp only[ho,hg,Sem.run_bind,this,Result.andThen_ok,Sem.run_pure]
theorem XZ {vs:List Value} (ho:o.op = .load t y) (hy:aF x y = .v (.pointer (some ⟨b,o',none⟩)))
  (hg:(b,vs)∈G) (ha:∀w,(isAgg t).run P w = .ok false w) (hd:vs[o']?=some v) (qt:qK v=true:=by rfl):bU P G x o .jP (.v v):=fun C a w hG h=>by
 subst hG;refine⟨v,.v _,fun w' hw=>?_⟩;have h1:=(h.bz hg hd).cell qt;obtain⟨⟨q1,q2,E⟩,_⟩:=h.eN _ hg;have hb:b<w.heap.size:=Nat.lt_of_lt_of_le q1 h.fr.size;have hn:¬live C.X x.S b:=fun hl=>hl.elim E (h.fr.block b q1 q2).2;have I:=World.cell?_of_block (w:=w) (a:=⟨b,o',none⟩) (hw b hb hn);unfold execOp;simp only[ho,h.flat hy,Sem.run_bind,Hz ha (I.trans h1),Result.andThen_ok,Sem.run_pure]

theorem QZ{len:Nat}{k:IntKind}{i:Int}{w:World}(E:∀w,(underlying t).run P w = .ok (.slice e) w)(hs:∀w,(sizeOf e).run P w = .ok sz w)(hi:i=j)(hj:j<len) :
  (Instr.indexAt t (.slice (some ⟨b,o',none⟩) len cap) (.int k i)).run P w = .ok (.pointer (some ⟨b,o'+j*sz,none⟩)) w:=by
 subst hi;simp[Instr.indexAt,asIntOf,E,hs,hj,Addr.add_mid]
theorem Oe {len:Nat} {cs:List D} {k:IntKind} {i:Int} {z:Operand} (ho:o.op = .indexAddr t y z) (hy:aF x y = .list sz cs len) (hz:aF x z = .v (.int k i))
  (I:∀w,(underlying t).run P w = .ok (.slice e) w) (hs:∀w,(sizeOf e).run P w = .ok sz w) (hi:i=j) (hj:j<len):bU P G x o .none (.fy cs (j*sz)):=fun C a w _ h=>by
 have hr:=h.eval y;rw[hy] at hr;generalize hg:a.eval y=u at hr;cases hr with
 | l6=>omega
 | list _ _ _ b E cap g hl h1 h2 hb hL hc hr =>
  refine⟨_,.fy cs (j*sz) b E g hb hL hc hr,fun w' _=>?_⟩;unfold execOp;simp only[ho,hg,h.flat hz,Sem.run_bind,QZ I hs hi hj,Result.andThen_ok,Sem.run_pure]
theorem NN {len:Nat} {k:IntKind} {i:Int} {z:Operand} (ho:o.op = .indexAddr t y z) (hy:aF x y = .v (.slice (some ⟨b,o',none⟩) len cap)) (hz:aF x z = .v (.int k i))
  (E:∀w,(underlying t).run P w = .ok (.slice e) w) (hs:∀w,(sizeOf e).run P w = .ok sz w) (hi:i=j) (hj:j<len):bU P G x o .none (.v (.pointer (some ⟨b,o'+j*sz,none⟩))):=fun C a w _ h =>
 ⟨_,.v _,fun w' _=>by
  unfold execOp;simp only[ho,h.flat hy,h.flat hz,Sem.run_bind,QZ E hs hi hj,Result.andThen_ok,Sem.run_pure]⟩
theorem aaJ{len:Nat}{k:IntKind}{i:Int}{w:World}(E:∀w,(underlying t).run P w = .ok (.array len e) w)(hs:∀w,(sizeOf e).run P w = .ok sz w)(hi:i=j)(hj:j<len) :
  (Instr.indexAt t (.pointer (some ⟨b,o',none⟩)) (.int k i)).run P w = .ok (.pointer (some ⟨b,o'+j*sz,none⟩)) w:=by
 subst hi;simp[Instr.indexAt,asIntOf,E,hs,hj,Addr.add_mid,Instr.sureAddr]
theorem Yo {len:Nat} {k:IntKind} {i:Int} {z:Operand} (ho:o.op = .indexAddr t y z) (hy:aF x y = .v (.pointer (some ⟨b,o',none⟩))) (hz:aF x z = .v (.int k i))
  (E:∀w,(underlying t).run P w = .ok (.array len e) w) (hs:∀w,(sizeOf e).run P w = .ok sz w) (hi:i=j) (hj:j<len):bU P G x o .none (.v (.pointer (some ⟨b,o'+j*sz,none⟩))):=fun C a w _ h =>
 ⟨_,.v _,fun w' _=>by
  unfold execOp;simp only[ho,h.flat hy,h.flat hz,Sem.run_bind,aaJ E hs hi hj,Result.andThen_ok,Sem.run_pure]⟩
theorem Hp {s:ByteArray} {c:UInt8} {k:IntKind} {i:Int} {z:Operand} (ho:o.op = .index t y z) (hy:aF x y = .v (.string s)) (hz:aF x z = .v (.int k i))
  (E:∀w,(underlying t).run P w = .ok .string w) (hi:i=j) (hj:s[j]?=some c):bU P G x o .none (.v (.int .u8 c.toNat)):=fun C a w _ h =>
 ⟨_,.v _,fun w' _=>by
  subst hi;unfold execOp;simp[ho,h.flat hy,h.flat hz,Instr.index,asIntOf,E,hj]⟩
theorem Yp {len:Nat} {cs:List D} {d:D} {k:IntKind} {i:Int} {z:Operand} (ho:o.op = .index t y z) (hy:aF x y = .agg cs) (hz:aF x z = .v (.int k i))
  (E:∀w,(underlying t).run P w = .ok (.array len e) w) (hs:∀w,(sizeOf e).run P w = .ok sz w) (ha:∀w,(isAgg e).run P w = .ok false w) (hi:i=j) (hj:j<len) (hd:cs[j*sz]?=some d):bU P G x o .none d:=fun C a w _ h=>by
 have hr:=h.eval y;rw[hy] at hr;generalize hg:a.eval y=u at hr;subst hi;cases hr with
 | agg _ vs hl hr =>
  obtain⟨aa,he⟩:=List.getElem?_eq_some_iff.1 hd;refine⟨vs[j*sz]'w4,?_,fun w' _=>?_⟩
  ·rw[←he];exact hr _ aa w4
  unfold execOp;simp[ho,hg,h.flat hz,Instr.index,asIntOf,E,hj,part,ha,hs,getElem?_eq_getElem (show j*sz<vs.length by omega)]
def mw(x:St)(y:Option Operand)(n:Nat)(ag9:Nat):Prop :=
 match y with
 | some y=>∃(k:IntKind) (i:Int),aF x y = .v (.int k i)∧i=n
 | none=>n=ag9
theorem rM{w:World}(h:bG C x a w){y:Option Operand}{E:Nat}(hb:mw x y n E):(∃k,y.map a.eval=some (.int k n))∨(y.map a.eval=none∧n=E):=by
 cases y with
 | none=>exact .inr ⟨rfl,hb⟩
 | some y =>
  obtain⟨k,i,h1,h2⟩:=hb;exact .inl ⟨k,by rw[Option.map_some,h.flat h1,h2]⟩
theorem DP{k:IntKind}{code:BoundsCode}{w:World}(h:n≤m):(Instr.sliceBound (.int k n) m code).run P w = .ok n w:=by
 unfold Instr.sliceBound;simp[asIntOf,h]
theorem vF{il:Bool}{len l h:Nat}{lo hi:Option Value}{w:World}(eR:(∃k,lo=some (.int k l))∨(lo=none∧l=0))(ez:(∃k,hi=some (.int k h))∨(hi=none∧h=len))(h1:l≤h)(h2:h≤cap) :
  (Instr.sliceBounds il len cap lo hi none).run P w = .ok (l,h,cap) w:=by
 unfold Instr.sliceBounds;rcases eR with ⟨k,rfl⟩|⟨rfl,rfl⟩<;>rcases ez with ⟨k',rfl⟩|⟨rfl,rfl⟩<;>simp[DP,h1,h2]
theorem Hf {len l:Nat} {cs:List D} (ho:o.op = .slice t y lo hi none) (hy:aF x y = .list sz cs len) (eR:mw x lo l 0) (ez:mw x hi h' len)
  (U:∀w,(underlying t).run P w = .ok (.slice e) w) (hs:∀w,(sizeOf e).run P w = .ok sz w) (h1:l≤h') (h2:h'≤len):bU P G x o .none (.list sz ((cs.drop (l*sz)).take ((h'-l)*sz)) (h'-l)):=fun C a w _ h=>by
 have hr:=h.eval y;rw[hy] at hr;generalize hg:a.eval y=u at hr;have b1:=rM h eR;have b2:=rM h ez;cases hr with
 | l6 _ ad cap =>
  have e1:l=0:=(by omega)
  have e2:h'=0:=(by omega)
  subst e1 e2;refine⟨.slice (if cap=0 then ad else ad.map (·.add (0*sz))) 0 cap,by simpa using cm.l6 sz _ _,fun w' _=>?_⟩;unfold execOp;simp[ho,hg,Instr.sliceAt,Instr.slice,U,vF b1 b2 (Nat.le_refl _) (Nat.zero_le _),hs]
 | list _ _ _ b E cap g hl q1 q2 hb hL hc hr =>
  have hlen:((cs.drop (l*sz)).take ((h'-l)*sz)).length=(h'-l)*sz:=by
   rw[length_take,length_drop,hl,←Nat.sub_mul];exact Nat.min_eq_left (Nat.mul_le_mul_right _ w4)
  have O:∀i,i<(h'-l)*sz→l*sz+i<cs.length:=fun i hi=>by
   rw[hl];have:l*sz+(h'-l)*sz≤len*sz:=(by rw[←Nat.add_mul];exact Nat.mul_le_mul_right _ w4)
   omega
  by_cases I:cap=l
  ·have e2:h'=l:=(by omega)
   refine⟨.slice (some ⟨b,E,none⟩) (h'-l) (cap-l),?_,fun w' _=>?_⟩
   ·refine .list sz _ _ b E _ g hlen w4 w4 hb hL (fun i hi=>?_) (fun i hi=>?_)<;>(rw[hlen,e2] at hi;simp at hi)
   have b3:=fun w=>vF (P:=P) (il:=true) (w:=w) b1 b2 h1 (Nat.le_trans h2 q1);unfold execOp;simp only[ho,hg,Instr.sliceAt,Instr.slice,U,Sem.run_bind,Result.andThen_ok,Option.map_none,b3,hs,Sem.run_pure,if_pos I]
  refine⟨.slice (some ⟨b,E+l*sz,none⟩) (h'-l) (cap-l),?_,fun w' _=>?_⟩
  ·refine .list sz _ _ b (E+l*sz) _ (fun i=>g (l*sz+i)) hlen w4 w4 hb hL (fun i hi=>?_) (fun i hi=>?_)
   ·rw[Nat.add_assoc];exact hc _ (O i (by rw[hlen] at hi;exact hi))
   simp only[getElem_take,getElem_drop];exact hr _ _
  have b3:=fun w=>vF (P:=P) (il:=true) (w:=w) b1 b2 h1 (Nat.le_trans h2 q1);unfold execOp;simp only[ho,hg,Instr.sliceAt,Instr.slice,U,Sem.run_bind,Result.andThen_ok,Option.map_none,b3,hs,Sem.run_pure,if_neg I,Option.map_some,Addr.add_mid]
theorem Nz {len:Nat} (ho:o.op = .slice t y lo hi none) (hy:aF x y = .v (.slice (some ⟨b,o',none⟩) len cap)) (eR:mw x lo 0 0) (ez:mw x hi h' len)
  (E:∀w,(underlying t).run P w = .ok (.slice e) w) (hs:∀w,(sizeOf e).run P w = .ok sz w) (h2:h'≤cap):bU P G x o .none (.v (.slice (some ⟨b,o',none⟩) h' cap)):=fun C a w _ h =>
 ⟨_,.v _,fun w' _=>by
  have b1:=rM h eR;have b2:=rM h ez;unfold execOp;simp[ho,h.flat hy,Instr.sliceAt,Instr.slice,E,vF b1 b2 (Nat.zero_le _) h2,hs,Addr.add_mid]⟩
theorem XM {s:ByteArray} {l:Nat} (ho:o.op = .slice t y lo hi none) (hy:aF x y = .v (.string s)) (eR:mw x lo l 0) (ez:mw x hi h' s.size)
  (E:∀w,(underlying t).run P w = .ok .string w) (h1:l≤h') (h2:h'≤s.size):bU P G x o .none (.v (.string (s.extract l h'))):=fun C a w _ h =>
 ⟨_,.v _,fun w' _=>by
  have b1:=rM h eR;have b2:=rM h ez;unfold execOp;simp[ho,h.flat hy,Instr.sliceAt,Instr.slice,E,vF b1 b2 h1 h2]⟩
theorem Ze{len:Nat}{cs:List D}(ho:o.op = .call {callee:=.builtin .len,args:=#[y],argTypes:=ts})(ht:ts = #[t])(hy:aF x y = .list sz cs len)(E:∀w,(underlying t).run P w = .ok (.slice e) w):bU P G x o .none (.v (.int .i64 len)):=fun C a w _ h=>by
 have hr:=h.eval y;rw[hy] at hr;generalize hg:a.eval y=u at hr;subst ht;refine⟨_,.v _,fun w' _=>?_⟩;cases hr<;>(unfold execOp;simp[ho,hg,resolve,invoke,builtin,Builtin.len_,E,goInt])
theorem NQ{len:Nat}(ho:o.op = .call {callee:=.builtin .len,args:=#[y],argTypes:=ts})(ht:ts = #[t])(hy:aF x y = .v (.slice ad len cap))(E:∀w,(underlying t).run P w = .ok (.slice e) w):bU P G x o .none (.v (.int .i64 len)):=fun C a w _ h=>by
 subst ht;refine⟨_,.v _,fun w' _=>?_⟩;unfold execOp;simp[ho,h.flat hy,resolve,invoke,builtin,Builtin.len_,E,goInt]
theorem DQ {s:ByteArray} (ho:o.op = .call {callee:=.builtin .len,args:=#[y],argTypes:=ts}) (ht:ts = #[t]) (hy:aF x y = .v (.string s))
  (E:∀w,(underlying t).run P w = .ok .string w):bU P G x o .none (.v (.int .i64 s.size)):=fun C a w _ h=>by
 subst ht;refine⟨_,.v _,fun w' _=>?_⟩;unfold execOp;simp[ho,h.flat hy,resolve,invoke,builtin,Builtin.len_,E,goInt]
theorem XN {b:Builtin} {u' r:Value} {z:Operand} (ho:o.op = .call {callee:=.builtin b,args:=#[y,z],argTypes:=ts}) (hy:aF x y = .v u) (hz:aF x z = .v u')
  (hb:∀cs w,(Go.builtin b ts o.type cs #[u,u']).run P w = .ok (.value r) w):bU P G x o .none (.v r):=fun C a w _ h =>
 ⟨_,.v _,fun w' _=>by
  unfold execOp;simp[ho,h.flat hy,h.flat hz,resolve,invoke,hb]⟩
theorem Yq{fn:Fn}{E:Array Operand}(ho:o.op = .makeFunc fn #[] E)(hd:E.toList.map (aF x)=ds):bU P G x o .none (.ey fn ds):=fun C a w _ h=>by
 subst hd;refine⟨.func fn #[] (E.toList.map a.eval).toArray,.ey _ _ _ bu (fun i q1 q2=>?_),fun w' _=>?_⟩
 ·simp only[getElem_map];exact h.eval _
 unfold execOp;simp[ho,Instr.makeFunc];rw[←Array.toList_map,Array.toArray_toList]
def lQ(W:List Nat)(w w':World):Prop:=w.heap.size≤w'.heap.size∧∀b,b<w.heap.size→b∉W→w'.heap[b]?=w.heap[b]?
def fK(P:Program)(G:List (Nat×List Value))(x:St)(o:Oper)(W:List Nat)(post:St→Prop):Prop :=
 ∀(C:dL) (a:Act) (w:World) (K:Act→World→Prop) (Q:Exit→Act→World→Prop),C.G=G→bG C x a w→(∀y a' w',post y→bG C y a' w'→lQ W w w'→Fr w (aq x.S) w' (aq y.S)→K a' w')→o.wp P a w K Q
theorem lQ.refl(W:List Nat)(w:World):lQ W w w:=⟨Nat.le_refl _,fun _ _ _=>rfl⟩
theorem bU.fS{k:Rd}{d:D}{t:Nat}(h:bU P G x o k d)(hd:o.dst=some t):fK P G x o [] (fun y=>y=x.put t d):=fun C a w K Q hG hs hK=>by
 obtain⟨v,hr,ny⟩:=h C a w hG hs;unfold Oper.wp;rw[ny w (Same.self C x w k),Oper.upon_value,hd];exact hK _ _ _ rfl (hs.put hr) (lQ.refl _ _) (Fr.refl _ _)
def cellsOf:D→List D
 | .agg cs=>cs
 | .v (.agg cs)=>cs.toList.map .v
 | d=>[d]
def cL(w:World)(L:Nat→Prop)(ds:List D)(vs:List Value):Prop:=vs.length=ds.length∧∀i (h:i<ds.length) (h':i<vs.length),cm w L ds[i] vs[i]
theorem cL.mono{w w':World}{L E:Nat→Prop}{ds:List D}{vs:List Value}(h:cL w L ds vs)(H:∀b,b<w.heap.size→¬L b→w'.heap[b]?=w.heap[b]?∧¬E b):cL w' E ds vs :=
 ⟨h.1,fun i h1 h2=>(h.2 i h1 h2).mono H⟩
def one:D→Bool
 | .v x=>x.oneCell'
 | .list ..|.fy ..|.ey ..=>true
 | _=>false
theorem cm.AO{w:World}{d:D}(h:cm w L d v)(hd:one d=true):v.oneCell'=true:=by
 cases h<;>first|exact hd|rfl|exact absurd hd (by simp[one])
theorem cm.cells{w:World}{L:Nat→Prop}{d:D}{v:Value}(h:cm w L d v)(hd:d≠.bV):cL w L (cellsOf d) v.cells.toList:=by
 have E:∀(d:D) (v:Value),v.cells = #[v]→cellsOf d=[d]→cm w L d v→cL w L (cellsOf d) v.cells.toList:=fun d v h1 h2 h3=>by
  rw[h1,h2];refine⟨rfl,fun i q1 q2=>?_⟩;have:i=0:=(by simpa using q1)
  subst this;exact h3
 cases h with
 | v =>
  cases v with
  | agg cs =>
   refine⟨by simp[cellsOf,Value.cells],fun i q1 q2=>?_⟩;simp only[cellsOf,getElem_map,Value.cells];exact .v _
  | _=>exact E _ _ rfl rfl (.v _)
 | l6 sz ad cap=>exact E _ _ rfl rfl (.l6 sz ad cap)
 | list sz cs len b o cap f hl h1 h2 hb hL hc hr=>exact E _ _ rfl rfl (.list sz cs len b o cap f hl h1 h2 hb hL hc hr)
 | fy cs off b o f hb hL hc hr=>exact E _ _ rfl rfl (.fy cs off b o f hb hL hc hr)
 | agg cs vs hl hr=>exact⟨by simp[cellsOf,Value.cells,hl],fun i q1 q2=>hr i q1 q2⟩
 | dG cs vs hl hr=>exact E _ _ rfl rfl (.dG cs vs hl hr)
 | ey fn cs vs hl hr=>exact E _ _ rfl rfl (.ey fn cs vs hl hr)
 | jZ l os h=>exact E _ _ rfl rfl (.jZ l os h)
 | bV=>exact absurd rfl hd
theorem getElem?_push_lt{w:World}{ob:Obj}(h:b<w.heap.size):(w.alloc ob).heap[b]?=w.heap[b]?:=Below.heap_alloc w ob b h
theorem bG.TB {w:World} (h:bG C x a w) {t:Nat} {cells:Array Value} {size:Nat} (hr:cL w (live C.X x.S) ds cells.toList) (O:cells.size=size) {d:D}
  (hd:∀L,cm (w.alloc (ob e cells)) L d v) :
  bG C ⟨x.n,(t,d)::x.env,⟨w.heap.size,e,size,ds⟩::x.S⟩ (a.put (some t) v) (w.alloc (ob e cells)):=by
 have aa:∀b,live C.X x.S b→b<w.heap.size:=fun b hb=>by
  rcases hb with hb|hb
  ·exact Nat.lt_of_lt_of_le (h.ex b hb).1 h.fr.size
  obtain⟨B,I,rfl⟩:=mem_map.1 hb;exact(h.own.at_ B I).1
 have H:∀b,b<w.heap.size→¬live C.X x.S b→(w.alloc (ob e cells)).heap[b]?=w.heap[b]?∧¬live C.X (⟨w.heap.size,e,size,ds⟩::x.S) b:=fun b hb hn =>
  ⟨getElem?_push_lt hb,fun hl=>by
   rcases hl with hl|hl
   ·exact hn (.inl hl)
   simp only[aq,map_cons,mem_cons] at hl;rcases hl with hl|hl
   ·omega
   exact hn (.inr hl)⟩
 have base:bG C ⟨x.n,x.env,⟨w.heap.size,e,size,ds⟩::x.S⟩ a (w.alloc (ob e cells)):=by
  refine⟨h.defers,h.size,fun t ht=>(h.env t ht).mono H,⟨fun B I=>?_,?_⟩,?_,h.ex,h.eN⟩
  ·rcases mem_cons.1 I with rfl|I
   ·refine⟨by simp,cells,heap_alloc_new w _,O,?_,fun i hi=>?_⟩
    ·have:=hr.1;simp at this;simp only;omega
    have E:i<cells.toList.length:=(by rw[hr.1];exact hi)
    refine⟨cells.toList[i],?_,(hr.2 i hi E).mono H⟩;simp at E;simp[E]
   obtain⟨h0,cur,h1,h2,h3,h4⟩:=h.own.at_ B I;refine⟨by simp;omega,cur,(getElem?_push_lt h0).trans h1,h2,h3,fun i hi=>?_⟩;obtain⟨u,hu,hq⟩:=h4 i hi;exact⟨u,hu,hq.mono H⟩
  ·show(w.heap.size::aq x.S).Nodup;exact nodup_cons.2 ⟨fun hm=>Nat.lt_irrefl _ (aa _ (.inr hm)),h.own.apart⟩
  refine⟨h.fr.os,h.fr.tape,h.fr.output,by simp;have:=h.fr.size;omega,fun b hb hn=>?_⟩;obtain⟨q1,q2⟩:=h.fr.block b hb hn;have U:=Nat.lt_of_lt_of_le hb h.fr.size;refine⟨(getElem?_push_lt U).trans q1,fun hm=>?_⟩;simp only[aq,map_cons,mem_cons] at hm;rcases hm with hm|hm
  ·omega
  exact q2 hm
 exact base.put (hd _)
theorem bG.new {w:World} (h:bG C x a w) {t:Nat} {cells:Array Value} {size:Nat} (hr:cL w (live C.X x.S) ds cells.toList) (E:cells.size=size) {d:D}
  (hd:∀L,cm (w.alloc (.cells cells e)) L d v) (hne:isMap e=false:=by rfl) :
  bG C ⟨x.n,(t,d)::x.env,⟨w.heap.size,e,size,ds⟩::x.S⟩ (a.put (some t) v) (w.alloc (.cells cells e)):=by
 have:=bG.TB h (e:=e) hr E (t:=t) (d:=d) (v:=v) (fun L=>by rw[j6 hne];exact hd L);rw[j6 hne] at this;exact this
theorem lQ.alloc(w:World)(ob:Obj):lQ [] w (w.alloc ob):=⟨by simp,fun b hb _=>getElem?_push_lt hb⟩
theorem Fr.alloc(w:World)(ob:Obj)(S:List Nat):Fr w S (w.alloc ob) (w.heap.size::S) :=
 ⟨rfl,rfl,rfl,by simp,fun b hb hn=>⟨getElem?_push_lt hb,fun hm=>by
  rcases mem_cons.1 hm with hm|hm
  ·omega
  exact hn hm⟩⟩
def v7(x:St)(t:Nat)(e:TypeId)(ds:List D)(y:St):Prop:=∃b,y=⟨x.n,(t,.v (.pointer (some ⟨b,0,none⟩)))::x.env,⟨b,e,ds.length,ds⟩::x.S⟩
theorem AF{z:Value}{t:Nat}(ho:o.op = .alloc e)(hd:o.dst=some t)(hz:∀w,(zeroValue e).run P w = .ok z w)(js:z.cells.toList.map .v=ds)(hne:isMap e=false:=by rfl):fK P G x o [] (v7 x t e ds):=fun C a w K Q hG h hK=>by
 subst js;unfold Oper.wp;have:(execOp a.eval o).run P w = .ok (.value (.pointer (some ⟨w.heap.size,0,none⟩))) (w.alloc (.cells z.cells e)):=by
  unfold execOp;simp[ho,Instr.alloc,hz,newVar,newRow]
 rw[this,Oper.upon_value,hd];refine hK _ _ _ ⟨w.heap.size,rfl⟩ (h.new (ds:=z.cells.toList.map .v) ⟨by simp,fun i q1 q2=>?_⟩ bu (fun L=>.v _) hne) (lQ.alloc _ _) (Fr.alloc _ _ _);simp only[getElem_map];exact .v _
theorem aco{t:Nat}{d:D}(ho:o.op = .box e y)(hd:o.dst=some t)(hy:aF x y=d)(hj:d≠.bV)(js:cellsOf d=ds)(hne:isMap e=false:=by rfl):fK P G x o [] (v7 x t e ds):=fun C a w K Q hG h hK=>by
 subst js;unfold Oper.wp;have:(execOp a.eval o).run P w = .ok (.value (.pointer (some ⟨w.heap.size,0,none⟩))) (w.alloc (.cells (a.eval y).cells e)):=by
  unfold execOp;simp[ho,Instr.box,newVar,newRow]
 rw[this,Oper.upon_value,hd];have hr:=h.eval y;rw[hy] at hr;have hc:=hr.cells hj;refine hK _ _ _ ⟨w.heap.size,rfl⟩ (h.new (ds:=cellsOf d) hc (by have:=hc.1;simpa using this) (fun L=>.v _) hne) (lQ.alloc _ _) (Fr.alloc _ _ _)

def dc(cs:List D)(off:Nat):List D→List D
 | []=>cs
 | d::r=>dc (cs.set off d) (off+1) r
def lZ(place:Nat→Option (Nat×Nat))(cells:List D):List (Nat×D)→Option (List D)
 | []=>some cells
 | (i,d)::rest =>
  match place i with
  | none=>none
  | some (off,size)=>if (cellsOf d).length≠size||off+(cellsOf d).length>cells.length then none else lZ place (dc cells off (cellsOf d)) rest
theorem cL.set{w:World}{L:Nat→Prop}{ds:List D}{vs:List Value}(h:cL w L ds vs)(i:Nat){d:D}{v:Value}(hd:cm w L d v):cL w L (ds.set i d) (vs.set i v) :=
 ⟨by simp[h.1],fun j h1 h2=>by
  rw[getElem_set,getElem_set];split
  ·exact hd
  exact h.2 j _ _⟩
theorem cL.tail{w:World}{d:D}{vs:List Value}(h:cL w L (d::ds) (v::vs)):cm w L d v∧cL w L ds vs :=
 ⟨h.2 0 bu bu,by simpa using h.1,fun i h1 h2=>h.2 (i+1) (by simpa using h1) (by simpa using h2)⟩
theorem HB{β:Type}(f:β→Value→Nat→β):∀(r:List Value) (k:Nat) (z:β),(r.zipIdx (k+1)).foldl (fun c (x:Value×Nat)=>f c x.1 x.2) z=(r.zipIdx k).foldl (fun c (x:Value×Nat)=>f c x.1 (x.2+1)) z
 | [],_,_=>rfl
 | v::r,k,z=>by
  simp only[zipIdx_cons,foldl_cons];exact HB f r (k+1) _
theorem cL.dc{w:World}{L:Nat→Prop}:∀(ds:List D) (vs:List Value) (cs:List D) (cells:List Value) (off:Nat),cL w L ds vs→cL w L cs cells→cL w L (dc cs off ds) (vs.zipIdx.foldl (fun cs (c,j)=>cs.set (off+j) c) cells)
 | [],[],cs,cells,off,_,h=>h
 | [],_::_,_,_,_,h,_=>by simp[cL] at h
 | _::_,[],_,_,_,h,_=>by simp[cL] at h
 | d::ds,v::vs,cs,cells,off,h,hc=>by
  obtain⟨h0,h1⟩:=h.tail;have E:=cL.dc ds vs (cs.set off d) (cells.set off v) (off+1) h1 (hc.set off h0);have e:(v::vs).zipIdx.foldl (fun cs (x:Value×Nat)=>cs.set (off+x.2) x.1) cells=vs.zipIdx.foldl (fun cs (x:Value×Nat)=>cs.set (off+1+x.2) x.1) (cells.set off v):=by
   rw[zipIdx_cons,foldl_cons,Nat.add_zero,HB (fun (c:List Value) v n=>c.set (off+n) v)];congr 1;funext a b;rw[Nat.add_assoc,Nat.add_comm 1]
  rw[e];exact E
theorem DY:∀(l:List (Value×Nat)) (cells:Array Value) (off:Nat),(l.foldl (fun cs (x:Value×Nat)=>cs.setIfInBounds (off+x.2) x.1) cells).toList=l.foldl (fun cs (x:Value×Nat)=>cs.set (off+x.2) x.1) cells.toList
 | [],_,_=>rfl
 | (v,j)::l,cells,off=>by
  simp only[foldl_cons];rw[DY l];simp
theorem Ej{w:World}{L:Nat→Prop}(place:Nat→Option (Nat×Nat)):∀(E:List (Nat×D)) (r8:List (Nat×Value)) (cs:List D) (cells:Array Value) (ds:List D),
  E.length=r8.length→(∀i (h:i<E.length) (h':i<r8.length),E[i].1=r8[i].1∧E[i].2≠.bV∧cm w L E[i].2 r8[i].2)→cL w L cs cells.toList→lZ place cs E=some ds →
  ∃I,Instr.fill place cells r8=some I∧cL w L ds I.toList
 | [],[],cs,cells,ds,_,_,hc,hf=>by
  simp only[lZ,Option.some.injEq] at hf;subst hf;exact⟨cells,rfl,hc⟩
 | [],_::_,_,_,_,h,_,_,_=>by simp at h
 | _::_,[],_,_,_,h,_,_,_=>by simp at h
 | (i,d)::E,(j,v)::r8,cs,cells,ds,hl,hp,hc,hf=>by
  obtain⟨h1,h2,h3⟩:=hp 0 bu bu;simp only[getElem_cons_zero] at h1 h2 h3;subst h1;have O:=h3.cells h2;have U:v.cells.size=(cellsOf d).length:=(by have:=O.1;simpa using this)
  have Z:cells.size=cs.length:=(by have:=hc.1;simpa using this)
  unfold lZ at hf;unfold Instr.fill;cases fJ:place i with
  | none=>rw[fJ] at hf;simp at hf
  | some os =>
   obtain⟨off,size⟩:=os;simp only[fJ] at hf ⊢;rw[U,Z];split at hf
   ·cases hf
   rename_i hn;rw[if_neg hn];refine Ej place E r8 _ _ ds xq (fun i h h'=>hp (i+1) oL (by simpa using h')) ?_ hf;have:=cL.dc (w:=w) (L:=L) (cellsOf d) v.cells.toList cs cells.toList off O hc;rw[←DY] at this;have e:v.cells.zipIdx.foldl (fun cs (x:Value×Nat)=>cs.setIfInBounds (off+x.2) x.1) cells=v.cells.toList.zipIdx.foldl (fun cs (x:Value×Nat)=>cs.setIfInBounds (off+x.2) x.1) cells:=by
    rw[←Array.foldl_toList,Array.toList_zipIdx]
   rw[e];exact this
theorem cL.r8(w:World)(L:Nat→Prop)(vs:List Value):cL w L (vs.map .v) vs:=⟨by simp,fun i h1 h2=>by simp only[getElem_map];exact .v _⟩
def lC(x:St)(ps:Array (Nat×Operand)):List (Nat×D):=ps.toList.map fun p=>(p.1,aF x p.2)
theorem HC{w:World}(h:bG C x a w)(ps:Array (Nat×Operand))(hj:∀p∈lC x ps,p.2≠.bV):(lC x ps).length=((ps.map fun p=>(p.1,a.eval p.2)).toList).length ∧
  ∀i (h1:i<(lC x ps).length) (h2:i<((ps.map fun p=>(p.1,a.eval p.2)).toList).length),(lC x ps)[i].1=((ps.map fun p=>(p.1,a.eval p.2)).toList)[i].1∧(lC x ps)[i].2≠.bV∧cm w (live C.X x.S) (lC x ps)[i].2 ((ps.map fun p=>(p.1,a.eval p.2)).toList)[i].2:=by
 refine⟨by simp[lC],fun i h1 h2=>⟨?_,hj _ (getElem_mem h1),?_⟩⟩
 ·simp[lC]
 simp only[lC,getElem_map,Array.toList_map];exact h.eval _
theorem X2 {E:Array Field} {places:Array (Nat×Nat)} {z:Value} (ho:o.op = .build t ps) (hz:∀w,(zeroValue t).run P w = .ok z w)
  (I:∀w,(underlying t).run P w = .ok (.struct E) w) (hp:∀w,(E.mapM fun f=>do pure (f.offset,←sizeOf f.type):Sem (Array (Nat×Nat))).run P w = .ok places w)
  (hj:∀p∈lC x ps,p.2≠.bV) (hd:lZ (places[·]?) (z.cells.toList.map .v) (lC x ps)=some ds):bU P G x o .none (.agg ds):=fun C a w _ h=>by
 obtain⟨q1,q2⟩:=HC h ps hj;obtain⟨Bf,h1,h2⟩:=Ej (w:=w) (L:=live C.X x.S) (places[·]?) (lC x ps) ((ps.map fun p=>(p.1,a.eval p.2)).toList) _ z.cells ds q1 q2 (cL.r8 _ _ _) hd;refine⟨.agg Bf.toList.toArray,.agg _ _ h2.1 h2.2,fun w' _=>?_⟩;unfold execOp;simp only[ho,Instr.build,hz,I,hp,Sem.run_bind,Result.andThen_ok,h1,Sem.run_pure,Array.toArray_toList]
theorem XO {z:Value} (ho:o.op = .build t ps) (hz:∀w,(zeroValue t).run P w = .ok z w)
  (E:∀w,(underlying t).run P w = .ok (.array n e) w) (hs:∀w,(sizeOf e).run P w = .ok sz w)
  (hj:∀p∈lC x ps,p.2≠.bV) (hd:lZ (fun i=>some (i*sz,sz)) (z.cells.toList.map .v) (lC x ps)=some ds):bU P G x o .none (.agg ds):=fun C a w _ h=>by
 obtain⟨q1,q2⟩:=HC h ps hj;obtain⟨Bf,h1,h2⟩:=Ej (w:=w) (L:=live C.X x.S) (fun i=>some (i*sz,sz)) (lC x ps) ((ps.map fun p=>(p.1,a.eval p.2)).toList) _ z.cells ds q1 q2 (cL.r8 _ _ _) hd;refine⟨.agg Bf.toList.toArray,.agg _ _ h2.1 h2.2,fun w' _=>?_⟩;unfold execOp;simp only[ho,Instr.build,hz,E,hs,Sem.run_bind,Result.andThen_ok,h1,Sem.run_pure,Array.toArray_toList]
def acp(x:St)(t:Nat)(e:TypeId)(len:Nat)(ds:List D)(y:St):Prop:=∃b,y=⟨x.n,(t,.v (.slice (some ⟨b,0,none⟩) len len))::x.env,⟨b,e,ds.length,ds⟩::x.S⟩
theorem G7 {len:Nat} {z:Value} {zs:List D} (ho:o.op = .buildSlice t len ps) (jA:o.dst=some tt) (hz:∀w,(zeroValue e).run P w = .ok z w)
  (I:∀w,(underlying t).run P w = .ok (.slice e) w) (hs:∀w,(sizeOf e).run P w = .ok sz w) (hl:0<len*sz) (iT:len*sz≤2 ^ 24) (eT:(Array.range (len*sz)).map (fun i=>z.cells[i % z.cells.size]!)=(zs.map (fun d=>match d with|.v u=>u|_=>undef)).toArray) (O:∀d∈zs,∃u,d = .v u)
  (hj:∀p∈lC x ps,p.2≠.bV) (hd:lZ (fun i=>some (i*sz,sz)) zs (lC x ps)=some ds) (hne:isMap e=false:=by rfl):fK P G x o [] (acp x tt e len ds):=fun C a w K Q hG h hK=>by
 obtain⟨q1,q2⟩:=HC h ps hj;have U:cL w (live C.X x.S) zs ((zs.map (fun d=>match d with|.v u=>u|_=>undef)).toArray).toList:=by
  refine⟨by simp,fun i h1 h2=>?_⟩;obtain⟨u,I⟩:=O _ (getElem_mem h1);simp only[getElem_map,I];exact .v _
 obtain⟨Bf,h1,h2⟩:=Ej (w:=w) (L:=live C.X x.S) (fun i=>some (i*sz,sz)) (lC x ps) ((ps.map fun p=>(p.1,a.eval p.2)).toList) _ _ ds q1 q2 U hd;unfold Oper.wp;have:(execOp a.eval o).run P w = .ok (.value (.slice (some ⟨w.heap.size,0,none⟩) len len)) (w.alloc (.cells Bf e)):=by
  unfold execOp;have E:¬len*sz=0:=(by omega)
  have Z:¬len*sz>2 ^ 24:=(by omega)
  simp only[ho,Instr.buildSlice,hz,I,hs,Sem.run_bind,Result.andThen_ok,Sem.run_pure,if_neg E,if_neg Z,eT,h1];simp[newRow]
 rw[this,Oper.upon_value,jA];exact hK _ _ _ ⟨w.heap.size,rfl⟩ (h.new (ds:=ds) h2 (by have:=h2.1;simpa using this) (fun L=>.v _) hne) (lQ.alloc _ _) (Fr.alloc _ _ _)
theorem Ns(b:Nat):∀(vs:List Value) (o':Nat) (w:World) (cur:Array Value) (e:TypeId),w.heap[b]?=some (.cells cur e (0,0))→o'+vs.length≤cur.size →
  (w.setCells b o' vs).heap[b]?=some (.cells (vs.zipIdx.foldl (fun cs (x:Value×Nat)=>cs.setIfInBounds (o'+x.2) x.1) cur) e (0,0))∧(∀k,k≠b→(w.setCells b o' vs).heap[k]?=w.heap[k]?)∧(w.setCells b o' vs).heap.size=w.heap.size ∧
  (w.setCells b o' vs).os=w.os∧(w.setCells b o' vs).tape=w.tape∧(w.setCells b o' vs).output=w.output
 | [],o',w,cur,e,h,_=>⟨h,fun _ _=>rfl,rfl,rfl,rfl,rfl⟩
 | v::r,o',w,cur,e,h,hl=>by
  have h0:(w.setCell ⟨b,o',none⟩ v).heap[b]?=some (.cells (cur.setIfInBounds o' v) e (0,0)):=by
   simp[World.setCell,Array.getElem?_modify,h]
  obtain⟨i1,i2,i3,i4,i5,i6⟩:=Ns b r (o'+1) (w.setCell ⟨b,o',none⟩ v) (cur.setIfInBounds o' v) e h0 (by simp at hl ⊢;omega);refine⟨?_,fun k hk=>?_,?_,i4,i5,i6⟩
  ·rw[World.setCells,i1,zipIdx_cons,foldl_cons,Nat.add_zero,HB (fun (c:Array Value) v n=>c.setIfInBounds (o'+n) v)];congr 3;funext a b;rw[Nat.add_assoc,Nat.add_comm 1]
  ·rw[World.setCells,i2 k hk,Below.heap_setCell _ _ _ _ hk]
  rw[World.setCells,i3];simp
theorem x6:∀(ds cs:List D) (off:Nat),(dc cs off ds).length=cs.length
 | [],cs,off=>rfl
 | d::ds,cs,off=>by rw[dc,x6 ds];simp
theorem bG.store{w:World}(h:bG C x a w){vs:List Value}(hk:x.S[k]?=some B)(hr:cL w (live C.X x.S) ds vs)(hl:o'+ds.length≤B.cs.length)(hne:isMap B.e=false:=by rfl) :
  bG C ⟨x.n,x.env,x.S.set k {B with cs:=dc B.cs o' ds}⟩ a (w.setCells B.b o' vs)∧lQ [B.b] w (w.setCells B.b o' vs)∧Fr w (aq x.S) (w.setCells B.b o' vs) (aq (x.S.set k {B with cs:=dc B.cs o' ds})):=by
 obtain⟨h0,cur,h1,h2,h3,h4⟩:=h.fw hk;rw[j6 hne] at h1;have ru:vs.length=ds.length:=hr.1;obtain⟨i1,i2,i3,i4,i5,i6⟩:=Ns B.b vs o' w cur B.e h1 w4;have dX:k<x.S.length:=(List.getElem?_eq_some_iff.1 hk).1;have vt:x.S[k]=B:=(List.getElem?_eq_some_iff.1 hk).2;have E:aq (x.S.set k {B with cs:=dc B.cs o' ds})=aq x.S:=by
  unfold aq;rw[map_set];apply ext_getElem bu;intro i q1 q2;rw[getElem_set];split
  ·rename_i e;subst e;simp[vt]
  rfl
 have I:live C.X (x.S.set k {B with cs:=dc B.cs o' ds})=live C.X x.S:=(by funext b;simp only[live,E])
 have hB:live C.X x.S B.b:=Pt hk;have H:∀b,b<w.heap.size→¬live C.X x.S b→(w.setCells B.b o' vs).heap[b]?=w.heap[b]?∧¬live C.X x.S b:=fun b _ hn=>⟨i2 b (fun e=>hn (e ▸ hB)),hn⟩
 refine⟨⟨h.defers,h.size,fun t ht=>?_,⟨fun B' L5=>?_,?_⟩,?_,h.ex,h.eN⟩,⟨by rw[i3];exact Nat.le_refl _,fun b _ hn=>i2 b (by simpa using hn)⟩,?_⟩
 ·simp only[I];exact(h.env t ht).mono H
 ·simp only[I];obtain⟨j,hj,O⟩:=mem_iff_getElem.1 L5;rw[length_set] at hj;rw[getElem_set] at O;by_cases e:k=j
  ·rw[if_pos e] at O;subst O;refine⟨by rw[i3];exact h0,_,i1.trans (by rw[j6 hne]),?_,by simp only[x6];exact h3,fun i hi=>?_⟩
   ·have:=DY vs.zipIdx cur o';have hlen:=congrArg length this;have aha:∀(l:List (Value×Nat)) (c:List Value),(l.foldl (fun cs (x:Value×Nat)=>cs.set (o'+x.2) x.1) c).length=c.length:=by
     intro l;induction l with
     | nil=>intro c;rfl
     | cons p l ih=>intro c;rw[foldl_cons,ih];simp
    rw[aha] at hlen;simp only[Array.length_toList] at hlen;rw[hlen,h2]
   have dw:cL w (live C.X x.S) B.cs (cur.toList.take B.cs.length):=by
    refine⟨by simp;omega,fun i q1 q2=>?_⟩;obtain⟨u,hu,hq⟩:=h4 i q1;have:(cur.toList.take B.cs.length)[i]=u:=by
     rw[getElem_take];rw[←Array.getElem?_toList,List.getElem?_eq_some_iff] at hu;exact hu.2
    rw[this];exact hq
   have U:=cL.dc ds vs B.cs (cur.toList.take B.cs.length) o' hr dw;have TC:∀(l:List (Value×Nat)) (c:List Value),(∀p∈l,o'+p.2<B.cs.length)→l.foldl (fun cs (x:Value×Nat)=>cs.set (o'+x.2) x.1) (c.take B.cs.length)=(l.foldl (fun cs (x:Value×Nat)=>cs.set (o'+x.2) x.1) c).take B.cs.length:=by
    intro l;induction l with
    | nil=>intro c _;rfl
    | cons p l ih =>
     intro c hp;rw[foldl_cons,foldl_cons,←ih _ (fun q hq=>hp q (mem_cons_of_mem _ hq)),take_set]
   rw[TC vs.zipIdx cur.toList (fun p hp=>by have:=mem_zipIdx hp;omega),←DY] at U;simp only at hi;have Gw:=hi;rw[←U.1] at Gw;have hq:=U.2 i hi Gw;rw[getElem_take] at hq;refine⟨_,?_,hq.mono H⟩;rw[←Array.getElem?_toList,getElem?_eq_getElem]
  rw[if_neg e] at O;subst O;have hne:x.S[j].b≠B.b:=fun he=>by
   have hn:=h.own.apart;have Cu:(aq x.S)[j]'zS=(aq x.S)[k]'zQ:=(by simp[aq,he,vt])
   have hp:=pairwise_iff_getElem.1 hn;rcases Nat.lt_trichotomy j k with Z|Z|Z
   ·exact hp j k zS zQ Z Cu
   ·exact e Z.symm
   exact hp k j zQ zS Z Cu.symm
  obtain⟨r0,lG,r1,r2,r3,r4⟩:=h.own.at_ x.S[j] (getElem_mem hj);refine⟨by rw[i3];exact r0,lG,(i2 _ hne).trans r1,r2,r3,fun i hi=>?_⟩;obtain⟨u,hu,hq⟩:=r4 i hi;exact⟨u,hu,hq.mono H⟩
 ·simp only[E];exact h.own.apart
 ·refine⟨i4.trans h.fr.os,i5.trans h.fr.tape,i6.trans h.fr.output,by rw[i3];exact h.fr.size,fun b hb hn=>?_⟩;obtain⟨q1,q2⟩:=h.fr.block b hb hn;refine⟨(i2 b (fun e=>q2 (e ▸ mem_map.2 ⟨B,mem_of_getElem? hk,rfl⟩))).trans q1,?_⟩;simp only[E];exact q2
 rw[E];exact⟨i4,i5,i6,by rw[i3];exact Nat.le_refl _,fun b hb hn=>⟨i2 b (fun e=>hn (e ▸ mem_map.2 ⟨B,mem_of_getElem? hk,rfl⟩)),hn⟩⟩
theorem DZ {d:D} {z:Operand} (ho:o.op = .store t y z) (jA:o.dst=none) (hy:aF x y = .v (.pointer (some ⟨b,o',none⟩)))
  (hk:x.S[k]?=some B) (hb:B.b=b) (hz:aF x z=d) (hj:d≠.bV) (h1:(cellsOf d).all one=true) (hn:∀w,(sizeOf t).run P w = .ok n w) (fX:(cellsOf d).length=n) (hl:o'+n≤B.cs.length) (dw:dc B.cs o' (cellsOf d)=cs') (hne:isMap B.e=false:=by rfl) :
  fK P G x o [b] (fun y=>y=⟨x.n,x.env,x.S.set k {B with cs:=cs'}⟩):=fun C a w K Q hG h hK=>by
 subst dw hb;have hr:=h.eval z;rw[hz] at hr;have hc:=hr.cells hj;obtain⟨s1,s2,s3⟩:=h.store hk hc (o':=o') w4 hne;obtain⟨h0,cur,q1,q2,q3,q4⟩:=h.fw hk;rw[j6 hne] at q1;have U:(a.eval z).cells.toList.length=n:=(by rw[hc.1,fX])
 have E:=run_storeCells_cells (P:=P) B.b o' (a.eval z).cells.toList 0 w (fun j hj=>by
   have:(o'+0+j)<cur.size:=(by omega)
   rw[nN q1 (u:=cur[o'+0+j]) (by simp[this])];rfl)
  (fun j hj=>by unfold World.frozen?;simp[q1]) (fun v hv=>by
   obtain⟨j,hj,rfl⟩:=mem_iff_getElem.1 hv;have O:j<(cellsOf d).length:=(by rw[←hc.1];exact hj)
   exact(hc.2 j O hj).AO (all_eq_true.1 h1 _ (getElem_mem O)))
 have I:(execOp a.eval o).run P w = .ok .skip (w.setCells B.b o' (a.eval z).cells.toList):=by
  unfold execOp;have Z:(a.eval z).cells.size=n:=(by simpa using U)
  simp only[Nat.add_zero] at E;simp[ho,h.flat hy,Instr.storeAt,Instr.sureAddr,storeVar,hn,Z,E]
 unfold Oper.wp;rw[I,Oper.upon_skip,jA];exact hK _ _ _ rfl s1 s2 s3

structure Gx (G:List (Nat×List Value)) (X:Nat→Prop) (w:World) (S:List ah) (args:List D) (vs:List Value):Prop where
 ex:∀b,X b→b<w.heap.size∧b∉aq S
 eN:∀g∈G,(g.1<w.heap.size∧g.1∉aq S∧¬X g.1)∧∀i v,g.2[i]?=some v→nP w g.1 i v
 own:Own w (live X S) S
 args:cL w (live X S) args vs
def VC(P:Program)(G:List (Nat×List Value))(f:FuncId)(args:List D)(S:List ah)(post:D→List ah→Prop):Prop :=
 ∀(X:Nat→Prop) (w:World) (vs:List Value),Gx G X w S args vs→Calls P f vs.toArray w fun e w'=>∃v r S',e = .returned v∧post r S'∧Own w' (live X S') S'∧cm w' (live X S') r v∧Fr w (aq S) w' (aq S')
abbrev VP(P:Program)(G:List (Nat×List Value))(f:FuncId)(args:List D)(r:D):Prop:=VC P G f args [] fun r' S'=>r'=r∧S'=[]
theorem ya(hp:S.Perm (Sf++R)):live X S=live (fun b=>X b∨b∈aq R) Sf:=by
 funext b;have:(aq S).Perm (aq Sf++aq R):=(by have:=hp.map ah.b;simpa[aq] using this)
 have:=this.mem_iff (a:=b);simp only[live,mem_append] at *;rw[this];exact propext ⟨fun h=>by rcases h with h|h|h<;>simp[h],fun h=>by rcases h with (h|h)|h<;>simp[h]⟩
theorem bG.call{w:World}(h:bG C x a w)(hG:C.G=G){f:FuncId}{args:List D}{vs:List Value}(hc:VC P G f args Sf post)(hp:x.S.Perm (Sf++R))(hr:cL w (live C.X x.S) args vs) :
  Calls P f vs.toArray w fun e w'=>∃v r S',e = .returned v∧post r S'∧cm w' (live C.X (S'++R)) r v∧bG C ⟨x.n,x.env,S'++R⟩ a w'∧lQ (aq Sf) w w'∧Fr w (aq x.S) w' (aq (S'++R)):=by
 have hb:(aq x.S).Perm (aq Sf++aq R):=(by have:=hp.map ah.b;simpa[aq] using this)
 have hL:=ya (X:=C.X) hp;have hnd:(aq Sf++aq R).Nodup:=hb.nodup_iff.1 h.own.apart;obtain⟨n1,n2,n3⟩:=nodup_append.1 hnd;have U:∀b,b∈aq R→b<w.heap.size:=fun b xD=>by
  obtain⟨B,O,rfl⟩:=mem_map.1 xD;exact(h.own.at_ B (hp.symm.subset (mem_append_right _ O))).1
 have Z:Gx G (fun b=>C.X b∨b∈aq R) w Sf args vs:=by
  refine⟨fun b hx=>?_,fun g hg=>?_,⟨fun B O=>?_,n1⟩,?_⟩
  ·rcases hx with hx|hx
   ·obtain⟨q1,q2⟩:=h.ex b hx;exact⟨Nat.lt_of_lt_of_le q1 h.fr.size,fun hm=>(h.fr.block b q1 q2).2 (hb.symm.subset (mem_append_left _ hm))⟩
   exact⟨U b hx,fun hm=>n3 b hm b hx rfl⟩
  ·rw[←hG] at hg;obtain⟨⟨q1,q2,q3⟩,q4⟩:=h.eN g hg;have q5:=(h.fr.block g.1 q1 q2).2;refine⟨⟨Nat.lt_of_lt_of_le q1 h.fr.size,fun hm=>q5 (hb.symm.subset (mem_append_left _ hm)),fun hx=>?_⟩,fun i v hi=>h.bz hg hi⟩;rcases hx with hx|hx
   ·exact q3 hx
   exact q5 (hb.symm.subset (mem_append_right _ hx))
  ·rw[←hL];exact h.own.at_ B (hp.symm.subset (mem_append_left _ O))
  rw[←hL];exact hr
 refine(hc _ w vs Z).mono fun e w' ⟨v,r,S',h1,h2,h3,h4,h5⟩=>⟨v,r,S',h1,h2,?_,?_,⟨h5.size,fun b I hn=>(h5.block b I hn).1⟩,?_⟩
 ·have:live C.X (S'++R)=live (fun b=>C.X b∨b∈aq R) S':=ya (Perm.refl _);rw[this];exact h4
 ·have V8:live C.X (S'++R)=live (fun b=>C.X b∨b∈aq R) S':=ya (Perm.refl _);have H:∀b,b<w.heap.size→¬live C.X x.S b→w'.heap[b]?=w.heap[b]?∧¬live C.X (S'++R) b:=fun b aa hn=>by
   rw[hL] at hn;have E:b∉aq Sf:=fun hm=>hn (.inr hm);obtain⟨q1,q2⟩:=h5.block b aa E;refine⟨q1,fun hl=>?_⟩;rw[V8] at hl;rcases hl with hl|hl
   ·exact hn (.inl hl)
   exact q2 hl
  refine⟨h.defers,h.size,fun t ht=>(h.env t ht).mono H,⟨fun B O=>?_,?_⟩,?_,h.ex,h.eN⟩
  ·rcases mem_append.1 O with O|O
   ·have:=h3.at_ B O;rw[←V8] at this;exact this
   obtain⟨r0,cur,r1,r2,r3,r4⟩:=h.own.at_ B (hp.symm.subset (mem_append_right _ O));have Cv:B.b∈aq R:=mem_map.2 ⟨B,O,rfl⟩;have E:B.b∉aq Sf:=fun hm=>n3 B.b hm B.b Cv rfl;have hh:=(h5.block B.b r0 E).1;refine⟨qC r0 hh,cur,hh.trans r1,r2,r3,fun i hi=>?_⟩;obtain⟨u,hu,hq⟩:=r4 i hi;exact⟨u,hu,hq.mono H⟩
  ·show(aq (S'++R)).Nodup;have:aq (S'++R)=aq S'++aq R:=(by simp[aq])
   rw[this];refine nodup_append.2 ⟨h3.apart,n2,fun b jb c aX he=>?_⟩;subst he;have E:b∉aq Sf:=fun hm=>n3 b hm b aX rfl;exact(h5.block b (U b aX) E).2 jb
  refine⟨h5.os.trans h.fr.os,h5.tape.trans h.fr.tape,h5.output.trans h.fr.output,Nat.le_trans h.fr.size h5.size,fun b I hn=>?_⟩;obtain⟨q1,q2⟩:=h.fr.block b I hn;have gh:b∉aq Sf:=fun hm=>q2 (hb.symm.subset (mem_append_left _ hm));have iR:b∉aq R:=fun hm=>q2 (hb.symm.subset (mem_append_right _ hm));obtain⟨q3,q4⟩:=h5.block b (Nat.lt_of_lt_of_le I h.fr.size) gh;refine⟨q3.trans q1,fun hm=>?_⟩;have:aq (S'++R)=aq S'++aq R:=(by simp[aq])
  rw[this] at hm;rcases mem_append.1 hm with hm|hm
  ·exact q4 hm
  exact iR hm
 refine⟨h5.os,h5.tape,h5.output,h5.size,fun b I hn=>?_⟩;have gh:b∉aq Sf:=fun hm=>hn (hb.symm.subset (mem_append_left _ hm));have iR:b∉aq R:=fun hm=>hn (hb.symm.subset (mem_append_right _ hm));obtain⟨q3,q4⟩:=h5.block b I gh;refine⟨q3,fun hm=>?_⟩;have:aq (S'++R)=aq S'++aq R:=(by simp[aq])
 rw[this] at hm;rcases mem_append.1 hm with hm|hm
 ·exact q4 hm
 exact iR hm
theorem cL.Kv{w:World}(h:bG C x a w)(c8:List Operand):cL w (live C.X x.S) (c8.map (aF x)) (c8.map a.eval) :=
 ⟨by simp,fun i h1 h2=>by simp only[getElem_map];exact h.eval _⟩
theorem cL.append{w:World}{E:List D}{vs I:List Value}(h:cL w L ds vs)(h':cL w L E I):cL w L (ds++E) (vs++I) :=
 ⟨by simp[h.1,h'.1],fun i h1 h2=>by
  by_cases hi:i<ds.length
  ·rw[getElem_append_left hi,getElem_append_left (by rw[h.1];exact hi)];exact h.2 i _ _
  rw[getElem_append_right w4,getElem_append_right (by rw[h.1];omega)];have:=h.1;simp only[this];exact h'.2 _ _ _⟩
def called(x:St)(t:Nat)(R:List ah)(post:D→List ah→Prop)(y:St):Prop:=∃r S',post r S'∧y=⟨x.n,(t,r)::x.env,S'++R⟩
theorem AP {f t:Nat} {args:List D} (ho:o.op = .call {callee:=.value fo,args:=c8,argTypes:=ts}) (hd:o.dst=some t)
  (hf:fo = .func f) (fk:∀args w,(callFunc f args).run P w = .ok (.enter f args) w) (ha:c8.toList.map (aF x)=args) (hp:x.S.Perm (Sf++R)) (hc:VC P G f args Sf post) :
  fK P G x o (aq Sf) (called x t R post):=fun C a w K Q hG h hK=>by
 subst hf ha;have hr:=cL.Kv h c8.toList;have E:(execOp a.eval o).run P w = .ok (.enter f (c8.toList.map a.eval).toArray) w:=by
  unfold execOp;have e:c8.map a.eval=(c8.toList.map a.eval).toArray:=by
   rw[←Array.toList_map,Array.toArray_toList]
  simp only[ho,resolve,Act.eval,Deferred.ofValue,Sem.run_bind,Sem.run_pure,Result.andThen_ok,invoke,e];simp[fk]
 unfold Oper.wp;rw[E,Oper.upon_enter,hd];refine(h.call hG hc hp hr).mono fun e w' ⟨v,r,S',h1,h2,h3,h4,h5,h6⟩=>?_;subst h1;exact hK _ _ _ ⟨r,S',h2,rfl⟩ (h4.put h3) h5 h6
theorem Zf {f t:Nat} {args E:List D} (ho:o.op = .call {callee:=.value fo,args:=c8,argTypes:=ts}) (hd:o.dst=some t)
  (hf:aF x fo = .ey (.func f) E) (fk:∀args w,(callFunc f args).run P w = .ok (.enter f args) w) (ha:c8.toList.map (aF x)++E=args) (hp:x.S.Perm (Sf++R)) (hc:VC P G f args Sf post) :
  fK P G x o (aq Sf) (called x t R post):=fun C a w K Q hG h hK=>by
 subst ha;have hr:=cL.Kv h c8.toList;have fR:=h.eval fo;rw[hf] at fR;generalize hg:a.eval fo=u at fR;cases fR with
 | ey _ _ vs hl Vk =>
  have I:(execOp a.eval o).run P w = .ok (.enter f (c8.toList.map a.eval++vs).toArray) w:=by
   unfold execOp;have e:c8.map a.eval++vs.toArray=(c8.toList.map a.eval++vs).toArray:=by
    rw[←append_toArray,←Array.toList_map,Array.toArray_toList]
   simp only[ho,resolve,hg,Deferred.ofValue,Sem.run_bind,Sem.run_pure,Result.andThen_ok,invoke];simp[fk]
  unfold Oper.wp;rw[I,Oper.upon_enter,hd];refine(h.call hG hc hp (hr.append ⟨hl,Vk⟩)).mono fun e w' ⟨v,r,S',h1,h2,h3,h4,h5,h6⟩=>?_;subst h1;exact hK _ _ _ ⟨r,S',h2,rfl⟩ (h4.put h3) h5 h6
theorem uq(hk:S[k]?=some B):S.Perm (B::S.eraseIdx k):=by
 obtain⟨h1,h2⟩:=List.getElem?_eq_some_iff.1 hk;subst h2;clear hk;induction S generalizing k with
 | nil=>simp at h1
 | cons A S ih =>
  cases k with
  | zero=>exact Perm.refl _
  | succ k =>
   have E:k<S.length:=(by simpa using h1)
   rw[eraseIdx_cons_succ];exact((ih E).cons A).trans (Perm.swap _ _ _)
theorem eO(S:List ah):S.Perm ([]++S):=Perm.refl _
theorem j5(hk:S[k]?=some B):S.Perm ([B]++S.eraseIdx k):=uq hk
theorem AR{k':Nat}{B':ah}(hk:S[k]?=some B)(E:(S.eraseIdx k)[k']?=some B'):S.Perm ([B,B']++(S.eraseIdx k).eraseIdx k'):=(uq hk).trans ((uq E).cons B)
theorem cm.wv{w:World}(h:Own w (live X S) S)(O:∀b,X b→b∉aq S)(hk:S[k]?=some B)(hl:B.cs.length=n*sz)(h1:n≤cap)(h2:cap≤maxLen)(hne:isMap B.e=false:=by rfl) :
  cm w (live X (S.eraseIdx k)) (.list sz B.cs n) (.slice (some ⟨B.b,0,none⟩) n cap):=by
 have hm:=mem_of_getElem? hk;obtain⟨r0,cur,r1,r2,U,I⟩:=h.at_ B hm;rw[j6 hne] at r1;have E:(aq (S.eraseIdx k)).Sublist (aq S):=Sublist.map _ (eraseIdx_sublist S k);have hL:¬live X (S.eraseIdx k) B.b:=fun hl=>by
  rcases hl with hl|hl
  ·exact O _ hl (mem_map.2 ⟨B,hm,rfl⟩)
  have hp:(aq S).Perm (B.b::aq (S.eraseIdx k)):=(by have:=(uq hk).map ah.b;simpa[aq] using this)
  have hnd:=hp.nodup_iff.1 h.apart;exact(nodup_cons.1 hnd).1 hl
 refine .list sz B.cs n B.b 0 cap (fun i=>cur.getD i undef) hl h1 h2 r0 hL (fun i hi=>?_) (fun i hi=>?_)
 ·obtain⟨u,hu,_⟩:=I i hi;rw[Nat.zero_add,nN r1 hu];simp[hu]
 obtain⟨u,hu,hq⟩:=I i hi;simp only[Array.getD_eq_getD_getElem?,hu,Option.getD_some];exact hq.mono fun b _ hn=>⟨rfl,fun hl=>hn (hl.imp id fun q=>E.subset q)⟩
theorem bG.Ae{w:World}(h:bG C x a w):∀b,C.X b→b∉aq x.S:=fun b hb=>(h.fr.block b (h.ex b hb).1 (h.ex b hb).2).2
theorem Wk.uY{t:Nat}{cs:List D}(hk:S[k]?=some B)(ht:look t l = .v (.slice (some ⟨B.b,0,none⟩) m cap))(dw:B.cs=cs)(hl:cs.length=m*sz)(h1:m≤cap)(h2:cap≤maxLen)(hne:isMap B.e=false:=by rfl) :
  Wk ⟨n,l,S⟩ ⟨n,(t,.list sz cs m)::l,S.eraseIdx k⟩:=fun C a w h=>by
 subst dw;have hd:=Wk.drop n l S (S.eraseIdx k) (eraseIdx_sublist S k) C a w h;refine⟨hd.defers,hd.size,fun i hi=>?_,hd.own,hd.fr,hd.ex,hd.eN⟩;simp only[fP];by_cases e:t=i
 ·subst e;rw[if_pos rfl];have E:=h.env t hi;simp only[ht] at E;rw[E.kH];exact cm.wv h.own h.Ae hk hl h1 h2 hne
 rw[if_neg e];exact hd.env i hi
theorem Wk.uy{t:Nat}(ht:look t l = .v (.slice none 0 0)):Wk ⟨n,l,S⟩ ⟨n,(t,.list sz [] 0)::l,S⟩:=fun C a w h=>by
 refine⟨h.defers,h.size,fun i hi=>?_,h.own,h.fr,h.ex,h.eN⟩;simp only[fP];by_cases e:t=i
 ·subst e;rw[if_pos rfl];have E:=h.env t hi;simp only[ht] at E;rw[E.kH];exact .nil sz
 rw[if_neg e];exact h.env i hi
theorem Wk.aef {A:ah} {cs:List D} (hk:S[k]?=some B) (hj:(S.eraseIdx k)[j]?=some A) (hi:A.cs[i]?=some (.v (.slice (some ⟨B.b,0,none⟩) m cap))) (dw:B.cs=cs) (hl:cs.length=m*sz) (h1:m≤cap) (h2:cap≤maxLen)
  (U:A.cs.set i (.list sz cs m)=cs') (hS:(S.eraseIdx k).set j {A with cs:=cs'}=S') (hne:isMap B.e=false:=by rfl):Wk ⟨n,l,S⟩ ⟨n,l,S'⟩:=fun C a w h=>by
 subst dw U hS;have hd:=Wk.drop n l S (S.eraseIdx k) (eraseIdx_sublist S k) C a w h;have Z:=cm.wv h.own h.Ae hk hl h1 h2 hne;have lR:=(List.getElem?_eq_some_iff.1 hj).1;have hjA:=(List.getElem?_eq_some_iff.1 hj).2;have E:aq ((S.eraseIdx k).set j {A with cs:=A.cs.set i (.list sz B.cs m)})=aq (S.eraseIdx k):=by
  unfold aq;rw[map_set];apply ext_getElem bu;intro i q1 q2;rw[getElem_set];split
  ·rename_i e;subst e;simp[hjA]
  rfl
 have I:live C.X ((S.eraseIdx k).set j {A with cs:=A.cs.set i (.list sz B.cs m)})=live C.X (S.eraseIdx k):=(by funext b;simp only[live,E])
 refine⟨hd.defers,hd.size,fun t ht=>?_,⟨fun B' L5=>?_,?_⟩,?_,hd.ex,hd.eN⟩
 ·simp only[I];exact hd.env t ht
 ·simp only[I];obtain⟨p,hp,gK⟩:=mem_iff_getElem.1 L5;rw[length_set] at hp;rw[getElem_set] at gK;by_cases e:j=p
  ·rw[if_pos e] at gK;subst gK;obtain⟨r0,cur,r1,r2,r3,r4⟩:=hd.own.at_ A (mem_of_getElem? hj);refine⟨r0,cur,r1,r2,by simpa using r3,fun q hq=>?_⟩;simp only[length_set] at hq;obtain⟨u,hu,O⟩:=r4 q hq;refine⟨u,hu,?_⟩;rw[getElem_set];split
   ·rename_i he;subst he;have:=(List.getElem?_eq_some_iff.1 hi).2;rw[this] at O;rw[O.kH];exact Z
   exact O
  rw[if_neg e] at gK;subst gK;exact hd.own.at_ _ (getElem_mem hp)
 ·simp only[E];exact hd.own.apart
 simp only[E];exact hd.fr

def Q0(x:St)(t:Nat)(e:TypeId)(sz len:Nat)(cs:List D)(S:List ah)(y:St):Prop :=
 ∃b cap,len≤cap∧cap≤maxLen∧y=⟨x.n,(t,.v (.slice (some ⟨b,0,none⟩) len cap))::x.env,⟨b,e,cap*sz,cs⟩::S⟩
theorem bG.grown {w:World} (h:bG C x a w) {t g e:Nat} {row:Option Nat} {cs:List D}
  (hS:S.Sublist x.S) (I:∀k,row=some k→k∈aq x.S∧k∉aq S) (E:w.grownBy w' row) (hg:row=some g∨g=w.heap.size) (aa:g<w'.heap.size)
  (BL:w'.heap[g]?=some (.cells cur e (0,0))) (ie:cur.size=cap*sz) (hl:cs.length≤cap*sz) (hr:∀i (h:i<cs.length),∃u,cur[i]?=some u∧cm w (live C.X x.S) cs[i] u) (hne:isMap e=false:=by rfl) :
  bG C ⟨x.n,(t,.v (.slice (some ⟨g,0,none⟩) m cap))::x.env,⟨g,e,cap*sz,cs⟩::S⟩ (a.put (some t) (.slice (some ⟨g,0,none⟩) m cap)) w'∧lQ row.toList w w'∧Fr w (aq x.S) w' (aq (⟨g,e,cap*sz,cs⟩::S)):=by
 have O:(aq S).Sublist (aq x.S):=Sublist.map _ hS;have Z:∀b,live C.X x.S b→b<w.heap.size:=fun b hb=>by
  rcases hb with hb|hb
  ·exact Nat.lt_of_lt_of_le (h.ex b hb).1 h.fr.size
  obtain⟨B,hB,rfl⟩:=mem_map.1 hb;exact(h.own.at_ B hB).1
 have hgS:g∉aq S:=by
  rcases hg with hg|hg
  ·exact(I g hg).2
  intro hm;have:=Z g (.inr (O.subset hm));omega
 have hgX:¬C.X g:=fun hx=>by
  rcases hg with hg|hg
  ·exact h.Ae g hx (I g hg).1
  have:=Z g (.inl hx);omega
 have U:g<w.heap.size→g∈aq x.S:=fun aa=>by
  rcases hg with hg|hg
  ·exact(I g hg).1
  omega
 have H:∀b,b<w.heap.size→¬live C.X x.S b→w'.heap[b]?=w.heap[b]?∧¬live C.X (⟨g,e,cap*sz,cs⟩::S) b:=fun b hb hn=>by
  refine⟨E.block b hb (fun hm=>hn (.inr (I b hm.symm).1)),fun hl=>?_⟩;rcases hl with hl|hl
  ·exact hn (.inl hl)
  simp only[aq,map_cons,mem_cons] at hl;rcases hl with hl|hl
  ·subst hl;exact hn (.inr (U hb))
  exact hn (.inr (O.subset hl))
 have base:bG C ⟨x.n,x.env,⟨g,e,cap*sz,cs⟩::S⟩ a w':=by
  refine⟨h.defers,h.size,fun t ht=>(h.env t ht).mono H,⟨fun B hB=>?_,?_⟩,?_,h.ex,h.eN⟩
  ·rcases mem_cons.1 hB with rfl|hB
   ·refine⟨aa,cur,BL.trans (by rw[j6 hne]),ie,hl,fun i hi=>?_⟩;obtain⟨u,hu,hq⟩:=hr i hi;exact⟨u,hu,hq.mono H⟩
   obtain⟨r0,lG,r1,r2,r3,r4⟩:=h.own.at_ B (hS.subset hB);have Cv:B.b∈aq S:=mem_map.2 ⟨B,hB,rfl⟩;have hh:=E.block B.b r0 (fun hm=>(I B.b hm.symm).2 Cv);refine⟨qC r0 hh,lG,hh.trans r1,r2,r3,fun i hi=>?_⟩;obtain⟨u,hu,hq⟩:=r4 i hi;exact⟨u,hu,hq.mono H⟩
  ·show(g::aq S).Nodup;exact nodup_cons.2 ⟨hgS,h.own.apart.sublist O⟩
  refine⟨E.os.trans h.fr.os,E.tape.trans h.fr.tape,E.output.trans h.fr.output,Nat.le_trans h.fr.size E.size,fun b hb hn=>?_⟩;obtain⟨q1,q2⟩:=h.fr.block b hb hn;have jG:=Nat.lt_of_lt_of_le hb h.fr.size;refine⟨(E.block b jG (fun hm=>q2 (I b hm.symm).1)).trans q1,fun hm=>?_⟩;simp only[aq,map_cons,mem_cons] at hm;rcases hm with hm|hm
  ·subst hm;exact q2 (U jG)
  exact q2 (O.subset hm)
 refine⟨base.put (.v _),⟨E.size,fun b hb hn=>E.block b hb (fun hm=>hn (by rw[←hm];simp))⟩,⟨E.os,E.tape,E.output,E.size,fun b hb hn=>?_⟩⟩;refine⟨E.block b hb (fun hm=>hn (I b hm.symm).1),fun hm=>?_⟩;simp only[aq,map_cons,mem_cons] at hm;rcases hm with hm|hm
 ·subst hm;exact hn (U hb)
 exact hn (O.subset hm)
theorem AB {s:Operand} {t:Nat} {I:Value} {w:World} (ho:o.op = .call {callee:=.builtin .append,args:=#[s,y],argTypes:=#[t,t]}) (hs:a.eval s=v) (hy:a.eval y=u)
  (E:(Builtin.append_ #[t,t] o.type #[v,u]).run P w = .ok I w'):(execOp a.eval o).run P w = .ok (.value I) w':=by
 unfold execOp;simp[ho,resolve,invoke,builtin,hs,hy,E]
theorem yu{e:Nat}{z:Value}(hi:(P.info? e).map (fun i=>(i.zero,i.size,i.bytes))=some (some z,sz,bytes)):∃i,P.info? e=some i∧i.zero=some z∧i.size=sz∧i.bytes=bytes:=by
 cases h:P.info? e with
 | none=>simp[h] at hi
 | some i=>simp[h] at hi;exact⟨i,rfl,hi⟩
theorem NR {s:Operand} {t e:Nat} {z:Value} {cs:List D} (ho:o.op = .call {callee:=.builtin .append,args:=#[s,y],argTypes:=#[t,t]}) (hd:o.dst=some tt)
  (ht:P.underlying t=some (.slice e)) (hi:(P.info? e).map (fun i=>(i.zero,i.size,i.bytes))=some (some z,sz,bytes)) (eT:z.cells.size=sz) (ie:0<sz)
  (hs:aF x s = .v (.slice (some ⟨b,0,none⟩) n cap)) (hk:x.S[k]?=some B) (hb:B.b=b) (he:B.e=e) (ank:B.size=cap*sz) (hl:B.cs.length=n*sz) (hn:n≤cap) (Z:cap≤maxLen)
  (hy:aF x y = .list sz cs m) (iv:∀d∈cs,one d=true) (hm:0<m) (gi:n+m≤maxLen) (O:(n+m)*bytes≤140737488355328) (hne:isMap B.e=false:=by rfl) :
  fK P G x o [b] (Q0 x tt e sz (n+m) (B.cs++cs) (x.S.eraseIdx k)):=fun C a w K Q hG h hK=>by
 subst hb he;obtain⟨i,j3,lS,oO,pH⟩:=yu hi;obtain⟨r0,cur,r1,r2,r3,r4⟩:=h.fw hk;rw[j6 hne] at r1;have hr:=h.eval y;rw[hy] at hr;generalize hg:a.eval y=u at hr;cases hr with
 | l6=>omega
 | list _ _ _ b' o' I f lT q1 q2 jG hL hc Af =>
  have kr:w.ownsRow 0 B.e sz (.slice (some ⟨B.b,0,none⟩) n cap) n (cur.toList.take (n*sz)) :=
   ⟨by simp;omega,.inr ⟨B.b,cap,cur,rfl,Nat.zero_le _,r1,hn,Z,by omega,rfl⟩⟩
  obtain⟨v',w',ny,h2,h3,_,h5⟩:=run_append_own_at (P:=P) w 0 t o.type B.e i z sz bytes ht j3 lS oO pH eT ie _ n _ kr ⟨b',o',none⟩ m I ((range cs.length).map f) (by simp[lT]) (fun j u hu=>by
    rw[Addr.add_mid];obtain⟨hj,he⟩:=List.getElem?_eq_some_iff.1 hu;simp only[length_map,length_range] at hj;rw[hc j hj,←he];simp) (fun u hu=>by
    obtain⟨j,hj,rfl⟩:=mem_map.1 hu;have jt:=mem_range.1 hj;exact(Af j jt).AO (iv _ (getElem_mem jt))) gi O (Nat.zero_le _)
  obtain⟨g,E,rfl,_,aa⟩:=h2.form w4;have h6:(Value.slice (some ⟨B.b,0,none⟩) n cap).ownBlock=some g∨g=w.heap.size:=by
   rcases h5 with h5|h5
   ·exact .inl (by rw[←h5];rfl)
   right;simpa[Value.ownBlock] using h5
  obtain⟨_,h2⟩:=h2;rcases h2 with ⟨h2,_⟩|⟨g',I,lG,e1,_,e2,e3,e4,e5,e6⟩
  ·cases h2
  have Cw:g=g'∧E=I:=(by simpa using e1)
  obtain⟨rfl,rfl⟩:=Cw;have hlen:(B.cs++cs).length=(n+m)*sz:=(by rw[length_append,hl,lT,Nat.add_mul])
  have L6:(n+m)*sz≤E*sz:=Nat.mul_le_mul_right _ e3;have BL:∀i,i<(n+m)*sz→lG[i]?=(cur.toList.take (n*sz)++(range cs.length).map f)[i]?:=fun i hi=>by
   rw[←e6,getElem?_take_of_lt hi,Array.getElem?_toList]
  obtain⟨s1,s2,s3⟩:=h.grown (t:=tt) (m:=n+m) (e:=B.e) (sz:=sz) (S:=x.S.eraseIdx k) (cs:=B.cs++cs) (row:=some B.b) (g:=g) (cap:=E) (eraseIdx_sublist _ _) (fun k' qu=>by
    have:B.b=k':=(by simpa using qu)
    subst this;refine⟨mem_map.2 ⟨B,mem_of_getElem? hk,rfl⟩,fun hm=>?_⟩;have hp:(aq x.S).Perm (B.b::aq (x.S.eraseIdx k)):=(by have:=(uq hk).map ah.b;simpa[aq] using this)
    exact(nodup_cons.1 (hp.nodup_iff.1 h.own.apart)).1 hm) h3 h6 aa e2 e5 w4 (fun i hi=>by
    rw[hlen] at hi;rw[BL i hi];by_cases kP:i<n*sz
    ·obtain⟨u,hu,hq⟩:=r4 i w4;refine⟨u,?_,?_⟩
     ·rw[getElem?_append_left hU,getElem?_take_of_lt kP,Array.getElem?_toList,hu]
     rw[getElem_append_left w4];exact hq
    have U:i-n*sz<cs.length:=(by rw[lT];rw[Nat.add_mul] at hi;omega)
    refine⟨f (i-n*sz),?_,?_⟩
    ·rw[getElem?_append_right hU];have:(cur.toList.take (n*sz)).length=n*sz:=(by simp;omega)
     rw[this];simp[U]
    rw[getElem_append_right w4];have:=Af (i-n*sz) U;simp only[hl];exact this) hne
  unfold Oper.wp;rw[AB (P:=P) ho (h.flat hs) hg ny,Oper.upon_value,hd];exact hK _ _ _ ⟨g,E,e3,e4,rfl⟩ s1 s2 s3
theorem Nt {s:Operand} {t e:Nat} {z:Value} {cs:List D} (ho:o.op = .call {callee:=.builtin .append,args:=#[s,y],argTypes:=#[t,t]}) (hd:o.dst=some tt)
  (ht:P.underlying t=some (.slice e)) (hi:(P.info? e).map (fun i=>(i.zero,i.size,i.bytes))=some (some z,sz,bytes)) (eT:z.cells.size=sz) (ie:0<sz)
  (hs:aF x s = .v (.slice none 0 0)) (hy:aF x y = .list sz cs m) (iv:∀d∈cs,one d=true) (hm:0<m) (gi:m≤maxLen) (O:m*bytes≤140737488355328) (hne:isMap e=false:=by rfl) :
  fK P G x o [] (Q0 x tt e sz m cs x.S):=fun C a w K Q hG h hK=>by
 obtain⟨i,j3,lS,oO,pH⟩:=yu hi;have hr:=h.eval y;rw[hy] at hr;generalize hg:a.eval y=u at hr;cases hr with
 | l6=>omega
 | list _ _ _ b' o' I f lT q1 q2 jG hL hc U =>
  have Z:w.ownsRow 0 e sz (.slice none 0 0) 0 []:=⟨by simp,.inl ⟨rfl,rfl⟩⟩
  obtain⟨v',w',ny,h2,h3,_,h5⟩:=run_append_own_at (P:=P) w 0 t o.type e i z sz bytes ht j3 lS oO pH eT ie _ 0 _ Z ⟨b',o',none⟩ m I ((range cs.length).map f) (by simp[lT]) (fun j u hu=>by
    rw[Addr.add_mid];obtain⟨hj,he⟩:=List.getElem?_eq_some_iff.1 hu;simp only[length_map,length_range] at hj;rw[hc j hj,←he];simp) (fun u hu=>by
    obtain⟨j,hj,rfl⟩:=mem_map.1 hu;have jt:=mem_range.1 hj;exact(U j jt).AO (iv _ (getElem_mem jt))) (by rw[Nat.zero_add];exact gi) (by rw[Nat.zero_add];exact O) (Nat.zero_le _)
  simp only[Nat.zero_add,nil_append] at h2;obtain⟨g,E,rfl,_,aa⟩:=h2.form w4;have h6:(none:Option Nat)=some g∨g=w.heap.size:=by
   rcases h5 with h5|h5
   ·simp[Value.ownBlock] at h5
   right;simpa[Value.ownBlock] using h5
  obtain⟨_,h2⟩:=h2;rcases h2 with ⟨h2,_⟩|⟨g',I,lG,e1,_,e2,e3,e4,e5,e6⟩
  ·cases h2
  have Cw:g=g'∧E=I:=(by simpa using e1)
  obtain⟨rfl,rfl⟩:=Cw;have L6:m*sz≤E*sz:=Nat.mul_le_mul_right _ e3;obtain⟨s1,s2,s3⟩:=h.grown (t:=tt) (m:=m) (e:=e) (sz:=sz) (S:=x.S) (cs:=cs) (row:=none) (g:=g) (cap:=E) (Sublist.refl _) (fun k' qu=>by cases qu) h3 h6 aa e2 e5 w4 (fun i hi=>by
    refine⟨f i,?_,U i hi⟩;have:lG[i]?=((range cs.length).map f)[i]?:=(by rw[←e6,getElem?_take_of_lt w4,Array.getElem?_toList])
    rw[this];simp[hi]) hne
  unfold Oper.wp;rw[AB (P:=P) ho (h.flat hs) hg ny,Oper.upon_value,hd];exact hK _ _ _ ⟨g,E,e3,e4,rfl⟩ s1 s2 s3
theorem Nu {s:Operand} {t e:Nat} {cs:List D} (ho:o.op = .call {callee:=.builtin .append,args:=#[s,y],argTypes:=#[t,t]})
  (O:∀w,(underlying t).run P w = .ok (.slice e) w) (E:∀w,(sizeOf e).run P w = .ok sz w) (hs:aF x s = .v (.slice ad n cap)) (hn:n≤cap) (hy:aF x y = .list sz cs 0):bU P G x o .none (.v (.slice ad n cap)):=fun C a w _ h=>by
 refine⟨_,.v _,fun w' _=>?_⟩;have hr:=h.eval y;rw[hy] at hr;generalize hg:a.eval y=u at hr;refine AB (P:=P) ho (h.flat hs) hg ?_;have U:n+0≤cap:=hn;cases hr with
 | l6 _ I ku=>cases I<;>cases ad<;>simp[Builtin.append_,O,E,Builtin.lenOf,Builtin.firstCells,storeCells,loadCells,loadCellsFrom,hn,Nat.not_lt.2 hn]
 | list _ _ _ b' o' ku f lT q1 q2 jG hL hc Z=>cases ad<;>simp[Builtin.append_,O,E,Builtin.lenOf,Builtin.firstCells,storeCells,loadCells,loadCellsFrom,hn,Nat.not_lt.2 hn]

end Go.Proofs.YtdgichenhdikgaaGreatDoor.V
namespace Go.Proofs.YtdgichenhdikgaaGreatDoor.V
open List
open Go.RowKit
variable {g t n:Nat} {E b:Bool} {l':List (Nat×D)} {S':List ah} {c:Code} {ds:List D} {fn:Func} {L:Nat→Prop} {I:ResultVar}
def LQ(C:dL)(Q:Exit→St→Prop):Exit→Act→World→Prop:=fun e a w=>(∃y,bG C y a w∧Q e y)∨(e = .ret∧C.Ct a w)
def CD(P:Program)(C:dL)(c:Code)(x:St)(Q:Exit→St→Prop):Prop:=∀a w,bG C x a w→c.wp P (LQ C Q) a w
def OD(P:Program)(C:dL)(ops:Array Oper)(l:List Oper)(x:St)(Q:Exit→St→Prop):Prop:=∀a w,bG C x a w→wpList P ops (LQ C Q) l a w
variable {P:Program} {C:dL} {Q:Exit→St→Prop} {x y:St} {ops:Array Oper} {l:List Oper} {o:Oper}
def cg(ops:Array Oper)(x:St)(o:Oper)(b:Bool):Prop:=∀C a w,bG C x a w→Region.wanted o (yielded ops a.tmps)=b
theorem rK(h:o.guard=none):cg ops x o true:=fun C a w _=>by simp[Region.wanted,h]
theorem Pu(h:o.guard=some (g,E))(hg:(ops[g]?).bind (·.dst)=some t)(ht:t<x.n)(hb:look t x.env = .v (.bool b)):cg ops x o (b==E):=fun C a w hs=>by
 have I:=hs.env t ht;rw[hb] at I;have I:=I.kH;have O:=hs.size;have:a.tmps[t]?=some (.bool b):=by
  rw[Array.getD_eq_getD_getElem?,Array.getElem?_eq_getElem w4] at I;rw[Array.getElem?_eq_getElem w4];simpa using I
 simp only[Region.wanted,h,yielded,hg,Option.bind_some,this];cases b<;>cases E<;>rfl
theorem fx{d:D}{r:List (Nat×D)}:look t ((t,d)::r)=d:=by rw[fP,if_pos rfl]
theorem fQ{d d':D}{r:List (Nat×D)}(h:d=d'):look t ((t,d)::r)=d':=by rw[fP,if_pos rfl,h]
theorem fD{i:Nat}{d d':D}{r:List (Nat×D)}(h:Nat.beq i t=false)(k:look t r=d'):look t ((i,d)::r)=d':=by rw[look,h];exact k
theorem bI{v:Value}{x:St}:aF x (.const v) = .v v:=rfl
theorem sU{f:FuncId}{x:St}:aF x (.func f) = .ey (.func f) []:=rfl
theorem vO{x:St}:aF x (.global g) = .v (.pointer (some ⟨g,0,none⟩)):=rfl
theorem s7{d:D}{x:St}(h:Nat.blt t x.n=true)(k:look t x.env=d):aF x (.tmp t)=d:=by simp only[aF,h,k];rfl
theorem lk{l:List (Nat×D)}{d:D}(h:look t l=d:=by (repeat (first|exact fx|(apply fD;focus rfl)|exact look_nil));first|done|fail):look t l=d:=h
theorem ot{d:D}{x:St}(h:Nat.blt t x.n=true:=by exact rfl)(k:look t x.env=d:=by (repeat (first|exact fx|(apply fD;focus rfl)|exact look_nil));first|done|fail):aF x (.tmp t)=d:=s7 h k
def mU(l:List (Nat×D)):List (Nat×D)→Prop
 | []=>True
 | (i,d)::r=>look i l=d∧mU l r
theorem mU.look{l:List (Nat×D)}:∀{l':List (Nat×D)},mU l l'→∀t,V.look t l'=V.look t l∨V.look t l' = .bV
 | [],_,t=>.inr rfl
 | (i,d)::r,h,t=>by
  rw[fP];by_cases e:i=t
  ·subst e;rw[if_pos rfl];exact .inl h.1.symm
  rw[if_neg e];exact h.2.look t
theorem Wk.ke{l:List (Nat×D)}{S:List ah}(h:mU l l'):Wk ⟨n,l,S⟩ ⟨n,l',S⟩:=fun C a w hs =>
 ⟨hs.defers,hs.size,fun t ht=>by
  rcases h.look t with e|e
  ·simp only[e];exact hs.env t ht
  simp only[e];exact .bV _,hs.own,hs.fr,hs.ex,hs.eN⟩
theorem Wk.dR{x:St}(hn:x.n=n)(hS:x.S=S')(h:mU x.env l'):Wk x ⟨n,l',S'⟩:=by
 obtain⟨n0,l0,S0⟩:=x;simp only at hn hS h;subst hn hS;exact Wk.ke h
theorem Wk.asS{x:St}(hn:x.n=n)(hS:S'.Sublist x.S)(h:mU x.env l'):Wk x ⟨n,l',S'⟩:=by
 obtain⟨n0,l0,S0⟩:=x;simp only at hn hS h;subst hn;exact(Wk.drop n0 l0 S0 S' hS).trans (Wk.ke h)
theorem s9{ops:Array Oper}{x:St}{o:Oper}(h:o.guard=some (g,E))(hg:(ops[g]?).bind (·.dst)=some t)(ht:Nat.blt t x.n=true)(hb:look t x.env = .v (.bool b))(hw:b=E):cg ops x o true:=by
 have:=Pu h hg (Nat.le_of_ble_eq_true ht) hb;rw[hw] at this;simpa using this
theorem mo{ops:Array Oper}{x:St}{o:Oper}(h:o.guard=some (g,E))(hg:(ops[g]?).bind (·.dst)=some t)(ht:Nat.blt t x.n=true)(hb:look t x.env = .v (.bool b))(hw:b = !E):cg ops x o false:=by
 have:=Pu h hg (Nat.le_of_ble_eq_true ht) hb;rw[hw] at this;cases E<;>simpa using this
theorem IG{ops:Array Oper}{x:St}{o:Oper}{b:Bool}(h:o.guard=some (g,E))(hg:(ops[g]?).bind (·.dst)=some t)(ht:Nat.blt t x.n=true)(hb:look t x.env = .v (.tuple #[])):cg ops x o false:=fun C a w hs=>by
 have I:=hs.env t (Nat.le_of_ble_eq_true ht);rw[hb] at I;have I:=I.kH;have O:=hs.size;have Gy:t<x.n:=Nat.le_of_ble_eq_true ht;have:a.tmps[t]?=some (.tuple #[]):=by
  rw[Array.getD_eq_getD_getElem?,Array.getElem?_eq_getElem w4] at I;rw[Array.getElem?_eq_getElem w4];simpa using I
 simp only[Region.wanted,h,yielded,hg,Option.bind_some,this];cases E<;>rfl
theorem OD.nil(h:Q .normal x):OD P C ops [] x Q:=fun a w hs=>.inl ⟨x,hs,h⟩
theorem OD.fS{W:List Nat}{post:St→Prop}(hw:cg ops x o true)(h:fK P C.G x o W post)(k:∀y,post y→OD P C ops l y Q):OD P C ops (o::l) x Q:=fun a w hs=>by
 unfold wpList;rw[if_pos (hw C a w hs)];exact .inl (h C a w _ _ rfl hs fun y a' w' hp E _ _=>k y hp a' w' E)
theorem OD.still{kd:Rd}{d:D}(hw:cg ops x o true)(hd:o.dst=some t)(h:bU P C.G x o kd d)(k:OD P C ops l (x.put t d) Q):OD P C ops (o::l) x Q :=
 OD.fS hw (h.fS hd) fun y hy=>by subst hy;exact k
theorem OD.skip(hw:cg ops x o false)(hd:o.dst=some t)(k:OD P C ops l (x.put t (.v (.tuple #[]))) Q):OD P C ops (o::l) x Q:=fun a w hs=>by
 unfold wpList;rw[if_neg (by rw[hw C a w hs];simp),hd];exact k _ _ (hs.put (.v _))
theorem OD.wk(h:Wk x y)(k:OD P C ops l y Q):OD P C ops l x Q:=fun a w hs=>k a w (h C a w hs)
theorem CD.wk(h:Wk x y)(k:CD P C c y Q):CD P C c x Q:=fun a w hs=>k a w (h C a w hs)
theorem CD.mono{E:Exit→St→Prop}(h:CD P C c x Q)(k:∀e y,Q e y→E e y):CD P C c x E:=fun a w hs =>
 wp_mono (h a w hs) fun e a' w' h=>h.imp (fun ⟨y,h1,h2⟩=>⟨y,h1,k e y h2⟩) id
theorem CD.skip(h:Q .normal x):CD P C .skip x Q:=fun a w hs=>wp_skip (.inl ⟨x,hs,h⟩)
theorem CD.ret(h:Q .ret x):CD P C .ret x Q:=fun a w hs=>wp_ret (.inl ⟨x,hs,h⟩)
theorem CD.exit{id:Nat}(h:Q (.exit id) x):CD P C (.exit id) x Q:=fun a w hs=>wp_exit (.inl ⟨x,hs,h⟩)
def BM(P:Program)(C:dL)(c:Code)(Q:Exit→St→Prop):Exit→St→Prop
 | .normal,y=>CD P C c y Q
 | e,y=>Q e y
theorem CD.seq{c d:Code}(h:CD P C c x (BM P C d Q)):CD P C (.seq c d) x Q:=fun a w hs =>
 wp_seq (wp_mono (h a w hs) fun e a' w' h=>by
  rcases h with ⟨y,h1,h2⟩|⟨rfl,h⟩
  ·cases e<;>first|exact h2 a' w' h1|exact .inl ⟨y,h1,h2⟩
  exact .inr ⟨rfl,h⟩)
theorem CD.region{id:Nat}{l:List Oper}(h:OD P C l.toArray l x Q):CD P C (.region id l.toArray false) x Q:=fun a w hs=>wp_region_lit (h a w hs)
theorem CD.cond{c:Operand}{d e:Code}{b:Bool}(hc:aF x c = .v (.bool b))(ht:b=true→CD P C d x Q)(hf:b=false→CD P C e x Q):CD P C (.cond c d e) x Q:=fun a w hs =>
 wp_cond_split (hs.flat hc) (fun h=>ht h a w hs) (fun h=>hf h a w hs)
theorem CD.afF{c:Operand}{d e:Code}(hc:aF x c = .v (.bool b))(hb:b=true)(ht:CD P C d x Q):CD P C (.cond c d e) x Q:=fun a w hs =>
 wp_cond_true (by rw[hs.flat hc,hb]) (ht a w hs)
theorem CD.JV{c:Operand}{d e:Code}(hc:aF x c = .v (.bool b))(hb:b=false)(hf:CD P C e x Q):CD P C (.cond c d e) x Q:=fun a w hs =>
 wp_cond_false (by rw[hs.flat hc,hb]) (hf a w hs)
def L7(Inv:St→Prop)(Q:Exit→St→Prop):Exit→St→Prop
 | .normal,y=>∃z,Wk y z∧Inv z
 | e,y=>Q e y
theorem CD.cut{d:Code}(E:St→Prop)(h1:CD P C c x (L7 E Q))(h2:∀z,E z→CD P C d z Q):CD P C (.seq c d) x Q :=
 CD.seq (CD.mono h1 fun e y h=>by cases e<;>first|(obtain⟨z,hw,hz⟩:=h;exact CD.wk hw (h2 z hz))|exact h)
def AY(id:Nat)(Q:Exit→St→Prop):Exit→St→Prop
 | .exit sJ,y=>bif Nat.beq sJ id then Q .normal y else Q (.exit sJ) y
 | e,y=>Q e y
theorem CD.block{id:Nat}{c:Code}(h:CD P C c x (AY id Q)):CD P C (.block id c) x Q:=fun a w hs =>
 wp_block (wp_mono (h a w hs) fun e a' w' h=>by
  rcases h with ⟨y,h1,h2⟩|⟨rfl,h⟩
  case inr=>exact .inr ⟨rfl,h⟩
  cases e with
  | exit sJ =>
   simp only[AY] at h2;simp only[Exit.inBlock];by_cases he:sJ=id
   ·subst he;rw[if_pos rfl];simp at h2;exact .inl ⟨y,h1,h2⟩
   rw[if_neg he];have:Nat.beq sJ id=false:=by
    cases h:Nat.beq sJ id with
    | false=>rfl
    | true=>exact absurd (Nat.eq_of_beq_eq_true h) he
   rw[this] at h2;exact .inl ⟨y,h1,h2⟩
  | _=>exact .inl ⟨y,h1,h2⟩)
theorem least(p:Nat→Prop)(h:∃n,p n):∃n,p n∧∀m,p m→n≤m:=by
 obtain⟨n,hn⟩:=h;induction n using Nat.strongRecOn with
 | _ n ih =>
  by_cases hq:∃m,m<n∧p m
  ·obtain⟨m,hm,hp⟩:=hq;exact ih m hm hp
  exact⟨n,hn,fun m hm=>Nat.le_of_not_lt fun aa=>hq ⟨m,aa,hm⟩⟩
def Bq{ι:Type}(I:ι→St→Prop)(μ:ι→Nat)(i:ι)(Q:Exit→St→Prop):Exit→St→Prop
 | .normal,y=>∃j z,μ j < μ i∧Wk y z∧I j z
 | e,y=>Q e y
open Classical in
theorem CD.loop{ι:Type}{c:Code}(I:ι→St→Prop)(μ:ι→Nat)(i:ι)(h0:I i x)(round:∀i y,I i y→CD P C c y (Bq I μ i Q)):CD P C (.loop c) x Q:=fun a w hs=>by
 let p:Act→World→Nat→Prop:=fun a w n=>∃i y,μ i=n∧I i y∧bG C y a w
 let m:Act→World→Nat:=fun a w=>if h:∃n,p a w n then Classical.choose (least _ h) else 0
 refine wp_loop (fun a w=>∃n,p a w n) m ⟨_,i,x,rfl,h0,hs⟩ fun a w O=>?_;have hm:m a w=Classical.choose (least _ O):=dif_pos O;obtain⟨⟨i,y,h1,h2,h3⟩,_⟩:=Classical.choose_spec (least _ O);rw[←hm] at h1;refine wp_mono (round i y h2 a w h3) fun e a' w' h=>?_;rcases h with ⟨z,q1,q2⟩|⟨rfl,h⟩
 case inr=>exact .inr ⟨rfl,h⟩
 cases e with
 | normal =>
  obtain⟨j,z',r1,r2,Z⟩:=q2;have hp:p a' w' (μ j):=⟨j,z',rfl,Z,r2 C a' w' q1⟩
  have E:∃n,p a' w' n:=⟨_,hp⟩
  have U:m a' w'=Classical.choose (least _ E):=dif_pos E;refine⟨E,?_⟩;have:=(Classical.choose_spec (least _ E)).2 _ hp;rw[U];omega
 | _=>exact .inl ⟨z,q1,q2⟩
def Kw(tmps:Array Value):ResultVar→Sem Value
 | .tmp t=>pure (tmps.getD t undef)
 | .cell a t=>do loadVar t (←asAddr (tmps.getD a undef))
theorem Hq(fn:Func)(tmps:Array Value):results fn tmps=(do let vs ←fn.results.mapM (Kw tmps);pure (if h:vs.size=1 then vs[0] else .tuple vs)):=rfl
def sK(P:Program)(y:St)(rv:ResultVar)(d:D):Prop :=
 ∀C a w,bG C y a w→∃v,cm w (live C.X y.S) d v∧(Kw a.tmps rv).run P w = .ok v w
theorem yw{d:D}(ht:t<y.n)(hd:look t y.env=d):sK P y (.tmp t) d:=fun C a w h=>⟨_,hd ▸ h.env t ht,rfl⟩
theorem rN{c k b:Nat}{B:ah}(hc:c<y.n)(hd:look c y.env = .v (.pointer (some ⟨b,0,none⟩)))(hk:y.S[k]?=some B)(hb:B.b=b)(ha:∀w,(isAgg t).run P w = .ok true w)(hn:∀w,(sizeOf t).run P w = .ok n w)(dw:B.cs=ds)(hl:ds.length=n)(hne:isMap B.e=false:=by rfl):sK P y (.cell c t) (.agg ds):=fun C a w h=>by
 subst hb dw;have he:=h.env c hc;rw[hd] at he;obtain⟨_,cur,h1,h2,h3,h4⟩:=h.fw hk;rw[j6 hne] at h1;refine⟨.agg ((range n).map fun j=>cur.getD j undef).toArray,.agg _ _ (by simp[hl]) (fun i q1 q2=>?_),?_⟩
 ·obtain⟨u,hu,hr⟩:=h4 i q1;simp only[getElem_map,getElem_range,Array.getD_eq_getD_getElem?,hu,Option.getD_some];exact hr
 simp only[Kw,he.kH,asAddr,Sem.run_bind,Sem.run_pure,Result.andThen_ok];have:=HA (P:=P) (t:=t) (w:=w) (b:=B.b) (o':=0) (vs:=(range n).map fun j=>cur.getD j undef) ha hn bu (fun j hj=>by
  simp only[length_map,length_range] at hj;obtain⟨u,hu,_⟩:=h4 j w4;simp only[getElem_map,getElem_range,Array.getD_eq_getD_getElem?,hu,Option.getD_some,Nat.zero_add];exact nN h1 hu)
 simpa[Instr.loadAt,Instr.sureAddr] using this
def sL(P:Program)(fn:Func)(y:St)(r:D):Prop:=∀C a w,bG C y a w→∃v,cm w (live C.X y.S) r v∧(results fn a.tmps).run P w = .ok v w
theorem pU(hr:fn.results = #[]):sL P fn y (.dG []):=fun C a w h =>
 ⟨.tuple #[],.dG [] [] rfl (fun i h1 _=>by simp at h1),by unfold results;simp[hr]⟩
theorem Q1{rv:ResultVar}{d:D}(hr:fn.results = #[rv])(h:sK P y rv d):sL P fn y d:=fun C a w hs=>by
 obtain⟨v,h1,h2⟩:=h C a w hs;refine⟨v,h1,?_⟩;rw[Hq,hr];simp[h2]
theorem Q2{w:World}{vs:List Value}(h:cL w L ds vs):cm w L (.dG ds) (.tuple vs.toArray):=.dG ds vs h.1 h.2
theorem cL.cons{w:World}{d:D}{v:Value}{vs:List Value}(h:cm w L d v)(hs:cL w L ds vs):cL w L (d::ds) (v::vs) :=
 ⟨by simp[hs.1],fun i h1 h2=>by
  cases i with
  | zero=>exact h
  | succ i=>exact hs.2 i _ _⟩
theorem cL.nil(w:World)(L:Nat→Prop):cL w L [] []:=⟨rfl,fun i h=>by simp at h⟩
theorem II{E:ResultVar}{d1 d2:D}(hr:fn.results = #[E,I])(h1:sK P y E d1)(h2:sK P y I d2):sL P fn y (.dG [d1,d2]):=fun C a w hs=>by
 obtain⟨v1,a1,b1⟩:=h1 C a w hs;obtain⟨v2,a2,b2⟩:=h2 C a w hs;refine⟨_,Q2 (.cons a1 (.cons a2 (.nil _ _))),?_⟩;rw[Hq,hr];simp[b1,b2]
theorem Zg{E O:ResultVar}{d1 d2 U:D}(hr:fn.results = #[E,I,O])(h1:sK P y E d1)(h2:sK P y I d2)(h3:sK P y O U):sL P fn y (.dG [d1,d2,U]):=fun C a w hs=>by
 obtain⟨v1,a1,b1⟩:=h1 C a w hs;obtain⟨v2,a2,b2⟩:=h2 C a w hs;obtain⟨v3,a3,b3⟩:=h3 C a w hs;refine⟨_,Q2 (.cons a1 (.cons a2 (.cons a3 (.nil _ _)))),?_⟩;rw[Hq,hr];simp[b1,b2,b3]
def Body(P:Program)(fn:Func)(post:D→List ah→Prop)(e:Exit)(y:St):Prop :=
 (e = .normal∨e = .ret)∧∃r S',S'.Sublist y.S∧sL P fn y r∧post r S'
def rU:Nat→List D→List (Nat×D)
 | _,[]=>[]
 | i,d::r=>(i,d)::rU (i+1) r
theorem DR:∀(ds:List D) (i t:Nat),look t (rU i ds)=if i≤t then ds.getD (t-i) .bV else .bV
 | [],i,t=>by simp[rU,look]
 | d::r,i,t=>by
  rw[rU,fP,DR r (i+1) t];by_cases h:i=t
  ·subst h;simp
  rw[if_neg h];by_cases h2:i≤t
  ·rw[if_pos h2,if_pos w4,show t-i=(t-(i+1))+1 from by omega];simp
  rw[if_neg h2,if_neg w4]
theorem VC.body {G:List (Nat×List Value)} {f:FuncId} {fn:Func} {c:Code} {n:Nat} {args:List D} {S:List ah} {post:D→List ah→Prop} (hf:P.funcs[f]?=some fn) (hb:fn.body=some c) (hn:fn.ntmps=n) (hl:args.length≤n)
  (h:∀X w0 S0,CD P ⟨X,w0,S0,G,[],fun _ _=>False⟩ c ⟨n,rU 0 args,S⟩ (Body P fn post)):VC P G f args S post:=fun X w vs hp=>by
 have Z:vs.length=args.length:=hp.args.1;let C:dL:=⟨X,w,aq S,G,[],fun _ _=>False⟩
 have I:bG C ⟨n,rU 0 args,S⟩ {tmps:=vs.toArray++Array.replicate (fn.ntmps-vs.toArray.size) undef,defers:=[]} w:=by
  refine⟨rfl,by simp[hn];omega,fun t ht=>?_,hp.own,Fr.refl _ _,hp.ex,hp.eN⟩;simp only[DR,Nat.zero_le,if_true,Nat.sub_zero];by_cases aa:t<args.length
  ·have e1:args.getD t .bV=args[t]:=(by simp[getD,aa])
   have e2:(vs.toArray++Array.replicate (fn.ntmps-vs.toArray.size) undef).getD t undef=vs[t]'w4:=by
    rw[Array.getD_eq_getD_getElem?,Array.getElem?_append_left hU];simp[show t<vs.length by omega]
   rw[e1,e2];exact hp.args.2 t aa w4
  have e1:args.getD t .bV = .bV:=(by simp[getD,getElem?_eq_none (show args.length≤t by omega)])
  rw[e1];exact .bV _
 refine calls_of_wp hf hb (wp_mono (h _ _ _ _ _ I) fun e a w' h=>?_);rcases h with ⟨y,h1,h2,r,S',h3,h4,h5⟩|⟨_,h⟩
 case inr=>exact h.elim
 obtain⟨v,q1,q2⟩:=h4 C a w' h1;have E:(aq S').Sublist (aq y.S):=Sublist.map _ h3;have key:a.defers=[]∧∃v,(results fn a.tmps).run P w' = .ok v w'∧∃U r S',Ending.returned v = .returned U∧post r S'∧Own w' (live X S') S'∧cm w' (live X S') r U∧Fr w (aq S) w' (aq S') :=
  ⟨h1.defers,v,q2,v,r,S',rfl,h5,h1.own.sub h3,q1.mono fun b _ hn=>⟨rfl,fun hl=>hn (hl.imp id fun q=>E.subset q)⟩,
   ⟨h1.fr.os,h1.fr.tape,h1.fr.output,h1.fr.size,fun b O hn=>⟨(h1.fr.block b O hn).1,fun q=>(h1.fr.block b O hn).2 (E.subset q)⟩⟩⟩
 rcases h2 with rfl|rfl<;>exact key

end Go.Proofs.YtdgichenhdikgaaGreatDoor.V
namespace Go.Proofs.YtdgichenhdikgaaGreatDoor.V
open List
open Go.RowKit
variable {fuel i t:Nat} {ld:Array Bool}
def kI(w1:World)(S1 T:List Nat)(w:World):Prop:=(∀b,b<w1.heap.size→b∉S1→w.heap[b]?=w1.heap[b]?)∧∀b∈T,w.heap[b]?=w1.heap[b]?
def AD(P:Program)(C:dL)(ops:Array Oper)(S1 T:List Nat)(fuel:Nat)(ld:Array Bool)(x:St)(Q:Exit→St→Prop):Prop :=
 ∀w1 a w,bG C x a w→(∀b∈T,b∈S1)→(∀b∈S1,b<w1.heap.size)→Fr w1 S1 w (aq x.S)→kI w1 S1 T w→wpAnyH P .any ops (LQ C Q) (kI w1 S1 T) fuel ld a w
def dm(P:Program)(C:dL)(ops:Array Oper)(S1 T:List Nat)(fuel:Nat)(ld:Array Bool)(x:St)(Q:Exit→St→Prop):Prop :=
 ∀a w,bG C x a w→aq x.S=S1→(∀b∈T,b∈S1)→wpAnyH P .any ops (LQ C Q) (kI w S1 T) fuel ld a w
def NP(Q:Exit→St→Prop):Prop:=∀c y t,Q (.panic c) y→Q (.panic c) (y.put t .bV)
variable {P:Program} {C:dL} {Q:Exit→St→Prop} {x y:St} {ops:Array Oper} {l:List Oper} {o:Oper} {S1 T:List Nat}
theorem NP.body{fn:Func}{post:D→List ah→Prop}:NP (Body P fn post):=fun E y t hq=>by rcases hq.1 with h|h<;>cases h
def Tl(P:Program)(C:dL)(ops:Array Oper)(l:List Oper)(Q:Exit→St→Prop):Exit→St→Prop
 | .normal,y=>OD P C ops l y Q
 | e,y=>Q e y
theorem kI.refl(E:World)(S1 T:List Nat):kI E S1 T E:=⟨fun _ _ _=>rfl,fun _ _=>rfl⟩
theorem dm.later(hS:aq x.S=S1)(h:AD P C ops S1 T fuel ld x Q):dm P C ops S1 T fuel ld x Q:=fun a w hs _ hT =>
 h w a w hs hT (fun b hb=>by
  rw[←hS] at hb;obtain⟨B,hB,rfl⟩:=mem_map.1 hb;exact(hs.own.at_ B hB).1) (hS ▸ Fr.refl _ _) (kI.refl _ _ _)
def Safe(x:St)(T:List Nat):Rd→Prop
 | .none=>True
 | .jP=>True
 | .fw k=>∃B,x.S[k]?=some B∧B.b∈T
theorem yT(h:NP Q)(d:Option Nat)(v:Value):∀c a w,LQ C Q (.panic c) (a.put d v) w→LQ C Q (.panic c) a w:=fun c a w hq=>by
 rcases hq with ⟨y,h1,h2⟩|⟨h2,_⟩
 ·cases d with
  | none=>exact .inl ⟨y,h1,h2⟩
  | some t =>
   refine .inl ⟨y.put t .bV,⟨h1.defers,by have E:=h1.size;simp only[Act.put,Array.size_setIfInBounds] at E;exact E,fun q hq=>?_,h1.own,h1.fr,h1.ex,h1.eN⟩,h c y t h2⟩;have h3:=h1.env q hq;simp only[St.put,fP];by_cases e:t=q
   ·rw[if_pos e];exact .bV _
   rw[if_neg e];have:(a.put (some t) v).tmps.getD q undef=a.tmps.getD q undef:=(by simp[Act.put,Array.getD_eq_getD_getElem?,Array.getElem?_setIfInBounds,e])
   rw[this] at h3;exact h3
 cases h2
theorem dm.take {k:Rd} {d:D} (hi:ops[i]?=some o) (hs:Region.noSelect ops=true) (hf:Region.free .any ops ld i=true) (hr:(Region.ready .any ops ld).contains i=true) (hp:NP Q)
  (hw:cg ops x o true) (hd:o.dst=some t) (h:bU P C.G x o k d) (hk:Safe x T k) (K:dm P C ops S1 T fuel (ld.setIfInBounds i true) (x.put t d) Q):dm P C ops S1 T (fuel+1) ld x Q:=fun a w E hS hT=>by
 obtain⟨v,h1,h2⟩:=h C a w rfl E;refine wpAnyH_take hi hs hf hr (yT hp _ v) (.inl ⟨hw C a w E,fun w' I=>h2 w' ?_⟩) (kI.refl _ _ _) ?_
 ·cases k with
  | none=>trivial
  | jP=>exact fun b hb hn=>I.1 b hb (fun hm=>hn (.inr (hS ▸ hm)))
  | fw k =>
   obtain⟨B,hB,hm⟩:=hk;intro B' O;rw[hB] at O;obtain rfl:=Option.some.inj O;exact I.2 _ hm
 rw[hd];exact K _ _ (E.put h1) hS hT
theorem dm.H9 (hi:ops[i]?=some o) (hs:Region.noSelect ops=true) (hf:Region.free .any ops ld i=true) (hr:(Region.ready .any ops ld).contains i=true) (hp:NP Q)
  (hw:cg ops x o false) (hd:o.dst=some t) (K:dm P C ops S1 T fuel (ld.setIfInBounds i true) (x.put t (.v (.tuple #[]))) Q):dm P C ops S1 T (fuel+1) ld x Q:=fun a w E hS hT=>by
 refine wpAnyH_take (v:=undef) hi hs hf hr (yT hp _ _) (.inr ⟨hw C a w E,rfl⟩) (kI.refl _ _ _) ?_;rw[hd];exact K _ _ (E.put (.v _)) hS hT
theorem AD.take {k:Rd} {d:D} (hi:ops[i]?=some o) (hs:Region.noSelect ops=true) (hf:Region.free .any ops ld i=true) (hr:(Region.ready .any ops ld).contains i=true) (hp:NP Q)
  (hw:cg ops x o true) (hd:o.dst=some t) (h:bU P C.G x o k d) (hk:Safe x T k) (pI:k≠.jP) (K:AD P C ops S1 T fuel (ld.setIfInBounds i true) (x.put t d) Q):AD P C ops S1 T (fuel+1) ld x Q:=fun Z a w E hT aa O fC=>by
 obtain⟨v,h1,h2⟩:=h C a w rfl E;refine wpAnyH_take hi hs hf hr (yT hp _ v) (.inl ⟨hw C a w E,fun w' U=>h2 w' ?_⟩) fC ?_
 ·cases k with
  | none=>trivial
  | jP=>exact absurd rfl pI
  | fw k =>
   obtain⟨B,hB,hm⟩:=hk;intro B' I;rw[hB] at I;obtain rfl:=Option.some.inj I;exact(U.2 _ hm).trans (fC.2 _ hm).symm
 rw[hd];exact K _ _ _ (E.put h1) hT aa O fC
theorem AD.H9 (hi:ops[i]?=some o) (hs:Region.noSelect ops=true) (hf:Region.free .any ops ld i=true) (hr:(Region.ready .any ops ld).contains i=true) (hp:NP Q)
  (hw:cg ops x o false) (hd:o.dst=some t) (K:AD P C ops S1 T fuel (ld.setIfInBounds i true) (x.put t (.v (.tuple #[]))) Q):AD P C ops S1 T (fuel+1) ld x Q:=fun O a w E hT aa I fC=>by
 refine wpAnyH_take (v:=undef) hi hs hf hr (yT hp _ _) (.inr ⟨hw C a w E,rfl⟩) fC ?_;rw[hd];exact K _ _ _ (E.put (.v _)) hT aa I fC
def aZ(P:Program)(C:dL)(ops:Array Oper)(S1 T:List Nat)(fuel:Nat)(ld:Array Bool)(x:St)(Q:Exit→St→Prop)(i:Nat):Prop :=
 ∀w1 a w,bG C x a w→(∀b∈T,b∈S1)→(∀b∈S1,b<w1.heap.size)→Fr w1 S1 w (aq x.S)→kI w1 S1 T w →
  wpOp P ops (LQ C Q) i (fun a' w'=>kI w1 S1 T w'∧wpAnyH P .any ops (LQ C Q) (kI w1 S1 T) fuel (ld.setIfInBounds i true) a' w') a w
theorem AD.all{I:List Nat}(hr:Region.ready .any ops ld=I)(hne:I≠[])(h:∀i∈I,aZ P C ops S1 T fuel ld x Q i):AD P C ops S1 T (fuel+1) ld x Q:=fun U a w E hT aa O fC =>
 wpAnyH_all hr hne fun i hi=>h i hi U a w E hT aa O fC
theorem AD.one(hr:Region.ready .any ops ld=[i])(h:aZ P C ops S1 T fuel ld x Q i):AD P C ops S1 T (fuel+1) ld x Q :=
 AD.all hr bu fun j hj=>by
  have:j=i:=(by simpa using hj)
  subst this;exact h
theorem AD.two{j:Nat}(hr:Region.ready .any ops ld=[i,j])(h:aZ P C ops S1 T fuel ld x Q i)(h':aZ P C ops S1 T fuel ld x Q j):AD P C ops S1 T (fuel+1) ld x Q :=
 AD.all hr bu fun k hk=>by
  simp only[mem_cons,not_mem_nil,or_false] at hk;rcases hk with rfl|rfl
  ·exact h
  exact h'
theorem AD.three{j k:Nat}(hr:Region.ready .any ops ld=[i,j,k])(h:aZ P C ops S1 T fuel ld x Q i)(h':aZ P C ops S1 T fuel ld x Q j)(E:aZ P C ops S1 T fuel ld x Q k):AD P C ops S1 T (fuel+1) ld x Q :=
 AD.all hr bu fun m hm=>by
  simp only[mem_cons,not_mem_nil,or_false] at hm;rcases hm with rfl|rfl|rfl
  ·exact h
  ·exact h'
  exact E
theorem AD.done(hr:Region.ready .any ops ld=[])(h:Q .normal x):AD P C ops S1 T fuel ld x Q:=fun O a w E hT aa I fC=>wpAnyH_done hr (.inl ⟨x,E,h⟩) _
theorem aZ.fS {W:List Nat} {post:St→Prop} (hi:ops[i]?=some o) (hw:cg ops x o true) (h:fK P C.G x o W post) (hW:∀C a w,bG C x a w→∀b∈T,b∉W) (hWx:∀b∈W,b∈aq x.S)
  (k:∀y,post y→AD P C ops S1 T fuel (ld.setIfInBounds i true) y Q):aZ P C ops S1 T fuel ld x Q i:=fun Z a w I hT aa E fC=>by
 unfold wpOp;simp only[hi,hw C a w I,if_true];refine .inl (h C a w _ _ rfl I fun y a' w' hp ry hc hf=>?_);have O:Fr Z S1 w' (aq y.S):=⟨hf.os.trans E.os,hf.tape.trans E.tape,hf.output.trans E.output,Nat.le_trans E.size hf.size,fun b hb hn=>by
  obtain⟨q1,q2⟩:=E.block b hb hn;obtain⟨q3,q4⟩:=hf.block b (Nat.lt_of_lt_of_le hb E.size) q2;exact⟨q3.trans q1,q4⟩⟩
 have U:kI Z S1 T w':=⟨fun b hb hn=>(O.block b hb hn).1,fun b hb=>by
  have jb:=Nat.lt_of_lt_of_le (aa b (hT b hb)) E.size;exact(hc.2 b jb (hW C a w I b hb)).trans (fC.2 b hb)⟩
 exact⟨U,k y hp Z a' w' ry hT aa O U⟩
theorem aZ.still{kd:Rd}{d:D}(hi:ops[i]?=some o)(hw:cg ops x o true)(hd:o.dst=some t)(h:bU P C.G x o kd d)(k:AD P C ops S1 T fuel (ld.setIfInBounds i true) (x.put t d) Q):aZ P C ops S1 T fuel ld x Q i :=
 aZ.fS hi hw (h.fS hd) (fun _ _ _ _ b _ hb=>by simp at hb) (fun b hb=>by simp at hb) fun y hy=>by subst hy;exact k
theorem aZ.skip(hi:ops[i]?=some o)(hw:cg ops x o false)(hd:o.dst=some t)(k:AD P C ops S1 T fuel (ld.setIfInBounds i true) (x.put t (.v (.tuple #[]))) Q):aZ P C ops S1 T fuel ld x Q i:=fun O a w E hT aa I fC=>by
 unfold wpOp;simp only[hi,hw C a w E,hd];exact⟨fC,k O _ w (E.put (.v _)) hT aa I fC⟩
theorem AD.wk(h:Wk x y)(hb:aq y.S=aq x.S)(k:AD P C ops S1 T fuel ld y Q):AD P C ops S1 T fuel ld x Q:=fun O a w E hT aa I fC=>k O a w (h C a w E) hT aa (hb ▸ I) fC
theorem AD.Fb(h:Wk x y)(hb:∀b∈aq y.S,b∈aq x.S)(k:AD P C ops S1 T fuel ld y Q):AD P C ops S1 T fuel ld x Q:=fun O a w I hT aa E fC =>
 k O a w (h C a w I) hT aa ⟨E.os,E.tape,E.output,E.size,fun b h1 h2=>⟨(E.block b h1 h2).1,fun h3=>(E.block b h1 h2).2 (hb b h3)⟩⟩ fC
theorem CD.draw{id:Nat}{l:List Oper}(T:List Nat)(hm:P.follows .mixedOrders=true)(hT:∀b∈T,b∈aq x.S)(h:dm P C l.toArray (aq x.S) T l.toArray.size (Array.replicate l.toArray.size false) x Q):CD P C (.region id l.toArray true) x Q:=fun a w hs =>
 wp_region_held (S:=kI {w with drawn:=w.drawn+1} (aq x.S) T) hm (h a _ ⟨hs.defers,hs.size,fun t ht=>(hs.env t ht).mono fun b _ hn=>⟨rfl,hn⟩,⟨fun B E=>by
  obtain⟨r0,cur,r1,r2,I,O⟩:=hs.own.at_ B E;exact⟨r0,cur,r1,r2,I,fun i hi=>by
   obtain⟨u,hu,hq⟩:=O i hi;exact⟨u,hu,hq.mono fun b _ hn=>⟨rfl,hn⟩⟩⟩,hs.own.apart⟩,⟨hs.fr.os,hs.fr.tape,hs.fr.output,hs.fr.size,hs.fr.block⟩,hs.ex,hs.eN⟩ rfl hT)

end Go.Proofs.YtdgichenhdikgaaGreatDoor.V

namespace Go.Proofs.YtdgichenhdikgaaGreatDoor.V
open List
open Go.RowKit
variable {P:Program}

variable {t:TypeId} {k:IntKind} {a b:Int} {us Ag:List Value} {y:Operand}
theorem IJ{op:BinOp}{r:Int}(h:(op = .add∧k.wrap (a+b)=r)∨(op = .sub∧k.wrap (a-b)=r)∨(op = .mul∧k.wrap (a*b)=r)):kC P op t (.int k a) (.int k b) (.int k r):=fun y z w=>by
 rcases h with ⟨rfl,h⟩|⟨rfl,h⟩|⟨rfl,h⟩<;>simp[eqGuard,binOp,Op.intArith,h]

theorem j7{r:Int}(h:k.wrap (a+b)=r):kC P .add t (.int k a) (.int k b) (.int k r):=IJ (.inl ⟨rfl,h⟩)
theorem fY{r:Int}(h:k.wrap (a-b)=r):kC P .sub t (.int k a) (.int k b) (.int k r):=IJ (.inr (.inl ⟨rfl,h⟩))
theorem IK{r:Int}(h:k.wrap (a*b)=r):kC P .mul t (.int k a) (.int k b) (.int k r):=IJ (.inr (.inr ⟨rfl,h⟩))
theorem Q3:kC P .lss t (.int k a) (.int k b) (.bool (decide (a<b))):=fun y z w=>by simp[eqGuard,binOp,Op.intCmp]
theorem Q4:kC P .leq t (.int k a) (.int k b) (.bool (decide (a≤b))):=fun y z w=>by simp[eqGuard,binOp,Op.intCmp]
theorem Q5:kC P .gtr t (.int k a) (.int k b) (.bool (decide (a>b))):=fun y z w=>by simp[eqGuard,binOp,Op.intCmp]
theorem Q6:kC P .geq t (.int k a) (.int k b) (.bool (decide (a≥b))):=fun y z w=>by simp[eqGuard,binOp,Op.intCmp]
theorem Q7:kC P .eql t (.int k a) (.int k b) (.bool (a==b)):=fun y z w=>by simp[eqGuard,binOp,Op.intCmp]
theorem Q8:kC P .neq t (.int k a) (.int k b) (.bool (a != b)):=fun y z w=>by simp[eqGuard,binOp,Op.intCmp]
theorem acq{r:Int}(hb:b≠0)(h:k.wrap (a.tdiv b)=r):kC P .quo t (.int k a) (.int k b) (.int k r):=fun y z w=>by simp[eqGuard,binOp,Op.intDiv,hb,h]
theorem IL(hb:b≠0):kC P .rem t (.int k a) (.int k b) (.int k (a.tmod b)):=fun y z w=>by simp[eqGuard,binOp,Op.intDiv,hb]

theorem Pv{a b:ByteArray}:kC P .eql t (.string a) (.string b) (.bool (a.toList==b.toList)):=fun y z w=>by simp[eqGuard,binOp,Op.stringOp]
theorem Pw{a b:ByteArray}:kC P .neq t (.string a) (.string b) (.bool (!(a.toList==b.toList))):=fun y z w=>by simp[eqGuard,binOp,Op.stringOp]
theorem IM{a b:ByteArray}(h:a.size+b.size≤9223372036854775807):kC P .add t (.string a) (.string b) (.string (a++b)):=fun y z w=>by
 have:¬(((a.size+b.size:Nat):Int)>IntKind.i64.max):=by
  have:IntKind.i64.max=9223372036854775807:=rfl;omega
 simp only[eqGuard,binOp,Op.stringOp,Sem.run_bind];simp only[this,if_false];simp

theorem Eg{a b:Bool}(E:P.underlying t=some .bool):kC P .eql t (.bool a) (.bool b) (.bool (a==b)):=fun y z w=>by
 have:binOp .eql t (.bool a) (.bool b)=(do pure (.bool (←Op.equal t (.bool a) (.bool b)))):=rfl;simp only[eqGuard,this,Sem.run_bind];simp[run_equal_bool w t a b E]
theorem Px{a b:Bool}(E:P.underlying t=some .bool):kC P .neq t (.bool a) (.bool b) (.bool (!(a==b))):=fun y z w=>by
 have:binOp .neq t (.bool a) (.bool b)=(do pure (.bool (!(←Op.equal t (.bool a) (.bool b))))):=rfl;simp only[eqGuard,this,Sem.run_bind];simp[run_equal_bool w t a b E]

theorem cm.Fc{w:World}{L:Nat→Prop}{v:Value}(h:cm w L (.agg (us.map .v)) v):v = .agg us.toArray:=by
 cases h with
 | agg _ vs hl hr =>
  congr 1;congr 1;refine ext_getElem xq fun i h1 h2=>?_;have:=hr i (by simpa using h2) h1;simp only[getElem_map] at this;exact this.kH

section
variable {G:List (Nat×List Value)} {x:St} {o:Oper}

theorem Zh {t':TypeId} {z:Operand} {r:Bool} (ho:o.op = .binOp .eql t y z t') (hy:aF x y = .agg (us.map .v)) (hz:aF x z = .agg (Ag.map .v)) (hg:P.eqGuardType P.depth t=false)
  (hE:∀w,(Op.equalIn 10000 t (.agg us.toArray) (.agg Ag.toArray)).run P w = .ok r w):bU P G x o .none (.v (.bool r)):=fun C a w _ h=>by
 have h1:=h.eval y;have h2:=h.eval z;rw[hy] at h1;rw[hz] at h2;refine⟨_,.v _,fun w' _=>?_⟩;unfold execOp;simp only[ho,h1.Fc,h2.Fc,Sem.run_bind,run_eqGuard_agg _ _ _ _ _ _ _ hg,Result.andThen_ok,run_eql_struct,hE,Sem.run_pure]

theorem Zi {t':TypeId} {z:Operand} {r:Bool} (ho:o.op = .binOp .neq t y z t') (hy:aF x y = .agg (us.map .v)) (hz:aF x z = .agg (Ag.map .v)) (hg:P.eqGuardType P.depth t=false)
  (hE:∀w,(Op.equalIn 10000 t (.agg us.toArray) (.agg Ag.toArray)).run P w = .ok r w):bU P G x o .none (.v (.bool !r)):=fun C a w _ h=>by
 have h1:=h.eval y;have h2:=h.eval z;rw[hy] at h1;rw[hz] at h2;refine⟨_,.v _,fun w' _=>?_⟩;unfold execOp;simp only[ho,h1.Fc,h2.Fc,Sem.run_bind,run_eqGuard_agg _ _ _ _ _ _ _ hg,Result.andThen_ok,run_neq_struct,hE,Sem.run_pure]

def uP(b:UInt8):D:=.v (.int .u8 (b.toNat:Int))

theorem XD{s e:TypeId}{bs:List UInt8}{n:Nat}(ho:o.op = .convert s t y)(hy:aF x y = .list 1 (bs.map uP) n)(hs:P.underlying s=some (.slice e))(he:P.underlying e=some (.int .u8))(ht:P.underlying t=some .string) :
  bU P G x o .jP (.v (.string ⟨bs.toArray⟩)):=fun C a w _ h=>by
 have hr:=h.eval y;rw[hy] at hr;generalize hg:a.eval y=u at hr;generalize dw:bs.map uP=cs at hr;cases hr with
 | l6 _ ad cap =>
  have:bs=[]:=(by simpa using dw)
  subst this;refine⟨_,.v _,fun w' _=>?_⟩;unfold execOp;simp only[ho,hg,Sem.run_bind,run_convert_bytes_string w' s t e ad 0 cap hs he ht];cases ad<;>simp[Conv.bytesToString,loadCells,loadCellsFrom]<;>rfl
 | list _ _ _ b I cap g hl q1 q2 hb hL hc O =>
  subst dw;simp only[length_map,Nat.mul_one] at hl hc;refine⟨_,.v _,fun w' hw=>?_⟩;unfold execOp;have E:=run_convert_bytes_back (P:=P) w' s t e ⟨b,I,none⟩ cap bs hs he ht (fun j hj=>by
   rw[Addr.add_mid];have U:=World.cell?_of_block (w:=w) (a:=⟨b,I+j,none⟩) (hw b hb hL);rw[U,hc j hj];have:=O j (by simpa using hj);simp only[getElem_map,uP] at this;rw[this.kH])
  rw[hl] at E;simp only[ho,hg,Sem.run_bind,E,Result.andThen_ok,Sem.run_pure]
end

theorem aeg{b:Bool}:∀w,(Op.unary .not (.bool b)).run P w = .ok (.bool !b) w:=fun w=>rfl
theorem Jq{r:Int}(h:k.wrap (0-a)=r):∀w,(Op.unary .neg (.int k a)).run P w = .ok (.int k r) w:=fun w=>by
 subst h;rfl

theorem ou{s:TypeId}{k':IntKind}{r:Int}{d:TypeDesc}(hs:∀w,(underlying s).run P w = .ok d w)(ht:∀w,(underlying t).run P w = .ok (.int k') w)(h:k'.wrap a=r):∀w,(convert s t (.int k a)).run P w = .ok (.int k' r) w:=fun w=>by
 subst h;simp[convert,hs,ht,Conv.intToInt]

theorem wrap_i64{x:Int}(h1:-9223372036854775808≤x)(h2:x≤9223372036854775807):IntKind.i64.wrap x=x:=IntWalk.i64_in _ w4

theorem aeh{ts:Array TypeId}{E:TypeId}:∀cs w,(builtin .min ts E cs #[.int k a,.int k b]).run P w = .ok (.value (.int k (if b<a then b else a))) w:=fun cs w=>by
 simp[builtin,Builtin.min_,Builtin.min2]
theorem nh:(∀{p:Prop} [Decidable p],(decide p=true)=p)∧(∀{p:Prop} [Decidable p],(decide p=false)↔¬p)∧(∀{a b:Int},(a==b)=true↔a=b)∧(∀{a b:Int},(a != b)=true↔a≠b)∧(∀{a b:Bool},(a==b)=true↔a=b)∧(∀{a b:Bool},(a != b)=true↔a≠b)
  ∧ (∀{b:Bool},((!b)=true)=(b=false))∧(∀{b:Bool},((!b)=false)=(b=true))∧(∀{b:Bool},(¬b=true)=(b=false))∧(∀{b:Bool},(¬b=false)=(b=true))∧(∀{a b:Int},(a==b)=false↔¬a=b)∧(∀{a b:Int},(a != b)=false↔a=b)∧(∀{a b:Bool},(a==b)=false↔¬a=b)∧(∀{a b:Bool},(a != b)=false↔a=b)
  ∧ (∀{a b:Bool},((a&&b)=true)=(a=true∧b=true))∧(∀{a b:Bool},((a||b)=true)=(a=true∨b=true))∧(∀{b:Bool},(!!b)=b)∧(∀{a b:Bool},(a&&b)=false↔a=false∨b=false)∧(∀{a b:Bool},(a||b)=false↔a=false∧b=false)∧(∀{a b:Int},(¬a<b)↔b≤a)∧(∀{a b:Int},(¬a≤b)↔b<a):=by
 refine⟨fun {p} _=>by simp,fun {p} _=>by simp,by simp,by simp,by simp,by simp,by simp,by simp,by simp,by simp,by simp,by simp,by simp,by simp,by simp,by simp,by simp,by simp,by simp,by simp,by simp⟩
end Go.Proofs.YtdgichenhdikgaaGreatDoor.V
